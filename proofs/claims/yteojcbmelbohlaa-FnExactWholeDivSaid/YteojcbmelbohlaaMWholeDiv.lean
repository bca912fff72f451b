/- What the functions of this seat do, one after another, told by plain values. No conditions. -/
import Derived.Test.YteojcbmelbohlaaSeat
import Derived.Test.YteojcbmelbohlaaVb
import Derived.Test.YteojcbmelbohlaaT3
set_option linter.unusedVariables false
set_option linter.unusedSimpArgs false
namespace Go.Eng
open Go.Proofs
set_option maxRecDepth 100000
set_option linter.unusedSimpArgs false
attribute [local go_sem] r_seq r_skip r_retC r_exitC r_label r_block r_region r_regionW r_xWt r_xW r_cond r_Bt r_Bf r_Ncode r_Nret r_Nexit r_Nblk r_Nblkr r_Nblke r_Nnil r_Es r_Onil r_Oop r_Oif r_Xs r_Gt r_Gf r_wtt r_wtf r_wft r_wff r_wu r_gO r_putS r_putN r_get r_keepN r_keepC r_fr r_fn r_fi r_ff r_fo r_l1 r_l2t r_cun r_cul r_cub r_cui r_cus r_cuis r_cuc r_cusl r_cuti r_cutv r_ven r_vec r_l2f r_l3 r_t1 r_t2 r_t0 r_rt r_rc r_en r_ec r_cM r_oN r_oC r_end r_endt r_endf r_nob0 r_nobN r_nobC r_nobE r_nb0 r_nbi r_nbs r_nbsl r_nbin r_nbce r_nLn r_nLv r_nLc r_nAa r_nAn r_nAk_b r_nAk_i r_nAk_s r_nAk_n r_nAk_is r_nAk_ce r_nAk_fp r_nAk_sl r_nAk_pt r_nAk_fn r_nsn r_nsv r_nsc r_m0 r_mi r_ms r_msl r_min r_mce r_mLn r_mLv r_mLc r_mAa r_mAn r_mAk_b r_mAk_i r_mAk_s r_mAk_n r_mAk_is r_mAk_ce r_mAk_fp r_mAk_sl r_mAk_pt r_mAk_fn r_msn r_msv r_msc r_atb r_ati r_ats r_atn r_atis r_atc r_atf r_atl r_atp r_atfn r_gcn r_gcc r_gLn r_gLc r_gIt r_ndn r_ndc r_gcB r_gLB r_two r_rea r_rea0 r_re1n r_re1c r_ori r_orv r_ord r_orn r_adn r_adc r_ad1 r_ern r_ers r_er0 r_rsl r_rptr r_rb r_ri r_rs r_rn r_ris r_rce r_rfp r_ra4 r_ra3 r_rt4 r_rf4 r_rf3 r_idS r_idc r_nS r_nP r_nF r_nT r_vsl r_vptr r_vb r_vi r_vs r_vn r_vis r_vce r_vfp r_va4 r_va3 r_vt4 r_vf4 r_vf3 r_rV r_Oi r_Ov r_Od r_rE r_rE0 r_En r_Ec r_E0 r_pO r_pk r_agL r_cO r_fO r_fSi r_fSv r_fPv r_fsl r_fptr r_ffn r_fag r_fb r_fint r_fstr r_fnil r_fis r_fce r_ffp r_res r_move r_assign r_pick r_pickt r_pickf r_alloc r_box r_al r_build r_bslice r_load r_store r_nlc r_nl1 r_nl2 r_bin r_un r_conv r_mkf r_mks r_slc r_fad r_fld r_iad r_idx r_ext r_ex1 r_callf r_callt r_callen r_calapp r_calmax r_calmin r_vt r_vcb r_vci r_vcs r_vcnp r_vcn r_vca r_vcf r_vcg r_ofb r_ofi r_ofs r_ofn r_evs r_pn r_prt r_pc r_one_a r_one_b r_one_i r_one_s r_one_n r_one_is r_one_ce r_one_fp r_one_sl r_one_pt r_one_fn r_cs_a r_cs_b r_cs_i r_cs_s r_cs_n r_cs_is r_cs_ce r_cs_fp r_cs_sl r_cs_pt r_cs_fn r_tov r_tovA r_toc r_toa r_tb r_ti r_ts r_tn r_bd r_bd2 r_filn r_fp1 r_filc r_fsn r_fsc r_san r_sac r_bs2 r_bs1 r_newO r_mkq r_mkI r_mkOi r_mkOv r_tIn r_tIc r_repz r_repn r_ldp r_ldf r_l1t r_l1f r_lFt r_lFf r_aggO r_obj r_at r_ati' r_atv r_celli r_cellv r_subi r_subv r_sto r_sto1 r_sto2 r_sets r_setR r_setn r_setc r_s1i r_s1v r_bin1 r_bin2 r_tv1 r_cb r_ci r_cst r_cn r_csl r_cis r_cce r_uni r_unb r_cv r_cvO r_cvN r_cv0 r_cvS r_wB r_cvi r_cvs r_cvb r_cvl r_sO r_rdn r_rdi r_rdl r_rdO r_vsub r_vfn r_mk r_mk1 r_mk2 r_zoi r_zov r_leni r_lenv r_bn r_bndV r_bo r_sl0 r_sl1 r_vsz r_ct1 r_cts r_cti r_ctc r_ctn r_lnl r_lni r_lnc r_lnn r_fa r_fap r_faf r_fi1 r_fit r_fif r_ixi r_ixs r_ixc r_ixf r_ixF r_ixF2 r_ix1 r_ixsl r_ixin r_ixce r_len1 r_lenA r_lTs r_lTn r_lTl r_lTi r_lTc r_app0 r_app r_app1 r_app2 r_app3 r_catO r_cati r_catv r_newt r_newf r_pair r_pairK r_trip r_kis r_kiv r_srn r_srl r_sri r_src r_srs r_oln r_oll r_vw r_wi r_wv r_mm r_max r_min' r_str r_cF r_c2t r_c3f r_c3t r_ab r_c2f r_cV r_p1 r_la r_la2t r_la2f r_la3 r_sh r_z_is r_z_ce r_z_fp r_z_b r_z_i r_z_s r_z_n r_z_l r_z_p r_z_a4 r_z_a3 r_z_t4 r_zoI r_zoV r_roN r_roC r_roi r_rod r_zod r_rov r_aR r_trOi r_trOv r_trPv r_trl r_trp r_trf r_tra r_trb r_tri r_trs r_trn r_tris r_trce r_trfp r_vJ r_vJs r_vJn
attribute [local go_sem] b_add b_sub b_mul b_quo b_rem b_shl b_shr b_eql b_neq b_lss b_leq b_gtr b_geq eqB_s b_eqB b_neB u_neg u_not b_nn b_nn' eqS_s zerosT_s zerosT_n zt_i zt_sl zt_st dstOf_z dstOf_n iltT iltF ileT ileF ieqT ieqF nltT nltF nleT nleF neqT neqF tdiv_pos tmod_pos w64 idx0 List.take_of_length_le
/- Quotients of the reference: naturals. No conditions. -/
section
open Num
section
variable {x y R : Nat} {out : List Int} {L lo hi i : Nat}
def svE (L : Nat) (i : Int) (lo hi : Nat) (x : VE) : VE := (2, some (.ptr 0 0)) :: (3, some (.ptr 1 0)) :: (4, some (.ptr 2 0)) :: (5, some (.ptr 3 0)) :: (8, some (.sl 4 0 L 1)) :: (9, some (.ptr 5 0)) :: (10, some (.int .i64 i)) :: (11, some (.int .i64 lo)) :: (12, some (.int .i64 hi)) :: x
def svH (x y R : Nat) (out : List Int) : VH := [.vals true [.ints .i64 (D x)], .vals true [.ints .i64 (D y)], .vals true [.nil], .vals true [.nil], .ints true .i64 out, .vals true [.sl 6 0 (D R).length 1], .ints true .i64 (D R)]
theorem sv_r (d : Nat) {i : Int} (hy : (D y).length < 400000) (hR : (D R).length < 400000) (h1 : lo + 1 < hi) (h2 : hi ≤ 65536) :
    vCode Try.prog kn (vrun Try.prog kn (d + 2)) 146 (loopAt Try.f146 1) (svE L i lo hi []) (svH x y R out) = some (.norm, if y * ((lo + hi) / 2) ≤ R then svE L i ((lo + hi) / 2) hi [] else svE L i lo ((lo + hi) / 2) [], svH x y R out) := by
  have a1 := fun d => l2of_v (n := (lo + hi) / 2) d (by omega)
  have e0 : (((lo + hi) / 2 : Nat) : Int) = ((lo : Int) + hi) / 2 := by omega
  rw [e0] at a1
  have hl1 : (D ((lo + hi) / 2)).length ≤ 4 := len_small (by omega)
  have a2 := fun d => l2mul_v (x := y) (y := (lo + hi) / 2) d (by omega) (by omega)
  have hl2 := len_mul y ((lo + hi) / 2)
  have a3 := fun d => l2cmp_v (x := y * ((lo + hi) / 2)) (y := R) d (by omega) (by omega)
  have hc : cmpI (y * ((lo + hi) / 2)) R ≤ 0 ↔ y * ((lo + hi) / 2) ≤ R := by unfold cmpI; (repeat' split) <;> omega
  by_cases c : y * ((lo + hi) / 2) ≤ R
  · have c1 := hc.2 c
    clear hc
    rw [if_pos c]
    rw [round_v]; simp only [loopAt, nthC, bodyC, loops, List.nil_append, List.cons_append, List.append_nil, Try.f146, svE, svH, e0]
    generalize D ((lo + hi) / 2) = M at *
    generalize D (y * ((lo + hi) / 2)) = P at *
    generalize cmpI (y * ((lo + hi) / 2)) R = C at *
    simp (implicitDefEqProofs := false) (disch := omega) [go_sem, tab146, a1, a2, a3, c1, w_nil, w_op, w_if, w_Gt, w_Gf, w_Xs, w_V, r_xWt, vmodI, vldI, vmodS, vldS, vmodA, vmodB, vldOK, V.self, vimp, w_safe, w_safe0, w_safeC]
  · have c1 : ¬ cmpI (y * ((lo + hi) / 2)) R ≤ 0 := fun h => c (hc.1 h)
    clear hc
    rw [if_neg c]
    rw [round_v]; simp only [loopAt, nthC, bodyC, loops, List.nil_append, List.cons_append, List.append_nil, Try.f146, svE, svH, e0]
    generalize D ((lo + hi) / 2) = M at *
    generalize D (y * ((lo + hi) / 2)) = P at *
    generalize cmpI (y * ((lo + hi) / 2)) R = C at *
    simp (implicitDefEqProofs := false) (disch := omega) [go_sem, tab146, a1, a2, a3, c1, w_nil, w_op, w_if, w_Gt, w_Gf, w_Xs, w_V, r_xWt, vmodI, vldI, vmodS, vldS, vmodA, vmodB, vldOK, V.self, vimp, w_safe, w_safe0, w_safeC]
theorem sv_x (call : CallV) {i : Int} (h1 : ¬ lo + 1 < hi) (h2 : hi ≤ 65536) (h3 : lo ≤ hi) :
    vCode Try.prog kn call 146 (loopAt Try.f146 1) (svE L i lo hi []) (svH x y R out) = some (.exit 2, svE L i lo hi [(55, some (.bool false))], svH x y R out) := by
  rw [round_v]; simp only [loopAt, nthC, bodyC, loops, List.nil_append, List.cons_append, List.append_nil, Try.f146, svE, svH]
  simp (implicitDefEqProofs := false) (disch := omega) [go_sem, tab146, w_nil, w_op, w_if, w_Gt, w_Gf, w_Xs, w_V, r_xWt, vmodI, vldI, vmodS, vldS, vmodA, vmodB, vldOK, V.self, vimp, w_safe, w_safe0, w_safeC]
theorem sv_l (d : Nat) {i : Int} (hy : (D y).length < 400000) (hR : (D R).length < 400000) (hlt : R < y * 65536) :
    viter (vCode Try.prog kn (vrun Try.prog kn (d + 2)) 146 (loopAt Try.f146 1)) kn.cf.rounds (svE L i 0 65536 []) (svH x y R out) = some (.exit 2, svE L i (R / y) (R / y + 1) [(55, some (.bool false))], svH x y R out) := by
  have key := vi_inv (n := kn.cf.rounds) (body := vCode Try.prog kn (vrun Try.prog kn (d + 2)) 146 (loopAt Try.f146 1)) (fun j s => ∃ lo hi : Nat, s = (svE L i lo hi [], svH x y R out) ∧ y * lo ≤ R ∧ R < y * hi ∧ hi ≤ 65536 ∧ hi - lo + j ≤ 65536)
    (fun r => r = some (.exit 2, svE L i (R / y) (R / y + 1) [(55, some (.bool false))], svH x y R out)) 65536 (by rw [k_cf, c_rounds]; omega)
    (fun j s hj hI => by
      obtain ⟨lo, hi, rfl, g1, g2, g3, g4⟩ := hI
      have hlh : lo < hi := by
        rcases Nat.lt_or_ge lo hi with h | h
        · exact h
        · have := Nat.mul_le_mul_left y h; omega
      by_cases c : lo + 1 < hi
      · left
        rw [sv_r d hy hR c g3]
        by_cases c2 : y * ((lo + hi) / 2) ≤ R
        · rw [if_pos c2]
          exact ⟨_, rfl, _, _, rfl, c2, g2, g3, by omega⟩
        · rw [if_neg c2]
          exact ⟨_, rfl, _, _, rfl, g1, by omega, by omega, by omega⟩
      · right; intro m
        obtain rfl : hi = lo + 1 := by omega
        have hq : R / y = lo := by
          have hy0 : 0 < y := by rcases Nat.eq_zero_or_pos y with h | h; · subst h; omega
                                 · exact h
          rw [Nat.div_eq_iff hy0]; rw [Nat.mul_succ] at g2; have := Nat.mul_comm lo y; constructor <;> omega
        rw [hq]
        exact vi_exit (sv_x _ c g3 (by omega)))
    (fun s hI m => by
      obtain ⟨lo, hi, rfl, g1, g2, g3, g4⟩ := hI
      exfalso
      have : hi ≤ lo := by omega
      have := Nat.mul_le_mul_left y this; omega)
    (svE L i 0 65536 [], svH x y R out) ⟨0, 65536, rfl, by omega, hlt, Nat.le_refl _, by omega⟩
  exact key
end
section
variable {x y : Nat}
def svO (x y : Nat) (r : V) (i : Nat) : VE × VH := ([(2, some (.ptr 0 0)), (3, some (.ptr 1 0)), (4, some (.ptr 2 0)), (5, some (.ptr 3 0)), (8, some (.sl 4 0 (D x).length 1)), (9, some (.ptr 5 0)), (10, some (.int .i64 ((i : Int) - 1)))], [.vals true [.ints .i64 (D x)], .vals true [.ints .i64 (D y)], .vals true [.nil], .vals true [.nil], .ints true .i64 (hi (x / y) (D x).length i), .vals true [r]])
theorem svO_r (d : Nat) (hx : (D x).length < 300000) (hy : (D y).length < 300000) (h0 : 0 < y) {i : Nat} (hi' : i < (D x).length) {r : V} (hr : (r = .nil ∧ x / 65536 ^ (i + 1) % y = 0) ∨ r = .ints .i64 (D (x / 65536 ^ (i + 1) % y))) :
    vCode Try.prog kn (vrun Try.prog kn (d + 2)) 146 (loopAt Try.f146 0) (svO x y r (i + 1)).1 (svO x y r (i + 1)).2 = some (.norm, svO x y (.ints .i64 (D (x / 65536 ^ i % y))) i) := by
  have b1 := dg_bd x i
  obtain ⟨e1, e2⟩ := divs_nat (x := x) (j := i) (d := y) h0
  have b3 := Nat.mod_lt (x / 65536 ^ (i + 1)) h0
  have b4 := divs_lt (d := y) b3 (Nat.mod_lt (x / 65536 ^ i) (by omega : 0 < 65536))
  have hd : dg (x / y) i = (((x / 65536 ^ (i + 1) % y * 65536 + x / 65536 ^ i % 65536) / y : Nat) : Int) := by
    unfold dg
    rw [Nat.div_div_eq_div_mul, Nat.mul_comm, ← Nat.div_div_eq_div_mul, e1, Nat.mul_add_mod, Nat.mod_eq_of_lt b4]
  have hdx : dg x i = ((x / 65536 ^ i % 65536 : Nat) : Int) := rfl
  have hRl : (D (x / 65536 ^ (i + 1) % y)).length ≤ (D y).length := len_D_mono (by omega)
  rw [e2]
  have hg : GoodL (dg x i :: D (x / 65536 ^ (i + 1) % y)) := by
    intro z hz
    rcases List.mem_cons.1 hz with rfl | hz
    · exact b1
    · exact good_D _ z hz
  have hv : val (dg x i :: D (x / 65536 ^ (i + 1) % y)) = ((x / 65536 ^ (i + 1) % y * 65536 + x / 65536 ^ i % 65536 : Nat) : Int) := by
    show dg x i + 65536 * val (D (x / 65536 ^ (i + 1) % y)) = _
    rw [val_D, hdx]
    generalize x / 65536 ^ (i + 1) % y = R
    generalize x / 65536 ^ i % 65536 = g
    omega
  have a1 := fun d => l2norm_v d (by rw [List.length_cons]; omega) hg hv
  have hlt : x / 65536 ^ (i + 1) % y * 65536 + x / 65536 ^ i % 65536 < y * 65536 := by
    have := Nat.mul_le_mul_right 65536 (Nat.succ_le_of_lt b3)
    have := Nat.mod_lt (x / 65536 ^ i) (by omega : 0 < 65536)
    omega
  have hNl : (D (x / 65536 ^ (i + 1) % y * 65536 + x / 65536 ^ i % 65536)).length ≤ (D y).length + 2 := by
    refine Nat.le_trans (len_D_mono (Nat.le_of_lt hlt)) (Nat.le_trans (len_mul y 65536) ?_)
    have : (D 65536).length ≤ 2 := len_small (by omega)
    omega
  clear hv hg
  generalize hN : x / 65536 ^ (i + 1) % y * 65536 + x / 65536 ^ i % 65536 = N at *
  have hq : N / y < 65536 := Nat.div_lt_of_lt_mul hlt
  have hl0 := fun (i : Int) (L : Nat) (out : List Int) ks => loop_v (P := Try.prog) (K := kn) (ks := ks) (sv_l (x := x) (out := out) (L := L) d (i := i) (by omega) (by omega) hlt)
  simp only [loopAt, nthC, bodyC, loops, List.nil_append, List.cons_append, List.append_nil, Try.f146, svE, svH, Int.natCast_zero, show ((65536 : Nat) : Int) = 65536 from rfl] at hl0
  have a2 := fun d => l2of_v (n := N / y) d (by omega)
  have hl1 : (D (N / y)).length ≤ 4 := len_small (by omega)
  have a3 := fun d => l2mul_v (x := y) (y := N / y) d (by omega) (by omega)
  have hle : y * (N / y) ≤ N := Nat.mul_div_le N y
  have a4 := fun d => l2sub_v (x := N) (y := y * (N / y)) d hle (by omega)
  have hm : N - y * (N / y) = N % y := by have := Nat.div_add_mod N y; omega
  rw [hm] at a4
  have hl := hi_len (q := x / y) (n := (D x).length) (i := i + 1) (by omega)
  have e0 : (((i + 1 : Nat) : Int) - 1) = i := by omega
  rw [round_v]; simp only [loopAt, nthC, bodyC, loops, List.nil_append, List.cons_append, List.append_nil, Try.f146, svO, ← hi_set hi', hd, e0]
  have hml : (D (N % y)).length ≤ (D y).length := len_D_mono (Nat.le_of_lt (Nat.mod_lt _ h0))
  have hmul := len_mul y (N / y)
  rcases hr with ⟨rfl, hz⟩ | rfl
  · rw [hz, D_zero] at a1
    clear hd hdx e1 e2 hN hlt b4 b3 hm hle hRl hz
    generalize hi (x / y) (D x).length (i + 1) = H at *
    generalize D (y * (N / y)) = M at *
    generalize D (N / y) = Q at *
    generalize D (N % y) = R' at *
    generalize D N = N' at *
    generalize N / y = q at *
    simp (implicitDefEqProofs := false) (disch := omega) [go_sem, tab146, gt_D, a1, a2, a3, a4, hl, hl0, w_nil, w_op, w_if, w_Gt, w_Gf, w_Xs, w_V, r_xWt, vmodI, vldI, vmodS, vldS, vmodA, vmodB, vldOK, V.self, vimp, w_safe, w_safe0, w_safeC]
  · clear hd hdx e1 e2 hlt b4 hm hle
    generalize x / 65536 ^ (i + 1) % y = R at *
    clear hN b3
    generalize hi (x / y) (D x).length (i + 1) = H at *
    generalize D (y * (N / y)) = M at *
    generalize D (N / y) = Q at *
    generalize D (N % y) = R' at *
    generalize D N = N' at *
    generalize D R = R0 at *
    generalize N / y = q at *
    have htk : List.take (1 + R0.length) (dg x i :: R0) = dg x i :: R0 := List.take_of_length_le (by rw [List.length_cons]; omega)
    simp (implicitDefEqProofs := false) (disch := omega) [go_sem, tab146, gt_D, htk, a1, a2, a3, a4, hl, hl0, w_nil, w_op, w_if, w_Gt, w_Gf, w_Xs, w_V, r_xWt, vmodI, vldI, vmodS, vldS, vmodA, vmodB, vldOK, V.self, vimp, w_safe, w_safe0, w_safeC]
theorem svO_x (call : CallV) {r : V} (hr : r = .nil ∨ ∃ l, r = .ints .i64 l) :
    vCode Try.prog kn call 146 (loopAt Try.f146 0) (svO x y r 0).1 (svO x y r 0).2 = some (.exit 0, (svO x y r 0).1 ++ [(39, some (.bool false))], (svO x y r 0).2) := by
  rw [round_v]; simp only [loopAt, nthC, bodyC, loops, List.nil_append, List.cons_append, List.append_nil, Try.f146, svO]
  rcases hr with rfl | ⟨l, rfl⟩
  all_goals
   simp (implicitDefEqProofs := false) (disch := omega) [go_sem, tab146, w_nil, w_op, w_if, w_Gt, w_Gf, w_Xs, w_V, r_xWt, vmodI, vldI, vmodS, vldS, vmodA, vmodB, vldOK, V.self, vimp, w_safe, w_safe0, w_safeC]
theorem l2div_v (d : Nat) (hx : (D x).length < 300000) (hy : (D y).length < 300000) (h0 : y ≠ 0) :
    vrun Try.prog kn (d + 3) 146 [.agg [.ints .i64 (D x)], .agg [.ints .i64 (D y)]] [] = some (.tup [.agg [.ints .i64 (D (x / y))], .agg [.ints .i64 (D (x % y))]], []) := by
  by_cases h1 : (D y).length = 1
  · have hy1 : y < 65536 := by have := lt_len_D y; rw [h1] at this; omega
    have hg0 : gt (D y) 0 = (y : Int) := by
      rw [gt_D]; unfold dg; rw [Nat.pow_zero, Nat.div_one, Nat.mod_eq_of_lt hy1]
    have a1 := fun d => l2small_v (z := x) (m := y) d (by omega) (by omega) (by omega)
    have hm : x % y < y := Nat.mod_lt _ (by omega)
    have a2 := fun d => l2of_v (n := x % y) d (by omega)
    generalize D y = Y at *
    generalize D (x % y) = R at *
    generalize ((x % y : Nat) : Int) = r at *
    rw [vrun_v Try.func146 rfl rfl rfl]; simp only [Try.f146]
    simp (implicitDefEqProofs := false) (disch := omega) [go_sem, tab146, h1, hg0, a1, a2, w_nil, w_op, w_if, w_Gt, w_Gf, w_Xs, w_V, r_xWt, vmodI, vldI, vmodS, vldS, vmodA, vmodB, vldOK, V.self, vimp, w_safe, w_safe0, w_safeC]
  · have hl0 : ∃ r : V, (r = .nil ∧ D (x % y) = [] ∨ r = .ints .i64 (D (x % y))) ∧ ∀ ks, xC Try.prog kn (vrun Try.prog kn (d + 2)) 146 (.loop (loopAt Try.f146 0)) ks (svO x y .nil (D x).length).1 (svO x y .nil (D x).length).2 = xN Try.prog kn (vrun Try.prog kn (d + 2)) 146 (.exit 0) ks ((svO x y r 0).1 ++ [(39, some (.bool false))]) (svO x y r 0).2 := by
      have key : ∀ (i n : Nat) (r : V), i ≤ (D x).length → i < n → (r = .nil ∧ x / 65536 ^ i % y = 0 ∨ r = .ints .i64 (D (x / 65536 ^ i % y))) → ∃ r' : V, (r' = .nil ∧ D (x % y) = [] ∨ r' = .ints .i64 (D (x % y))) ∧ viter (vCode Try.prog kn (vrun Try.prog kn (d + 2)) 146 (loopAt Try.f146 0)) n (svO x y r i).1 (svO x y r i).2 = some (.exit 0, (svO x y r' 0).1 ++ [(39, some (.bool false))], (svO x y r' 0).2) := by
        intro i
        induction i with
        | zero =>
          intro n r _ hn hr
          obtain ⟨n, rfl⟩ : ∃ q, n = q + 1 := ⟨n - 1, by omega⟩
          rw [Nat.pow_zero, Nat.div_one] at hr
          exact ⟨r, hr.imp (fun h => ⟨h.1, by rw [h.2, D_zero]⟩) id, vi_exit (svO_x _ (hr.imp (·.1) fun h => ⟨_, h⟩))⟩
        | succ i ih =>
          intro n r h1 hn hr
          obtain ⟨n, rfl⟩ : ∃ q, n = q + 1 := ⟨n - 1, by omega⟩
          obtain ⟨r', h2, h3⟩ := ih n _ (by omega) (by omega) (.inr rfl)
          exact ⟨r', h2, by rw [vi_norm (svO_r d hx hy (by omega) (by omega) hr)]; exact h3⟩
      obtain ⟨r, h2, h3⟩ := key (D x).length kn.cf.rounds .nil (Nat.le_refl _) (by rw [k_cf, c_rounds]; omega) (.inl ⟨rfl, by rw [quo_end, Nat.zero_mod]⟩)
      exact ⟨r, h2, fun ks => loop_v (P := Try.prog) (K := kn) (ks := ks) h3⟩
    obtain ⟨r, hr, hl0⟩ := hl0
    have c2 : x / y < 65536 ^ (D x).length := Nat.lt_of_le_of_lt (Nat.div_le_self _ _) (lt_len_D x)
    have hn := fun d => l2norm_v d (l := dgs (x / y) (D x).length) (v := x / y) (by rw [dgs_len]; omega) (dgs_good _ _) (by rw [dgs_val, lo_len (lt_pow_len c2)])
    have g0 : hi (x / y) (D x).length (D x).length = List.replicate (D x).length 0 := by unfold hi; rw [List.drop_eq_nil_of_le (by rw [dgs_len]; omega), List.append_nil]
    have g1 : hi (x / y) (D x).length 0 = dgs (x / y) (D x).length := by unfold hi; rw [List.replicate_zero, List.nil_append, List.drop_zero]
    simp only [loopAt, nthC, bodyC, loops, List.nil_append, List.cons_append, List.append_nil, Try.f146, svO, g0, g1, Int.natCast_zero, List.cons_append, List.nil_append] at hl0
    have hql : (D (x / y)).length ≤ (D x).length := len_D_mono (Nat.div_le_self _ _)
    have hdl := dgs_len (x / y) (D x).length
    clear g0 g1 c2
    generalize dgs (x / y) (D x).length = W at *
    generalize D (x / y) = Q at *
    rcases hr with ⟨rfl, hz⟩ | rfl
    · rw [hz]
      rw [vrun_v Try.func146 rfl rfl rfl]; simp only [Try.f146]
      simp (implicitDefEqProofs := false) (disch := omega) [go_sem, tab146, h1, hn, hl0, hdl, w_nil, w_op, w_if, w_Gt, w_Gf, w_Xs, w_V, r_xWt, vmodI, vldI, vmodS, vldS, vmodA, vmodB, vldOK, V.self, vimp, w_safe, w_safe0, w_safeC]
    · generalize D (x % y) = R at *
      rw [vrun_v Try.func146 rfl rfl rfl]; simp only [Try.f146]
      simp (implicitDefEqProofs := false) (disch := omega) [go_sem, tab146, h1, hn, hl0, hdl, w_nil, w_op, w_if, w_Gt, w_Gf, w_Xs, w_V, r_xWt, vmodI, vldI, vmodS, vldS, vmodA, vmodB, vldOK, V.self, vimp, w_safe, w_safe0, w_safeC]
end
end
/- Dyadics: alignment and comparison, program and reference. No conditions. -/
section
open Num
def alE (a : Nat) (ex : Int) (b : Nat) (ey : Int) : Int := if b = 0 then ex else if a = 0 then ey else if ey < ex then ey else ex
def alA (a : Nat) (ex : Int) (b : Nat) (ey : Int) : Nat := a * 2 ^ (ex - alE a ex b ey).toNat
def alB (a : Nat) (ex : Int) (b : Nat) (ey : Int) : Nat := b * 2 ^ (ey - alE a ex b ey).toNat
def scmp (n : Bool) (a : Nat) (m : Bool) (b : Nat) : Int := if n && !m then -1 else if !n && m then 1 else if n then cmpI b a else cmpI a b
section
variable {a b : Nat} {ex ey : Int} {n m : Bool}
theorem alE_bd (he : -100000 ≤ ex) (he' : ex ≤ 100000) (hf : -100000 ≤ ey) (hf' : ey ≤ 100000) : -100000 ≤ alE a ex b ey ∧ alE a ex b ey ≤ 100000 := by
  unfold alE
  by_cases h1 : b = 0
  · rw [if_pos h1]; omega
  · rw [if_neg h1]
    by_cases h2 : a = 0
    · rw [if_pos h2]; omega
    · rw [if_neg h2]; split <;> omega
theorem al_len (ha : (D a).length < 100000) (hb : (D b).length < 100000) (he : -100000 ≤ ex) (he' : ex ≤ 100000) (hf : -100000 ≤ ey) (hf' : ey ≤ 100000) : (D (alA a ex b ey)).length < 200000 ∧ (D (alB a ex b ey)).length < 200000 := by
  have := alE_bd (a := a) (b := b) he he' hf hf'
  unfold alA alB
  have h1 := len_shl a (ex - alE a ex b ey).toNat
  have h2 := len_shl b (ey - alE a ex b ey).toNat
  omega
theorem signedCompare_v (d : Nat) (ha : (D a).length < 1000000) (hb : (D b).length < 1000000) : vrun Try.prog kn (d + 4) 98 [.bool n, .ints .i64 (D a), .bool m, .ints .i64 (D b)] [] = some (.int .i64 (scmp n a m b), []) := by
  have h1 := fun d => compare_v d ha hb
  have h2 := fun d => compare_v d hb ha
  rw [vrun_v Try.func98 rfl rfl rfl]; simp only [Try.f98]
  cases n <;> cases m <;> simp (disch := omega) [go_sem, tab98, h1, h2, scmp]
theorem l3make_v (d : Nat) (ha : (D a).length < 1000000) : vrun Try.prog kn (d + 2) 124 [.bool n, .agg [.ints .i64 (D a)]] [] = some (.agg [.bool (n && decide (a ≠ 0)), .ints .i64 (D a)], []) := by
  have h1 := fun d => l2norm_v d (l := D a) (v := a) (by omega) (good_D a) (val_D a)
  by_cases h0 : a = 0
  · subst h0
    rw [D_zero] at h1 ⊢
    rw [vrun_v Try.func124 rfl rfl rfl]; simp only [Try.f124]
    cases n <;> simp (disch := omega) [go_sem, tab124, h1]
  · have hn : ¬ D a = [] := fun h => h0 (D_nil_iff.1 h)
    have hp : 0 < (D a).length := List.length_pos_iff.2 hn
    rw [vrun_v Try.func124 rfl rfl rfl]; simp only [Try.f124]
    cases n <;> simp (disch := omega) [go_sem, tab124, h1, h0, hn]
def alE2 (a : Nat) (ex : Int) (b : Nat) (ey : Int) : Int := if a = 0 then ey else if b = 0 then ex else if ey < ex then ey else ex
end
end
/- The reference's trailing noughts, and its one form of a dyadic. No conditions. -/
section
open Num
section
variable {x : Nat}
def trS (x j : Nat) : VE × VH := ([(1, some (.ptr 0 0)), (3, some (.int .i64 j))], [.vals true [.ints .i64 (D x)]])
end
end
/- The reference's one form of a dyadic number. No conditions. -/
section
open Num
section
variable {a : Nat} {n : Bool} {e : Int}
/-- The one form. -/
def mkD (n : Bool) (a : Nat) (e : Int) : DyT := if a = 0 then ⟨false, [], 0⟩ else ⟨n, D (a / 2 ^ tz a), e + tz a⟩
end
end
/- Trailing noughts of a limb, as the library counts them. No conditions. -/
section
open Num
theorem wu64' {x : Int} (h1 : 0 ≤ x) (h2 : x ≤ 18446744073709551615) : IntKind.wrap .u64 x = x := by
  simp [IntKind.wrap, IntKind.bits, IntKind.signed]; omega
theorem negu {x : Nat} (h0 : x ≠ 0) (hx : x < 65536) : IntKind.wrap .u64 (-(x : Int)) = ((2 ^ 64 - x : Nat) : Int) := by
  simp [IntKind.wrap, IntKind.bits, IntKind.signed]; omega
theorem andneg (P : Program) (ty : TypeId) {x t o : Nat} (h0 : x ≠ 0) (hx : x < 65536) (h : x = 2 ^ t * (2 * o + 1)) : binE P .and ty (.int .u64 (x : Int)) (.int .u64 ((2 ^ 64 - x : Nat) : Int)) = some (.int .u64 ((2 ^ t : Nat) : Int)) := by
  rw [b_and]
  have e : (BitVec.ofInt (IntKind.bits .u64) (x : Int) &&& BitVec.ofInt (IntKind.bits .u64) ((2 ^ 64 - x : Nat) : Int)).toNat = 2 ^ t := by
    show (BitVec.ofInt 64 (x : Int) &&& BitVec.ofInt 64 ((2 ^ 64 - x : Nat) : Int)).toNat = 2 ^ t
    rw [BitVec.toNat_and, BitVec.ofInt_natCast, BitVec.ofInt_natCast, BitVec.toNat_ofNat, BitVec.toNat_ofNat, Nat.mod_eq_of_lt (by omega), Nat.mod_eq_of_lt (by omega)]
    exact land_neg h (by omega)
  rw [e]
  have hle : 2 ^ t ≤ x := by rw [h]; exact Nat.le_mul_of_pos_right _ (by omega)
  rw [wu64' (by omega) (by omega)]
theorem tz16 {x t o : Nat} (hx : x < 65536) (h : x = 2 ^ t * (2 * o + 1)) : t < 16 := by
  have hle : 2 ^ t ≤ x := by rw [h]; exact Nat.le_mul_of_pos_right _ (by omega)
  exact (Nat.pow_lt_pow_iff_right (a := 2) (by omega)).1 (by omega : 2 ^ t < 2 ^ 16)
end
/- Numbers of any size: their one form, products; trailing noughts. No conditions. -/
section
open Num
theorem low_zero {x j : Nat} (h : 16 * j ≤ tz x) : x % 65536 ^ j = 0 := by
  by_cases h0 : x = 0
  · subst h0; simp
  obtain ⟨o, ho⟩ := tz_spec h0
  have e : (65536 : Nat) ^ j = 2 ^ (16 * j) := by rw [show (65536 : Nat) = 2 ^ 16 from rfl, ← Nat.pow_mul]
  have e2 : 2 ^ tz x = 2 ^ (16 * j) * 2 ^ (tz x - 16 * j) := by rw [← Nat.pow_add]; congr 1; omega
  rw [e]
  conv => lhs; lhs; rw [ho, e2, Nat.mul_assoc]
  exact Nat.mul_mod_right _ _
theorem dig_zero {x j : Nat} (h : 16 * (j + 1) ≤ tz x) : x / 65536 ^ j % 65536 = 0 := by
  have h1 := low_zero h
  rw [mod_pow_succ] at h1
  have hp := powN_pos j
  rcases Nat.eq_zero_or_pos (x / 65536 ^ j % 65536) with h2 | h2
  · exact h2
  · have := Nat.mul_pos hp h2; omega
theorem dig_nz {x : Nat} (h0 : x ≠ 0) : x / 65536 ^ (tz x / 16) % 65536 ≠ 0 := by
  intro h
  have hb := tz_bit h0
  have e : 2 ^ tz x = 65536 ^ (tz x / 16) * 2 ^ (tz x % 16) := pow_split _
  rw [e, ← Nat.div_div_eq_div_mul] at hb
  generalize x / 65536 ^ (tz x / 16) = a at *
  have e2 : (65536 : Nat) = 2 ^ (tz x % 16) * (2 * 2 ^ (15 - tz x % 16)) := by
    rw [← Nat.mul_assoc, Nat.mul_right_comm, ← Nat.pow_add, show tz x % 16 + (15 - tz x % 16) = 15 by omega]
  have h2 : a = 65536 * (a / 65536) := by omega
  rw [h2, e2, Nat.mul_assoc, Nat.mul_div_cancel_left _ (Nat.two_pow_pos _), Nat.mul_assoc] at hb
  omega
section
variable {x : Nat}
def toS (x j : Nat) : VE × VH := ([(5, some (.ints .i64 (D x))), (6, some (.int .i64 (D x).length)), (7, some (.int .i64 j))], [])
end
section
variable {a b : Nat} {n m : Bool} {e ex ey : Int}
/-- May it be told? -/
def dyFit (r : DyT) : Bool := decide (r.l.length ≤ 100) && decide (-3000 ≤ r.e) && decide (r.e ≤ 3000)
def zT : DyT := ⟨false, [], 0⟩
def fitT (r : DyT) : DyT := if dyFit r then r else zT
theorem mkD_neg : (mkD n a e).neg = ((mkD n a e).neg && !decide ((mkD n a e).l.length = 0)) := by
  unfold mkD
  by_cases h0 : a = 0
  · rw [if_pos h0]; rfl
  · rw [if_neg h0]
    have hb := tz_bit h0
    have hX : a / 2 ^ tz a ≠ 0 := fun h => by rw [h] at hb; simp at hb
    have : ¬ (D (a / 2 ^ tz a)).length = 0 := fun h => hX (D_nil_iff.1 (List.eq_nil_of_length_eq_zero h))
    simp [this]
theorem mkD_len : (mkD n a e).l.length ≤ (D a).length := by
  unfold mkD
  split
  · simp
  · exact len_D_mono (Nat.div_le_self _ _)
theorem mkD_e (he : -1000000000 ≤ e) (he' : e ≤ 1000000000) (ha : (D a).length < 60000) : -1000000000 ≤ (mkD n a e).e ∧ (mkD n a e).e ≤ 1001000000 := by
  unfold mkD
  by_cases h0 : a = 0
  · rw [if_pos h0]; simp
  · rw [if_neg h0]
    have := tz_lt h0
    simp only; omega
/-- What is in its one form is valid where it fits. -/
theorem dyOkB_mkD : dyOkB (mkD n a e) = dyFit (mkD n a e) := by
  unfold mkD
  by_cases h0 : a = 0
  · rw [if_pos h0]; rfl
  · rw [if_neg h0]
    have hb := tz_bit h0
    generalize a / 2 ^ tz a = X at *
    have hX : X ≠ 0 := fun h => by rw [h] at hb; simp at hb
    have hl : ¬ (D X).length = 0 := fun h => hX (D_nil_iff.1 (List.eq_nil_of_length_eq_zero h))
    have hg : gt (D X) 0 % 2 = 1 := by rw [gt_D]; unfold dg; rw [Nat.pow_zero, Nat.div_one]; omega
    unfold dyOkB dyFit wholeOkB
    simp only [natOkB_D, hl, hg, decide_false, Bool.and_false, Bool.not_false, Bool.and_true, if_false, decide_true, Bool.and_assoc]
theorem mkD_and : mkD (n && decide (a ≠ 0)) a e = mkD n a e := by
  unfold mkD
  by_cases h0 : a = 0
  · rw [if_pos h0, if_pos h0]
  · rw [if_neg h0, if_neg h0]; simp [h0]
end
end
/- Intervals: validity and membership, program and reference. No conditions. -/
section
open Num
def DyT.n (x : DyT) : Nat := (val x.l).toNat
def dcmp (x y : DyT) : Int := scmp x.neg (alA x.n x.e y.n y.e) y.neg (alB x.n x.e y.n y.e)
structure IvT where
  lo : DyT
  hi : DyT
def IvT.v (x : IvT) : List V := [.bool x.lo.neg, .ints .i64 x.lo.l, .int .i64 x.lo.e, .bool x.hi.neg, .ints .i64 x.hi.l, .int .i64 x.hi.e]
def ivOkB (x : IvT) : Bool := dyOkB x.lo && dyOkB x.hi && decide (dcmp x.lo x.hi ≤ 0)
def ivHasB (v : IvT) (x : DyT) : Bool := decide (dcmp v.lo x ≤ 0) && decide (dcmp x v.hi ≤ 0)
theorem ok_D {x : DyT} (hx : dyOkB x = true) : x.l = D (x.n) ∧ (D (x.n)).length < 100000 ∧ -100000 ≤ x.e ∧ x.e ≤ 100000 ∧ (x.n = 0 → x.neg = false) := by
  obtain ⟨n, h1, h2, h3, h4, h5⟩ := (dyOkB_iff x).1 hx
  have : x.n = n := by unfold DyT.n; rw [h1, val_D]; rfl
  rw [this]
  refine ⟨h1, by omega, by omega, by omega, fun h => ?_⟩
  rcases h5 with ⟨_, h, _⟩ | h5
  · exact h
  · omega
section
variable {x y : DyT}
end
section
variable {x : DyT} {v : IvT}
end
end
/- Numbers of any size: products, sums, differences. No conditions. -/
section
open Num
def ssN (n : Bool) (a : Nat) (m : Bool) (b : Nat) : Bool := if n = m then n else if b ≤ a then n else m
def ssV (n : Bool) (a : Nat) (m : Bool) (b : Nat) : Nat := if n = m then a + b else if b ≤ a then a - b else b - a
section
variable {a b : Nat} {n m : Bool} {e ex ey : Int}
theorem cmpI_ge : (0 ≤ cmpI a b) = (b ≤ a) := by
  unfold cmpI
  by_cases h : a < b
  · rw [if_pos h]; simp; omega
  · rw [if_neg h]; split <;> (simp; omega)
theorem ssV_len {k : Nat} (ha : (D a).length < k) (hb : (D b).length < k) : (D (ssV n a m b)).length < k + 1 := by
  unfold ssV
  by_cases h : n = m
  · rw [if_pos h]; have := len_add (x := a) (y := b) (n := k - 1) (by omega) (by omega); omega
  · rw [if_neg h]
    split
    · have := len_D_mono (Nat.sub_le a b); omega
    · have := len_D_mono (Nat.sub_le b a); omega
theorem D_ne {x : Nat} : (D x = []) = (x = 0) := propext D_nil_iff
theorem signedSum_v (d : Nat) (ha : (D a).length < 900000) (hb : (D b).length < 900000) : vrun Try.prog kn (d + 4) 95 [.bool n, .ints .i64 (D a), .bool m, .ints .i64 (D b)] [] = some (.tup [.bool (ssN n a m b), .ints .i64 (D (ssV n a m b))], []) := by
  have h1 := fun d => plus_v (x := a) (y := b) d (by omega) (by omega)
  have h2 := fun d => compare_v (x := a) (y := b) d (by omega) (by omega)
  unfold ssN ssV
  by_cases h : b ≤ a
  · have h3 := fun d => minus_v (x := a) (y := b) d h (by omega)
    have hc : (0 ≤ cmpI a b) = True := by rw [cmpI_ge]; simp [h]
    have hlp := len_add (x := a) (y := b) (n := 900000) (by omega) (by omega)
    have hlm := len_D_mono (Nat.sub_le a b)
    generalize cmpI a b = c at *
    rw [vrun_v Try.func95 rfl rfl rfl]; simp only [Try.f95]
    cases n <;> cases m <;> simp (disch := omega) [go_sem, tab95, nil95, h1, h2, h3, hc, h]
  · have h3 := fun d => minus_v (x := b) (y := a) d (by omega) (by omega)
    have hc : (0 ≤ cmpI a b) = False := by rw [cmpI_ge]; simp [h]
    have hlp := len_add (x := a) (y := b) (n := 900000) (by omega) (by omega)
    have hlm := len_D_mono (Nat.sub_le b a)
    generalize cmpI a b = c at *
    rw [vrun_v Try.func95 rfl rfl rfl]; simp only [Try.f95]
    cases n <;> cases m <;> simp (disch := omega) [go_sem, tab95, nil95, h1, h2, h3, hc, h]
theorem l3neg_v (d : Nat) (ha : (D a).length < 900000) : vrun Try.prog kn (d + 3) 141 [.agg [.bool n, .ints .i64 (D a)]] [] = some (.agg [.bool (!n && decide (a ≠ 0)), .ints .i64 (D a)], []) := by
  have h2 := fun n d => l3make_v (n := n) (a := a) d (by omega)
  rw [vrun_v Try.func141 rfl rfl rfl]; simp only [Try.f141]
  cases n <;> simp (disch := omega) [go_sem, tab141, h2]
end
end
/- Dyadic numbers: products, sums, differences, program and reference. No conditions. -/
section
open Num
def mulR (x y : DyT) : DyT := mkD (x.neg != y.neg) (x.n * y.n) (x.e + y.e)
def addR (x y : DyT) : DyT := mkD (ssN x.neg (alA x.n x.e y.n y.e) y.neg (alB x.n x.e y.n y.e)) (ssV x.neg (alA x.n x.e y.n y.e) y.neg (alB x.n x.e y.n y.e)) (alE x.n x.e y.n y.e)
def negT (y : DyT) : DyT := ⟨!y.neg && decide (y.n ≠ 0), y.l, y.e⟩
def subR (x y : DyT) : DyT := addR x (negT y)
/-- What an operation answers. -/
def res2 (R : DyT → DyT → DyT) (x y : DyT) : DyT := if dyOkB x && dyOkB y && dyFit (R x y) then R x y else zT
def ok2 (R : DyT → DyT → DyT) (x y : DyT) : Bool := dyOkB x && dyOkB y && dyFit (R x y)
theorem res2_ok {R : DyT → DyT → DyT} {x y : DyT} (h : dyOkB x = true) (h' : dyOkB y = true) : res2 R x y = fitT (R x y) ∧ ok2 R x y = dyFit (R x y) := by
  unfold res2 ok2 fitT; rw [h, h']; simp
theorem res2_no {R : DyT → DyT → DyT} {x y : DyT} (h : (dyOkB x && dyOkB y) = false) : res2 R x y = zT ∧ ok2 R x y = false := by
  unfold res2 ok2; rw [h]; simp
theorem fitT_len (r : DyT) : (fitT r).l.length ≤ 100 := by
  unfold fitT
  cases h : dyFit r with
  | false => simp [zT]
  | true => unfold dyFit at h; simp at h; simp only [if_true]; omega
theorem res2_len {R : DyT → DyT → DyT} {x y : DyT} : (res2 R x y).l.length ≤ 100 := by
  cases h : (dyOkB x && dyOkB y) with
  | false => rw [(res2_no h).1]; simp [zT]
  | true => rw [Bool.and_eq_true] at h; rw [(res2_ok h.1 h.2).1]; exact fitT_len _
/-- A valid one, whole. -/
theorem okD {x : DyT} (hx : dyOkB x = true) : x.l = D x.n ∧ (D x.n).length ≤ 100 ∧ -3000 ≤ x.e ∧ x.e ≤ 3000 ∧ (x.n = 0 → x.neg = false) := by
  obtain ⟨n, h1, h2, h3, h4, h5⟩ := (dyOkB_iff x).1 hx
  have : x.n = n := by unfold DyT.n; rw [h1, val_D]; rfl
  rw [this]
  refine ⟨h1, by omega, by omega, by omega, fun h => ?_⟩
  rcases h5 with ⟨_, h, _⟩ | h5
  · exact h
  · omega
section
variable {x y : DyT}
theorem neg_dbl {b : Nat} {m : Bool} (h : b = 0 → m = false) : (!(!m && decide (b ≠ 0)) && decide (b ≠ 0)) = m := by
  by_cases h0 : b = 0
  · rw [h h0]; simp [h0]
  · cases m <;> simp [h0]
theorem al_small {a b : Nat} {ex ey : Int} (ha : (D a).length ≤ 100) (hb : (D b).length ≤ 100) (he : -3000 ≤ ex) (he' : ex ≤ 3000) (hf : -3000 ≤ ey) (hf' : ey ≤ 3000) : (D (alA a ex b ey)).length < 1000 ∧ (D (alB a ex b ey)).length < 1000 ∧ -3000 ≤ alE a ex b ey ∧ alE a ex b ey ≤ 3000 := by
  have q1 : -3000 ≤ alE a ex b ey ∧ alE a ex b ey ≤ 3000 := by unfold alE; split <;> (try split) <;> (try split) <;> omega
  have h1 := len_shl a (ex - alE a ex b ey).toNat
  have h2 := len_shl b (ey - alE a ex b ey).toNat
  unfold alA alB
  omega
end
end
/- Comparison of dyadics is comparison of numbers. Plain law. No conditions. -/
section
open Num
def sg (n : Bool) (a : Nat) : Int := if n then -(a : Int) else a
theorem cmpI_le (a b : Nat) : cmpI a b ≤ 0 ↔ a ≤ b := by
  unfold cmpI
  split
  · omega
  · split <;> omega
theorem cmpI_eq (a b : Nat) : cmpI a b = 0 ↔ a = b := by
  unfold cmpI
  split
  · omega
  · split <;> omega
theorem scmp_le {n m : Bool} {a b : Nat} (ha : a = 0 → n = false) (hb : b = 0 → m = false) : scmp n a m b ≤ 0 ↔ sg n a ≤ sg m b := by
  unfold scmp sg
  cases n <;> cases m <;> simp [cmpI_le] <;> simp at ha hb <;> omega
theorem scmp_eq {n m : Bool} {a b : Nat} (ha : a = 0 → n = false) (hb : b = 0 → m = false) : scmp n a m b = 0 ↔ sg n a = sg m b := by
  unfold scmp sg
  cases n <;> cases m <;> simp [cmpI_eq] <;> simp at ha hb <;> omega
theorem sg_mul (n : Bool) (a k : Nat) : sg n (a * k) = sg n a * k := by
  unfold sg; cases n <;> simp [Int.neg_mul]
/-- The number, scaled. -/
def DyT.sv (K : Int) (x : DyT) : Int := sg x.neg x.n * (2 ^ (x.e - K).toNat : Nat)
theorem al_sv {a : Nat} {ex ey K : Int} {b : Nat} (hx : K ≤ ex) (hy : K ≤ ey) : a * 2 ^ (ex - K).toNat = alA a ex b ey * 2 ^ (alE a ex b ey - K).toNat ∧ b * 2 ^ (ey - K).toNat = alB a ex b ey * 2 ^ (alE a ex b ey - K).toNat := by
  unfold alA alB alE
  by_cases hb : b = 0
  · subst hb
    simp
  · by_cases ha : a = 0
    · subst ha
      simp [hb]
    · rw [if_neg hb, if_neg ha]
      by_cases h : ey < ex
      · rw [if_pos h, Nat.mul_assoc, ← Nat.pow_add, Int.sub_self]
        refine ⟨by rw [show (ex - ey).toNat + (ey - K).toNat = (ex - K).toNat by omega], by simp⟩
      · rw [if_neg h, Nat.mul_assoc b, ← Nat.pow_add, Int.sub_self]
        refine ⟨by simp, by rw [show (ey - ex).toNat + (ex - K).toNat = (ey - K).toNat by omega]⟩
theorem al_zero {a : Nat} {ex ey : Int} {b : Nat} : (alA a ex b ey = 0 ↔ a = 0) ∧ (alB a ex b ey = 0 ↔ b = 0) := by
  unfold alA alB
  have h1 := Nat.two_pow_pos (ex - alE a ex b ey).toNat
  have h2 := Nat.two_pow_pos (ey - alE a ex b ey).toNat
  refine ⟨⟨fun h => ?_, fun h => by rw [h, Nat.zero_mul]⟩, ⟨fun h => ?_, fun h => by rw [h, Nat.zero_mul]⟩⟩
  · rcases Nat.mul_eq_zero.1 h with h | h <;> omega
  · rcases Nat.mul_eq_zero.1 h with h | h <;> omega
theorem dcmp_sv {x y : DyT} {K : Int} (hx : dyOkB x = true) (hy : dyOkB y = true) (h1 : K ≤ x.e) (h2 : K ≤ y.e) : (dcmp x y ≤ 0 ↔ x.sv K ≤ y.sv K) ∧ (dcmp x y = 0 ↔ x.sv K = y.sv K) := by
  obtain ⟨_, _, _, _, a4⟩ := ok_D hx
  obtain ⟨_, _, _, _, b4⟩ := ok_D hy
  unfold dcmp DyT.sv
  have z := al_zero (a := x.n) (ex := x.e) (ey := y.e) (b := y.n)
  have za : alA x.n x.e y.n y.e = 0 → x.neg = false := fun h => a4 (z.1.1 h)
  have zb : alB x.n x.e y.n y.e = 0 → y.neg = false := fun h => b4 (z.2.1 h)
  rw [scmp_le za zb, scmp_eq za zb, ← sg_mul, ← sg_mul, (al_sv h1 h2).1, (al_sv h1 h2).2, sg_mul, sg_mul]
  have hp : (0 : Int) < (2 ^ (alE x.n x.e y.n y.e - K).toNat : Nat) := by exact_mod_cast Nat.two_pow_pos _
  exact ⟨⟨fun h => Int.mul_le_mul_of_nonneg_right h (Int.le_of_lt hp), fun h => Int.le_of_mul_le_mul_right h hp⟩, ⟨fun h => by rw [h], fun h => Int.eq_of_mul_eq_mul_right (by omega) h⟩⟩
theorem dyOk_e {x : DyT} (hx : dyOkB x = true) : -3000 ≤ x.e := by
  obtain ⟨_, _, _, h, _⟩ := (dyOkB_iff x).1 hx
  exact h
theorem dcmp_le {x y : DyT} (hx : dyOkB x = true) (hy : dyOkB y = true) : dcmp x y ≤ 0 ↔ x.sv (-3000) ≤ y.sv (-3000) := (dcmp_sv hx hy (dyOk_e hx) (dyOk_e hy)).1
theorem dcmp_eq {x y : DyT} (hx : dyOkB x = true) (hy : dyOkB y = true) : dcmp x y = 0 ↔ x.sv (-3000) = y.sv (-3000) := (dcmp_sv hx hy (dyOk_e hx) (dyOk_e hy)).2
theorem dcmp_trans {x y z : DyT} (hx : dyOkB x = true) (hy : dyOkB y = true) (hz : dyOkB z = true) (h1 : dcmp x y ≤ 0) (h2 : dcmp y z ≤ 0) : dcmp x z ≤ 0 :=
  (dcmp_le hx hz).2 (Int.le_trans ((dcmp_le hx hy).1 h1) ((dcmp_le hy hz).1 h2))
end
/- The laws of a ring for dyadic numbers. Plain law. No conditions. -/
section
open Num
theorem sg_zero (n : Bool) (a : Nat) : sg n a = 0 ↔ a = 0 := by unfold sg; cases n <;> simp
theorem sg_inj {n m : Bool} {a b : Nat} (h0 : a ≠ 0) (h : sg n a = sg m b) : n = m ∧ a = b := by
  unfold sg at h; cases n <;> cases m <;> simp at h ⊢ <;> omega
theorem sg_pow (n : Bool) (a k : Nat) : sg n a * ((2 ^ k : Nat) : Int) = sg n (a * 2 ^ k) := (sg_mul n a (2 ^ k)).symm
theorem oddq : ∀ (i j : Nat) {a b : Nat}, a % 2 = 1 → b % 2 = 1 → a * 2 ^ i = b * 2 ^ j → a = b ∧ i = j
  | 0, 0, a, b, _, _, h => by simpa using h
  | 0, j + 1, a, b, ha, _, h => by
    rw [Nat.pow_zero, Nat.mul_one, Nat.pow_succ, ← Nat.mul_assoc] at h; omega
  | i + 1, 0, a, b, _, hb, h => by
    rw [Nat.pow_zero, Nat.mul_one, Nat.pow_succ, ← Nat.mul_assoc] at h; omega
  | i + 1, j + 1, a, b, ha, hb, h => by
    rw [Nat.pow_succ, ← Nat.mul_assoc, Nat.pow_succ, ← Nat.mul_assoc] at h
    obtain ⟨h1, h2⟩ := oddq i j ha hb (Nat.eq_of_mul_eq_mul_right (by omega) h)
    exact ⟨h1, by omega⟩
theorem tz_split {a : Nat} (h : a ≠ 0) : a = a / 2 ^ tz a * 2 ^ tz a := by
  obtain ⟨o, ho⟩ := tz_spec h
  have hd : a / 2 ^ tz a = 2 * o + 1 := by
    conv => lhs; lhs; rw [ho]
    exact Nat.mul_div_cancel_left _ (Nat.two_pow_pos _)
  rw [hd, Nat.mul_comm]; exact ho
theorem mkD_uniq {n m : Bool} {a b : Nat} {e f K : Int} (he : K ≤ e) (hf : K ≤ f) (h : sg n a * ((2 ^ (e - K).toNat : Nat) : Int) = sg m b * ((2 ^ (f - K).toNat : Nat) : Int)) : mkD n a e = mkD m b f := by
  rw [sg_pow, sg_pow] at h
  by_cases h0 : a = 0
  · subst h0
    rw [Nat.zero_mul] at h
    have hb : b = 0 := by
      have := (sg_zero m (b * 2 ^ (f - K).toNat)).1 (by rw [← h]; exact (sg_zero n 0).2 rfl)
      rcases Nat.mul_eq_zero.1 this with h | h
      · exact h
      · have := Nat.two_pow_pos (f - K).toNat; omega
    subst hb
    unfold mkD
    rw [if_pos rfl, if_pos rfl]
  · have hp := Nat.two_pow_pos (e - K).toNat
    obtain ⟨h1, h2⟩ := sg_inj (Nat.mul_ne_zero h0 (by omega)) h
    have hb : b ≠ 0 := by
      rintro rfl
      rw [Nat.zero_mul] at h2
      rcases Nat.mul_eq_zero.1 h2 with h | h <;> omega
    subst h1
    unfold mkD
    rw [if_neg h0, if_neg hb]
    have ha2 := tz_split h0
    have hb2 := tz_split hb
    have oa := tz_bit h0
    have ob := tz_bit hb
    generalize a / 2 ^ tz a = A at *
    generalize b / 2 ^ tz b = B at *
    rw [ha2, hb2, Nat.mul_assoc, Nat.mul_assoc, ← Nat.pow_add, ← Nat.pow_add] at h2
    obtain ⟨h3, h4⟩ := oddq _ _ oa ob h2
    rw [h3]
    have h5 : e + (tz a : Int) = f + (tz b : Int) := by omega
    rw [h5]
theorem ss_sum (n m : Bool) (a b : Nat) : sg (ssN n a m b) (ssV n a m b) = sg n a + sg m b := by
  unfold ssN ssV sg
  by_cases h : b ≤ a <;> cases n <;> cases m <;> simp [h] <;> omega
section
variable {x y z : DyT}
/-- A valid one is its own one form. -/
theorem mkD_self (hx : dyOkB x = true) : mkD x.neg x.n x.e = x := by
  obtain ⟨n, h1, h2, h3, h4, h5⟩ := (dyOkB_iff x).1 hx
  have hn : x.n = n := by unfold DyT.n; rw [h1, val_D]; rfl
  rw [hn]
  unfold mkD
  rcases h5 with ⟨k1, k2, k3⟩ | k
  · subst k1
    rw [if_pos rfl]
    cases x
    simp only at h1 k2 k3
    rw [D_zero] at h1
    rw [h1, k2, k3]
  · have h0 : n ≠ 0 := by omega
    rw [if_neg h0]
    have ha2 := tz_split h0
    have ob := tz_bit h0
    have hz : n / 2 ^ tz n = n ∧ tz n = 0 := oddq (tz n) 0 ob k (by rw [Nat.pow_zero, Nat.mul_one]; exact ha2.symm)
    rw [hz.1, hz.2, ← h1]
    cases x
    simp
theorem addR_sv (hx : dyOkB x = true) (hy : dyOkB y = true) (K : Int) (hK : K ≤ -3000) : ∃ n a e, addR x y = mkD n a e ∧ -3000 ≤ e ∧ sg n a * ((2 ^ (e - K).toNat : Nat) : Int) = x.sv K + y.sv K := by
  obtain ⟨_, x1, x2, x3, _⟩ := okD hx
  obtain ⟨_, y1, y2, y3, _⟩ := okD hy
  obtain ⟨_, _, e3, _⟩ := al_small x1 y1 x2 x3 y2 y3
  refine ⟨_, _, _, rfl, e3, ?_⟩
  rw [ss_sum, Int.add_mul, sg_pow, sg_pow]
  obtain ⟨h1, h2⟩ := al_sv (a := x.n) (ex := x.e) (ey := y.e) (b := y.n) (K := K) (by omega) (by omega)
  rw [← h1, ← h2, ← sg_pow, ← sg_pow]
  rfl
theorem addR_comm (hx : dyOkB x = true) (hy : dyOkB y = true) : addR x y = addR y x := by
  obtain ⟨n, a, e, h1, h2, h3⟩ := addR_sv hx hy (-3000) (by omega)
  obtain ⟨m, b, f, k1, k2, k3⟩ := addR_sv hy hx (-3000) (by omega)
  rw [h1, k1]
  exact mkD_uniq h2 k2 (by rw [h3, k3, Int.add_comm])
theorem mulR_comm : mulR x y = mulR y x := by
  unfold mulR
  rw [Nat.mul_comm, Int.add_comm, show (x.neg != y.neg) = (y.neg != x.neg) by cases x.neg <;> cases y.neg <;> rfl]
theorem negT_ok (hy : dyOkB y = true) : dyOkB (negT y) = true ∧ ∀ K, (negT y).sv K = -(y.sv K) := by
  obtain ⟨n, h1, h2, h3, h4, h5⟩ := (dyOkB_iff y).1 hy
  have hn : y.n = n := by unfold DyT.n; rw [h1, val_D]; rfl
  have hn' : (negT y).n = y.n := rfl
  refine ⟨(dyOkB_iff _).2 ⟨n, h1, h2, h3, h4, ?_⟩, fun K => ?_⟩
  · rcases h5 with ⟨k1, k2, k3⟩ | k
    · exact .inl ⟨k1, by unfold negT; simp [hn, k1], k3⟩
    · exact .inr k
  · unfold DyT.sv
    rw [hn']
    have e1 : (negT y).e = y.e := rfl
    rw [e1]
    have : sg (negT y).neg y.n = -(sg y.neg y.n) := by
      unfold negT sg
      by_cases h0 : y.n = 0
      · rw [h0]; cases y.neg <;> simp
      · cases y.neg <;> simp [h0]
    rw [this, Int.neg_mul]
theorem mkD_sv {n : Bool} {a : Nat} {e K : Int} (h : K ≤ e) : (mkD n a e).sv K = sg n a * ((2 ^ (e - K).toNat : Nat) : Int) := by
  unfold mkD
  by_cases h0 : a = 0
  · subst h0
    rw [if_pos rfl]
    unfold DyT.sv DyT.n
    rw [(sg_zero n 0).2 rfl]
    simp [sg, val]
  · rw [if_neg h0]
    have ha2 := tz_split h0
    have hv : (DyT.n ⟨n, D (a / 2 ^ tz a), e + tz a⟩) = a / 2 ^ tz a := by unfold DyT.n; rw [val_D]; rfl
    unfold DyT.sv
    rw [hv]
    simp only
    rw [sg_pow, sg_pow]
    generalize a / 2 ^ tz a = A at *
    rw [show (e + (tz a : Int) - K).toNat = tz a + (e - K).toNat by omega, Nat.pow_add, ← Nat.mul_assoc, ← ha2]
theorem subR_addR (hx : dyOkB x = true) (hy : dyOkB y = true) (hs : dyFit (addR x y) = true) : subR (addR x y) y = x := by
  obtain ⟨n, a, e, h1, h2, h3⟩ := addR_sv hx hy (-3000) (by omega)
  have hok : dyOkB (addR x y) = true := by rw [h1] at hs ⊢; rw [dyOkB_mkD]; exact hs
  obtain ⟨q1, q2⟩ := negT_ok hy
  obtain ⟨m, b, f, k1, k2, k3⟩ := addR_sv hok q1 (-3000) (by omega)
  unfold subR
  rw [k1, ← mkD_self hx]
  refine mkD_uniq k2 (dyOk_e hx) ?_
  rw [k3, q2, h1, mkD_sv h2, h3]
  unfold DyT.sv
  omega
theorem mulR_sv (hx : dyOkB x = true) (hy : dyOkB y = true) : ∃ n a e, mulR x y = mkD n a e ∧ -6000 ≤ e ∧ sg n a * ((2 ^ (e - (-6000)).toNat : Nat) : Int) = x.sv (-3000) * y.sv (-3000) := by
  have x2 := dyOk_e hx
  have y2 := dyOk_e hy
  refine ⟨_, _, _, rfl, by omega, ?_⟩
  unfold DyT.sv
  rw [sg_pow, sg_pow, sg_pow, show (x.e + y.e - -6000).toNat = (x.e - -3000).toNat + (y.e - -3000).toNat by omega, Nat.pow_add]
  generalize 2 ^ (x.e - -3000).toNat = P
  generalize 2 ^ (y.e - -3000).toNat = Q
  generalize x.n = A
  generalize y.n = B
  unfold sg
  have e1 : ((A * B * (P * Q) : Nat) : Int) = ((A * P : Nat) : Int) * ((B * Q : Nat) : Int) := by
    rw [← Int.natCast_mul]; congr 1
    rw [Nat.mul_mul_mul_comm]
  cases x.neg <;> cases y.neg <;> simp only [bne, Bool.false_eq_true, if_false, if_true, Bool.not_true, Bool.not_false, BEq.rfl, show (false == true) = false from rfl, show (true == false) = false from rfl] <;> rw [e1]
  · rw [Int.mul_neg]
  · rw [Int.neg_mul]
  · rw [Int.neg_mul_neg]
theorem sv_shift (hx : dyOkB x = true) : x.sv (-6000) = x.sv (-3000) * ((2 ^ 3000 : Nat) : Int) := by
  have x2 := dyOk_e hx
  unfold DyT.sv
  rw [show (x.e - -6000).toNat = (x.e - -3000).toNat + 3000 by omega, Nat.pow_add, Int.natCast_mul, Int.mul_assoc]
theorem distr (hx : dyOkB x = true) (hy : dyOkB y = true) (hz : dyOkB z = true) (hs : dyFit (addR x y) = true) (h1 : dyFit (mulR x z) = true) (h2 : dyFit (mulR y z) = true) : mulR (addR x y) z = addR (mulR x z) (mulR y z) := by
  obtain ⟨n, a, e, s1, s2, s3⟩ := addR_sv hx hy (-3000) (by omega)
  have hok : dyOkB (addR x y) = true := by rw [s1] at hs ⊢; rw [dyOkB_mkD]; exact hs
  obtain ⟨n1, a1, e1, p1, p2, p3⟩ := mulR_sv hok hz
  obtain ⟨n2, a2, e2, q1, q2, q3⟩ := mulR_sv hx hz
  obtain ⟨n3, a3, e3, r1, r2, r3⟩ := mulR_sv hy hz
  have ok2 : dyOkB (mulR x z) = true := by rw [q1] at h1 ⊢; rw [dyOkB_mkD]; exact h1
  have ok3 : dyOkB (mulR y z) = true := by rw [r1] at h2 ⊢; rw [dyOkB_mkD]; exact h2
  obtain ⟨n4, a4, e4, t1, t2, t3⟩ := addR_sv ok2 ok3 (-6000) (by omega)
  rw [p1, t1]
  refine mkD_uniq p2 (by omega) ?_
  rw [p3, t3, s1, mkD_sv s2, s3, q1, r1, mkD_sv q2, mkD_sv r2, q3, r3, Int.add_mul]
end
end
/- Whole numbers: sums, differences, products, opposites, comparison, program. No conditions. -/
section
open Num
structure WhT where
  neg : Bool
  l : List Int
def WhT.z (w : WhT) : Int := sg w.neg (nN w.l)
def wOk (w : WhT) : Bool := wholeOkB w.neg w.l
/-- The one form of an integer. -/
def wz (z : Int) : WhT := ⟨decide (z < 0), D z.natAbs⟩
theorem wOk_t {w : WhT} (h : wOk w = true) : w = wz w.z ∧ (D w.z.natAbs).length ≤ 100 ∧ w.l = D (nN w.l) ∧ (D (nN w.l)).length ≤ 100 ∧ (nN w.l = 0 → w.neg = false) := by
  unfold wOk wholeOkB at h
  rw [Bool.and_eq_true] at h
  obtain ⟨e, hl⟩ := okN h.1
  have hz : nN w.l = 0 → w.neg = false := fun h0 => by
    have : w.l = [] := by rw [e, h0, D_zero]
    have h2 := h.2
    rw [this] at h2; simpa using h2
  have hn : w.z.natAbs = nN w.l := by unfold WhT.z sg; split <;> omega
  have hs : decide (w.z < 0) = w.neg := by
    unfold WhT.z sg
    cases hw : w.neg with
    | false => simp
    | true =>
      have : nN w.l ≠ 0 := fun h0 => by rw [hz h0] at hw; cases hw
      simp; omega
  refine ⟨?_, by rw [hn]; exact hl, e, hl, hz⟩
  unfold wz
  rw [hs, hn, ← e]
theorem wz_z (z : Int) : (wz z).z = z := by
  unfold WhT.z wz
  simp only
  rw [nN_D]
  unfold sg
  by_cases h : z < 0 <;> simp [h] <;> omega
theorem wz_ok {z : Int} (h : (D z.natAbs).length ≤ 100) : wOk (wz z) = true := by
  unfold wOk wz wholeOkB
  rw [natOk_D h]
  by_cases h0 : z = 0
  · subst h0; simp
  · have : ¬ (D z.natAbs).length = 0 := fun e => by
      have := D_nil_iff.1 (List.eq_nil_of_length_eq_zero e); omega
    simp [this]
theorem sg_abs {n : Bool} {a : Nat} {z : Int} (h : sg n a = z) : a = z.natAbs ∧ (n && decide (a ≠ 0)) = decide (z < 0) := by
  subst h
  unfold sg
  cases n with
  | false => simp
  | true =>
    refine ⟨by simp, ?_⟩
    by_cases h0 : a = 0
    · subst h0; simp
    · simp [h0]; omega
def wfitB (z : Int) : Bool := decide ((D z.natAbs).length ≤ 100)
def wfit (z : Int) : WhT := if wfitB z then wz z else ⟨false, []⟩
theorem wfit_len (z : Int) : (wfit z).l.length ≤ 100 := by
  unfold wfit
  split
  · rename_i h; unfold wfitB at h; exact of_decide_eq_true h
  · simp
/-- What an operation answers. -/
def wf2 (op : Int → Int → Int) (a b : WhT) : Bool := wOk a && wOk b && wfitB (op a.z b.z)
def wr2 (op : Int → Int → Int) (a b : WhT) : WhT := if wOk a && wOk b then wfit (op a.z b.z) else ⟨false, []⟩
theorem wr2_len {op : Int → Int → Int} {a b : WhT} : (wr2 op a b).l.length ≤ 100 := by
  unfold wr2
  split
  · exact wfit_len _
  · simp
theorem wf2_t {op : Int → Int → Int} {a b : WhT} (h : wf2 op a b = true) : wOk a = true ∧ wOk b = true ∧ wr2 op a b = wz (op a.z b.z) ∧ (D (op a.z b.z).natAbs).length ≤ 100 := by
  unfold wf2 at h
  rw [Bool.and_eq_true, Bool.and_eq_true] at h
  refine ⟨h.1.1, h.1.2, ?_, of_decide_eq_true h.2⟩
  unfold wr2 wfit
  rw [h.1.1, h.1.2, h.2]; rfl
theorem wr2_comm {op : Int → Int → Int} (hc : ∀ x y, op x y = op y x) (a b : WhT) : wr2 op a b = wr2 op b a ∧ wf2 op a b = wf2 op b a := by
  unfold wr2 wf2
  rw [hc, Bool.and_comm (wOk a)]; exact ⟨rfl, rfl⟩
section
variable {a b : WhT}
theorem areWholes_v (d : Nat) (ha : a.l.length < 1000000000) (hb : b.l.length < 1000000000) : vrun Try.prog kn (d + 9) 93 [.agg [.bool a.neg, .ints .i64 a.l], .agg [.bool b.neg, .ints .i64 b.l]] [] = some (.bool (wOk a && wOk b), []) := by
  have h1 := fun d => WholeOk_v d a.neg ha
  have h2 := fun d => WholeOk_v d b.neg hb
  change ∀ d, _ = some (V.bool (wOk a), []) at h1
  change ∀ d, _ = some (V.bool (wOk b), []) at h2
  cases hq : wOk a <;> rw [hq] at h1
  all_goals
    rw [vrun_v Try.func93 rfl rfl rfl]; simp only [Try.f93]
    simp (disch := omega) [go_sem, tab93, h1, h2]
/-- A sign and a magnitude, made a whole number, of an integer. -/
theorem wholeZ_v (d : Nat) {n : Bool} {v : Nat} {z : Int} (h : sg n v = z) (hl : (D v).length < 1000000000) : vrun Try.prog kn (d + 3) 94 [.bool n, .ints .i64 (D v)] [] = some (.tup [.agg [.bool (wfit z).neg, .sl 0 0 (wfit z).l.length 1], .bool (wfitB z)], [.ints true .i64 (wfit z).l]) := by
  obtain ⟨h1, h2⟩ := sg_abs h
  have hw := wholeOf_v d n (l := D v) hl
  rw [hw]
  unfold wfit wfitB
  rw [← h1]
  by_cases hc : (D v).length ≤ 100
  · have e : fitL (D v) = D v := by unfold fitL; rw [if_pos hc]
    rw [e, decide_eq_true hc]
    have e2 : (n && !decide ((D v).length = 0) && true) = (wz z).neg := by
      show _ = decide (z < 0)
      rw [← h2]
      by_cases h0 : v = 0
      · subst h0; rw [D_zero]; simp
      · have : ¬ (D v).length = 0 := fun e => h0 (D_nil_iff.1 (List.eq_nil_of_length_eq_zero e))
        simp [this, h0]
    have e3 : (wz z).l = D v := by show D z.natAbs = D v; rw [← h1]
    rw [e2]
    simp only [if_true, e3]
  · have e : fitL (D v) = [] := by unfold fitL; rw [if_neg hc]
    rw [e, decide_eq_false hc]
    simp
theorem WholeAdd_v (d : Nat) (ha : a.l.length < 1000000000) (hb : b.l.length < 1000000000) : vrun Try.prog kn (d + 10) 30 [.agg [.bool a.neg, .ints .i64 a.l], .agg [.bool b.neg, .ints .i64 b.l]] [] = some (.tup [.agg [.bool (wr2 (· + ·) a b).neg, .sl 0 0 (wr2 (· + ·) a b).l.length 1], .bool (wf2 (· + ·) a b)], [.ints true .i64 (wr2 (· + ·) a b).l]) := by
  have h1 := fun d => areWholes_v d ha hb
  unfold wr2 wf2
  cases hq : wOk a && wOk b
  · rw [hq] at h1
    rw [vrun_v Try.func30 rfl rfl rfl]; simp only [Try.f30]
    simp (disch := omega) [go_sem, tab30, h1]
  · rw [hq] at h1
    rw [Bool.and_eq_true] at hq
    obtain ⟨_, _, e1, l1, _⟩ := wOk_t hq.1
    obtain ⟨_, _, e2, l2, _⟩ := wOk_t hq.2
    have h2 := fun d => signedSum_v (n := a.neg) (m := b.neg) (a := nN a.l) (b := nN b.l) d (by omega) (by omega)
    have hl := ssV_len (n := a.neg) (m := b.neg) (k := 101) (a := nN a.l) (b := nN b.l) (by omega) (by omega)
    have hs : sg (ssN a.neg (nN a.l) b.neg (nN b.l)) (ssV a.neg (nN a.l) b.neg (nN b.l)) = a.z + b.z := ss_sum _ _ _ _
    have h3 := fun d => wholeZ_v d hs (by omega)
    rw [← e1, ← e2] at h2
    simp only [Bool.true_and, if_true]
    generalize a.z + b.z = z at *
    generalize ssN a.neg (nN a.l) b.neg (nN b.l) = s at *
    generalize D (ssV a.neg (nN a.l) b.neg (nN b.l)) = R at *
    generalize wfit z = q at *
    generalize wfitB z = f at *
    rw [vrun_v Try.func30 rfl rfl rfl]; simp only [Try.f30]
    simp (disch := omega) [go_sem, tab30, h1, h2, h3]
theorem WholeSub_v (d : Nat) (ha : a.l.length < 1000000000) (hb : b.l.length < 1000000000) : vrun Try.prog kn (d + 10) 37 [.agg [.bool a.neg, .ints .i64 a.l], .agg [.bool b.neg, .ints .i64 b.l]] [] = some (.tup [.agg [.bool (wr2 (· - ·) a b).neg, .sl 0 0 (wr2 (· - ·) a b).l.length 1], .bool (wf2 (· - ·) a b)], [.ints true .i64 (wr2 (· - ·) a b).l]) := by
  have h1 := fun d => areWholes_v d ha hb
  unfold wr2 wf2
  cases hq : wOk a && wOk b
  · rw [hq] at h1
    rw [vrun_v Try.func37 rfl rfl rfl]; simp only [Try.f37]
    simp (disch := omega) [go_sem, tab37, h1]
  · rw [hq] at h1
    rw [Bool.and_eq_true] at hq
    obtain ⟨_, _, e1, l1, _⟩ := wOk_t hq.1
    obtain ⟨_, _, e2, l2, _⟩ := wOk_t hq.2
    have h2 := fun d => signedSum_v (n := a.neg) (m := !b.neg) (a := nN a.l) (b := nN b.l) d (by omega) (by omega)
    have hl := ssV_len (n := a.neg) (m := !b.neg) (k := 101) (a := nN a.l) (b := nN b.l) (by omega) (by omega)
    have hs : sg (ssN a.neg (nN a.l) (!b.neg) (nN b.l)) (ssV a.neg (nN a.l) (!b.neg) (nN b.l)) = a.z - b.z := by
      rw [ss_sum]; unfold WhT.z sg; cases b.neg <;> simp <;> omega
    have h3 := fun d => wholeZ_v d hs (by omega)
    rw [← e1, ← e2] at h2
    simp only [Bool.true_and, if_true]
    generalize a.z - b.z = z at *
    generalize ssN a.neg (nN a.l) (!b.neg) (nN b.l) = s at *
    generalize D (ssV a.neg (nN a.l) (!b.neg) (nN b.l)) = R at *
    generalize wfit z = q at *
    generalize wfitB z = f at *
    rw [vrun_v Try.func37 rfl rfl rfl]; simp only [Try.f37]
    simp (disch := omega) [go_sem, tab37, h1, h2, h3]
theorem WholeMul_v (d : Nat) (ha : a.l.length < 1000000000) (hb : b.l.length < 1000000000) : vrun Try.prog kn (d + 10) 31 [.agg [.bool a.neg, .ints .i64 a.l], .agg [.bool b.neg, .ints .i64 b.l]] [] = some (.tup [.agg [.bool (wr2 (· * ·) a b).neg, .sl 0 0 (wr2 (· * ·) a b).l.length 1], .bool (wf2 (· * ·) a b)], [.ints true .i64 (wr2 (· * ·) a b).l]) := by
  have h1 := fun d => areWholes_v d ha hb
  unfold wr2 wf2
  cases hq : wOk a && wOk b
  · rw [hq] at h1
    rw [vrun_v Try.func31 rfl rfl rfl]; simp only [Try.f31]
    simp (disch := omega) [go_sem, tab31, h1]
  · rw [hq] at h1
    rw [Bool.and_eq_true] at hq
    obtain ⟨_, _, e1, l1, _⟩ := wOk_t hq.1
    obtain ⟨_, _, e2, l2, _⟩ := wOk_t hq.2
    have h2 := fun d => times_v (x := nN a.l) (y := nN b.l) d (by omega) (by omega)
    have hl := len_mul (nN a.l) (nN b.l)
    have hs : sg (a.neg != b.neg) (nN a.l * nN b.l) = a.z * b.z := by
      unfold WhT.z sg
      cases a.neg <;> cases b.neg <;> simp [Int.neg_mul, Int.mul_neg]
    have h3 := fun d => wholeZ_v d hs (by omega)
    rw [← e1, ← e2] at h2
    simp only [Bool.true_and, if_true]
    generalize a.z * b.z = z at *
    generalize D (nN a.l * nN b.l) = R at *
    generalize wfit z = q at *
    generalize wfitB z = f at *
    clear e1 e2 hs hq
    generalize a.neg = an at *
    generalize b.neg = bn at *
    cases an <;> cases bn
    all_goals
      simp only [show (true != true) = false from rfl, show (true != false) = true from rfl, show (false != true) = true from rfl, show (false != false) = false from rfl] at h3
      rw [vrun_v Try.func31 rfl rfl rfl]; simp only [Try.f31]
      simp (disch := omega) [go_sem, tab31, h1, h2, h3]
theorem own_v (d : Nat) (ha : a.l.length < 1000000000) : vrun Try.prog kn (d + 2) 142 [.agg [.bool a.neg, .ints .i64 a.l]] [] = some (.agg [.bool a.neg, .sl 0 0 a.l.length 1], [.ints true .i64 a.l]) := by
  have h1 := fun d => clone_v d ha
  rw [vrun_v Try.func142 rfl rfl rfl]; simp only [Try.f142]
  simp (disch := omega) [go_sem, tab142, h1]
theorem negated_v (d : Nat) (ha : a.l.length < 1000000000) : vrun Try.prog kn (d + 3) 96 [.agg [.bool a.neg, .ints .i64 a.l]] [] = some (.agg [.bool (!a.neg && decide (a.l ≠ [])), .sl 0 0 a.l.length 1], [.ints true .i64 a.l]) := by
  have h1 := fun d => own_v (a := a) d ha
  generalize a.neg = an at *
  by_cases h : a.l = []
  · rw [h] at h1 ⊢
    cases an
    all_goals
      rw [vrun_v Try.func96 rfl rfl rfl]; simp only [Try.f96]
      simp (disch := omega) [go_sem, tab96, h1]
  · have hp : 0 < a.l.length := List.length_pos_iff.2 h
    cases an
    all_goals
      rw [vrun_v Try.func96 rfl rfl rfl]; simp only [Try.f96]
      simp (disch := omega) [go_sem, tab96, h1, h]
def wneg (a : WhT) : WhT := if wOk a then wz (-a.z) else ⟨false, []⟩
theorem wneg_len : (wneg a).l.length ≤ 100 := by
  unfold wneg
  split
  · rename_i h
    obtain ⟨_, h2, _⟩ := wOk_t h
    show (D (-a.z).natAbs).length ≤ 100
    rw [Int.natAbs_neg]; exact h2
  · simp
theorem WholeNeg_v (d : Nat) (ha : a.l.length < 1000000000) : vrun Try.prog kn (d + 9) 32 [.agg [.bool a.neg, .ints .i64 a.l]] [] = some (.agg [.bool (wneg a).neg, .sl 0 0 (wneg a).l.length 1], [.ints true .i64 (wneg a).l]) := by
  have h1 := fun d => WholeOk_v d a.neg ha
  change ∀ d, _ = some (V.bool (wOk a), []) at h1
  unfold wneg
  cases h : wOk a with
  | false =>
    rw [h] at h1
    rw [vrun_v Try.func32 rfl rfl rfl]; simp only [Try.f32]
    simp (disch := omega) [go_sem, tab32, h1]
  | true =>
    rw [h] at h1
    obtain ⟨h0, h2, h3, h4, h5⟩ := wOk_t h
    have h6 := fun d => negated_v (a := a) d ha
    have e1 : (!a.neg && decide (a.l ≠ [])) = (wz (-a.z)).neg := by
      show _ = decide (-a.z < 0)
      unfold WhT.z sg
      by_cases hz : nN a.l = 0
      · have : a.l = [] := by rw [h3, hz, D_zero]
        rw [hz, this]; cases a.neg <;> simp
      · have : a.l ≠ [] := fun e => hz (by rw [e]; rfl)
        cases a.neg <;> simp [this] <;> omega
    have e2 : (wz (-a.z)).l = a.l := by
      show D (-a.z).natAbs = a.l
      have : (-a.z).natAbs = nN a.l := by unfold WhT.z sg; split <;> omega
      rw [this, ← h3]
    rw [e1] at h6
    simp only [if_true, e2]
    generalize (wz (-a.z)).neg = q at *
    rw [vrun_v Try.func32 rfl rfl rfl]; simp only [Try.f32]
    simp (disch := omega) [go_sem, tab32, h1, h6]
def icmp (x y : Int) : Int := if x < y then -1 else if x = y then 0 else 1
def wcmp (a b : WhT) : Int := if wOk a && wOk b then icmp a.z b.z else 0
theorem scmp_icmp {n m : Bool} {x y : Nat} (ha : x = 0 → n = false) (hb : y = 0 → m = false) : scmp n x m y = icmp (sg n x) (sg m y) := by
  unfold scmp icmp sg cmpI
  cases n <;> cases m <;> simp at ha hb ⊢ <;> (repeat' split) <;> omega
theorem WholeCmp_v (d : Nat) (ha : a.l.length < 1000000000) (hb : b.l.length < 1000000000) : vrun Try.prog kn (d + 10) 38 [.agg [.bool a.neg, .ints .i64 a.l], .agg [.bool b.neg, .ints .i64 b.l]] [] = some (.int .i64 (wcmp a b), []) := by
  have h1 := fun d => areWholes_v d ha hb
  unfold wcmp
  cases hq : wOk a && wOk b
  · rw [hq] at h1
    rw [vrun_v Try.func38 rfl rfl rfl]; simp only [Try.f38]
    simp (disch := omega) [go_sem, tab38, h1]
  · rw [hq] at h1
    rw [Bool.and_eq_true] at hq
    obtain ⟨_, _, e1, l1, z1⟩ := wOk_t hq.1
    obtain ⟨_, _, e2, l2, z2⟩ := wOk_t hq.2
    have h2 := fun d => signedCompare_v (n := a.neg) (m := b.neg) (a := nN a.l) (b := nN b.l) d (by omega) (by omega)
    rw [← e1, ← e2, scmp_icmp z1 z2] at h2
    change ∀ d, _ = some (V.int .i64 (icmp a.z b.z), []) at h2
    generalize icmp a.z b.z = c at *
    rw [vrun_v Try.func38 rfl rfl rfl]; simp only [Try.f38]
    simp (disch := omega) [go_sem, tab38, h1, h2]
theorem WholeOf_s (d : Nat) {n : Int} (h0 : -1000000 ≤ n) (h1 : n ≤ 1000000) : vrun Try.prog kn (d + 4) 36 [.int .i64 n] [] = some (.agg [.bool (wz n).neg, .sl 0 0 (wz n).l.length 1], [.ints true .i64 (wz n).l]) := by
  have hl : (D n.natAbs).length ≤ 4 := len_small (by omega)
  have e0 : ((n.natAbs : Nat) : Int) = if n < -n then -n else n := by split <;> omega
  have a1 := fun d => small_v (n := n.natAbs) d (by omega)
  rw [e0] at a1
  have hs : sg (decide (n < 0)) n.natAbs = n := by unfold sg; split <;> simp_all <;> omega
  have a2 := fun d => wholeZ_v d hs (by omega)
  have e2 : wfitB n = true := by unfold wfitB; simp; omega
  have e3 : wfit n = wz n := by unfold wfit; rw [if_pos e2]
  rw [e2, e3] at a2
  have m1 : ∀ d, vrun Try.prog kn (d + 3) 97 [.int .i64 n] [] = some (.sl 0 0 (D n.natAbs).length 1, [.ints true .i64 (D n.natAbs)]) := fun d => by
    have hm : ¬ n = -9223372036854775808 := by omega
    generalize D n.natAbs = R at *
    clear hs
    by_cases hn : n < -n
    · rw [if_pos hn] at a1
      rw [vrun_v Try.func97 rfl rfl rfl]; simp only [Try.f97]
      simp (disch := omega) [go_sem, tab97, nil97, a1, hm]
    · rw [if_neg hn] at a1
      rw [vrun_v Try.func97 rfl rfl rfl]; simp only [Try.f97]
      simp (disch := omega) [go_sem, tab97, nil97, a1, hm]
  clear a1 e0 hs e3
  generalize D n.natAbs = R at *
  generalize hq : wz n = q at *
  generalize hr : decide (n < 0) = r at *
  rw [vrun_v Try.func36 rfl rfl rfl]; simp only [Try.f36]
  cases r
  · have hn : ¬ n < 0 := of_decide_eq_false hr
    simp (disch := omega) [go_sem, tab36, m1, a2, hn]
  · have hn : n < 0 := of_decide_eq_true hr
    simp (disch := omega) [go_sem, tab36, m1, a2, hn]
end
end
/- Whole numbers: quotients and rests, program. No conditions. -/
section
open Num
/-- Quotient and rest, in signs and magnitudes. -/
def dvQ (n : Bool) (A B : Nat) : Nat := if n && decide (A % B ≠ 0) then A / B + 1 else A / B
def dvR (n : Bool) (A B : Nat) : Nat := if n && decide (A % B ≠ 0) then B - A % B else A % B
theorem dv_sg {n m : Bool} {A B : Nat} (h0 : B ≠ 0) : sg (n != m) (dvQ n A B) = sg n A / sg m B ∧ (dvR n A B : Int) = sg n A % sg m B := by
  have hd := Nat.div_add_mod A B
  have hl : A % B < B := Nat.mod_lt _ (by omega)
  have hb : (sg m B).natAbs = B := by unfold sg; split <;> omega
  have e1 : sg n A = sg m B * sg (n != m) (dvQ n A B) + dvR n A B := by
    have hdz : (A : Int) = (B : Int) * (A / B : Nat) + (A % B : Nat) := by exact_mod_cast hd.symm
    unfold dvQ dvR
    by_cases hr : A % B = 0
    · rw [hr] at hdz ⊢
      generalize A / B = Q at *
      unfold sg
      cases n <;> cases m <;> simp <;> rw [hdz] <;> simp [Int.neg_mul, Int.mul_neg]
    · have hs : ((B - A % B : Nat) : Int) = B - (A % B : Nat) := by omega
      have hp : ((A / B + 1 : Nat) : Int) = (A / B : Nat) + 1 := by omega
      generalize hR : A % B = R at *
      generalize hQ : A / B = Q at *
      unfold sg
      cases n <;> cases m <;> simp only [hr, ne_eq, not_false_eq_true, decide_true, Bool.false_and, Bool.true_and, if_true, if_false, Bool.false_eq_true, bne_self_eq_false, Bool.bne_true, Bool.bne_false, Bool.not_true, Bool.not_false, hs, hp] <;> rw [hdz] <;> simp only [Int.neg_mul, Int.mul_neg, Int.neg_neg, Int.mul_add] <;> omega
  have h1 : (dvR n A B : Int) < (sg m B).natAbs := by
    rw [hb]; unfold dvR
    split <;> rename_i hc
    · simp at hc; omega
    · omega
  have hne : sg m B ≠ 0 := by intro h; rw [h] at hb; simp at hb; omega
  generalize sg (n != m) (dvQ n A B) = q at *
  generalize sg m B = b at *
  generalize sg n A = a at *
  have hr0 : (0 : Int) ≤ dvR n A B := by omega
  generalize (dvR n A B : Int) = r at *
  have hm : a % b = r := by
    rw [e1, Int.add_comm, Int.add_mul_emod_self_left]
    rcases Int.natAbs_eq b with h | h
    · rw [h, Int.emod_eq_of_lt hr0 h1]
    · rw [h, Int.emod_neg, Int.emod_eq_of_lt hr0 h1]
  have hq := Int.mul_ediv_add_emod a b
  rw [hm] at hq
  exact ⟨Int.eq_of_mul_eq_mul_left hne (by omega), hm.symm⟩
section
variable {a b : WhT}
def wdF (a b : WhT) : Bool := wOk a && wOk b && decide (b.l ≠ []) && wfitB (a.z / b.z)
def wdQ (a b : WhT) : WhT := if wdF a b then wz (a.z / b.z) else ⟨false, []⟩
def wdR (a b : WhT) : WhT := if wdF a b then wz (a.z % b.z) else ⟨false, []⟩
theorem wOk_nN {w : WhT} (h : wOk w = true) : w.z.natAbs = nN w.l ∧ (w.l ≠ [] → w.z ≠ 0 ∧ nN w.l ≠ 0) := by
  obtain ⟨_, _, e, _, _⟩ := wOk_t h
  have hn : w.z.natAbs = nN w.l := by unfold WhT.z sg; split <;> omega
  refine ⟨hn, fun hne => ?_⟩
  have : nN w.l ≠ 0 := fun h0 => hne (by rw [e, h0, D_zero])
  exact ⟨fun hz => this (by rw [← hn, hz]; rfl), this⟩
theorem wdF_t (h : wdF a b = true) : wOk a = true ∧ wOk b = true ∧ b.l ≠ [] ∧ (D (a.z / b.z).natAbs).length ≤ 100 ∧ (D (a.z % b.z).natAbs).length ≤ 100 := by
  unfold wdF at h
  simp only [Bool.and_eq_true, decide_eq_true_eq] at h
  obtain ⟨⟨⟨h1, h2⟩, h3⟩, h4⟩ := h
  refine ⟨h1, h2, h3, of_decide_eq_true h4, ?_⟩
  obtain ⟨hn, hz⟩ := wOk_nN h2
  have := Int.emod_lt a.z (hz h3).1
  have h0 := Int.emod_nonneg a.z (hz h3).1
  exact Nat.le_trans (len_D_mono (by omega)) (wOk_t h2).2.1
theorem wdQ_len : (wdQ a b).l.length ≤ 100 ∧ (wdR a b).l.length ≤ 100 := by
  unfold wdQ wdR
  cases h : wdF a b with
  | false => simp
  | true =>
    obtain ⟨_, _, _, l1, l2⟩ := wdF_t h
    exact ⟨l1, l2⟩
set_option maxHeartbeats 2000000 in
theorem WholeDiv_w (d : Nat) {n m : Bool} {x y Q R Q1 R1 S1 : List Int} {W : WhT} {F : Bool} (hy : y ≠ []) (lx : x.length < 1000000000) (ly : y.length < 1000000000) (lQ : Q.length ≤ 100) (lQ1 : Q1.length ≤ 101) (lR : R.length ≤ 100) (lR1 : R1.length ≤ 100) (lS : S1.length ≤ 4) (lW : W.l.length ≤ 100)
    (h1 : ∀ d, vrun Try.prog kn (d + 9) 93 [.agg [.bool n, .ints .i64 x], .agg [.bool m, .ints .i64 y]] [] = some (.bool true, []))
    (h2 : ∀ d, vrun Try.prog kn (d + 4) 108 [.ints .i64 x, .ints .i64 y] [] = some (.tup [.sl 0 0 Q.length 1, .sl 1 0 R.length 1], [.ints true .i64 Q, .ints true .i64 R]))
    (h3 : ∀ d, vrun Try.prog kn (d + 1) 109 [.int .i64 1] [] = some (.sl 0 0 S1.length 1, [.ints true .i64 S1]))
    (h4 : ∀ d, vrun Try.prog kn (d + 2) 75 [.ints .i64 Q, .ints .i64 S1] [] = some (.sl 0 0 Q1.length 1, [.ints true .i64 Q1]))
    (h5 : ∀ d, vrun Try.prog kn (d + 2) 81 [.ints .i64 y, .ints .i64 R] [] = some (.sl 0 0 R1.length 1, [.ints true .i64 R1]))
    (h6 : ∀ d, vrun Try.prog kn (d + 3) 94 [.bool (n != m), .ints .i64 (if n && decide (R ≠ []) then Q1 else Q)] [] = some (.tup [.agg [.bool W.neg, .sl 0 0 W.l.length 1], .bool F], [.ints true .i64 W.l]))
    (h7 : F = false → W = ⟨false, []⟩) :
    vrun Try.prog kn (d + 10) 51 [.agg [.bool n, .ints .i64 x], .agg [.bool m, .ints .i64 y]] [] = some (.tup [.agg [.bool W.neg, .sl 0 0 W.l.length 1], .agg [.bool false, .sl 1 0 (if F then (if n && decide (R ≠ []) then R1 else R) else []).length 1], .bool F], [.ints true .i64 W.l, .ints true .i64 (if F then (if n && decide (R ≠ []) then R1 else R) else [])]) := by
  have hp : 0 < y.length := List.length_pos_iff.2 hy
  obtain ⟨wn, wl⟩ := W
  by_cases hR : R = []
  · subst hR
    simp only [ne_eq, not_true_eq_false, decide_false, Bool.and_false, Bool.false_eq_true, if_false] at h6 ⊢
    cases F
    · obtain ⟨rfl, rfl⟩ := WhT.mk.inj (h7 rfl)
      clear h7
      cases n <;> cases m
      all_goals
        simp only [show (true != true) = false from rfl, show (true != false) = true from rfl, show (false != true) = true from rfl, show (false != false) = false from rfl] at h6
        rw [vrun_v Try.func51 rfl rfl rfl]; simp only [Try.f51]
        simp (implicitDefEqProofs := false) (disch := omega) [go_sem, tab51, h1, h2, h3, h4, h5, h6, hy]
    · clear h7
      cases n <;> cases m
      all_goals
        simp only [show (true != true) = false from rfl, show (true != false) = true from rfl, show (false != true) = true from rfl, show (false != false) = false from rfl] at h6
        rw [vrun_v Try.func51 rfl rfl rfl]; simp only [Try.f51]
        simp (implicitDefEqProofs := false) (disch := omega) [go_sem, tab51, h1, h2, h3, h4, h5, h6, hy]
  · have hrp : 0 < R.length := List.length_pos_iff.2 hR
    simp only [ne_eq, hR, not_false_eq_true, decide_true, Bool.and_true] at h6 ⊢
    cases F
    · obtain ⟨rfl, rfl⟩ := WhT.mk.inj (h7 rfl)
      clear h7
      cases n <;> cases m
      all_goals
        simp only [show (true != true) = false from rfl, show (true != false) = true from rfl, show (false != true) = true from rfl, show (false != false) = false from rfl, if_true, if_false, Bool.false_eq_true] at h6
        rw [vrun_v Try.func51 rfl rfl rfl]; simp only [Try.f51]
        simp (implicitDefEqProofs := false) (disch := omega) [go_sem, tab51, h1, h2, h3, h4, h5, h6, hy, hR]
    · clear h7
      cases n <;> cases m
      all_goals
        simp only [show (true != true) = false from rfl, show (true != false) = true from rfl, show (false != true) = true from rfl, show (false != false) = false from rfl, if_true, if_false, Bool.false_eq_true] at h6
        rw [vrun_v Try.func51 rfl rfl rfl]; simp only [Try.f51]
        simp (implicitDefEqProofs := false) (disch := omega) [go_sem, tab51, h1, h2, h3, h4, h5, h6, hy, hR]
theorem WholeDiv_v (d : Nat) (ha : a.l.length < 1000000000) (hb : b.l.length < 1000000000) : vrun Try.prog kn (d + 10) 51 [.agg [.bool a.neg, .ints .i64 a.l], .agg [.bool b.neg, .ints .i64 b.l]] [] = some (.tup [.agg [.bool (wdQ a b).neg, .sl 0 0 (wdQ a b).l.length 1], .agg [.bool (wdR a b).neg, .sl 1 0 (wdR a b).l.length 1], .bool (wdF a b)], [.ints true .i64 (wdQ a b).l, .ints true .i64 (wdR a b).l]) := by
  have h1 := fun d => areWholes_v d ha hb
  by_cases hv : (wOk a && wOk b && decide (b.l ≠ [])) = true
  · have hv' := hv
    simp only [Bool.and_eq_true, decide_eq_true_eq] at hv
    obtain ⟨⟨o1, o2⟩, hne⟩ := hv
    rw [o1, o2] at h1
    obtain ⟨_, _, e1, l1, z1⟩ := wOk_t o1
    obtain ⟨_, _, e2, l2, z2⟩ := wOk_t o2
    have h0 := ((wOk_nN o2).2 hne).2
    obtain ⟨s1, s2⟩ := dv_sg (n := a.neg) (m := b.neg) (A := nN a.l) h0
    change _ = a.z / b.z at s1
    change _ = a.z % b.z at s2
    have lq : (D (nN a.l / nN b.l)).length ≤ (D (nN a.l)).length := len_D_mono (Nat.div_le_self _ _)
    have hmod : nN a.l % nN b.l < nN b.l := Nat.mod_lt _ (by omega)
    have lr : (D (nN a.l % nN b.l)).length ≤ (D (nN b.l)).length := len_D_mono (by omega)
    have lr1 : (D (nN b.l - nN a.l % nN b.l)).length ≤ (D (nN b.l)).length := len_D_mono (by omega)
    have k1 : (D 1).length ≤ 4 := len_small (by omega)
    have lq2 := len_add (x := nN a.l / nN b.l) (y := 1) (n := 100) (by omega) (by omega)
    have lQ : (D (dvQ a.neg (nN a.l) (nN b.l))).length < 1000000000 := by unfold dvQ; split <;> omega
    have h2 := fun d => divide_v (x := nN a.l) (y := nN b.l) d (by omega) (by omega) h0
    rw [← e1, ← e2] at h2
    have hsm := fun d => small_v (n := 1) d (by omega)
    simp only [show ((1 : Nat) : Int) = 1 from rfl] at hsm
    have hpl := fun d => plus_v (x := nN a.l / nN b.l) (y := 1) d (by omega) (by omega)
    have hmi := fun d => minus_v (x := nN b.l) (y := nN a.l % nN b.l) d (by omega) (by omega)
    rw [← e2] at hmi
    have hwz := fun d => wholeZ_v d s1 lQ
    have lW := wfit_len (a.z / b.z)
    have hR0 : decide (D (nN a.l % nN b.l) ≠ []) = decide (nN a.l % nN b.l ≠ 0) := decide_eq_decide.2 (not_congr D_nil_iff)
    have eQ : D (dvQ a.neg (nN a.l) (nN b.l)) = if a.neg && decide (D (nN a.l % nN b.l) ≠ []) then D (nN a.l / nN b.l + 1) else D (nN a.l / nN b.l) := by
      rw [hR0]; unfold dvQ; split <;> rfl
    have eR' : D (dvR a.neg (nN a.l) (nN b.l)) = if a.neg && decide (D (nN a.l % nN b.l) ≠ []) then D (nN b.l - nN a.l % nN b.l) else D (nN a.l % nN b.l) := by
      rw [hR0]; unfold dvR; split <;> rfl
    rw [eQ] at hwz
    have key := WholeDiv_w (W := wfit (a.z / b.z)) (F := wfitB (a.z / b.z)) d hne ha hb (by omega) (by omega) (by omega) (by omega) k1 lW h1 h2 hsm hpl hmi hwz (fun h => by unfold wfit; rw [h]; rfl)
    have eF : wdF a b = wfitB (a.z / b.z) := by unfold wdF; rw [hv']; rfl
    have eQ2 : wdQ a b = wfit (a.z / b.z) := by unfold wdQ; rw [eF]; rfl
    have eR2 : (wdR a b).neg = false ∧ (wdR a b).l = if wfitB (a.z / b.z) then D (dvR a.neg (nN a.l) (nN b.l)) else [] := by
      unfold wdR; rw [eF]
      cases wfitB (a.z / b.z) with
      | false => exact ⟨rfl, rfl⟩
      | true =>
        constructor
        · show decide (a.z % b.z < 0) = false
          rw [← s2]; simp
        · show D (a.z % b.z).natAbs = _
          rw [← s2, Int.natAbs_natCast]; rfl
    rw [eF, eQ2, eR2.1, eR2.2, eR']
    exact key
  · rw [Bool.not_eq_true] at hv
    have eF : wdF a b = false := by unfold wdF; rw [hv]; rfl
    have eQ : wdQ a b = ⟨false, []⟩ := by unfold wdQ; rw [eF]; rfl
    have eR : wdR a b = ⟨false, []⟩ := by unfold wdR; rw [eF]; rfl
    rw [eF, eQ, eR]
    clear eF eQ eR
    cases hq : wOk a && wOk b
    · rw [hq] at h1
      rw [vrun_v Try.func51 rfl rfl rfl]; simp only [Try.f51]
      simp (implicitDefEqProofs := false) (disch := omega) [go_sem, tab51, h1]
    · have hb0 : b.l = [] := by rw [hq] at hv; simpa using hv
      rw [hq] at h1
      rw [hb0] at h1 ⊢
      rw [vrun_v Try.func51 rfl rfl rfl]; simp only [Try.f51]
      simp (implicitDefEqProofs := false) (disch := omega) [go_sem, tab51, h1]
end
end
/- Quotients of the reference: whole numbers. No conditions. -/
section
open Num
section
variable {A B : Nat} {n m : Bool}
theorem l3fits_w (d : Nat) {l : List Int} (hl : l.length < 1000000000) : vrun Try.prog kn (d + 1) 111 [.agg [.bool n, .ints .i64 l]] [] = some (.tup [.agg [.bool (n && decide (l.length ≤ 100)), .ints .i64 (fitL l)], .bool (decide (l.length ≤ 100))], []) := by
  unfold fitL
  by_cases h : l.length ≤ 100
  · rw [vrun_v Try.func111 rfl rfl rfl]; simp only [Try.f111]
    simp (disch := omega) [go_sem, tab111, h]
  · rw [vrun_v Try.func111 rfl rfl rfl]; simp only [Try.f111]
    simp (disch := omega) [go_sem, tab111, h]
set_option maxHeartbeats 2000000 in
theorem l3div_v (d : Nat) (hA : (D A).length < 200000) (hB : (D B).length < 200000) (h0 : B ≠ 0) : vrun Try.prog kn (d + 4) 110 [.agg [.bool n, .ints .i64 (D A)], .agg [.bool m, .ints .i64 (D B)]] [] = some (.tup [.agg [.bool (decide (sg n A / sg m B < 0)), .ints .i64 (D (sg n A / sg m B).natAbs)], .agg [.bool false, .ints .i64 (D (dvR n A B))]], []) := by
  obtain ⟨s1, -⟩ := dv_sg (n := n) (m := m) (A := A) h0
  obtain ⟨q1, q2⟩ := sg_abs s1
  rw [← q1, ← q2]
  clear q1 q2 s1
  have a1 := fun d => l2div_v (x := A) (y := B) d (by omega) (by omega) h0
  have hmod : A % B < B := Nat.mod_lt _ (by omega)
  have lq : (D (A / B)).length ≤ (D A).length := len_D_mono (Nat.div_le_self _ _)
  have lr : (D (A % B)).length ≤ (D B).length := len_D_mono (by omega)
  have lr1 : (D (B - A % B)).length ≤ (D B).length := len_D_mono (by omega)
  have k1 : (D 1).length ≤ 4 := len_small (by omega)
  have lq2 := len_add (x := A / B) (y := 1) (n := 200000) (by omega) (by omega)
  have a2 := fun d => l2of_v (n := 1) d (by omega)
  simp only [show ((1 : Nat) : Int) = 1 from rfl] at a2
  have a3 := fun d => l2add_v (x := A / B) (y := 1) d (by omega) (by omega)
  have a4 := fun d => l2sub_v (x := B) (y := A % B) d (by omega) (by omega)
  have b1 := fun b d => l3make_v (n := b) (a := A / B) d (by omega)
  have b2 := fun d => l3make_v (n := false) (a := A % B) d (by omega)
  have b3 := fun b d => l3make_v (n := b) (a := A / B + 1) d (by omega)
  have b4 := fun d => l3make_v (n := false) (a := B - A % B) d (by omega)
  simp only [Bool.false_and] at b2 b4
  unfold dvQ dvR
  by_cases hr : A % B = 0
  · have e1 : D (A % B) = [] := by rw [hr, D_zero]
    simp only [hr, ne_eq, not_true_eq_false, decide_false, Bool.and_false, Bool.false_eq_true, if_false]
    simp only [hr] at a1 b2
    rw [D_zero] at *
    clear a3 a4 b3 b4
    by_cases hq : A / B = 0
    · simp only [hq, ne_eq, not_true_eq_false, decide_false, Bool.and_false] at b1 a1 ⊢
      generalize D 0 = Z at *
      cases n <;> cases m
      all_goals
        rw [vrun_v Try.func110 rfl rfl rfl]; simp only [Try.f110]
        simp (implicitDefEqProofs := false) (disch := omega) [go_sem, tab110, a1, b1, b2]
    · simp only [hq, ne_eq, not_false_eq_true, decide_true, Bool.and_true] at b1 ⊢
      generalize D (A / B) = Q at *
      cases n <;> cases m
      all_goals
        rw [vrun_v Try.func110 rfl rfl rfl]; simp only [Try.f110]
        simp (implicitDefEqProofs := false) (disch := omega) [go_sem, tab110, a1, b1, b2]
  · have hr' : D (A % B) ≠ [] := fun h => hr (D_nil_iff.1 h)
    have hrl : ¬ (D (A % B)).length = 0 := fun h => hr (lens_D.1 h)
    have hrp : 0 < (D (A % B)).length := by omega
    simp only [hr, ne_eq, not_false_eq_true, decide_true, Bool.and_true]
    cases n
    · simp only [Bool.false_eq_true, if_false]
      clear a3 a4 b3 b4
      by_cases hq : A / B = 0
      · simp only [hq, ne_eq, not_true_eq_false, decide_false, Bool.and_false] at b1 a1 ⊢
        generalize D (A % B) = R at *
        generalize D 0 = Z at *
        cases m
        all_goals
          rw [vrun_v Try.func110 rfl rfl rfl]; simp only [Try.f110]
          simp (implicitDefEqProofs := false) (disch := omega) [go_sem, tab110, a1, b1, b2]
      · simp only [hq, ne_eq, not_false_eq_true, decide_true, Bool.and_true] at b1 ⊢
        generalize D (A % B) = R at *
        generalize D (A / B) = Q at *
        cases m
        all_goals
          rw [vrun_v Try.func110 rfl rfl rfl]; simp only [Try.f110]
          simp (implicitDefEqProofs := false) (disch := omega) [go_sem, tab110, a1, b1, b2]
    · simp only [if_true, Nat.add_one_ne_zero, ne_eq, not_false_eq_true, decide_true, Bool.and_true] at b3 ⊢
      clear b1 b2
      generalize D (A / B + 1) = Q1 at *
      generalize D (B - A % B) = R1 at *
      generalize D (A % B) = R at *
      generalize D (A / B) = Q at *
      generalize D 1 = o at *
      cases m
      all_goals
        rw [vrun_v Try.func110 rfl rfl rfl]; simp only [Try.f110]
        simp (implicitDefEqProofs := false) (disch := omega) [go_sem, tab110, a1, a2, a3, a4, b3, b4, hr', hrl]
end
section
variable {a b : WhT}
set_option maxHeartbeats 2000000 in
theorem sWholeDiv_v (d : Nat) (ha : a.l.length < 1000000000) (hb : b.l.length < 1000000000) : vrun Try.prog kn (d + 5) 53 [.agg [.bool a.neg, .ints .i64 a.l], .agg [.bool b.neg, .ints .i64 b.l]] [] = some (.tup [.agg [.bool (wdQ a b).neg, .ints .i64 (wdQ a b).l], .agg [.bool (wdR a b).neg, .ints .i64 (wdR a b).l], .bool (wdF a b)], []) := by
  have kx := fun d => sWholeOk_v d a.neg (l := a.l) ha
  have ky := fun d => sWholeOk_v d b.neg (l := b.l) hb
  change ∀ d, _ = some (V.bool (wOk a), []) at kx
  change ∀ d, _ = some (V.bool (wOk b), []) at ky
  cases hv : (wOk a && wOk b && decide (b.l ≠ []))
  · have eF : wdF a b = false := by unfold wdF; rw [hv]; rfl
    have eQ : wdQ a b = ⟨false, []⟩ := by unfold wdQ; rw [eF]; rfl
    have eR : wdR a b = ⟨false, []⟩ := by unfold wdR; rw [eF]; rfl
    rw [eF, eQ, eR]
    clear eF eQ eR
    have hxy : wOk a = false ∨ (wOk a = true ∧ wOk b = false) ∨ (wOk a = true ∧ wOk b = true ∧ b.l = []) := by
      cases h : wOk a
      · exact .inl rfl
      · cases h' : wOk b
        · exact .inr (.inl ⟨rfl, rfl⟩)
        · rw [h, h'] at hv; exact .inr (.inr ⟨rfl, rfl, by simpa using hv⟩)
    rcases hxy with h | ⟨h, h'⟩ | ⟨h, h', h0⟩
    · rw [h] at kx
      rw [vrun_v Try.func53 rfl rfl rfl]; simp only [Try.f53]
      simp (implicitDefEqProofs := false) (disch := omega) [go_sem, tab53, kx]
    · rw [h] at kx
      rw [h'] at ky
      rw [vrun_v Try.func53 rfl rfl rfl]; simp only [Try.f53]
      simp (implicitDefEqProofs := false) (disch := omega) [go_sem, tab53, kx, ky]
    · rw [h] at kx
      rw [h'] at ky
      rw [h0] at ky ⊢
      rw [vrun_v Try.func53 rfl rfl rfl]; simp only [Try.f53]
      simp (implicitDefEqProofs := false) (disch := omega) [go_sem, tab53, kx, ky]
  · have eF : wdF a b = wfitB (a.z / b.z) := by unfold wdF; rw [hv]; rfl
    simp only [Bool.and_eq_true, decide_eq_true_eq] at hv
    obtain ⟨⟨o1, o2⟩, hne⟩ := hv
    rw [o1] at kx
    rw [o2] at ky
    obtain ⟨_, l1, e1, l1', z1⟩ := wOk_t o1
    obtain ⟨_, l2, e2, l2', z2⟩ := wOk_t o2
    have h0 := ((wOk_nN o2).2 hne).2
    obtain ⟨s1, s2⟩ := dv_sg (n := a.neg) (m := b.neg) (A := nN a.l) h0
    change _ = a.z % b.z at s2
    have a1 := fun d => l3div_v (n := a.neg) (m := b.neg) (A := nN a.l) (B := nN b.l) d (by omega) (by omega) h0
    rw [← e1, ← e2] at a1
    change ∀ d, _ = some (V.tup [.agg [.bool (decide (a.z / b.z < 0)), .ints .i64 (D (a.z / b.z).natAbs)], _], []) at a1
    have eR' : dvR a.neg (nN a.l) (nN b.l) = (a.z % b.z).natAbs := by rw [← s2, Int.natAbs_natCast]
    rw [eR'] at a1
    have lq : (D (a.z / b.z).natAbs).length ≤ (D a.z.natAbs).length := len_D_mono (Int.natAbs_ediv_le_natAbs a.z b.z)
    have a2 := fun d => l3fits_w (n := decide (a.z / b.z < 0)) (l := D (a.z / b.z).natAbs) d (by omega)
    have hp : 0 < b.l.length := List.length_pos_iff.2 hne
    have rn : ¬ a.z % b.z < 0 := by rw [← s2]; omega
    have eQ2 : wdQ a b = wfit (a.z / b.z) := by unfold wdQ; rw [eF]; rfl
    have eR2 : wdR a b = ⟨false, if wfitB (a.z / b.z) then D (a.z % b.z).natAbs else []⟩ := by
      unfold wdR; rw [eF]
      unfold wz
      rw [decide_eq_false rn]
      split <;> rfl
    rw [eF, eQ2, eR2]
    unfold wfit wfitB fitL at *
    have hne' : ¬ b.l.length = 0 := by omega
    clear eF eQ2 eR2 s1 s2 e1 e2 eR'
    clear l1 l2 z1 z2 o1 o2 l1' l2' h0 rn
    generalize a.l = al at *
    generalize b.l = bl at *
    by_cases hf : (D (a.z / b.z).natAbs).length ≤ 100
    · simp only [hf, decide_true, if_true, Bool.and_true, wz] at a2 ⊢
      generalize D (a.z / b.z).natAbs = Q at *
      generalize D (a.z % b.z).natAbs = R at *
      generalize decide (a.z / b.z < 0) = q at *
      clear lq
      generalize a.neg = an at *
      generalize b.neg = bn at *
      rw [vrun_v Try.func53 rfl rfl rfl]; simp only [Try.f53]
      simp (implicitDefEqProofs := false) (disch := omega) [go_sem, tab53, kx, ky, a1, a2, hne, hne', w_nil, w_op, w_if, w_Gt, w_Gf, w_Xs, w_V, r_xWt, vmodI, vldI, vmodS, vldS, vmodA, vmodB, vldOK, V.self, vimp, w_safe, w_safe0, w_safeC]
    · simp only [hf, decide_false, if_false, Bool.and_false, Bool.false_eq_true] at a2 ⊢
      generalize D (a.z / b.z).natAbs = Q at *
      generalize D (a.z % b.z).natAbs = R at *
      generalize decide (a.z / b.z < 0) = q at *
      clear lq
      generalize a.neg = an at *
      generalize b.neg = bn at *
      rw [vrun_v Try.func53 rfl rfl rfl]; simp only [Try.f53]
      simp (implicitDefEqProofs := false) (disch := omega) [go_sem, tab53, kx, ky, a1, a2, hne, hne', w_nil, w_op, w_if, w_Gt, w_Gf, w_Xs, w_V, r_xWt, vmodI, vldI, vmodS, vldS, vmodA, vmodB, vldOK, V.self, vimp, w_safe, w_safe0, w_safeC]
end
end
/- What the exact laws do beside: sizes and equality of whole numbers' lists, naturals, wholes, dyadics. No conditions. -/
section
open Num
section
variable {l a b : List Int} {left e : Int} {n : Bool}
theorem szIntS_v (d : Nat) (hl : l.length ≤ 9223372036854775807) (h0 : 0 ≤ left) (h1 : left ≤ 1048576) : ∃ r : Int, vrun Try.prog kn (d + 1) 99 [.ints .i64 l, .int .i64 left] [] = some (.int .i64 r, []) ∧ r ≤ left ∧ (0 ≤ r → l.length ≤ 1048576) := by
  by_cases h : left < l.length
  · refine ⟨-1, ?_, by omega, fun h => by omega⟩
    rw [vrun_v Try.func99 rfl rfl rfl]; simp only [Try.f99]
    simp (disch := omega) [go_sem, tab99]
  · refine ⟨left - l.length, ?_, by omega, fun h => by omega⟩
    rw [vrun_v Try.func99 rfl rfl rfl]; simp only [Try.f99]
    simp (disch := omega) [go_sem, tab99]
theorem szNat_v (d : Nat) (hl : l.length ≤ 9223372036854775807) (h0 : 0 ≤ left) (h1 : left ≤ 1048576) : ∃ r : Int, vrun Try.prog kn (d + 2) 39 [.agg [.ints .i64 l], .int .i64 left] [] = some (.int .i64 r, []) ∧ r ≤ left ∧ (0 ≤ r → l.length ≤ 1048576) := by
  obtain ⟨r, hr, h2, h3⟩ := szIntS_v d hl h0 h1
  by_cases h : r < 0
  · refine ⟨-1, ?_, by omega, fun h => by omega⟩
    rw [vrun_v Try.func39 rfl rfl rfl]; simp only [Try.f39]
    simp (disch := omega) [go_sem, tab39, hr]
  · refine ⟨r, ?_, by omega, h3⟩
    rw [vrun_v Try.func39 rfl rfl rfl]; simp only [Try.f39]
    simp (disch := omega) [go_sem, tab39, hr]
theorem szWhole_v (d : Nat) (hl : l.length ≤ 9223372036854775807) (h0 : 0 ≤ left) (h1 : left ≤ 1048576) : ∃ r : Int, vrun Try.prog kn (d + 3) 52 [.agg [.bool n, .ints .i64 l], .int .i64 left] [] = some (.int .i64 r, []) ∧ r ≤ left ∧ (0 ≤ r → l.length ≤ 1048576) := by
  obtain ⟨r, hr, h2, h3⟩ := szNat_v d hl h0 h1
  by_cases h : r < 0
  · refine ⟨-1, ?_, by omega, fun h => by omega⟩
    rw [vrun_v Try.func52 rfl rfl rfl]; simp only [Try.f52]
    simp (disch := omega) [go_sem, tab52, hr]
  · refine ⟨r, ?_, by omega, h3⟩
    rw [vrun_v Try.func52 rfl rfl rfl]; simp only [Try.f52]
    simp (disch := omega) [go_sem, tab52, hr]
def eqIS (a b : List Int) (j : Nat) : VE × VH := ([(0, some (.ints .i64 a)), (1, some (.ints .i64 b)), (5, some (.int .i64 j))], [])
theorem eqIntS_v (d : Nat) (ha : a.length < 1000000000) (hb : b.length < 1000000000) : vrun Try.prog kn (d + 1) 103 [.ints .i64 a, .ints .i64 b] [] = some (.bool (decide (a = b)), []) := by
  by_cases hl : ¬ a.length = b.length
  · have : ¬ a = b := fun h => hl (by rw [h])
    have h' : ¬ (a.length : Int) = b.length := by omega
    rw [vrun_v Try.func103 rfl rfl rfl]; simp only [Try.f103]
    simp (disch := omega) [go_sem, tab103, h', this, hl]
  rw [Decidable.not_not] at hl
  have key := vi_inv (n := kn.cf.rounds) (body := vCode Try.prog kn (vrun Try.prog kn d) 103 (loopAt Try.f103 0)) (fun j s => s = eqIS a b j ∧ a.take j = b.take j)
    (fun r => (r = some (.exit 0, (eqIS a b a.length).1 ++ [(14, some (.bool false))], []) ∧ a = b) ∨ (r = some (.ret, [(4, some (.bool false))], []) ∧ ¬ a = b)) a.length (by rw [k_cf, c_rounds]; omega)
    (fun j s hj hI => by
      obtain ⟨rfl, hI⟩ := hI
      have hja : a[j]? = some (gt a j) := by rw [gt]; simp [hj]
      have hjb : b[j]? = some (gt b j) := by rw [gt]; simp [show j < b.length by omega]
      by_cases hq : gt a j = gt b j
      · left
        refine ⟨eqIS a b (j + 1), ?_, rfl, ?_⟩
        · rw [round_v]; simp only [loopAt, nthC, bodyC, loops, List.nil_append, List.cons_append, List.append_nil, Try.f103, eqIS]
          simp (disch := omega) [go_sem, tab103, hq]
        · rw [List.take_add_one, List.take_add_one, hI, hja, hjb, hq]
      · right; intro m; right
        refine ⟨vi_ret ?_, fun h => hq (by rw [h])⟩
        rw [round_v]; simp only [loopAt, nthC, bodyC, loops, List.nil_append, List.cons_append, List.append_nil, Try.f103, eqIS]
        simp (disch := omega) [go_sem, tab103, hq])
    (fun s hI m => by
      obtain ⟨rfl, hI⟩ := hI
      left
      refine ⟨vi_exit ?_, by rwa [List.take_length, hl, List.take_length] at hI⟩
      rw [round_v]; simp only [loopAt, nthC, bodyC, loops, List.nil_append, List.cons_append, List.append_nil, Try.f103, eqIS]
      simp (disch := omega) [go_sem, tab103])
    (eqIS a b 0) ⟨rfl, by simp⟩
  rcases key with ⟨hv, hq⟩ | ⟨hv, hq⟩
  · rw [decide_eq_true hq]
    have hl0 := fun ks => loop_v (P := Try.prog) (K := kn) (ks := ks) hv
    simp only [loopAt, nthC, bodyC, loops, List.nil_append, List.cons_append, List.append_nil, Try.f103, eqIS, Int.natCast_zero, List.cons_append, List.nil_append] at hl0
    rw [vrun_v Try.func103 rfl rfl rfl]; simp only [Try.f103]
    simp (disch := omega) [go_sem, tab103, hl, hl0]
  · rw [decide_eq_false hq]
    have hl0 := fun ks => loop_v (P := Try.prog) (K := kn) (ks := ks) hv
    simp only [loopAt, nthC, bodyC, loops, List.nil_append, List.cons_append, List.append_nil, Try.f103, eqIS, Int.natCast_zero, List.cons_append, List.nil_append] at hl0
    rw [vrun_v Try.func103 rfl rfl rfl]; simp only [Try.f103]
    simp (disch := omega) [go_sem, tab103, hl, hl0]
theorem eqNat_v (d : Nat) (ha : a.length < 1000000000) (hb : b.length < 1000000000) : vrun Try.prog kn (d + 2) 43 [.agg [.ints .i64 a], .agg [.ints .i64 b]] [] = some (.bool (decide (a = b)), []) := by
  have h1 := fun d => eqIntS_v d ha hb
  by_cases h : a = b <;> simp only [h, decide_true, decide_false] at h1 ⊢
  all_goals
    rw [vrun_v Try.func43 rfl rfl rfl]; simp only [Try.f43]
    simp (disch := omega) [go_sem, tab43, h1]
theorem eqWhole_v (d : Nat) {n1 n2 : Bool} (ha : a.length < 1000000000) (hb : b.length < 1000000000) : vrun Try.prog kn (d + 3) 55 [.agg [.bool n1, .ints .i64 a], .agg [.bool n2, .ints .i64 b]] [] = some (.bool (decide (n1 = n2) && decide (a = b)), []) := by
  have h1 := fun d => eqNat_v d ha hb
  by_cases h : a = b <;> simp only [h, decide_true, decide_false, Bool.and_true, Bool.and_false] at h1 ⊢
  all_goals
    rw [vrun_v Try.func55 rfl rfl rfl]; simp only [Try.f55]
    cases n1 <;> cases n2 <;> simp (disch := omega) [go_sem, tab55, h1]
end
end
/- The exact laws write marks into what they hold, and look whether the marks stand: lists, naturals, wholes, dyadics. No conditions. -/
section
open Num
section
variable {h : VH} {i : Nat} {l : List Int} {k : Int}
def mkL (l : List Int) (k : Int) (j : Nat) : List Int := iota k j ++ l.drop j
theorem mkL_len {j : Nat} (hj : j ≤ l.length) : (mkL l k j).length = l.length := by unfold mkL; rw [List.length_append, iota_len, List.length_drop]; omega
theorem mkL_set {j : Nat} (hj : j < l.length) : (mkL l k j).set j (k + j) = mkL l k (j + 1) := by
  unfold mkL
  rw [List.set_append_right _ _ (by rw [iota_len]; omega), iota_len, Nat.sub_self, List.drop_eq_getElem_cons hj, iota, List.append_assoc]; rfl
theorem mkL_end : mkL l k l.length = iota k l.length := by unfold mkL; simp
theorem mkL_0 : mkL l k 0 = l := by unfold mkL; simp [iota]
theorem set_self (hi : h[i]? = some (.ints true .i64 l)) : h.set i (.ints true .i64 l) = h := by
  obtain ⟨h1, h2⟩ := List.getElem?_eq_some_iff.1 hi
  rw [← h2]; exact List.set_getElem_self _
def mkS (h : VH) (i : Nat) (l : List Int) (k : Int) (j : Nat) : VE × VH := ([(0, some (.sl i 0 l.length 1)), (1, some (.int .i64 (k + j))), (5, some (.int .i64 j))], h.set i (.ints true .i64 (mkL l k j)))
theorem mkI_r (call : CallV) (hi : i < h.length) (hl : l.length < 100000000) (hk : 0 ≤ k) (hk' : k < 1000000000) {j : Nat} (hj : j < l.length) :
    vCode Try.prog kn call 104 (loopAt Try.f104 0) (mkS h i l k j).1 (mkS h i l k j).2 = some (.norm, mkS h i l k (j + 1)) := by
  have h1 := mkL_len (k := k) (Nat.le_of_lt hj)
  have h2 := mkL_set (k := k) hj
  have h3 : k + j + 1 = k + ((j + 1 : Nat) : Int) := by omega
  have hs : ∀ a : VO, (h.set i a)[i]? = some a := fun a => by simp [hi]
  rw [round_v]; simp only [loopAt, nthC, bodyC, loops, List.nil_append, List.cons_append, List.append_nil, Try.f104, mkS, ← h3, ← h2]
  simp (disch := omega) [go_sem, tab104, h1, hs, List.set_set]
theorem mkI_x (call : CallV) (hl : l.length < 100000000) :
    vCode Try.prog kn call 104 (loopAt Try.f104 0) (mkS h i l k l.length).1 (mkS h i l k l.length).2 = some (.exit 0, (mkS h i l k l.length).1 ++ [(9, some (.bool false))], (mkS h i l k l.length).2) := by
  rw [round_v]; simp only [loopAt, nthC, bodyC, loops, List.nil_append, List.cons_append, List.append_nil, Try.f104, mkS]
  simp (disch := omega) [go_sem, tab104]
theorem markIntS_v (d : Nat) (hi : h[i]? = some (.ints true .i64 l)) (hl : l.length < 100000000) (hk : 0 ≤ k) (hk' : k < 1000000000) :
    vrun Try.prog kn (d + 1) 104 [.sl i 0 l.length 1, .int .i64 k] h = some (.int .i64 (k + l.length), h.set i (.ints true .i64 (iota k l.length))) := by
  have hi' : i < h.length := (List.getElem?_eq_some_iff.1 hi).1
  have hl0 := fun ks => loop_v (P := Try.prog) (K := kn) (ks := ks) (vi_for (mkS h i l k) l.length (n := kn.cf.rounds) (by rw [k_cf, c_rounds]; omega) (fun j hj => mkI_r (vrun Try.prog kn d) hi' hl hk hk' hj) fun m => vi_exit (mkI_x _ hl))
  simp only [loopAt, nthC, bodyC, loops, List.nil_append, List.cons_append, List.append_nil, Try.f104, mkS, Int.natCast_zero, Int.add_zero, List.cons_append, List.nil_append, mkL_0, mkL_end, set_self hi] at hl0
  rw [vrun_v Try.func104 rfl rfl rfl]; simp only [Try.f104]
  simp (disch := omega) [go_sem, tab104, hl0]
theorem ge_app {n : Nat} {o : VO} (a : List VO) (hn : h[n]? = some o) : (h ++ a)[n]? = some o := by
  rw [List.getElem?_append_left (List.getElem?_eq_some_iff.1 hn).1]; exact hn
theorem set_app {n : Nat} {o : VO} (a : List VO) (q : VO) (hn : h[n]? = some o) : (h ++ a).set n q = h.set n q ++ a := List.set_append_left _ _ (List.getElem?_eq_some_iff.1 hn).1
theorem markNat_v (d : Nat) (hi : h[i]? = some (.ints true .i64 l)) (hl : l.length < 100000000) (hk : 0 ≤ k) (hk' : k < 1000000000) :
    vrun Try.prog kn (d + 2) 44 [.agg [.sl i 0 l.length 1], .int .i64 k] h = some (.int .i64 (k + l.length), h.set i (.ints true .i64 (iota k l.length)) ++ [.vals true [.sl i 0 l.length 1]]) := by
  have h1 := markIntS_v (h := h ++ [.vals true [.sl i 0 l.length 1]]) d (ge_app _ hi) hl hk hk'
  rw [set_app _ _ hi] at h1
  rw [vrun_v Try.func44 rfl rfl rfl]; simp only [Try.f44]
  simp (disch := omega) [go_sem, tab44, h1, List.getElem?_concat_length]
theorem markWhole_v (d : Nat) {n : Bool} (hi : h[i]? = some (.ints true .i64 l)) (hl : l.length < 100000000) (hk : 0 ≤ k) (hk' : k < 1000000000) :
    vrun Try.prog kn (d + 3) 56 [.agg [.bool n, .sl i 0 l.length 1], .int .i64 k] h = some (.int .i64 (k + l.length), h.set i (.ints true .i64 (iota k l.length)) ++ [.vals true [.bool n, .sl i 0 l.length 1], .vals true [.sl i 0 l.length 1]]) := by
  have h1 := markNat_v (h := h ++ [.vals true [.bool n, .sl i 0 l.length 1]]) d (ge_app _ hi) hl hk hk'
  rw [set_app _ _ hi, List.append_assoc] at h1
  rw [vrun_v Try.func56 rfl rfl rfl]; simp only [Try.f56]
  simp (disch := omega) [go_sem, tab56, h1, List.getElem?_concat_length]
/-! ### as rules that read the heap -/
def mkStep (r : Option (V × VH)) (i m : Nat) (k : Int) (h : VH) (tail : List VO) : Option VO → Option (V × VH)
  | some (.ints true .i64 l) => if l.length = m ∧ l.length < 100000000 ∧ 0 ≤ k ∧ k < 1000000000 then some (.int .i64 (k + m), h.set i (.ints true .i64 (iota k m)) ++ tail) else r
  | _ => r
theorem mkStep_i (r : Option (V × VH)) (i m : Nat) (k : Int) (h : VH) (tail : List VO) (l : List Int) : mkStep r i m k h tail (some (.ints true .i64 l)) = if l.length = m ∧ l.length < 100000000 ∧ 0 ≤ k ∧ k < 1000000000 then some (.int .i64 (k + m), h.set i (.ints true .i64 (iota k m)) ++ tail) else r := rfl
theorem mkStep_of {r : Option (V × VH)} {i m : Nat} {k : Int} {h : VH} {tail : List VO} (hr : ∀ l, h[i]? = some (.ints true .i64 l) → l.length = m → l.length < 100000000 → 0 ≤ k → k < 1000000000 → r = some (.int .i64 (k + m), h.set i (.ints true .i64 (iota k m)) ++ tail)) : r = mkStep r i m k h tail h[i]? := by
  unfold mkStep
  split
  · rename_i l hl
    split
    · rename_i hc
      exact hr l hl hc.1 hc.2.1 hc.2.2.1 hc.2.2.2
    · rfl
  · rfl
noncomputable def xMarkIntS (d i m : Nat) (k : Int) (h : VH) := vrun Try.prog kn (d + 1) 104 [.sl i 0 m 1, .int .i64 k] h
noncomputable def xMarkNat (d i m : Nat) (k : Int) (h : VH) := vrun Try.prog kn (d + 2) 44 [.agg [.sl i 0 m 1], .int .i64 k] h
noncomputable def xMarkWhole (d : Nat) (n : Bool) (i m : Nat) (k : Int) (h : VH) := vrun Try.prog kn (d + 3) 56 [.agg [.bool n, .sl i 0 m 1], .int .i64 k] h
theorem markIntS_s (d i m : Nat) (k : Int) (h : VH) : vrun Try.prog kn (d + 1) 104 [.sl i 0 m 1, .int .i64 k] h = mkStep (xMarkIntS d i m k h) i m k h [] h[i]? :=
  mkStep_of (r := xMarkIntS d i m k h) fun l hi hm h1 h2 h3 => by subst hm; rw [List.append_nil]; exact markIntS_v d hi h1 h2 h3
theorem markNat_s (d i m : Nat) (k : Int) (h : VH) : vrun Try.prog kn (d + 2) 44 [.agg [.sl i 0 m 1], .int .i64 k] h = mkStep (xMarkNat d i m k h) i m k h [.vals true [.sl i 0 m 1]] h[i]? :=
  mkStep_of (r := xMarkNat d i m k h) fun l hi hm h1 h2 h3 => by subst hm; exact markNat_v d hi h1 h2 h3
theorem markWhole_s (d : Nat) (n : Bool) (i m : Nat) (k : Int) (h : VH) : vrun Try.prog kn (d + 3) 56 [.agg [.bool n, .sl i 0 m 1], .int .i64 k] h = mkStep (xMarkWhole d n i m k h) i m k h [.vals true [.bool n, .sl i 0 m 1], .vals true [.sl i 0 m 1]] h[i]? :=
  mkStep_of (r := xMarkWhole d n i m k h) fun l hi hm h1 h2 h3 => by subst hm; exact markWhole_v d hi h1 h2 h3
end
section
variable {k : Int} {n : Nat}
def heS (k : Int) (n j : Nat) : VE × VH := ([(0, some (.ints .i64 (iota k n))), (1, some (.int .i64 (k + j))), (5, some (.int .i64 j))], [])
theorem he_r (call : CallV) (hn : n < 100000000) (hk : 0 ≤ k) (hk' : k < 1000000000) {j : Nat} (hj : j < n) : vCode Try.prog kn call 105 (loopAt Try.f105 0) (heS k n j).1 (heS k n j).2 = some (.norm, heS k n (j + 1)) := by
  have h1 := gt_iota (k := k) hj
  have h2 := iota_len k n
  have h3 : k + j + 1 = k + ((j + 1 : Nat) : Int) := by omega
  rw [round_v]; simp only [loopAt, nthC, bodyC, loops, List.nil_append, List.cons_append, List.append_nil, Try.f105, heS, ← h3]
  simp (disch := omega) [go_sem, tab105, h1, h2]
theorem he_x (call : CallV) (hn : n < 100000000) : vCode Try.prog kn call 105 (loopAt Try.f105 0) (heS k n n).1 (heS k n n).2 = some (.exit 0, (heS k n n).1 ++ [(9, some (.bool false))], (heS k n n).2) := by
  have h2 := iota_len k n
  rw [round_v]; simp only [loopAt, nthC, bodyC, loops, List.nil_append, List.cons_append, List.append_nil, Try.f105, heS]
  simp (disch := omega) [go_sem, tab105, h2]
theorem heldIntS_v (d : Nat) (hn : n < 100000000) (hk : 0 ≤ k) (hk' : k < 1000000000) : vrun Try.prog kn (d + 1) 105 [.ints .i64 (iota k n), .int .i64 k] [] = some (.int .i64 (k + n), []) := by
  have hl0 := fun ks => loop_v (P := Try.prog) (K := kn) (ks := ks) (vi_for (heS k n) n (n := kn.cf.rounds) (by rw [k_cf, c_rounds]; omega) (fun j hj => he_r (vrun Try.prog kn d) hn hk hk' hj) fun m => vi_exit (he_x _ hn))
  simp only [loopAt, nthC, bodyC, loops, List.nil_append, List.cons_append, List.append_nil, Try.f105, heS, Int.natCast_zero, Int.add_zero, List.cons_append, List.nil_append] at hl0
  rw [vrun_v Try.func105 rfl rfl rfl]; simp only [Try.f105]
  simp (disch := omega) [go_sem, tab105, hl0]
theorem heldNat_v (d : Nat) (hn : n < 100000000) (hk : 0 ≤ k) (hk' : k < 1000000000) : vrun Try.prog kn (d + 2) 45 [.agg [.ints .i64 (iota k n)], .int .i64 k] [] = some (.int .i64 (k + n), []) := by
  have h1 := fun d => heldIntS_v d hn hk hk'
  rw [vrun_v Try.func45 rfl rfl rfl]; simp only [Try.f45]
  simp (disch := omega) [go_sem, tab45, h1]
theorem heldWhole_v (d : Nat) {b : Bool} (hn : n < 100000000) (hk : 0 ≤ k) (hk' : k < 1000000000) : vrun Try.prog kn (d + 3) 57 [.agg [.bool b, .ints .i64 (iota k n)], .int .i64 k] [] = some (.int .i64 (k + n), []) := by
  have h1 := fun d => heldNat_v d hn hk hk'
  rw [vrun_v Try.func57 rfl rfl rfl]; simp only [Try.f57]
  simp (disch := omega) [go_sem, tab57, h1]
end
end
/- The exact laws copy an argument (each in memory of its own): lists, naturals, wholes, dyadics. No conditions. -/
section
open Num
section
variable {l : List Int}
def cpL (l : List Int) (j : Nat) : List Int := l.take j ++ List.replicate (l.length - j) 0
theorem cpL_len {j : Nat} (h : j ≤ l.length) : (cpL l j).length = l.length := by unfold cpL; simp; omega
theorem cpL_set {j : Nat} (h : j < l.length) : (cpL l j).set j (gt l j) = cpL l (j + 1) := by
  have hj : l[j]? = some (gt l j) := by rw [gt]; simp [h]
  unfold cpL
  rw [List.set_append_right _ _ (by simp; omega), List.take_add_one, hj, show l.length - j = (l.length - (j + 1)) + 1 by omega, List.replicate_succ]
  simp [show j - min j l.length = 0 by omega]
theorem cpL_end : cpL l l.length = l := by unfold cpL; simp
theorem cpL_0 : cpL l 0 = List.replicate l.length 0 := by unfold cpL; simp
def toIS (l : List Int) (j : Nat) : VE × VH := ([(0, some (.ints .i64 l)), (3, some (.sl 0 0 l.length 1)), (4, some (.int .i64 j))], [.ints true .i64 (cpL l j)])
theorem toI_r (d : Nat) {j : Nat} (hl : l.length < 1000000000) (hj : j < l.length) : vCode Try.prog kn (vrun Try.prog kn d) 101 (loopAt Try.f101 0) (toIS l j).1 (toIS l j).2 = some (.norm, toIS l (j + 1)) := by
  have h1 := cpL_len (l := l) (Nat.le_of_lt hj)
  rw [round_v]; simp only [loopAt, nthC, bodyC, loops, List.nil_append, List.cons_append, List.append_nil, Try.f101, toIS]
  simp (disch := omega) [go_sem, tab101, nil101, h1, cpL_set hj]
theorem toI_x (d : Nat) (hl : l.length < 1000000000) : vCode Try.prog kn (vrun Try.prog kn d) 101 (loopAt Try.f101 0) (toIS l l.length).1 (toIS l l.length).2 = some (.exit 0, (toIS l l.length).1 ++ [(11, some (.bool false))], (toIS l l.length).2) := by
  rw [round_v]; simp only [loopAt, nthC, bodyC, loops, List.nil_append, List.cons_append, List.append_nil, Try.f101, toIS]
  simp (disch := omega) [go_sem, tab101, nil101]
theorem toIntS_v (d : Nat) (hl : l.length < 1000000000) : vrun Try.prog kn (d + 1) 101 [.ints .i64 l] [] = some (.sl 0 0 l.length 1, [.ints true .i64 l]) := by
  have hl0 := fun ks => loop_v (P := Try.prog) (K := kn) (ks := ks) (vi_for (toIS l) l.length (n := kn.cf.rounds) (by rw [k_cf, c_rounds]; omega) (fun j hj => toI_r d hl hj) fun m => vi_exit (toI_x d hl))
  simp only [loopAt, nthC, bodyC, loops, List.nil_append, List.cons_append, List.append_nil, Try.f101, toIS, Int.natCast_zero, List.cons_append, List.nil_append, cpL_0, cpL_end] at hl0
  rw [vrun_v Try.func101 rfl rfl rfl]; simp only [Try.f101]
  simp (disch := omega) [go_sem, tab101, nil101, hl0]
theorem toNat_v (d : Nat) (hl : l.length < 1000000000) : vrun Try.prog kn (d + 2) 41 [.agg [.ints .i64 l]] [] = some (.agg [.sl 0 0 l.length 1], [.ints true .i64 l]) := by
  have h1 := fun d => toIntS_v d hl
  rw [vrun_v Try.func41 rfl rfl rfl]; simp only [Try.f41]
  simp (disch := omega) [go_sem, tab41, h1]
theorem toWhole_v (d : Nat) {n : Bool} (hl : l.length < 1000000000) : vrun Try.prog kn (d + 3) 54 [.agg [.bool n, .ints .i64 l]] [] = some (.agg [.bool n, .sl 0 0 l.length 1], [.ints true .i64 l]) := by
  have h1 := fun d => toNat_v d hl
  rw [vrun_v Try.func54 rfl rfl rfl]; simp only [Try.f54]
  simp (disch := omega) [go_sem, tab54, h1]
end
end
/- The laws' types as values. No conditions. -/
section
open Go.Proofs Num
def DyT.row (x : DyT) : Prop := x.l.length ≤ 9223372036854775807 ∧ (∀ y ∈ x.l, (Lit.int .i64 y).wf = true) ∧ (Lit.int .i64 x.e).wf = true
def TInt (vs : List V) : Prop := ∃ x : Int, vs = [.int .i64 x] ∧ (Lit.int .i64 x).wf = true
def TBool (vs : List V) : Prop := ∃ x : Bool, vs = [.bool x]
def TInts (vs : List V) : Prop := ∃ l : List Int, vs = [.ints .i64 l] ∧ l.length ≤ 9223372036854775807 ∧ ∀ x ∈ l, (Lit.int .i64 x).wf = true
def TDys (vs : List V) : Prop := ∃ ds : List DyT, vs = [.cells 3 ds.length (flat DyT.v ds)] ∧ ds.length ≤ 9223372036854775807 ∧ ∀ x ∈ ds, x.row
theorem opInt : OpV Try.prog 3 1 TInt := OpV.int Try.underlying3 (by kernel_rfl)
theorem opBool : OpV Try.prog 4 1 TBool := OpV.bool Try.underlying4 (by kernel_rfl)
theorem opInts : OpV Try.prog 24 1 TInts := OpV.ints Try.underlying24 (by kernel_rfl) Try.underlying3 (by kernel_rfl)
theorem opBytes : OpV Try.prog 22 1 (fun vs => ∃ l : List Int, vs = [.ints .u8 l] ∧ l.length ≤ 9223372036854775807 ∧ ∀ x ∈ l, (Lit.int .u8 x).wf = true) := OpV.ints Try.underlying22 (by kernel_rfl) Try.underlying5 (by kernel_rfl)
theorem opNat : OpV Try.prog 52 1 TInts := OpV.struct1 Try.underlying52 (by kernel_rfl) rfl opInts
theorem opWhole : OpV Try.prog 64 2 (fun vs => ∃ (n : Bool) (l : List Int), vs = [.bool n, .ints .i64 l] ∧ l.length ≤ 9223372036854775807 ∧ ∀ x ∈ l, (Lit.int .i64 x).wf = true) :=
  (OpV.struct2 Try.underlying64 (by kernel_rfl) rfl rfl opBool opNat).imp fun vs ⟨_, _, e, ⟨n, e1⟩, ⟨l, e2, h1, h2⟩⟩ => ⟨n, l, by rw [e, e1, e2]; rfl, h1, h2⟩
end
end Go.Eng
