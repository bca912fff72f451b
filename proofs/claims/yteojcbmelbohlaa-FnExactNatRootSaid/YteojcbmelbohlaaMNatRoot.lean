/- What the functions of this seat do, one after another, told by plain values. No conditions. -/
import Derived.Test.YteojcbmelbohlaaSeat
import Derived.Test.YteojcbmelbohlaaVb
import Derived.Test.YteojcbmelbohlaaT3
set_option linter.unusedVariables false
set_option linter.unusedSimpArgs false
namespace Go.Eng
open Go.Proofs
set_option maxRecDepth 100000
set_option linter.unusedSimpArgs false
attribute [local go_sem] r_seq r_skip r_retC r_exitC r_label r_block r_region r_regionW r_xWt r_xW r_cond r_Bt r_Bf r_Ncode r_Nret r_Nexit r_Nblk r_Nblkr r_Nblke r_Nnil r_Es r_Onil r_Oop r_Oif r_Xs r_Gt r_Gf r_wtt r_wtf r_wft r_wff r_wu r_gO r_putS r_putN r_get r_keepN r_keepC r_fr r_fn r_fi r_ff r_fo r_l1 r_l2t r_cun r_cul r_cub r_cui r_cus r_cuis r_cuc r_cusl r_cuti r_cutv r_ven r_vec r_l2f r_l3 r_t1 r_t2 r_t0 r_rt r_rc r_en r_ec r_cM r_oN r_oC r_end r_endt r_endf r_nob0 r_nobN r_nobC r_nobE r_nb0 r_nbi r_nbs r_nbsl r_nbin r_nbce r_nLn r_nLv r_nLc r_nAa r_nAn r_nAk_b r_nAk_i r_nAk_s r_nAk_n r_nAk_is r_nAk_ce r_nAk_fp r_nAk_sl r_nAk_pt r_nAk_fn r_nsn r_nsv r_nsc r_m0 r_mi r_ms r_msl r_min r_mce r_mLn r_mLv r_mLc r_mAa r_mAn r_mAk_b r_mAk_i r_mAk_s r_mAk_n r_mAk_is r_mAk_ce r_mAk_fp r_mAk_sl r_mAk_pt r_mAk_fn r_msn r_msv r_msc r_atb r_ati r_ats r_atn r_atis r_atc r_atf r_atl r_atp r_atfn r_gcn r_gcc r_gLn r_gLc r_gIt r_ndn r_ndc r_gcB r_gLB r_two r_rea r_rea0 r_re1n r_re1c r_ori r_orv r_ord r_orn r_adn r_adc r_ad1 r_ern r_ers r_er0 r_rsl r_rptr r_rb r_ri r_rs r_rn r_ris r_rce r_rfp r_ra4 r_ra3 r_rt4 r_rf4 r_rf3 r_idS r_idc r_nS r_nP r_nF r_nT r_vsl r_vptr r_vb r_vi r_vs r_vn r_vis r_vce r_vfp r_va4 r_va3 r_vt4 r_vf4 r_vf3 r_rV r_Oi r_Ov r_Od r_rE r_rE0 r_En r_Ec r_E0 r_pO r_pk r_agL r_cO r_fO r_fSi r_fSv r_fPv r_fsl r_fptr r_ffn r_fag r_fb r_fint r_fstr r_fnil r_fis r_fce r_ffp r_res r_move r_assign r_pick r_pickt r_pickf r_alloc r_box r_al r_build r_bslice r_load r_store r_nlc r_nl1 r_nl2 r_bin r_un r_conv r_mkf r_mks r_slc r_fad r_fld r_iad r_idx r_ext r_ex1 r_callf r_callt r_callen r_calapp r_calmax r_calmin r_vt r_vcb r_vci r_vcs r_vcnp r_vcn r_vca r_vcf r_vcg r_ofb r_ofi r_ofs r_ofn r_evs r_pn r_prt r_pc r_one_a r_one_b r_one_i r_one_s r_one_n r_one_is r_one_ce r_one_fp r_one_sl r_one_pt r_one_fn r_cs_a r_cs_b r_cs_i r_cs_s r_cs_n r_cs_is r_cs_ce r_cs_fp r_cs_sl r_cs_pt r_cs_fn r_tov r_tovA r_toc r_toa r_tb r_ti r_ts r_tn r_bd r_bd2 r_filn r_fp1 r_filc r_fsn r_fsc r_san r_sac r_bs2 r_bs1 r_newO r_mkq r_mkI r_mkOi r_mkOv r_tIn r_tIc r_repz r_repn r_ldp r_ldf r_l1t r_l1f r_lFt r_lFf r_aggO r_obj r_at r_ati' r_atv r_celli r_cellv r_subi r_subv r_sto r_sto1 r_sto2 r_sets r_setR r_setn r_setc r_s1i r_s1v r_bin1 r_bin2 r_tv1 r_cb r_ci r_cst r_cn r_csl r_cis r_cce r_uni r_unb r_cv r_cvO r_cvN r_cv0 r_cvS r_wB r_cvi r_cvs r_cvb r_cvl r_sO r_rdn r_rdi r_rdl r_rdO r_vsub r_vfn r_mk r_mk1 r_mk2 r_zoi r_zov r_leni r_lenv r_bn r_bndV r_bo r_sl0 r_sl1 r_vsz r_ct1 r_cts r_cti r_ctc r_ctn r_lnl r_lni r_lnc r_lnn r_fa r_fap r_faf r_fi1 r_fit r_fif r_ixi r_ixs r_ixc r_ixf r_ixF r_ixF2 r_ix1 r_ixsl r_ixin r_ixce r_len1 r_lenA r_lTs r_lTn r_lTl r_lTi r_lTc r_app0 r_app r_app1 r_app2 r_app3 r_catO r_cati r_catv r_newt r_newf r_pair r_pairK r_trip r_kis r_kiv r_srn r_srl r_sri r_src r_srs r_oln r_oll r_vw r_wi r_wv r_mm r_max r_min' r_str r_cF r_c2t r_c3f r_c3t r_ab r_c2f r_cV r_p1 r_la r_la2t r_la2f r_la3 r_sh r_z_is r_z_ce r_z_fp r_z_b r_z_i r_z_s r_z_n r_z_l r_z_p r_z_a4 r_z_a3 r_z_t4 r_zoI r_zoV r_roN r_roC r_roi r_rod r_zod r_rov r_aR r_trOi r_trOv r_trPv r_trl r_trp r_trf r_tra r_trb r_tri r_trs r_trn r_tris r_trce r_trfp r_vJ r_vJs r_vJn
attribute [local go_sem] b_add b_sub b_mul b_quo b_rem b_shl b_shr b_eql b_neq b_lss b_leq b_gtr b_geq eqB_s b_eqB b_neB u_neg u_not b_nn b_nn' eqS_s zerosT_s zerosT_n zt_i zt_sl zt_st dstOf_z dstOf_n iltT iltF ileT ileF ieqT ieqF nltT nltF nleT nleF neqT neqF tdiv_pos tmod_pos w64 idx0 List.take_of_length_le
/- Quotients of the reference: naturals. No conditions. -/
section
open Num
section
variable {x y R : Nat} {out : List Int} {L lo hi i : Nat}
def svE (L : Nat) (i : Int) (lo hi : Nat) (x : VE) : VE := (2, some (.ptr 0 0)) :: (3, some (.ptr 1 0)) :: (4, some (.ptr 2 0)) :: (5, some (.ptr 3 0)) :: (8, some (.sl 4 0 L 1)) :: (9, some (.ptr 5 0)) :: (10, some (.int .i64 i)) :: (11, some (.int .i64 lo)) :: (12, some (.int .i64 hi)) :: x
def svH (x y R : Nat) (out : List Int) : VH := [.vals true [.ints .i64 (D x)], .vals true [.ints .i64 (D y)], .vals true [.nil], .vals true [.nil], .ints true .i64 out, .vals true [.sl 6 0 (D R).length 1], .ints true .i64 (D R)]
theorem sv_r (d : Nat) {i : Int} (hy : (D y).length < 400000) (hR : (D R).length < 400000) (h1 : lo + 1 < hi) (h2 : hi ≤ 65536) :
    vCode Try.prog kn (vrun Try.prog kn (d + 2)) 146 (loopAt Try.f146 1) (svE L i lo hi []) (svH x y R out) = some (.norm, if y * ((lo + hi) / 2) ≤ R then svE L i ((lo + hi) / 2) hi [] else svE L i lo ((lo + hi) / 2) [], svH x y R out) := by
  have a1 := fun d => l2of_v (n := (lo + hi) / 2) d (by omega)
  have e0 : (((lo + hi) / 2 : Nat) : Int) = ((lo : Int) + hi) / 2 := by omega
  rw [e0] at a1
  have hl1 : (D ((lo + hi) / 2)).length ≤ 4 := len_small (by omega)
  have a2 := fun d => l2mul_v (x := y) (y := (lo + hi) / 2) d (by omega) (by omega)
  have hl2 := len_mul y ((lo + hi) / 2)
  have a3 := fun d => l2cmp_v (x := y * ((lo + hi) / 2)) (y := R) d (by omega) (by omega)
  have hc : cmpI (y * ((lo + hi) / 2)) R ≤ 0 ↔ y * ((lo + hi) / 2) ≤ R := by unfold cmpI; (repeat' split) <;> omega
  by_cases c : y * ((lo + hi) / 2) ≤ R
  · have c1 := hc.2 c
    clear hc
    rw [if_pos c]
    rw [round_v]; simp only [loopAt, nthC, bodyC, loops, List.nil_append, List.cons_append, List.append_nil, Try.f146, svE, svH, e0]
    generalize D ((lo + hi) / 2) = M at *
    generalize D (y * ((lo + hi) / 2)) = P at *
    generalize cmpI (y * ((lo + hi) / 2)) R = C at *
    simp (implicitDefEqProofs := false) (disch := omega) [go_sem, tab146, a1, a2, a3, c1, w_nil, w_op, w_if, w_Gt, w_Gf, w_Xs, w_V, r_xWt, vmodI, vldI, vmodS, vldS, vmodA, vmodB, vldOK, V.self, vimp, w_safe, w_safe0, w_safeC]
  · have c1 : ¬ cmpI (y * ((lo + hi) / 2)) R ≤ 0 := fun h => c (hc.1 h)
    clear hc
    rw [if_neg c]
    rw [round_v]; simp only [loopAt, nthC, bodyC, loops, List.nil_append, List.cons_append, List.append_nil, Try.f146, svE, svH, e0]
    generalize D ((lo + hi) / 2) = M at *
    generalize D (y * ((lo + hi) / 2)) = P at *
    generalize cmpI (y * ((lo + hi) / 2)) R = C at *
    simp (implicitDefEqProofs := false) (disch := omega) [go_sem, tab146, a1, a2, a3, c1, w_nil, w_op, w_if, w_Gt, w_Gf, w_Xs, w_V, r_xWt, vmodI, vldI, vmodS, vldS, vmodA, vmodB, vldOK, V.self, vimp, w_safe, w_safe0, w_safeC]
theorem sv_x (call : CallV) {i : Int} (h1 : ¬ lo + 1 < hi) (h2 : hi ≤ 65536) (h3 : lo ≤ hi) :
    vCode Try.prog kn call 146 (loopAt Try.f146 1) (svE L i lo hi []) (svH x y R out) = some (.exit 2, svE L i lo hi [(55, some (.bool false))], svH x y R out) := by
  rw [round_v]; simp only [loopAt, nthC, bodyC, loops, List.nil_append, List.cons_append, List.append_nil, Try.f146, svE, svH]
  simp (implicitDefEqProofs := false) (disch := omega) [go_sem, tab146, w_nil, w_op, w_if, w_Gt, w_Gf, w_Xs, w_V, r_xWt, vmodI, vldI, vmodS, vldS, vmodA, vmodB, vldOK, V.self, vimp, w_safe, w_safe0, w_safeC]
theorem sv_l (d : Nat) {i : Int} (hy : (D y).length < 400000) (hR : (D R).length < 400000) (hlt : R < y * 65536) :
    viter (vCode Try.prog kn (vrun Try.prog kn (d + 2)) 146 (loopAt Try.f146 1)) kn.cf.rounds (svE L i 0 65536 []) (svH x y R out) = some (.exit 2, svE L i (R / y) (R / y + 1) [(55, some (.bool false))], svH x y R out) := by
  have key := vi_inv (n := kn.cf.rounds) (body := vCode Try.prog kn (vrun Try.prog kn (d + 2)) 146 (loopAt Try.f146 1)) (fun j s => ∃ lo hi : Nat, s = (svE L i lo hi [], svH x y R out) ∧ y * lo ≤ R ∧ R < y * hi ∧ hi ≤ 65536 ∧ hi - lo + j ≤ 65536)
    (fun r => r = some (.exit 2, svE L i (R / y) (R / y + 1) [(55, some (.bool false))], svH x y R out)) 65536 (by rw [k_cf, c_rounds]; omega)
    (fun j s hj hI => by
      obtain ⟨lo, hi, rfl, g1, g2, g3, g4⟩ := hI
      have hlh : lo < hi := by
        rcases Nat.lt_or_ge lo hi with h | h
        · exact h
        · have := Nat.mul_le_mul_left y h; omega
      by_cases c : lo + 1 < hi
      · left
        rw [sv_r d hy hR c g3]
        by_cases c2 : y * ((lo + hi) / 2) ≤ R
        · rw [if_pos c2]
          exact ⟨_, rfl, _, _, rfl, c2, g2, g3, by omega⟩
        · rw [if_neg c2]
          exact ⟨_, rfl, _, _, rfl, g1, by omega, by omega, by omega⟩
      · right; intro m
        obtain rfl : hi = lo + 1 := by omega
        have hq : R / y = lo := by
          have hy0 : 0 < y := by rcases Nat.eq_zero_or_pos y with h | h; · subst h; omega
                                 · exact h
          rw [Nat.div_eq_iff hy0]; rw [Nat.mul_succ] at g2; have := Nat.mul_comm lo y; constructor <;> omega
        rw [hq]
        exact vi_exit (sv_x _ c g3 (by omega)))
    (fun s hI m => by
      obtain ⟨lo, hi, rfl, g1, g2, g3, g4⟩ := hI
      exfalso
      have : hi ≤ lo := by omega
      have := Nat.mul_le_mul_left y this; omega)
    (svE L i 0 65536 [], svH x y R out) ⟨0, 65536, rfl, by omega, hlt, Nat.le_refl _, by omega⟩
  exact key
end
section
variable {x y : Nat}
def svO (x y : Nat) (r : V) (i : Nat) : VE × VH := ([(2, some (.ptr 0 0)), (3, some (.ptr 1 0)), (4, some (.ptr 2 0)), (5, some (.ptr 3 0)), (8, some (.sl 4 0 (D x).length 1)), (9, some (.ptr 5 0)), (10, some (.int .i64 ((i : Int) - 1)))], [.vals true [.ints .i64 (D x)], .vals true [.ints .i64 (D y)], .vals true [.nil], .vals true [.nil], .ints true .i64 (hi (x / y) (D x).length i), .vals true [r]])
theorem svO_r (d : Nat) (hx : (D x).length < 300000) (hy : (D y).length < 300000) (h0 : 0 < y) {i : Nat} (hi' : i < (D x).length) {r : V} (hr : (r = .nil ∧ x / 65536 ^ (i + 1) % y = 0) ∨ r = .ints .i64 (D (x / 65536 ^ (i + 1) % y))) :
    vCode Try.prog kn (vrun Try.prog kn (d + 2)) 146 (loopAt Try.f146 0) (svO x y r (i + 1)).1 (svO x y r (i + 1)).2 = some (.norm, svO x y (.ints .i64 (D (x / 65536 ^ i % y))) i) := by
  have b1 := dg_bd x i
  obtain ⟨e1, e2⟩ := divs_nat (x := x) (j := i) (d := y) h0
  have b3 := Nat.mod_lt (x / 65536 ^ (i + 1)) h0
  have b4 := divs_lt (d := y) b3 (Nat.mod_lt (x / 65536 ^ i) (by omega : 0 < 65536))
  have hd : dg (x / y) i = (((x / 65536 ^ (i + 1) % y * 65536 + x / 65536 ^ i % 65536) / y : Nat) : Int) := by
    unfold dg
    rw [Nat.div_div_eq_div_mul, Nat.mul_comm, ← Nat.div_div_eq_div_mul, e1, Nat.mul_add_mod, Nat.mod_eq_of_lt b4]
  have hdx : dg x i = ((x / 65536 ^ i % 65536 : Nat) : Int) := rfl
  have hRl : (D (x / 65536 ^ (i + 1) % y)).length ≤ (D y).length := len_D_mono (by omega)
  rw [e2]
  have hg : GoodL (dg x i :: D (x / 65536 ^ (i + 1) % y)) := by
    intro z hz
    rcases List.mem_cons.1 hz with rfl | hz
    · exact b1
    · exact good_D _ z hz
  have hv : val (dg x i :: D (x / 65536 ^ (i + 1) % y)) = ((x / 65536 ^ (i + 1) % y * 65536 + x / 65536 ^ i % 65536 : Nat) : Int) := by
    show dg x i + 65536 * val (D (x / 65536 ^ (i + 1) % y)) = _
    rw [val_D, hdx]
    generalize x / 65536 ^ (i + 1) % y = R
    generalize x / 65536 ^ i % 65536 = g
    omega
  have a1 := fun d => l2norm_v d (by rw [List.length_cons]; omega) hg hv
  have hlt : x / 65536 ^ (i + 1) % y * 65536 + x / 65536 ^ i % 65536 < y * 65536 := by
    have := Nat.mul_le_mul_right 65536 (Nat.succ_le_of_lt b3)
    have := Nat.mod_lt (x / 65536 ^ i) (by omega : 0 < 65536)
    omega
  have hNl : (D (x / 65536 ^ (i + 1) % y * 65536 + x / 65536 ^ i % 65536)).length ≤ (D y).length + 2 := by
    refine Nat.le_trans (len_D_mono (Nat.le_of_lt hlt)) (Nat.le_trans (len_mul y 65536) ?_)
    have : (D 65536).length ≤ 2 := len_small (by omega)
    omega
  clear hv hg
  generalize hN : x / 65536 ^ (i + 1) % y * 65536 + x / 65536 ^ i % 65536 = N at *
  have hq : N / y < 65536 := Nat.div_lt_of_lt_mul hlt
  have hl0 := fun (i : Int) (L : Nat) (out : List Int) ks => loop_v (P := Try.prog) (K := kn) (ks := ks) (sv_l (x := x) (out := out) (L := L) d (i := i) (by omega) (by omega) hlt)
  simp only [loopAt, nthC, bodyC, loops, List.nil_append, List.cons_append, List.append_nil, Try.f146, svE, svH, Int.natCast_zero, show ((65536 : Nat) : Int) = 65536 from rfl] at hl0
  have a2 := fun d => l2of_v (n := N / y) d (by omega)
  have hl1 : (D (N / y)).length ≤ 4 := len_small (by omega)
  have a3 := fun d => l2mul_v (x := y) (y := N / y) d (by omega) (by omega)
  have hle : y * (N / y) ≤ N := Nat.mul_div_le N y
  have a4 := fun d => l2sub_v (x := N) (y := y * (N / y)) d hle (by omega)
  have hm : N - y * (N / y) = N % y := by have := Nat.div_add_mod N y; omega
  rw [hm] at a4
  have hl := hi_len (q := x / y) (n := (D x).length) (i := i + 1) (by omega)
  have e0 : (((i + 1 : Nat) : Int) - 1) = i := by omega
  rw [round_v]; simp only [loopAt, nthC, bodyC, loops, List.nil_append, List.cons_append, List.append_nil, Try.f146, svO, ← hi_set hi', hd, e0]
  have hml : (D (N % y)).length ≤ (D y).length := len_D_mono (Nat.le_of_lt (Nat.mod_lt _ h0))
  have hmul := len_mul y (N / y)
  rcases hr with ⟨rfl, hz⟩ | rfl
  · rw [hz, D_zero] at a1
    clear hd hdx e1 e2 hN hlt b4 b3 hm hle hRl hz
    generalize hi (x / y) (D x).length (i + 1) = H at *
    generalize D (y * (N / y)) = M at *
    generalize D (N / y) = Q at *
    generalize D (N % y) = R' at *
    generalize D N = N' at *
    generalize N / y = q at *
    simp (implicitDefEqProofs := false) (disch := omega) [go_sem, tab146, gt_D, a1, a2, a3, a4, hl, hl0, w_nil, w_op, w_if, w_Gt, w_Gf, w_Xs, w_V, r_xWt, vmodI, vldI, vmodS, vldS, vmodA, vmodB, vldOK, V.self, vimp, w_safe, w_safe0, w_safeC]
  · clear hd hdx e1 e2 hlt b4 hm hle
    generalize x / 65536 ^ (i + 1) % y = R at *
    clear hN b3
    generalize hi (x / y) (D x).length (i + 1) = H at *
    generalize D (y * (N / y)) = M at *
    generalize D (N / y) = Q at *
    generalize D (N % y) = R' at *
    generalize D N = N' at *
    generalize D R = R0 at *
    generalize N / y = q at *
    have htk : List.take (1 + R0.length) (dg x i :: R0) = dg x i :: R0 := List.take_of_length_le (by rw [List.length_cons]; omega)
    simp (implicitDefEqProofs := false) (disch := omega) [go_sem, tab146, gt_D, htk, a1, a2, a3, a4, hl, hl0, w_nil, w_op, w_if, w_Gt, w_Gf, w_Xs, w_V, r_xWt, vmodI, vldI, vmodS, vldS, vmodA, vmodB, vldOK, V.self, vimp, w_safe, w_safe0, w_safeC]
theorem svO_x (call : CallV) {r : V} (hr : r = .nil ∨ ∃ l, r = .ints .i64 l) :
    vCode Try.prog kn call 146 (loopAt Try.f146 0) (svO x y r 0).1 (svO x y r 0).2 = some (.exit 0, (svO x y r 0).1 ++ [(39, some (.bool false))], (svO x y r 0).2) := by
  rw [round_v]; simp only [loopAt, nthC, bodyC, loops, List.nil_append, List.cons_append, List.append_nil, Try.f146, svO]
  rcases hr with rfl | ⟨l, rfl⟩
  all_goals
   simp (implicitDefEqProofs := false) (disch := omega) [go_sem, tab146, w_nil, w_op, w_if, w_Gt, w_Gf, w_Xs, w_V, r_xWt, vmodI, vldI, vmodS, vldS, vmodA, vmodB, vldOK, V.self, vimp, w_safe, w_safe0, w_safeC]
theorem l2div_v (d : Nat) (hx : (D x).length < 300000) (hy : (D y).length < 300000) (h0 : y ≠ 0) :
    vrun Try.prog kn (d + 3) 146 [.agg [.ints .i64 (D x)], .agg [.ints .i64 (D y)]] [] = some (.tup [.agg [.ints .i64 (D (x / y))], .agg [.ints .i64 (D (x % y))]], []) := by
  by_cases h1 : (D y).length = 1
  · have hy1 : y < 65536 := by have := lt_len_D y; rw [h1] at this; omega
    have hg0 : gt (D y) 0 = (y : Int) := by
      rw [gt_D]; unfold dg; rw [Nat.pow_zero, Nat.div_one, Nat.mod_eq_of_lt hy1]
    have a1 := fun d => l2small_v (z := x) (m := y) d (by omega) (by omega) (by omega)
    have hm : x % y < y := Nat.mod_lt _ (by omega)
    have a2 := fun d => l2of_v (n := x % y) d (by omega)
    generalize D y = Y at *
    generalize D (x % y) = R at *
    generalize ((x % y : Nat) : Int) = r at *
    rw [vrun_v Try.func146 rfl rfl rfl]; simp only [Try.f146]
    simp (implicitDefEqProofs := false) (disch := omega) [go_sem, tab146, h1, hg0, a1, a2, w_nil, w_op, w_if, w_Gt, w_Gf, w_Xs, w_V, r_xWt, vmodI, vldI, vmodS, vldS, vmodA, vmodB, vldOK, V.self, vimp, w_safe, w_safe0, w_safeC]
  · have hl0 : ∃ r : V, (r = .nil ∧ D (x % y) = [] ∨ r = .ints .i64 (D (x % y))) ∧ ∀ ks, xC Try.prog kn (vrun Try.prog kn (d + 2)) 146 (.loop (loopAt Try.f146 0)) ks (svO x y .nil (D x).length).1 (svO x y .nil (D x).length).2 = xN Try.prog kn (vrun Try.prog kn (d + 2)) 146 (.exit 0) ks ((svO x y r 0).1 ++ [(39, some (.bool false))]) (svO x y r 0).2 := by
      have key : ∀ (i n : Nat) (r : V), i ≤ (D x).length → i < n → (r = .nil ∧ x / 65536 ^ i % y = 0 ∨ r = .ints .i64 (D (x / 65536 ^ i % y))) → ∃ r' : V, (r' = .nil ∧ D (x % y) = [] ∨ r' = .ints .i64 (D (x % y))) ∧ viter (vCode Try.prog kn (vrun Try.prog kn (d + 2)) 146 (loopAt Try.f146 0)) n (svO x y r i).1 (svO x y r i).2 = some (.exit 0, (svO x y r' 0).1 ++ [(39, some (.bool false))], (svO x y r' 0).2) := by
        intro i
        induction i with
        | zero =>
          intro n r _ hn hr
          obtain ⟨n, rfl⟩ : ∃ q, n = q + 1 := ⟨n - 1, by omega⟩
          rw [Nat.pow_zero, Nat.div_one] at hr
          exact ⟨r, hr.imp (fun h => ⟨h.1, by rw [h.2, D_zero]⟩) id, vi_exit (svO_x _ (hr.imp (·.1) fun h => ⟨_, h⟩))⟩
        | succ i ih =>
          intro n r h1 hn hr
          obtain ⟨n, rfl⟩ : ∃ q, n = q + 1 := ⟨n - 1, by omega⟩
          obtain ⟨r', h2, h3⟩ := ih n _ (by omega) (by omega) (.inr rfl)
          exact ⟨r', h2, by rw [vi_norm (svO_r d hx hy (by omega) (by omega) hr)]; exact h3⟩
      obtain ⟨r, h2, h3⟩ := key (D x).length kn.cf.rounds .nil (Nat.le_refl _) (by rw [k_cf, c_rounds]; omega) (.inl ⟨rfl, by rw [quo_end, Nat.zero_mod]⟩)
      exact ⟨r, h2, fun ks => loop_v (P := Try.prog) (K := kn) (ks := ks) h3⟩
    obtain ⟨r, hr, hl0⟩ := hl0
    have c2 : x / y < 65536 ^ (D x).length := Nat.lt_of_le_of_lt (Nat.div_le_self _ _) (lt_len_D x)
    have hn := fun d => l2norm_v d (l := dgs (x / y) (D x).length) (v := x / y) (by rw [dgs_len]; omega) (dgs_good _ _) (by rw [dgs_val, lo_len (lt_pow_len c2)])
    have g0 : hi (x / y) (D x).length (D x).length = List.replicate (D x).length 0 := by unfold hi; rw [List.drop_eq_nil_of_le (by rw [dgs_len]; omega), List.append_nil]
    have g1 : hi (x / y) (D x).length 0 = dgs (x / y) (D x).length := by unfold hi; rw [List.replicate_zero, List.nil_append, List.drop_zero]
    simp only [loopAt, nthC, bodyC, loops, List.nil_append, List.cons_append, List.append_nil, Try.f146, svO, g0, g1, Int.natCast_zero, List.cons_append, List.nil_append] at hl0
    have hql : (D (x / y)).length ≤ (D x).length := len_D_mono (Nat.div_le_self _ _)
    have hdl := dgs_len (x / y) (D x).length
    clear g0 g1 c2
    generalize dgs (x / y) (D x).length = W at *
    generalize D (x / y) = Q at *
    rcases hr with ⟨rfl, hz⟩ | rfl
    · rw [hz]
      rw [vrun_v Try.func146 rfl rfl rfl]; simp only [Try.f146]
      simp (implicitDefEqProofs := false) (disch := omega) [go_sem, tab146, h1, hn, hl0, hdl, w_nil, w_op, w_if, w_Gt, w_Gf, w_Xs, w_V, r_xWt, vmodI, vldI, vmodS, vldS, vmodA, vmodB, vldOK, V.self, vimp, w_safe, w_safe0, w_safeC]
    · generalize D (x % y) = R at *
      rw [vrun_v Try.func146 rfl rfl rfl]; simp only [Try.f146]
      simp (implicitDefEqProofs := false) (disch := omega) [go_sem, tab146, h1, hn, hl0, hdl, w_nil, w_op, w_if, w_Gt, w_Gf, w_Xs, w_V, r_xWt, vmodI, vldI, vmodS, vldS, vmodA, vmodB, vldOK, V.self, vimp, w_safe, w_safe0, w_safeC]
end
end
/- Trailing noughts of a limb, as the library counts them. No conditions. -/
section
open Num
theorem wu64' {x : Int} (h1 : 0 ≤ x) (h2 : x ≤ 18446744073709551615) : IntKind.wrap .u64 x = x := by
  simp [IntKind.wrap, IntKind.bits, IntKind.signed]; omega
theorem negu {x : Nat} (h0 : x ≠ 0) (hx : x < 65536) : IntKind.wrap .u64 (-(x : Int)) = ((2 ^ 64 - x : Nat) : Int) := by
  simp [IntKind.wrap, IntKind.bits, IntKind.signed]; omega
theorem andneg (P : Program) (ty : TypeId) {x t o : Nat} (h0 : x ≠ 0) (hx : x < 65536) (h : x = 2 ^ t * (2 * o + 1)) : binE P .and ty (.int .u64 (x : Int)) (.int .u64 ((2 ^ 64 - x : Nat) : Int)) = some (.int .u64 ((2 ^ t : Nat) : Int)) := by
  rw [b_and]
  have e : (BitVec.ofInt (IntKind.bits .u64) (x : Int) &&& BitVec.ofInt (IntKind.bits .u64) ((2 ^ 64 - x : Nat) : Int)).toNat = 2 ^ t := by
    show (BitVec.ofInt 64 (x : Int) &&& BitVec.ofInt 64 ((2 ^ 64 - x : Nat) : Int)).toNat = 2 ^ t
    rw [BitVec.toNat_and, BitVec.ofInt_natCast, BitVec.ofInt_natCast, BitVec.toNat_ofNat, BitVec.toNat_ofNat, Nat.mod_eq_of_lt (by omega), Nat.mod_eq_of_lt (by omega)]
    exact land_neg h (by omega)
  rw [e]
  have hle : 2 ^ t ≤ x := by rw [h]; exact Nat.le_mul_of_pos_right _ (by omega)
  rw [wu64' (by omega) (by omega)]
theorem tz16 {x t o : Nat} (hx : x < 65536) (h : x = 2 ^ t * (2 * o + 1)) : t < 16 := by
  have hle : 2 ^ t ≤ x := by rw [h]; exact Nat.le_mul_of_pos_right _ (by omega)
  exact (Nat.pow_lt_pow_iff_right (a := 2) (by omega)).1 (by omega : 2 ^ t < 2 ^ 16)
end
/- Square roots, program. No conditions. -/
section
open Num
section
variable {a x : Nat}
theorem top_dg (h0 : x ≠ 0) : x / 65536 ^ ((D x).length - 1) % 65536 = x / 65536 ^ ((D x).length - 1) ∧ x / 65536 ^ ((D x).length - 1) ≠ 0 ∧ 0 < (D x).length := by
  have hp : 0 < (D x).length := List.length_pos_iff.2 fun e => h0 (D_nil_iff.1 e)
  have h1 := le_of_len_D h0
  have h2 := lt_len_D x
  have e : 65536 ^ (D x).length = 65536 ^ ((D x).length - 1) * 65536 := by rw [← Nat.pow_succ]; congr 1; omega
  have h3 : x / 65536 ^ ((D x).length - 1) < 65536 := Nat.div_lt_of_lt_mul (by rw [← e]; exact h2)
  exact ⟨Nat.mod_eq_of_lt h3, by have := Nat.div_pos h1 (powN_pos _); omega, hp⟩
theorem bitsOf_v (d : Nat) (hx : (D x).length < 1000000) : vrun Try.prog kn (d + 3) 149 [.ints .i64 (D x)] [] = some (.int .i64 (nb x), []) := by
  by_cases h0 : x = 0
  · subst h0
    rw [D_zero, nb_zero]
    rw [vrun_v Try.func149 rfl rfl rfl]; simp only [Try.f149]
    simp (implicitDefEqProofs := false) (disch := omega) [go_sem, tab149]
  · obtain ⟨t1, t2, t3⟩ := top_dg h0
    have hnb := nb_top t2
    have hlt : x / 65536 ^ ((D x).length - 1) < 65536 := by rw [← t1]; exact Nat.mod_lt _ (by omega)
    have a1 := fun d => Len_v (x := x / 65536 ^ ((D x).length - 1)) d hlt
    have hg : gt (D x) ((D x).length - 1) = ((x / 65536 ^ ((D x).length - 1) : Nat) : Int) := by rw [gt_D]; unfold dg; rw [t1]
    have hb := nb_16 hlt
    rw [hnb]
    have hne : D x ≠ [] := fun e => h0 (D_nil_iff.1 e)
    generalize x / 65536 ^ ((D x).length - 1) = q at *
    generalize D x = L at *
    have hw : IntKind.wrap .u64 (q : Int) = q := wu64' (by omega) (by omega)
    have e1 : ((L.length : Int) - 1).toNat = L.length - 1 := by omega
    have e2 : 16 * ((L.length : Int) - 1) + (nb q : Int) = ((16 * (L.length - 1) + nb q : Nat) : Int) := by omega
    rw [vrun_v Try.func149 rfl rfl rfl]; simp only [Try.f149]
    simp (implicitDefEqProofs := false) (disch := omega) [go_sem, tab149, a1, hg, hne, hw, e1, e2]
def rtS (a x : Nat) : VE × VH := ([(0, some (.ints .i64 (D a))), (3, some (.sl 0 0 (D x).length 1))], [.ints true .i64 (D x)])
theorem nst_len (hx : (D x).length < 100000) (ha : (D a).length < 100000) : (D (x + a / x)).length < 100002 := by
  have h1 := len_D_mono (Nat.div_le_self a x)
  have := len_add (x := x) (y := a / x) (n := 100000) (by omega) (by omega)
  omega
theorem rt_r (d : Nat) (ha : (D a).length < 100000) (hx : (D x).length < 100000) (h0 : x ≠ 0) (hs : nst a x < x) : vCode Try.prog kn (vrun Try.prog kn (d + 4)) 102 (loopAt Try.f102 0) (rtS a x).1 (rtS a x).2 = some (.norm, rtS a (nst a x)) := by
  have a1 := fun d => divide_v (x := a) (y := x) d (by omega) (by omega) h0
  have h1 := len_D_mono (Nat.div_le_self a x)
  have a2 := fun d => plus_v (x := x) (y := a / x) d (by omega) (by omega)
  have hl := nst_len hx ha
  have a3 := fun d => down_v (x := x + a / x) (k := 1) d (by omega) (by omega)
  rw [Nat.pow_one, show (x + a / x) / 2 = nst a x from rfl, show ((1 : Nat) : Int) = 1 from rfl] at a3
  have hl2 := len_D_mono (Nat.le_of_lt hs)
  have a4 := fun d => compare_v (x := nst a x) (y := x) d (by omega) (by omega)
  have hc : cmpI (nst a x) x = -1 := by unfold cmpI; rw [if_pos hs]
  rw [hc] at a4
  unfold rtS
  generalize D (a % x) = R at *
  generalize D (x + a / x) = P at *
  generalize D (a / x) = Q at *
  generalize D (nst a x) = Y at *
  generalize D x = X at *
  generalize D a = A at *
  rw [round_v]; simp only [loopAt, nthC, bodyC, loops, List.nil_append, List.cons_append, List.append_nil, Try.f102]
  simp (implicitDefEqProofs := false) (disch := omega) [go_sem, tab102, nil102, a1, a2, a3, a4]
theorem rt_x (d : Nat) (ha : (D a).length < 100000) (hx : (D x).length < 100000) (h0 : x ≠ 0) (hs : x ≤ nst a x) : vCode Try.prog kn (vrun Try.prog kn (d + 4)) 102 (loopAt Try.f102 0) (rtS a x).1 (rtS a x).2 = some (.ret, [(2, some (.sl 0 0 (D x).length 1))], [.ints true .i64 (D x)]) := by
  have a1 := fun d => divide_v (x := a) (y := x) d (by omega) (by omega) h0
  have h1 := len_D_mono (Nat.div_le_self a x)
  have a2 := fun d => plus_v (x := x) (y := a / x) d (by omega) (by omega)
  have hl := nst_len hx ha
  have a3 := fun d => down_v (x := x + a / x) (k := 1) d (by omega) (by omega)
  rw [Nat.pow_one, show (x + a / x) / 2 = nst a x from rfl, show ((1 : Nat) : Int) = 1 from rfl] at a3
  have hl2 : (D (nst a x)).length ≤ (D (x + a / x)).length := len_D_mono (Nat.div_le_self _ _)
  have a4 := fun d => compare_v (x := nst a x) (y := x) d (by omega) (by omega)
  have hc : ¬ cmpI (nst a x) x < 0 := by unfold cmpI; rw [if_neg (by omega)]; split <;> omega
  unfold rtS
  generalize cmpI (nst a x) x = c at *
  generalize D (a % x) = R at *
  generalize D (x + a / x) = P at *
  generalize D (a / x) = Q at *
  generalize D (nst a x) = Y at *
  generalize D x = X at *
  generalize D a = A at *
  rw [round_v]; simp only [loopAt, nthC, bodyC, loops, List.nil_append, List.cons_append, List.append_nil, Try.f102]
  simp (implicitDefEqProofs := false) (disch := omega) [go_sem, tab102, nil102, a1, a2, a3, a4, hc]
theorem rt_bd (a : Nat) : rt a ≤ 2 ^ ((nb a + 1) / 2) := by
  have h1 := nb_lt a
  have h2 := rt_le a
  rcases Nat.lt_or_ge (2 ^ ((nb a + 1) / 2)) (rt a) with h | h
  · have h3 : 2 ^ ((nb a + 1) / 2) * 2 ^ ((nb a + 1) / 2) ≤ rt a * rt a := Nat.mul_le_mul (Nat.le_of_lt h) (Nat.le_of_lt h)
    rw [← Nat.pow_add] at h3
    have h4 : 2 ^ nb a ≤ 2 ^ ((nb a + 1) / 2 + (nb a + 1) / 2) := Nat.pow_le_pow_right (by omega) (by omega)
    omega
  · exact h
theorem nb_len (a : Nat) : nb a ≤ 16 * (D a).length := by
  by_cases h0 : a = 0
  · subst h0; rw [nb_zero]; omega
  · obtain ⟨h1, h2⟩ := nb_le h0
    have h3 := lt_len_D a
    have e : 65536 ^ (D a).length = 2 ^ (16 * (D a).length) := by rw [Nat.pow_mul]
    rw [e] at h3
    have := (Nat.pow_lt_pow_iff_right (by omega : 1 < 2)).1 (Nat.lt_of_le_of_lt h1 h3)
    omega
theorem rootOf_v (d : Nat) (ha : (D a).length < 10000) : vrun Try.prog kn (d + 5) 102 [.ints .i64 (D a)] [] = some (.sl 0 0 (D (rt a)).length 1, [.ints true .i64 (D (rt a))]) := by
  by_cases h0 : a = 0
  · subst h0
    have : rt 0 = 0 := rfl
    rw [this, D_zero]
    rw [vrun_v Try.func102 rfl rfl rfl]; simp only [Try.f102]
    simp (implicitDefEqProofs := false) (disch := omega) [go_sem, tab102, nil102]
  · have hnb := nb_len a
    obtain ⟨K, hK⟩ : ∃ K, K = (nb a + 1) / 2 := ⟨_, rfl⟩
    have hb := rt_bd a
    rw [← hK] at hb
    have hp := rt_pos (a := a) (by omega)
    have hX : (D (1 * 2 ^ K)).length < 90000 := by
      have := len_shl 1 K
      have : (D 1).length ≤ 1 := len_small (by omega)
      omega
    have hlx : ∀ x, x ≤ 2 ^ K → (D x).length < 100000 := fun x hx => by
      have := len_D_mono hx
      rw [Nat.one_mul] at hX; omega
    have hrun := nst_run (a := a) (body := vCode Try.prog kn (vrun Try.prog kn (d + 0 + 4)) 102 (loopAt Try.f102 0)) (S := rtS a) (R := (.ret, [(2, some (.sl 0 0 (D (rt a)).length 1))], [.ints true .i64 (D (rt a))])) (X := 2 ^ K) (by omega)
      (fun x h1 h2 h3 => rt_r _ (by omega) (hlx x h2) (by omega) h3) (rt_x _ (by omega) (hlx _ hb) (by omega) (nst_ge (rt_le a) hp)) (by simp) K kn.cf.rounds (2 ^ K) hb (Nat.le_refl _) (by omega) (by rw [k_cf, c_rounds]; omega)
    have hl0 := fun ks => loop_v (P := Try.prog) (K := kn) (ks := ks) hrun
    simp only [loopAt, nthC, bodyC, loops, List.nil_append, List.cons_append, List.append_nil, Try.f102, rtS] at hl0
    have a1 := fun d => small_v (n := 1) d (by omega)
    have a2 := fun d => bitsOf_v (x := a) d (by omega)
    have a3 := fun d => up_v (x := 1) (k := K) d (by have : (D 1).length ≤ 1 := len_small (by omega); omega) (by omega)
    rw [show ((1 : Nat) : Int) = 1 from rfl] at a1
    rw [Nat.one_mul] at a3
    have hne : D a ≠ [] := fun e => h0 (D_nil_iff.1 e)
    have hlp : 0 < (D a).length := List.length_pos_iff.2 hne
    have eK : ((nb a : Int) + 1) / 2 = (K : Int) := by omega
    have l1 : (D 1).length ≤ 1 := len_small (by omega)
    clear hrun hlx hX hb
    generalize D (2 ^ K) = X at *
    generalize D (rt a) = R at *
    generalize D 1 = o at *
    generalize D a = A at *
    rw [vrun_v Try.func102 rfl rfl rfl]; simp only [Try.f102]
    simp (implicitDefEqProofs := false) (disch := omega) [go_sem, tab102, nil102, a1, a2, a3, hl0, hne, eK]
def nrR (l : List Int) : List Int := if natOkB l then D (rt (nN l)) else []
theorem rt_self (a : Nat) : rt a ≤ a := by
  have h := rt_le a
  rcases Nat.eq_zero_or_pos (rt a) with h0 | h0
  · omega
  · exact Nat.le_trans (Nat.le_mul_of_pos_left _ h0) h
theorem NatRoot_v (d : Nat) {l : List Int} (hl : l.length < 1000000000) : vrun Try.prog kn (d + 8) 42 [.agg [.ints .i64 l]] [] = some (.agg [.sl 0 0 (nrR l).length 1], [.ints true .i64 (nrR l)]) := by
  have a1 := fun d => NatOk_v d hl
  unfold nrR
  cases h : natOkB l with
  | false =>
    rw [h] at a1
    rw [vrun_v Try.func42 rfl rfl rfl]; simp only [Try.f42]
    simp (implicitDefEqProofs := false) (disch := omega) [go_sem, tab42, a1]
  | true =>
    rw [h] at a1
    obtain ⟨e1, l1⟩ := okN h
    have a2 := fun d => rootOf_v (a := nN l) d (by omega)
    have l2 := len_D_mono (rt_self (nN l))
    rw [← e1] at a2
    simp only [if_true]
    generalize D (rt (nN l)) = T at *
    rw [vrun_v Try.func42 rfl rfl rfl]; simp only [Try.f42]
    simp (implicitDefEqProofs := false) (disch := omega) [go_sem, tab42, a1, a2]
end
end
/- Square roots, reference. No conditions. -/
section
open Num
section
variable {a x q : Nat}
def biS (n q j : Nat) : VE × VH := ([(3, some (.int .i64 ((n : Int) + j))), (4, some (.int .i64 ((q / 2 ^ j : Nat) : Int)))], [])
theorem bi_r (call : CallV) {n j : Nat} (hn : n < 100000000) (hq : q < 65536) (hj : j < nb q) : vCode Try.prog kn call 145 (loopAt Try.f145 0) (biS n q j).1 (biS n q j).2 = some (.norm, biS n q (j + 1)) := by
  have hb := nb_16 hq
  have h0 : q ≠ 0 := fun h => by rw [h, nb_zero] at hj; omega
  have h1 := (nb_le h0).1
  have h2 : 2 ^ j ≤ q := Nat.le_trans (Nat.pow_le_pow_right (by omega) (by omega)) h1
  have h3 : 0 < q / 2 ^ j := Nat.div_pos h2 (Nat.two_pow_pos _)
  have h4 : q / 2 ^ j ≤ q := Nat.div_le_self _ _
  have e1 : ((q / 2 ^ (j + 1) : Nat) : Int) = ((q / 2 ^ j : Nat) : Int) / 2 := by rw [Nat.pow_succ, ← Nat.div_div_eq_div_mul, Int.natCast_ediv]; rfl
  have e2 : ((n : Int) + ((j + 1 : Nat) : Int)) = (n : Int) + j + 1 := by omega
  rw [round_v]; simp only [loopAt, nthC, bodyC, loops, List.nil_append, List.cons_append, List.append_nil, Try.f145, biS, e1, e2]
  generalize q / 2 ^ j = y at *
  simp (implicitDefEqProofs := false) (disch := omega) [go_sem, tab145]
theorem bi_x (call : CallV) {n : Nat} (hn : n < 100000000) : vCode Try.prog kn call 145 (loopAt Try.f145 0) (biS n q (nb q)).1 (biS n q (nb q)).2 = some (.exit 0, (biS n q (nb q)).1 ++ [(23, some (.bool false))], (biS n q (nb q)).2) := by
  have h1 := nb_lt q
  have e1 : ((q / 2 ^ nb q : Nat) : Int) = 0 := by rw [Nat.div_eq_of_lt h1]; rfl
  rw [round_v]; simp only [loopAt, nthC, bodyC, loops, List.nil_append, List.cons_append, List.append_nil, Try.f145, biS, e1]
  simp (implicitDefEqProofs := false) (disch := omega) [go_sem, tab145]
theorem l2bits_v (d : Nat) (hx : (D x).length < 1000000) : vrun Try.prog kn (d + 1) 145 [.agg [.ints .i64 (D x)]] [] = some (.int .i64 (nb x), []) := by
  by_cases h0 : x = 0
  · subst h0
    rw [D_zero, nb_zero]
    rw [vrun_v Try.func145 rfl rfl rfl]; simp only [Try.f145]
    simp (implicitDefEqProofs := false) (disch := omega) [go_sem, tab145]
  · obtain ⟨t1, t2, t3⟩ := top_dg h0
    have hnb := nb_top t2
    have hlt : x / 65536 ^ ((D x).length - 1) < 65536 := by rw [← t1]; exact Nat.mod_lt _ (by omega)
    have hg : gt (D x) ((D x).length - 1) = ((x / 65536 ^ ((D x).length - 1) : Nat) : Int) := by rw [gt_D]; unfold dg; rw [t1]
    have hb := nb_16 hlt
    rw [hnb]
    have hne : D x ≠ [] := fun e => h0 (D_nil_iff.1 e)
    generalize x / 65536 ^ ((D x).length - 1) = q at *
    have hl0 := fun ks => loop_v (P := Try.prog) (K := kn) (ks := ks) (vi_for (biS (16 * ((D x).length - 1)) q) (nb q) (n := kn.cf.rounds) (by rw [k_cf, c_rounds]; omega) (fun j hj => bi_r (vrun Try.prog kn d) (by omega) hlt hj) fun m => vi_exit (bi_x _ (by omega)))
    simp only [loopAt, nthC, bodyC, loops, List.nil_append, List.cons_append, List.append_nil, Try.f145, biS, Int.natCast_zero, Int.add_zero, Nat.pow_zero, Nat.div_one, List.cons_append, List.nil_append] at hl0
    generalize D x = L at *
    have e1 : ((L.length : Int) - 1).toNat = L.length - 1 := by omega
    have e2 : (((16 * (L.length - 1) : Nat)) : Int) = 16 * ((L.length : Int) - 1) := by omega
    have e3 : ((16 * (L.length - 1) + nb q : Nat) : Int) = 16 * ((L.length : Int) - 1) + (nb q : Int) := by omega
    rw [e2] at hl0
    rw [e3]
    rw [vrun_v Try.func145 rfl rfl rfl]; simp only [Try.f145]
    simp (implicitDefEqProofs := false) (disch := omega) [go_sem, tab145, hg, hne, e1, hl0]
def srS (a x : Nat) : VE × VH := ([(1, some (.ptr 0 0)), (2, some (.ptr 1 0)), (3, some (.ptr 2 0))], [.vals true [.ints .i64 (D a)], .vals true [.nil], .vals true [.ints .i64 (D x)]])
theorem sr_r (d : Nat) (ha : (D a).length < 100000) (hx : (D x).length < 100000) (h0 : x ≠ 0) (hs : nst a x < x) : vCode Try.prog kn (vrun Try.prog kn (d + 3)) 100 (loopAt Try.f100 0) (srS a x).1 (srS a x).2 = some (.norm, srS a (nst a x)) := by
  have a1 := fun d => l2div_v (x := a) (y := x) d (by omega) (by omega) h0
  have h1 := len_D_mono (Nat.div_le_self a x)
  have a2 := fun d => l2add_v (x := x) (y := a / x) d (by omega) (by omega)
  have hl := nst_len hx ha
  have a3 := fun d => l2shr_v (x := x + a / x) (k := 1) d (by omega) (by omega)
  rw [Nat.pow_one, show (x + a / x) / 2 = nst a x from rfl, show ((1 : Nat) : Int) = 1 from rfl] at a3
  have hl2 := len_D_mono (Nat.le_of_lt hs)
  have a4 := fun d => l2cmp_v (x := nst a x) (y := x) d (by omega) (by omega)
  have hc : cmpI (nst a x) x = -1 := by unfold cmpI; rw [if_pos hs]
  rw [hc] at a4
  unfold srS
  generalize D (a % x) = R at *
  generalize D (x + a / x) = P at *
  generalize D (a / x) = Q at *
  generalize D (nst a x) = Y at *
  generalize D x = X at *
  generalize D a = A at *
  rw [round_v]; simp only [loopAt, nthC, bodyC, loops, List.nil_append, List.cons_append, List.append_nil, Try.f100]
  simp (implicitDefEqProofs := false) (disch := omega) [go_sem, tab100, a1, a2, a3, a4]
theorem sr_x (d : Nat) (ha : (D a).length < 100000) (hx : (D x).length < 100000) (h0 : x ≠ 0) (hs : x ≤ nst a x) : vCode Try.prog kn (vrun Try.prog kn (d + 3)) 100 (loopAt Try.f100 0) (srS a x).1 (srS a x).2 = some (.ret, [(2, some (.ptr 0 0))], [.vals true [.ints .i64 (D x)]]) := by
  have a1 := fun d => l2div_v (x := a) (y := x) d (by omega) (by omega) h0
  have h1 := len_D_mono (Nat.div_le_self a x)
  have a2 := fun d => l2add_v (x := x) (y := a / x) d (by omega) (by omega)
  have hl := nst_len hx ha
  have a3 := fun d => l2shr_v (x := x + a / x) (k := 1) d (by omega) (by omega)
  rw [Nat.pow_one, show (x + a / x) / 2 = nst a x from rfl, show ((1 : Nat) : Int) = 1 from rfl] at a3
  have hl2 : (D (nst a x)).length ≤ (D (x + a / x)).length := len_D_mono (Nat.div_le_self _ _)
  have a4 := fun d => l2cmp_v (x := nst a x) (y := x) d (by omega) (by omega)
  have hc : 0 ≤ cmpI (nst a x) x := by unfold cmpI; rw [if_neg (by omega)]; split <;> omega
  unfold srS
  generalize cmpI (nst a x) x = c at *
  generalize D (a % x) = R at *
  generalize D (x + a / x) = P at *
  generalize D (a / x) = Q at *
  generalize D (nst a x) = Y at *
  generalize D x = X at *
  generalize D a = A at *
  rw [round_v]; simp only [loopAt, nthC, bodyC, loops, List.nil_append, List.cons_append, List.append_nil, Try.f100]
  simp (implicitDefEqProofs := false) (disch := omega) [go_sem, tab100, a1, a2, a3, a4, hc]
theorem l2root_v (d : Nat) (ha : (D a).length < 10000) : vrun Try.prog kn (d + 4) 100 [.agg [.ints .i64 (D a)]] [] = some (.agg [.ints .i64 (D (rt a))], []) := by
  by_cases h0 : a = 0
  · subst h0
    have : rt 0 = 0 := rfl
    rw [this, D_zero]
    rw [vrun_v Try.func100 rfl rfl rfl]; simp only [Try.f100]
    simp (implicitDefEqProofs := false) (disch := omega) [go_sem, tab100]
  · have hnb := nb_len a
    obtain ⟨K, hK⟩ : ∃ K, K = (nb a + 1) / 2 := ⟨_, rfl⟩
    have hb := rt_bd a
    rw [← hK] at hb
    have hp := rt_pos (a := a) (by omega)
    have hX : (D (1 * 2 ^ K)).length < 90000 := by
      have := len_shl 1 K
      have : (D 1).length ≤ 1 := len_small (by omega)
      omega
    have hlx : ∀ x, x ≤ 2 ^ K → (D x).length < 100000 := fun x hx => by
      have := len_D_mono hx
      rw [Nat.one_mul] at hX; omega
    have hrun := nst_run (a := a) (body := vCode Try.prog kn (vrun Try.prog kn (d + 0 + 3)) 100 (loopAt Try.f100 0)) (S := srS a) (R := (.ret, [(2, some (.ptr 0 0))], [.vals true [.ints .i64 (D (rt a))]])) (X := 2 ^ K) (by omega)
      (fun x h1 h2 h3 => sr_r _ (by omega) (hlx x h2) (by omega) h3) (sr_x _ (by omega) (hlx _ hb) (by omega) (nst_ge (rt_le a) hp)) (by simp) K kn.cf.rounds (2 ^ K) hb (Nat.le_refl _) (by omega) (by rw [k_cf, c_rounds]; omega)
    have hl0 := fun ks => loop_v (P := Try.prog) (K := kn) (ks := ks) hrun
    simp only [loopAt, nthC, bodyC, loops, List.nil_append, List.cons_append, List.append_nil, Try.f100, srS] at hl0
    have a1 := fun d => l2of_v (n := 1) d (by omega)
    have a2 := fun d => l2bits_v (x := a) d (by omega)
    have a3 := fun d => l2shl_v (x := 1) (k := K) d (by have : (D 1).length ≤ 1 := len_small (by omega); omega) (by omega)
    rw [show ((1 : Nat) : Int) = 1 from rfl] at a1
    rw [Nat.one_mul] at a3
    have hne : D a ≠ [] := fun e => h0 (D_nil_iff.1 e)
    have hlp : 0 < (D a).length := List.length_pos_iff.2 hne
    have eK : ((nb a : Int) + 1) / 2 = (K : Int) := by omega
    have l1 : (D 1).length ≤ 1 := len_small (by omega)
    have lX : (D (2 ^ K)).length < 90000 := by rwa [Nat.one_mul] at hX
    clear hrun hlx hX hb
    generalize D (2 ^ K) = X at *
    generalize D (rt a) = R at *
    generalize D 1 = o at *
    generalize D a = A at *
    rw [vrun_v Try.func100 rfl rfl rfl]; simp only [Try.f100]
    simp (implicitDefEqProofs := false) (disch := omega) [go_sem, tab100, a1, a2, a3, hl0, hne, eK]
theorem sNatRoot_v (d : Nat) {l : List Int} (hl : l.length < 1000000000) : vrun Try.prog kn (d + 5) 40 [.agg [.ints .i64 l]] [] = some (.agg [.ints .i64 (nrR l)], []) := by
  have a1 := fun d => sNatOk_v (l := l) d hl
  unfold nrR
  cases h : natOkB l with
  | false =>
    rw [h] at a1
    rw [vrun_v Try.func40 rfl rfl rfl]; simp only [Try.f40]
    simp (implicitDefEqProofs := false) (disch := omega) [go_sem, tab40, a1]
  | true =>
    rw [h] at a1
    obtain ⟨e1, l1⟩ := okN h
    have a2 := fun d => l2root_v (a := nN l) d (by omega)
    have l2 := len_D_mono (rt_self (nN l))
    rw [← e1] at a2
    simp only [if_true]
    generalize D (rt (nN l)) = T at *
    rw [vrun_v Try.func40 rfl rfl rfl]; simp only [Try.f40]
    simp (implicitDefEqProofs := false) (disch := omega) [go_sem, tab40, a1, a2]
end
end
/- What the exact laws do beside: sizes and equality of whole numbers' lists, naturals, wholes, dyadics. No conditions. -/
section
open Num
section
variable {l a b : List Int} {left e : Int} {n : Bool}
theorem szIntS_v (d : Nat) (hl : l.length ≤ 9223372036854775807) (h0 : 0 ≤ left) (h1 : left ≤ 1048576) : ∃ r : Int, vrun Try.prog kn (d + 1) 99 [.ints .i64 l, .int .i64 left] [] = some (.int .i64 r, []) ∧ r ≤ left ∧ (0 ≤ r → l.length ≤ 1048576) := by
  by_cases h : left < l.length
  · refine ⟨-1, ?_, by omega, fun h => by omega⟩
    rw [vrun_v Try.func99 rfl rfl rfl]; simp only [Try.f99]
    simp (disch := omega) [go_sem, tab99]
  · refine ⟨left - l.length, ?_, by omega, fun h => by omega⟩
    rw [vrun_v Try.func99 rfl rfl rfl]; simp only [Try.f99]
    simp (disch := omega) [go_sem, tab99]
theorem szNat_v (d : Nat) (hl : l.length ≤ 9223372036854775807) (h0 : 0 ≤ left) (h1 : left ≤ 1048576) : ∃ r : Int, vrun Try.prog kn (d + 2) 39 [.agg [.ints .i64 l], .int .i64 left] [] = some (.int .i64 r, []) ∧ r ≤ left ∧ (0 ≤ r → l.length ≤ 1048576) := by
  obtain ⟨r, hr, h2, h3⟩ := szIntS_v d hl h0 h1
  by_cases h : r < 0
  · refine ⟨-1, ?_, by omega, fun h => by omega⟩
    rw [vrun_v Try.func39 rfl rfl rfl]; simp only [Try.f39]
    simp (disch := omega) [go_sem, tab39, hr]
  · refine ⟨r, ?_, by omega, h3⟩
    rw [vrun_v Try.func39 rfl rfl rfl]; simp only [Try.f39]
    simp (disch := omega) [go_sem, tab39, hr]
theorem szWhole_v (d : Nat) (hl : l.length ≤ 9223372036854775807) (h0 : 0 ≤ left) (h1 : left ≤ 1048576) : ∃ r : Int, vrun Try.prog kn (d + 3) 52 [.agg [.bool n, .ints .i64 l], .int .i64 left] [] = some (.int .i64 r, []) ∧ r ≤ left ∧ (0 ≤ r → l.length ≤ 1048576) := by
  obtain ⟨r, hr, h2, h3⟩ := szNat_v d hl h0 h1
  by_cases h : r < 0
  · refine ⟨-1, ?_, by omega, fun h => by omega⟩
    rw [vrun_v Try.func52 rfl rfl rfl]; simp only [Try.f52]
    simp (disch := omega) [go_sem, tab52, hr]
  · refine ⟨r, ?_, by omega, h3⟩
    rw [vrun_v Try.func52 rfl rfl rfl]; simp only [Try.f52]
    simp (disch := omega) [go_sem, tab52, hr]
def eqIS (a b : List Int) (j : Nat) : VE × VH := ([(0, some (.ints .i64 a)), (1, some (.ints .i64 b)), (5, some (.int .i64 j))], [])
theorem eqIntS_v (d : Nat) (ha : a.length < 1000000000) (hb : b.length < 1000000000) : vrun Try.prog kn (d + 1) 103 [.ints .i64 a, .ints .i64 b] [] = some (.bool (decide (a = b)), []) := by
  by_cases hl : ¬ a.length = b.length
  · have : ¬ a = b := fun h => hl (by rw [h])
    have h' : ¬ (a.length : Int) = b.length := by omega
    rw [vrun_v Try.func103 rfl rfl rfl]; simp only [Try.f103]
    simp (disch := omega) [go_sem, tab103, h', this, hl]
  rw [Decidable.not_not] at hl
  have key := vi_inv (n := kn.cf.rounds) (body := vCode Try.prog kn (vrun Try.prog kn d) 103 (loopAt Try.f103 0)) (fun j s => s = eqIS a b j ∧ a.take j = b.take j)
    (fun r => (r = some (.exit 0, (eqIS a b a.length).1 ++ [(14, some (.bool false))], []) ∧ a = b) ∨ (r = some (.ret, [(4, some (.bool false))], []) ∧ ¬ a = b)) a.length (by rw [k_cf, c_rounds]; omega)
    (fun j s hj hI => by
      obtain ⟨rfl, hI⟩ := hI
      have hja : a[j]? = some (gt a j) := by rw [gt]; simp [hj]
      have hjb : b[j]? = some (gt b j) := by rw [gt]; simp [show j < b.length by omega]
      by_cases hq : gt a j = gt b j
      · left
        refine ⟨eqIS a b (j + 1), ?_, rfl, ?_⟩
        · rw [round_v]; simp only [loopAt, nthC, bodyC, loops, List.nil_append, List.cons_append, List.append_nil, Try.f103, eqIS]
          simp (disch := omega) [go_sem, tab103, hq]
        · rw [List.take_add_one, List.take_add_one, hI, hja, hjb, hq]
      · right; intro m; right
        refine ⟨vi_ret ?_, fun h => hq (by rw [h])⟩
        rw [round_v]; simp only [loopAt, nthC, bodyC, loops, List.nil_append, List.cons_append, List.append_nil, Try.f103, eqIS]
        simp (disch := omega) [go_sem, tab103, hq])
    (fun s hI m => by
      obtain ⟨rfl, hI⟩ := hI
      left
      refine ⟨vi_exit ?_, by rwa [List.take_length, hl, List.take_length] at hI⟩
      rw [round_v]; simp only [loopAt, nthC, bodyC, loops, List.nil_append, List.cons_append, List.append_nil, Try.f103, eqIS]
      simp (disch := omega) [go_sem, tab103])
    (eqIS a b 0) ⟨rfl, by simp⟩
  rcases key with ⟨hv, hq⟩ | ⟨hv, hq⟩
  · rw [decide_eq_true hq]
    have hl0 := fun ks => loop_v (P := Try.prog) (K := kn) (ks := ks) hv
    simp only [loopAt, nthC, bodyC, loops, List.nil_append, List.cons_append, List.append_nil, Try.f103, eqIS, Int.natCast_zero, List.cons_append, List.nil_append] at hl0
    rw [vrun_v Try.func103 rfl rfl rfl]; simp only [Try.f103]
    simp (disch := omega) [go_sem, tab103, hl, hl0]
  · rw [decide_eq_false hq]
    have hl0 := fun ks => loop_v (P := Try.prog) (K := kn) (ks := ks) hv
    simp only [loopAt, nthC, bodyC, loops, List.nil_append, List.cons_append, List.append_nil, Try.f103, eqIS, Int.natCast_zero, List.cons_append, List.nil_append] at hl0
    rw [vrun_v Try.func103 rfl rfl rfl]; simp only [Try.f103]
    simp (disch := omega) [go_sem, tab103, hl, hl0]
theorem eqNat_v (d : Nat) (ha : a.length < 1000000000) (hb : b.length < 1000000000) : vrun Try.prog kn (d + 2) 43 [.agg [.ints .i64 a], .agg [.ints .i64 b]] [] = some (.bool (decide (a = b)), []) := by
  have h1 := fun d => eqIntS_v d ha hb
  by_cases h : a = b <;> simp only [h, decide_true, decide_false] at h1 ⊢
  all_goals
    rw [vrun_v Try.func43 rfl rfl rfl]; simp only [Try.f43]
    simp (disch := omega) [go_sem, tab43, h1]
theorem eqWhole_v (d : Nat) {n1 n2 : Bool} (ha : a.length < 1000000000) (hb : b.length < 1000000000) : vrun Try.prog kn (d + 3) 55 [.agg [.bool n1, .ints .i64 a], .agg [.bool n2, .ints .i64 b]] [] = some (.bool (decide (n1 = n2) && decide (a = b)), []) := by
  have h1 := fun d => eqNat_v d ha hb
  by_cases h : a = b <;> simp only [h, decide_true, decide_false, Bool.and_true, Bool.and_false] at h1 ⊢
  all_goals
    rw [vrun_v Try.func55 rfl rfl rfl]; simp only [Try.f55]
    cases n1 <;> cases n2 <;> simp (disch := omega) [go_sem, tab55, h1]
end
end
/- The exact laws write marks into what they hold, and look whether the marks stand: lists, naturals, wholes, dyadics. No conditions. -/
section
open Num
section
variable {h : VH} {i : Nat} {l : List Int} {k : Int}
def mkL (l : List Int) (k : Int) (j : Nat) : List Int := iota k j ++ l.drop j
theorem mkL_len {j : Nat} (hj : j ≤ l.length) : (mkL l k j).length = l.length := by unfold mkL; rw [List.length_append, iota_len, List.length_drop]; omega
theorem mkL_set {j : Nat} (hj : j < l.length) : (mkL l k j).set j (k + j) = mkL l k (j + 1) := by
  unfold mkL
  rw [List.set_append_right _ _ (by rw [iota_len]; omega), iota_len, Nat.sub_self, List.drop_eq_getElem_cons hj, iota, List.append_assoc]; rfl
theorem mkL_end : mkL l k l.length = iota k l.length := by unfold mkL; simp
theorem mkL_0 : mkL l k 0 = l := by unfold mkL; simp [iota]
theorem set_self (hi : h[i]? = some (.ints true .i64 l)) : h.set i (.ints true .i64 l) = h := by
  obtain ⟨h1, h2⟩ := List.getElem?_eq_some_iff.1 hi
  rw [← h2]; exact List.set_getElem_self _
def mkS (h : VH) (i : Nat) (l : List Int) (k : Int) (j : Nat) : VE × VH := ([(0, some (.sl i 0 l.length 1)), (1, some (.int .i64 (k + j))), (5, some (.int .i64 j))], h.set i (.ints true .i64 (mkL l k j)))
theorem mkI_r (call : CallV) (hi : i < h.length) (hl : l.length < 100000000) (hk : 0 ≤ k) (hk' : k < 1000000000) {j : Nat} (hj : j < l.length) :
    vCode Try.prog kn call 104 (loopAt Try.f104 0) (mkS h i l k j).1 (mkS h i l k j).2 = some (.norm, mkS h i l k (j + 1)) := by
  have h1 := mkL_len (k := k) (Nat.le_of_lt hj)
  have h2 := mkL_set (k := k) hj
  have h3 : k + j + 1 = k + ((j + 1 : Nat) : Int) := by omega
  have hs : ∀ a : VO, (h.set i a)[i]? = some a := fun a => by simp [hi]
  rw [round_v]; simp only [loopAt, nthC, bodyC, loops, List.nil_append, List.cons_append, List.append_nil, Try.f104, mkS, ← h3, ← h2]
  simp (disch := omega) [go_sem, tab104, h1, hs, List.set_set]
theorem mkI_x (call : CallV) (hl : l.length < 100000000) :
    vCode Try.prog kn call 104 (loopAt Try.f104 0) (mkS h i l k l.length).1 (mkS h i l k l.length).2 = some (.exit 0, (mkS h i l k l.length).1 ++ [(9, some (.bool false))], (mkS h i l k l.length).2) := by
  rw [round_v]; simp only [loopAt, nthC, bodyC, loops, List.nil_append, List.cons_append, List.append_nil, Try.f104, mkS]
  simp (disch := omega) [go_sem, tab104]
theorem markIntS_v (d : Nat) (hi : h[i]? = some (.ints true .i64 l)) (hl : l.length < 100000000) (hk : 0 ≤ k) (hk' : k < 1000000000) :
    vrun Try.prog kn (d + 1) 104 [.sl i 0 l.length 1, .int .i64 k] h = some (.int .i64 (k + l.length), h.set i (.ints true .i64 (iota k l.length))) := by
  have hi' : i < h.length := (List.getElem?_eq_some_iff.1 hi).1
  have hl0 := fun ks => loop_v (P := Try.prog) (K := kn) (ks := ks) (vi_for (mkS h i l k) l.length (n := kn.cf.rounds) (by rw [k_cf, c_rounds]; omega) (fun j hj => mkI_r (vrun Try.prog kn d) hi' hl hk hk' hj) fun m => vi_exit (mkI_x _ hl))
  simp only [loopAt, nthC, bodyC, loops, List.nil_append, List.cons_append, List.append_nil, Try.f104, mkS, Int.natCast_zero, Int.add_zero, List.cons_append, List.nil_append, mkL_0, mkL_end, set_self hi] at hl0
  rw [vrun_v Try.func104 rfl rfl rfl]; simp only [Try.f104]
  simp (disch := omega) [go_sem, tab104, hl0]
theorem ge_app {n : Nat} {o : VO} (a : List VO) (hn : h[n]? = some o) : (h ++ a)[n]? = some o := by
  rw [List.getElem?_append_left (List.getElem?_eq_some_iff.1 hn).1]; exact hn
theorem set_app {n : Nat} {o : VO} (a : List VO) (q : VO) (hn : h[n]? = some o) : (h ++ a).set n q = h.set n q ++ a := List.set_append_left _ _ (List.getElem?_eq_some_iff.1 hn).1
theorem markNat_v (d : Nat) (hi : h[i]? = some (.ints true .i64 l)) (hl : l.length < 100000000) (hk : 0 ≤ k) (hk' : k < 1000000000) :
    vrun Try.prog kn (d + 2) 44 [.agg [.sl i 0 l.length 1], .int .i64 k] h = some (.int .i64 (k + l.length), h.set i (.ints true .i64 (iota k l.length)) ++ [.vals true [.sl i 0 l.length 1]]) := by
  have h1 := markIntS_v (h := h ++ [.vals true [.sl i 0 l.length 1]]) d (ge_app _ hi) hl hk hk'
  rw [set_app _ _ hi] at h1
  rw [vrun_v Try.func44 rfl rfl rfl]; simp only [Try.f44]
  simp (disch := omega) [go_sem, tab44, h1, List.getElem?_concat_length]
theorem markWhole_v (d : Nat) {n : Bool} (hi : h[i]? = some (.ints true .i64 l)) (hl : l.length < 100000000) (hk : 0 ≤ k) (hk' : k < 1000000000) :
    vrun Try.prog kn (d + 3) 56 [.agg [.bool n, .sl i 0 l.length 1], .int .i64 k] h = some (.int .i64 (k + l.length), h.set i (.ints true .i64 (iota k l.length)) ++ [.vals true [.bool n, .sl i 0 l.length 1], .vals true [.sl i 0 l.length 1]]) := by
  have h1 := markNat_v (h := h ++ [.vals true [.bool n, .sl i 0 l.length 1]]) d (ge_app _ hi) hl hk hk'
  rw [set_app _ _ hi, List.append_assoc] at h1
  rw [vrun_v Try.func56 rfl rfl rfl]; simp only [Try.f56]
  simp (disch := omega) [go_sem, tab56, h1, List.getElem?_concat_length]
/-! ### as rules that read the heap -/
def mkStep (r : Option (V × VH)) (i m : Nat) (k : Int) (h : VH) (tail : List VO) : Option VO → Option (V × VH)
  | some (.ints true .i64 l) => if l.length = m ∧ l.length < 100000000 ∧ 0 ≤ k ∧ k < 1000000000 then some (.int .i64 (k + m), h.set i (.ints true .i64 (iota k m)) ++ tail) else r
  | _ => r
theorem mkStep_i (r : Option (V × VH)) (i m : Nat) (k : Int) (h : VH) (tail : List VO) (l : List Int) : mkStep r i m k h tail (some (.ints true .i64 l)) = if l.length = m ∧ l.length < 100000000 ∧ 0 ≤ k ∧ k < 1000000000 then some (.int .i64 (k + m), h.set i (.ints true .i64 (iota k m)) ++ tail) else r := rfl
theorem mkStep_of {r : Option (V × VH)} {i m : Nat} {k : Int} {h : VH} {tail : List VO} (hr : ∀ l, h[i]? = some (.ints true .i64 l) → l.length = m → l.length < 100000000 → 0 ≤ k → k < 1000000000 → r = some (.int .i64 (k + m), h.set i (.ints true .i64 (iota k m)) ++ tail)) : r = mkStep r i m k h tail h[i]? := by
  unfold mkStep
  split
  · rename_i l hl
    split
    · rename_i hc
      exact hr l hl hc.1 hc.2.1 hc.2.2.1 hc.2.2.2
    · rfl
  · rfl
noncomputable def xMarkIntS (d i m : Nat) (k : Int) (h : VH) := vrun Try.prog kn (d + 1) 104 [.sl i 0 m 1, .int .i64 k] h
noncomputable def xMarkNat (d i m : Nat) (k : Int) (h : VH) := vrun Try.prog kn (d + 2) 44 [.agg [.sl i 0 m 1], .int .i64 k] h
noncomputable def xMarkWhole (d : Nat) (n : Bool) (i m : Nat) (k : Int) (h : VH) := vrun Try.prog kn (d + 3) 56 [.agg [.bool n, .sl i 0 m 1], .int .i64 k] h
theorem markIntS_s (d i m : Nat) (k : Int) (h : VH) : vrun Try.prog kn (d + 1) 104 [.sl i 0 m 1, .int .i64 k] h = mkStep (xMarkIntS d i m k h) i m k h [] h[i]? :=
  mkStep_of (r := xMarkIntS d i m k h) fun l hi hm h1 h2 h3 => by subst hm; rw [List.append_nil]; exact markIntS_v d hi h1 h2 h3
theorem markNat_s (d i m : Nat) (k : Int) (h : VH) : vrun Try.prog kn (d + 2) 44 [.agg [.sl i 0 m 1], .int .i64 k] h = mkStep (xMarkNat d i m k h) i m k h [.vals true [.sl i 0 m 1]] h[i]? :=
  mkStep_of (r := xMarkNat d i m k h) fun l hi hm h1 h2 h3 => by subst hm; exact markNat_v d hi h1 h2 h3
theorem markWhole_s (d : Nat) (n : Bool) (i m : Nat) (k : Int) (h : VH) : vrun Try.prog kn (d + 3) 56 [.agg [.bool n, .sl i 0 m 1], .int .i64 k] h = mkStep (xMarkWhole d n i m k h) i m k h [.vals true [.bool n, .sl i 0 m 1], .vals true [.sl i 0 m 1]] h[i]? :=
  mkStep_of (r := xMarkWhole d n i m k h) fun l hi hm h1 h2 h3 => by subst hm; exact markWhole_v d hi h1 h2 h3
end
section
variable {k : Int} {n : Nat}
def heS (k : Int) (n j : Nat) : VE × VH := ([(0, some (.ints .i64 (iota k n))), (1, some (.int .i64 (k + j))), (5, some (.int .i64 j))], [])
theorem he_r (call : CallV) (hn : n < 100000000) (hk : 0 ≤ k) (hk' : k < 1000000000) {j : Nat} (hj : j < n) : vCode Try.prog kn call 105 (loopAt Try.f105 0) (heS k n j).1 (heS k n j).2 = some (.norm, heS k n (j + 1)) := by
  have h1 := gt_iota (k := k) hj
  have h2 := iota_len k n
  have h3 : k + j + 1 = k + ((j + 1 : Nat) : Int) := by omega
  rw [round_v]; simp only [loopAt, nthC, bodyC, loops, List.nil_append, List.cons_append, List.append_nil, Try.f105, heS, ← h3]
  simp (disch := omega) [go_sem, tab105, h1, h2]
theorem he_x (call : CallV) (hn : n < 100000000) : vCode Try.prog kn call 105 (loopAt Try.f105 0) (heS k n n).1 (heS k n n).2 = some (.exit 0, (heS k n n).1 ++ [(9, some (.bool false))], (heS k n n).2) := by
  have h2 := iota_len k n
  rw [round_v]; simp only [loopAt, nthC, bodyC, loops, List.nil_append, List.cons_append, List.append_nil, Try.f105, heS]
  simp (disch := omega) [go_sem, tab105, h2]
theorem heldIntS_v (d : Nat) (hn : n < 100000000) (hk : 0 ≤ k) (hk' : k < 1000000000) : vrun Try.prog kn (d + 1) 105 [.ints .i64 (iota k n), .int .i64 k] [] = some (.int .i64 (k + n), []) := by
  have hl0 := fun ks => loop_v (P := Try.prog) (K := kn) (ks := ks) (vi_for (heS k n) n (n := kn.cf.rounds) (by rw [k_cf, c_rounds]; omega) (fun j hj => he_r (vrun Try.prog kn d) hn hk hk' hj) fun m => vi_exit (he_x _ hn))
  simp only [loopAt, nthC, bodyC, loops, List.nil_append, List.cons_append, List.append_nil, Try.f105, heS, Int.natCast_zero, Int.add_zero, List.cons_append, List.nil_append] at hl0
  rw [vrun_v Try.func105 rfl rfl rfl]; simp only [Try.f105]
  simp (disch := omega) [go_sem, tab105, hl0]
theorem heldNat_v (d : Nat) (hn : n < 100000000) (hk : 0 ≤ k) (hk' : k < 1000000000) : vrun Try.prog kn (d + 2) 45 [.agg [.ints .i64 (iota k n)], .int .i64 k] [] = some (.int .i64 (k + n), []) := by
  have h1 := fun d => heldIntS_v d hn hk hk'
  rw [vrun_v Try.func45 rfl rfl rfl]; simp only [Try.f45]
  simp (disch := omega) [go_sem, tab45, h1]
theorem heldWhole_v (d : Nat) {b : Bool} (hn : n < 100000000) (hk : 0 ≤ k) (hk' : k < 1000000000) : vrun Try.prog kn (d + 3) 57 [.agg [.bool b, .ints .i64 (iota k n)], .int .i64 k] [] = some (.int .i64 (k + n), []) := by
  have h1 := fun d => heldNat_v d hn hk hk'
  rw [vrun_v Try.func57 rfl rfl rfl]; simp only [Try.f57]
  simp (disch := omega) [go_sem, tab57, h1]
end
end
/- The exact laws copy an argument (each in memory of its own): lists, naturals, wholes, dyadics. No conditions. -/
section
open Num
section
variable {l : List Int}
def cpL (l : List Int) (j : Nat) : List Int := l.take j ++ List.replicate (l.length - j) 0
theorem cpL_len {j : Nat} (h : j ≤ l.length) : (cpL l j).length = l.length := by unfold cpL; simp; omega
theorem cpL_set {j : Nat} (h : j < l.length) : (cpL l j).set j (gt l j) = cpL l (j + 1) := by
  have hj : l[j]? = some (gt l j) := by rw [gt]; simp [h]
  unfold cpL
  rw [List.set_append_right _ _ (by simp; omega), List.take_add_one, hj, show l.length - j = (l.length - (j + 1)) + 1 by omega, List.replicate_succ]
  simp [show j - min j l.length = 0 by omega]
theorem cpL_end : cpL l l.length = l := by unfold cpL; simp
theorem cpL_0 : cpL l 0 = List.replicate l.length 0 := by unfold cpL; simp
def toIS (l : List Int) (j : Nat) : VE × VH := ([(0, some (.ints .i64 l)), (3, some (.sl 0 0 l.length 1)), (4, some (.int .i64 j))], [.ints true .i64 (cpL l j)])
theorem toI_r (d : Nat) {j : Nat} (hl : l.length < 1000000000) (hj : j < l.length) : vCode Try.prog kn (vrun Try.prog kn d) 101 (loopAt Try.f101 0) (toIS l j).1 (toIS l j).2 = some (.norm, toIS l (j + 1)) := by
  have h1 := cpL_len (l := l) (Nat.le_of_lt hj)
  rw [round_v]; simp only [loopAt, nthC, bodyC, loops, List.nil_append, List.cons_append, List.append_nil, Try.f101, toIS]
  simp (disch := omega) [go_sem, tab101, nil101, h1, cpL_set hj]
theorem toI_x (d : Nat) (hl : l.length < 1000000000) : vCode Try.prog kn (vrun Try.prog kn d) 101 (loopAt Try.f101 0) (toIS l l.length).1 (toIS l l.length).2 = some (.exit 0, (toIS l l.length).1 ++ [(11, some (.bool false))], (toIS l l.length).2) := by
  rw [round_v]; simp only [loopAt, nthC, bodyC, loops, List.nil_append, List.cons_append, List.append_nil, Try.f101, toIS]
  simp (disch := omega) [go_sem, tab101, nil101]
theorem toIntS_v (d : Nat) (hl : l.length < 1000000000) : vrun Try.prog kn (d + 1) 101 [.ints .i64 l] [] = some (.sl 0 0 l.length 1, [.ints true .i64 l]) := by
  have hl0 := fun ks => loop_v (P := Try.prog) (K := kn) (ks := ks) (vi_for (toIS l) l.length (n := kn.cf.rounds) (by rw [k_cf, c_rounds]; omega) (fun j hj => toI_r d hl hj) fun m => vi_exit (toI_x d hl))
  simp only [loopAt, nthC, bodyC, loops, List.nil_append, List.cons_append, List.append_nil, Try.f101, toIS, Int.natCast_zero, List.cons_append, List.nil_append, cpL_0, cpL_end] at hl0
  rw [vrun_v Try.func101 rfl rfl rfl]; simp only [Try.f101]
  simp (disch := omega) [go_sem, tab101, nil101, hl0]
theorem toNat_v (d : Nat) (hl : l.length < 1000000000) : vrun Try.prog kn (d + 2) 41 [.agg [.ints .i64 l]] [] = some (.agg [.sl 0 0 l.length 1], [.ints true .i64 l]) := by
  have h1 := fun d => toIntS_v d hl
  rw [vrun_v Try.func41 rfl rfl rfl]; simp only [Try.f41]
  simp (disch := omega) [go_sem, tab41, h1]
theorem toWhole_v (d : Nat) {n : Bool} (hl : l.length < 1000000000) : vrun Try.prog kn (d + 3) 54 [.agg [.bool n, .ints .i64 l]] [] = some (.agg [.bool n, .sl 0 0 l.length 1], [.ints true .i64 l]) := by
  have h1 := fun d => toNat_v d hl
  rw [vrun_v Try.func54 rfl rfl rfl]; simp only [Try.f54]
  simp (disch := omega) [go_sem, tab54, h1]
end
end
/- The laws' types as values. No conditions. -/
section
open Go.Proofs Num
def DyT.row (x : DyT) : Prop := x.l.length ≤ 9223372036854775807 ∧ (∀ y ∈ x.l, (Lit.int .i64 y).wf = true) ∧ (Lit.int .i64 x.e).wf = true
def TInt (vs : List V) : Prop := ∃ x : Int, vs = [.int .i64 x] ∧ (Lit.int .i64 x).wf = true
def TBool (vs : List V) : Prop := ∃ x : Bool, vs = [.bool x]
def TInts (vs : List V) : Prop := ∃ l : List Int, vs = [.ints .i64 l] ∧ l.length ≤ 9223372036854775807 ∧ ∀ x ∈ l, (Lit.int .i64 x).wf = true
def TDys (vs : List V) : Prop := ∃ ds : List DyT, vs = [.cells 3 ds.length (flat DyT.v ds)] ∧ ds.length ≤ 9223372036854775807 ∧ ∀ x ∈ ds, x.row
theorem opInt : OpV Try.prog 3 1 TInt := OpV.int Try.underlying3 (by kernel_rfl)
theorem opBool : OpV Try.prog 4 1 TBool := OpV.bool Try.underlying4 (by kernel_rfl)
theorem opInts : OpV Try.prog 24 1 TInts := OpV.ints Try.underlying24 (by kernel_rfl) Try.underlying3 (by kernel_rfl)
theorem opBytes : OpV Try.prog 22 1 (fun vs => ∃ l : List Int, vs = [.ints .u8 l] ∧ l.length ≤ 9223372036854775807 ∧ ∀ x ∈ l, (Lit.int .u8 x).wf = true) := OpV.ints Try.underlying22 (by kernel_rfl) Try.underlying5 (by kernel_rfl)
theorem opNat : OpV Try.prog 52 1 TInts := OpV.struct1 Try.underlying52 (by kernel_rfl) rfl opInts
theorem opWhole : OpV Try.prog 64 2 (fun vs => ∃ (n : Bool) (l : List Int), vs = [.bool n, .ints .i64 l] ∧ l.length ≤ 9223372036854775807 ∧ ∀ x ∈ l, (Lit.int .i64 x).wf = true) :=
  (OpV.struct2 Try.underlying64 (by kernel_rfl) rfl rfl opBool opNat).imp fun vs ⟨_, _, e, ⟨n, e1⟩, ⟨l, e2, h1, h2⟩⟩ => ⟨n, l, by rw [e, e1, e2]; rfl, h1, h2⟩
end
end Go.Eng
