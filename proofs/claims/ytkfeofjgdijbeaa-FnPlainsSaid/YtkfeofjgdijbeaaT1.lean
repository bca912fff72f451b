/- What the functions of this seat do, one after another, told by plain values. No conditions. -/
import Derived.Test.YtkfeofjgdijbeaaSeat
import Derived.Test.YtkfeofjgdijbeaaVb
set_option linter.unusedVariables false
set_option linter.unusedSimpArgs false
namespace Go.Eng
open Go.Proofs
set_option maxRecDepth 100000
set_option linter.unusedSimpArgs false
attribute [local go_sem] r_seq r_skip r_retC r_exitC r_label r_block r_region r_regionW r_xWt r_xW r_cond r_Bt r_Bf r_Ncode r_Nret r_Nexit r_Nblk r_Nblkr r_Nblke r_Nnil r_Es r_Onil r_Oop r_Oif r_Xs r_Gt r_Gf r_wtt r_wtf r_wft r_wff r_wu r_gO r_putS r_putN r_get r_keepN r_keepC r_fr r_fn r_fi r_ff r_fo r_l1 r_l2t r_cun r_cul r_cub r_cui r_cus r_cuis r_cuc r_cusl r_cuti r_cutv r_ven r_vec r_l2f r_l3 r_t1 r_t2 r_t0 r_rt r_rc r_en r_ec r_cM r_oN r_oC r_end r_endt r_endf r_nob0 r_nobN r_nobC r_nobE r_nb0 r_nbi r_nbs r_nbsl r_nbin r_nbce r_nLn r_nLv r_nLc r_nAa r_nAn r_nAk_b r_nAk_i r_nAk_s r_nAk_n r_nAk_is r_nAk_ce r_nAk_fp r_nAk_sl r_nAk_pt r_nAk_fn r_nsn r_nsv r_nsc r_m0 r_mi r_ms r_msl r_min r_mce r_mLn r_mLv r_mLc r_mAa r_mAn r_mAk_b r_mAk_i r_mAk_s r_mAk_n r_mAk_is r_mAk_ce r_mAk_fp r_mAk_sl r_mAk_pt r_mAk_fn r_msn r_msv r_msc r_atb r_ati r_ats r_atn r_atis r_atc r_atf r_atl r_atp r_atfn r_gcn r_gcc r_gLn r_gLc r_gIt r_ndn r_ndc r_gcB r_gLB r_two r_rea r_rea0 r_re1n r_re1c r_ori r_orv r_ord r_orn r_adn r_adc r_ad1 r_ern r_ers r_er0 r_rsl r_rptr r_rb r_ri r_rs r_rn r_ris r_rce r_rfp r_ra4 r_ra3 r_rt4 r_rf4 r_rf3 r_idS r_idc r_nS r_nP r_nF r_nT r_vsl r_vptr r_vb r_vi r_vs r_vn r_vis r_vce r_vfp r_va4 r_va3 r_vt4 r_vf4 r_vf3 r_rV r_Oi r_Ov r_Od r_rE r_rE0 r_En r_Ec r_E0 r_pO r_pk r_agL r_cO r_fO r_fSi r_fSv r_fPv r_fsl r_fptr r_ffn r_fag r_fb r_fint r_fstr r_fnil r_fis r_fce r_ffp r_res r_move r_assign r_pick r_pickt r_pickf r_alloc r_box r_al r_build r_bslice r_load r_store r_nlc r_nl1 r_nl2 r_bin r_un r_conv r_mkf r_mks r_slc r_fad r_fld r_iad r_idx r_ext r_ex1 r_callf r_callt r_callen r_calapp r_calmax r_calmin r_vt r_vcb r_vci r_vcs r_vcnp r_vcn r_vca r_vcf r_vcg r_ofb r_ofi r_ofs r_ofn r_evs r_pn r_prt r_pc r_one_a r_one_b r_one_i r_one_s r_one_n r_one_is r_one_ce r_one_fp r_one_sl r_one_pt r_one_fn r_cs_a r_cs_b r_cs_i r_cs_s r_cs_n r_cs_is r_cs_ce r_cs_fp r_cs_sl r_cs_pt r_cs_fn r_tov r_tovA r_toc r_toa r_tb r_ti r_ts r_tn r_bd r_bd2 r_filn r_fp1 r_filc r_fsn r_fsc r_san r_sac r_bs2 r_bs1 r_nE r_newO r_mkq r_mkI r_mkOi r_mkOv r_tIn r_tIc r_repz r_repn r_ldp r_ldf r_l1t r_l1f r_lFt r_lFf r_aggO r_obj r_at r_ati' r_atv r_celli r_cellv r_subi r_subv r_sto r_sto1 r_sto2 r_sets r_setR r_setn r_setc r_s1i r_s1v r_bin1 r_bin2 r_tv1 r_cb r_ci r_cst r_cn r_csl r_cis r_cce r_uni r_unb r_cv r_cvO r_cvN r_cv0 r_cvS r_wB r_cvi r_cvs r_cvb r_cvl r_sO r_rdn r_rdi r_rdl r_rdO r_vsub r_vfn r_mk r_mk1 r_mk2 r_zoi r_zov r_leni r_lenv r_bn r_bndV r_bo r_sl0 r_sl1 r_vsz r_ct1 r_cts r_cti r_ctc r_ctn r_lnl r_lni r_lnc r_lnn r_fa r_fap r_faf r_fi1 r_fit r_fif r_ixi r_ixs r_ixc r_ixf r_ixF r_ixF2 r_ix1 r_ixsl r_ixin r_ixce r_len1 r_lenA r_lTs r_lTn r_lTl r_lTi r_lTc r_app0 r_app9 r_paf r_pat r_frn r_fre r_tt1 r_tt2 r_tt3 r_app r_app1 r_app2 r_app3 r_catO r_cati r_catv r_newt r_newf r_pair r_pairK r_trip r_kis r_kiv r_srn r_srl r_sri r_src r_srs r_oln r_ole r_oll r_vw r_wi r_wv r_mm r_max r_min' r_str r_cF r_c2t r_c3f r_c3t r_ab r_c2f r_cV r_p1 r_la r_la2t r_la2f r_la3 r_sh r_z_is r_z_ce r_z_fp r_z_b r_z_i r_z_s r_z_n r_z_l r_z_p r_z_a4 r_z_a3 r_z_t4 r_zoI r_zoV r_roN r_roC r_roi r_rod r_zod r_rov r_aR r_trOi r_trOv r_trPv r_trl r_trp r_trf r_tra r_trb r_tri r_trs r_trn r_tris r_trce r_trfp r_vJ r_vJs r_vJn
attribute [local go_sem] b_add b_sub b_mul b_quo b_rem b_shl b_shr b_eql b_neq b_lss b_leq b_gtr b_geq eqB_s b_eqB b_neB u_neg u_not b_nn b_nn' eqS_s zerosT_s zerosT_n zt_i zt_sl zt_st dstOf_z dstOf_n iltT iltF ileT ileF ieqT ieqF nltT nltF nleT nleF neqT neqF tdiv_pos tmod_pos w64 idx0 List.take_of_length_le
/- Numbers: cmp.Compare, within, trim, small, plus. No conditions. -/
section
open Num
theorem within_v (d : Nat) (n a b : Int) : vrun Try.prog kn (d + 1) 43 [.int .i64 n, .int .i64 a, .int .i64 b] [] = some (.bool (decide (a ≤ n) && decide (n ≤ b)), []) := by
  rw [vrun_v Try.func43 rfl rfl rfl]; simp only [Try.f43]
  by_cases h : a ≤ n
  · simp (disch := omega) [go_sem, tab43, h]
  · simp (disch := omega) [go_sem, tab43, h]
def cmp2 (x y : Int) : Int := if x < y then -1 else if y < x then 1 else 0
section
variable {h : VH} {l : List Int} {i : Nat} {w : Bool}
theorem trim_r0 (call : CallV) : vCode Try.prog kn call 114 (loopAt Try.f114 0) [(0, some (.sl i 0 0 1))] h = some (.exit 0, [(0, some (.sl i 0 0 1)), (14, some (.bool false))], h) := by
  rw [round_v]; simp only [loopAt, nthC, bodyC, loops, List.nil_append, List.cons_append, List.append_nil, Try.f114]
  simp (disch := omega) [go_sem, tab114, nil114]
theorem trim_r1 (call : CallV) (j : Nat) (hj : j < 4611686018427387904) (hi : h[i]? = some (.ints w .i64 l)) (hm : j + 1 ≤ l.length) (h0 : gt l j = 0) :
    vCode Try.prog kn call 114 (loopAt Try.f114 0) [(0, some (.sl i 0 (j + 1) 1))] h = some (.norm, [(0, some (.sl i 0 j 1))], h) := by
  rw [round_v]; simp only [loopAt, nthC, bodyC, loops, List.nil_append, List.cons_append, List.append_nil, Try.f114]
  simp (disch := omega) [go_sem, tab114, nil114, hi, h0]
theorem trim_r2 (call : CallV) (j : Nat) (hj : j < 4611686018427387904) (hi : h[i]? = some (.ints w .i64 l)) (hm : j + 1 ≤ l.length) (h0 : ¬ gt l j = 0) :
    vCode Try.prog kn call 114 (loopAt Try.f114 0) [(0, some (.sl i 0 (j + 1) 1))] h = some (.exit 0, [(0, some (.sl i 0 (j + 1) 1)), (14, some (.bool false))], h) := by
  rw [round_v]; simp only [loopAt, nthC, bodyC, loops, List.nil_append, List.cons_append, List.append_nil, Try.f114]
  simp (disch := omega) [go_sem, tab114, nil114, hi, h0]
theorem trim_l (call : CallV) (hi : h[i]? = some (.ints w .i64 l)) (hl : l.length < 4611686018427387904) : ∀ (j n : Nat), j ≤ l.length → j < n →
    viter (vCode Try.prog kn call 114 (loopAt Try.f114 0)) n [(0, some (.sl i 0 j 1))] h = some (.exit 0, [(0, some (.sl i 0 (tl l j) 1)), (14, some (.bool false))], h)
  | 0, n + 1, _, _ => vi_exit (trim_r0 call)
  | j + 1, n + 1, hj, hn => by
    by_cases h0 : gt l j = 0
    · rw [vi_norm (trim_r1 call j (by omega) hi hj h0), trim_l call hi hl j n (by omega) (by omega), tl, if_pos h0]
    · rw [vi_exit (trim_r2 call j (by omega) hi hj h0), tl, if_neg h0]
theorem trim_v (d : Nat) (hi : h[i]? = some (.ints w .i64 l)) (hl : l.length < 1000000000) (n : Nat) (hn : n = l.length) :
    vrun Try.prog kn (d + 1) 114 [.sl i 0 n 1] h = some (.sl i 0 (tl l l.length) 1, h) := by
  subst hn
  have hl0 := fun ks => loop_v (P := Try.prog) (K := kn) (ks := ks) (trim_l (vrun Try.prog kn d) hi (by omega) l.length kn.cf.rounds (Nat.le_refl _) (by rw [k_cf, c_rounds]; omega))
  simp only [loopAt, nthC, bodyC, loops, List.nil_append, List.cons_append, List.append_nil, Try.f114] at hl0
  rw [vrun_v Try.func114 rfl rfl rfl]; simp only [Try.f114]
  simp (disch := omega) [go_sem, tab114, nil114, hl0]
/-- As plus, minus, times and their like call it. -/
theorem trim0_v (d : Nat) {l : List Int} {n v : Nat} (hl : l.length < 1000000000) (hn : n = l.length) (hg : GoodL l) (hv : val l = v) :
    vrun Try.prog kn (d + 1) 114 [.sl 0 0 n 1] [.ints false .i64 l] = some (.sl 0 0 (D v).length 1, [.ints false .i64 l]) := by
  rw [trim_v d (h := [.ints false .i64 l]) (i := 0) (w := false) (l := l) rfl hl n hn, (tl_D hg hv).1]
theorem trim2_v (d : Nat) {l : List Int} {n v : Nat} (hl : l.length < 1000000000) (hn : n = l.length) (hg : GoodL l) (hv : val l = v) (a b : VO) :
    vrun Try.prog kn (d + 1) 114 [.sl 2 0 n 1] [a, b, .ints false .i64 l] = some (.sl 2 0 (D v).length 1, [a, b, .ints false .i64 l]) := by
  rw [trim_v d (h := [a, b, .ints false .i64 l]) (i := 2) (w := false) (l := l) rfl hl n hn, (tl_D hg hv).1]
end
end
/- Numbers: small, plus, minus. No conditions. -/
section
open Num
section
variable {x y : Nat}
def plusS (x y j : Nat) : VE × VH := ([(1, some (.ints .i64 (D y))), (5, some (.sl 0 0 j 1)), (6, some (.int .i64 (carry x y j))), (20, some (.ints .i64 (D x))), (21, some (.int .i64 (D x).length)), (22, some (.int .i64 j))], [.ints true .i64 (dgs (x + y) j)])
theorem plus_r (call : CallV) (hx : (D x).length < 1000000) (j : Nat) (hj : j < (D x).length) :
    vCode Try.prog kn call 73 (loopAt Try.f73 0) (plusS x y j).1 (plusS x y j).2 = some (.norm, plusS x y (j + 1)) := by
  have b1 := dg_bd x j
  have b2 := dg_bd y j
  have b3 := carry_bd x y j
  rw [round_v]; simp only [loopAt, nthC, bodyC, loops, List.nil_append, List.cons_append, List.append_nil, Try.f73, plusS, dgs, carry_succ, dg_add]
  by_cases hlt : j < (D y).length
  · simp (disch := omega) [go_sem, tab73, nil73, gt_D, dgs_len, dgs_take]
  · have := dg_len (x := y) (i := j) (by omega)
    simp (disch := omega) [go_sem, tab73, nil73, gt_D, dgs_len, dgs_take, this]
theorem plus_x (call : CallV) (hx : (D x).length < 1000000) :
    vCode Try.prog kn call 73 (loopAt Try.f73 0) (plusS x y (D x).length).1 (plusS x y (D x).length).2 = some (.exit 0, [(1, some (.ints .i64 (D y))), (5, some (.sl 0 0 (D x).length 1)), (6, some (.int .i64 (carry x y (D x).length))), (20, some (.ints .i64 (D x))), (21, some (.int .i64 (D x).length)), (22, some (.int .i64 (D x).length)), (23, some (.bool false))], [.ints true .i64 (dgs (x + y) (D x).length)]) := by
  rw [round_v]; simp only [loopAt, nthC, bodyC, loops, List.nil_append, List.cons_append, List.append_nil, Try.f73, plusS]
  simp (disch := omega) [go_sem, tab73, nil73, dgs_len, dgs_take]
theorem plus_v (d : Nat) (hx : (D x).length < 1000000) (hy : (D y).length < 1000000) :
    vrun Try.prog kn (d + 2) 73 [.ints .i64 (D x), .ints .i64 (D y)] [] = some (.sl 0 0 (D (x + y)).length 1, [.ints true .i64 (D (x + y))]) := by
  have key : ∀ x y : Nat, (D x).length < 1000000 → (D y).length ≤ (D x).length → ∀ ks, xC Try.prog kn (vrun Try.prog kn (d + 1)) 73 (.loop (loopAt Try.f73 0)) ks (plusS x y 0).1 (plusS x y 0).2 = _ := fun x y hx hl ks =>
    loop_v (vi_for (plusS x y) (D x).length (by rw [k_cf, c_rounds]; omega) (plus_r _ hx) fun m => vi_exit (plus_x _ hx))
  by_cases hlt : (D x).length < (D y).length
  · have hl := fun ks => key y x hy (by omega) ks
    simp only [loopAt, nthC, bodyC, loops, List.nil_append, List.cons_append, List.append_nil, Try.f73, plusS, dgs, carry_zero, Int.natCast_zero] at hl
    obtain ⟨c1, c2⟩ := carry_end (x := y) (y := x) (Nat.le_refl _) (by omega)
    have ht := trim2_v d (l := dgs (y + x) ((D y).length + 1)) (n := (D y).length + 1) (v := y + x) (by rw [dgs_len]; omega) (by rw [dgs_len]) (dgs_good _ _) (by rw [dgs_val, lo_len (lt_pow_len c2)])
    have ht2 := (dgs_tl c2).2
    rw [Nat.add_comm x y]
    rw [vrun_v Try.func73 rfl rfl rfl]; simp only [Try.f73]
    simp (disch := omega) [go_sem, tab73, nil73, hl, dgs_len, dgs_take]
    rw [c1, ← dgs_succ]
    simp (disch := omega) [go_sem, tab73, nil73, ht, ht2, dgs_len, dgs_take]
  · have hl := fun ks => key x y hx (by omega) ks
    simp only [loopAt, nthC, bodyC, loops, List.nil_append, List.cons_append, List.append_nil, Try.f73, plusS, dgs, carry_zero, Int.natCast_zero] at hl
    obtain ⟨c1, c2⟩ := carry_end (x := x) (y := y) (Nat.le_refl _) (by omega)
    have ht := trim2_v d (l := dgs (x + y) ((D x).length + 1)) (n := (D x).length + 1) (v := x + y) (by rw [dgs_len]; omega) (by rw [dgs_len]) (dgs_good _ _) (by rw [dgs_val, lo_len (lt_pow_len c2)])
    have ht2 := (dgs_tl c2).2
    rw [vrun_v Try.func73 rfl rfl rfl]; simp only [Try.f73]
    simp (disch := omega) [go_sem, tab73, nil73, hl, dgs_len, dgs_take]
    rw [c1, ← dgs_succ]
    simp (disch := omega) [go_sem, tab73, nil73, ht, ht2, dgs_len, dgs_take]
end
end
/- Numbers: small, minus, and the reference's l2of, l2norm. No conditions. -/
section
open Num
theorem dg_step {n j : Nat} : n / 65536 ^ j % 65536 = n / 65536 ^ j % 65536 ∧ n / 65536 ^ (j + 1) = n / 65536 ^ j / 65536 := ⟨rfl, by rw [Nat.pow_succ, Nat.div_div_eq_div_mul]⟩
theorem quo_step (n j : Nat) : ((n / 65536 ^ j : Nat) : Int) / 65536 = ((n / 65536 ^ (j + 1) : Nat) : Int) := by rw [dg_step.2]; omega
theorem rem_step (n j : Nat) : ((n / 65536 ^ j : Nat) : Int) % 65536 = dg n j := by unfold dg; omega
theorem quo_pos {n j : Nat} (h : j < (D n).length) : 0 < n / 65536 ^ j := Nat.div_pos (len_D_lt.1 h) (powN_pos j)
theorem quo_end (n : Nat) : n / 65536 ^ (D n).length = 0 := Nat.div_eq_of_lt (lt_len_D n)
theorem quo_le (n j : Nat) : n / 65536 ^ j ≤ n := Nat.div_le_self _ _
section
def smallS (n j : Nat) : VE × VH := ([(0, some (.int .i64 ((n / 65536 ^ j : Nat) : Int))), (3, some (.sl 0 0 j 1))], [.ints true .i64 (dgs n j)])
theorem small_r (call : CallV) {n : Nat} (hn : n < 9223372036854775808) (hl : (D n).length < 1000000) (j : Nat) (hj : j < (D n).length) :
    vCode Try.prog kn call 75 (loopAt Try.f75 0) (smallS n j).1 (smallS n j).2 = some (.norm, smallS n (j + 1)) := by
  have b1 := quo_pos hj
  have b2 := quo_le n j
  rw [round_v]; simp only [loopAt, nthC, bodyC, loops, List.nil_append, List.cons_append, List.append_nil, Try.f75, smallS, dgs_succ, ← rem_step, ← quo_step]
  generalize n / 65536 ^ j = q at *
  simp (disch := omega) [go_sem, tab75, nil75, dgs_len, dgs_take]
theorem small_x (call : CallV) {n : Nat} (hl : (D n).length < 1000000) :
    vCode Try.prog kn call 75 (loopAt Try.f75 0) (smallS n (D n).length).1 (smallS n (D n).length).2 = some (.exit 0, [(0, some (.int .i64 0)), (3, some (.sl 0 0 (D n).length 1)), (5, some (.bool false))], [.ints true .i64 (dgs n (D n).length)]) := by
  rw [round_v]; simp only [loopAt, nthC, bodyC, loops, List.nil_append, List.cons_append, List.append_nil, Try.f75, smallS, quo_end]
  simp (disch := omega) [go_sem, tab75, nil75, dgs_len]
theorem dgs_D (n : Nat) : dgs n (D n).length = D n := by
  have := (dgs_tl (lt_len_D n)).2.1
  rwa [dgs_take] at this
theorem small_v (d : Nat) {n : Nat} (hn : n < 9223372036854775808) : vrun Try.prog kn (d + 1) 75 [.int .i64 (n : Int)] [] = some (.sl 0 0 (D n).length 1, [.ints true .i64 (D n)]) := by
  have hl : (D n).length < 1000000 := by
    have : (D n).length ≤ 4 := len_D_le.2 (by omega)
    omega
  have hl0 := fun ks => loop_v (P := Try.prog) (K := kn) (ks := ks) (vi_for (smallS n) (D n).length (by rw [k_cf, c_rounds]; omega) (small_r (vrun Try.prog kn d) hn hl) fun m => vi_exit (small_x _ hl))
  simp only [loopAt, nthC, bodyC, loops, List.nil_append, List.cons_append, List.append_nil, Try.f75, smallS, dgs, Nat.pow_zero, Nat.div_one] at hl0
  rw [vrun_v Try.func75 rfl rfl rfl]; simp only [Try.f75]
  simp (disch := omega) [go_sem, tab75, nil75, hl0, dgs_D]
def minusS (x y j : Nat) : VE × VH := ([(1, some (.ints .i64 (D y))), (5, some (.sl 0 0 j 1)), (6, some (.int .i64 (borrow x y j))), (12, some (.ints .i64 (D x))), (13, some (.int .i64 (D x).length)), (14, some (.int .i64 j))], [.ints true .i64 (dgs (x - y) j)])
variable {x y : Nat}
end
section
def normS (l : List Int) (j : Nat) : VE × VH := ([(0, some (.ints .i64 l)), (2, some (.ptr 0 0)), (3, some (.int .i64 j))], [.vals true [.nil]])
variable {l : List Int}
theorem norm_r1 (call : CallV) (j : Nat) (hj : j < l.length) (hl : l.length < 1000000000) (h0 : gt l j = 0) :
    vCode Try.prog kn call 109 (loopAt Try.f109 0) (normS l (j + 1)).1 (normS l (j + 1)).2 = some (.norm, normS l j) := by
  rw [round_v]; simp only [loopAt, nthC, bodyC, loops, List.nil_append, List.cons_append, List.append_nil, Try.f109, normS]
  simp (disch := omega) [go_sem, tab109, h0]
theorem norm_x (call : CallV) (j : Nat) (hj : j ≤ l.length) (hl : l.length < 1000000000) (h0 : tl l j = j) :
    vCode Try.prog kn call 109 (loopAt Try.f109 0) (normS l j).1 (normS l j).2 = some (.exit 0, [(0, some (.ints .i64 l)), (2, some (.ptr 0 0)), (3, some (.int .i64 j)), (15, some (.bool false))], [.vals true [.nil]]) := by
  rw [round_v]; simp only [loopAt, nthC, bodyC, loops, List.nil_append, List.cons_append, List.append_nil, Try.f109, normS]
  cases j with
  | zero => simp (disch := omega) [go_sem, tab109]
  | succ j =>
    have h1 : ¬ gt l j = 0 := fun h1 => by
      rw [tl, if_pos h1] at h0
      have := tl_le l j; omega
    simp (disch := omega) [go_sem, tab109, h1]
theorem norm_l (call : CallV) (hl : l.length < 1000000000) : ∀ (j n : Nat), j ≤ l.length → j < n →
    viter (vCode Try.prog kn call 109 (loopAt Try.f109 0)) n (normS l j).1 (normS l j).2 = some (.exit 0, [(0, some (.ints .i64 l)), (2, some (.ptr 0 0)), (3, some (.int .i64 (tl l j))), (15, some (.bool false))], [.vals true [.nil]])
  | 0, n + 1, _, _ => vi_exit (norm_x call 0 (by omega) hl rfl)
  | j + 1, n + 1, hj, hn => by
    by_cases h0 : gt l j = 0
    · rw [vi_norm (norm_r1 call j (by omega) hl h0), tl, if_pos h0]
      exact norm_l call hl j n (by omega) (by omega)
    · have e : tl l (j + 1) = j + 1 := by rw [tl, if_neg h0]
      rw [vi_exit (norm_x call (j + 1) hj hl e), e]
theorem l2norm_v (d : Nat) (hl : l.length < 1000000000) (hg : GoodL l) {v : Nat} (hv : val l = v) : vrun Try.prog kn (d + 1) 109 [.ints .i64 l] [] = some (.agg [.sl 0 0 (D v).length 1], [.ints true .i64 (D v)]) := by
  have hl0 := fun ks => loop_v (P := Try.prog) (K := kn) (ks := ks) (norm_l (vrun Try.prog kn d) hl l.length kn.cf.rounds (Nat.le_refl _) (by rw [k_cf, c_rounds]; omega))
  simp only [loopAt, nthC, bodyC, loops, List.nil_append, List.cons_append, List.append_nil, Try.f109, normS] at hl0
  obtain ⟨e1, e2, e3⟩ := tl_D hg hv
  rw [e1] at hl0
  rw [vrun_v Try.func109 rfl rfl rfl]; simp only [Try.f109]
  simp (disch := omega) [go_sem, tab109, hl0, e2]
end
section
def ofS (n j : Nat) : VE × VH := ([(0, some (.int .i64 ((n / 65536 ^ j : Nat) : Int))), (2, some (.ptr 0 0)), (3, some (.sl 1 0 j 1))], [.vals true [.nil], .ints true .i64 (dgs n j)])
theorem of_r (call : CallV) {n : Nat} (hn : n < 9223372036854775808) (hl : (D n).length < 1000000) (j : Nat) (hj : j < (D n).length) :
    vCode Try.prog kn call 83 (loopAt Try.f83 0) (ofS n j).1 (ofS n j).2 = some (.norm, ofS n (j + 1)) := by
  have b1 := quo_pos hj
  have b2 := quo_le n j
  rw [round_v]; simp only [loopAt, nthC, bodyC, loops, List.nil_append, List.cons_append, List.append_nil, Try.f83, ofS, dgs_succ, ← rem_step, ← quo_step]
  generalize n / 65536 ^ j = q at *
  simp (disch := omega) [go_sem, tab83, nil83, dgs_len, dgs_take]
theorem of_x (call : CallV) {n : Nat} (hl : (D n).length < 1000000) :
    vCode Try.prog kn call 83 (loopAt Try.f83 0) (ofS n (D n).length).1 (ofS n (D n).length).2 = some (.exit 0, [(0, some (.int .i64 0)), (2, some (.ptr 0 0)), (3, some (.sl 1 0 (D n).length 1)), (5, some (.bool false))], [.vals true [.nil], .ints true .i64 (dgs n (D n).length)]) := by
  rw [round_v]; simp only [loopAt, nthC, bodyC, loops, List.nil_append, List.cons_append, List.append_nil, Try.f83, ofS, quo_end]
  simp (disch := omega) [go_sem, tab83, nil83, dgs_len]
theorem l2of_v (d : Nat) {n : Nat} (hn : n < 9223372036854775808) : vrun Try.prog kn (d + 1) 83 [.int .i64 (n : Int)] [] = some (.agg [.sl 0 0 (D n).length 1], [.ints true .i64 (D n)]) := by
  have hl : (D n).length < 1000000 := by
    have : (D n).length ≤ 4 := len_D_le.2 (by omega)
    omega
  have hl0 := fun ks => loop_v (P := Try.prog) (K := kn) (ks := ks) (vi_for (ofS n) (D n).length (by rw [k_cf, c_rounds]; omega) (of_r (vrun Try.prog kn d) hn hl) fun m => vi_exit (of_x _ hl))
  simp only [loopAt, nthC, bodyC, loops, List.nil_append, List.cons_append, List.append_nil, Try.f83, ofS, dgs, Nat.pow_zero, Nat.div_one] at hl0
  rw [vrun_v Try.func83 rfl rfl rfl]; simp only [Try.f83]
  simp (disch := omega) [go_sem, tab83, nil83, hl0, dgs_D]
end
end
/- Numbers: compare, times, and the reference's l2cmp, l2add, l2sub, l2mul. No conditions. -/
section
open Num
theorem cmp_step {x y i : Nat} (h : x / 65536 ^ (i + 1) = y / 65536 ^ (i + 1)) : (dg x i = dg y i → x / 65536 ^ i = y / 65536 ^ i) ∧ (dg x i < dg y i → x < y) ∧ (dg y i < dg x i → y < x) := by
  have e1 := div_pow_succ x i
  have e2 := div_pow_succ y i
  unfold dg
  refine ⟨fun h1 => by omega, fun h1 => lt_of_div (p := 65536 ^ i) (by omega), fun h1 => lt_of_div (p := 65536 ^ i) (by omega)⟩
theorem div_len {x n : Nat} (h : (D x).length ≤ n) : x / 65536 ^ n = 0 := Nat.div_eq_of_lt (len_D_le.1 h)
section
variable {x y : Nat}
/-- Lists of one length: up from the high end. -/
theorem comp_l {body : VE → VH → Option (AX × VE × VH)} {S : Int → VE × VH} {E : VE × VH} {R : Int → VE × VH}
    (hx : body (S (-1)).1 (S (-1)).2 = some (.exit 0, E)) (h1 : ∀ j : Nat, j < (D x).length → dg x j = dg y j → body (S j).1 (S j).2 = some (.norm, S ((j : Int) - 1)))
    (h2 : ∀ j : Nat, j < (D x).length → dg x j < dg y j → body (S j).1 (S j).2 = some (.ret, R (-1))) (h3 : ∀ j : Nat, j < (D x).length → dg y j < dg x j → body (S j).1 (S j).2 = some (.ret, R 1)) :
    ∀ (j n : Nat), j ≤ (D x).length → x / 65536 ^ j = y / 65536 ^ j → j < n →
    (viter body n (S ((j : Int) - 1)).1 (S ((j : Int) - 1)).2 = some (.exit 0, E) ∧ cmpI x y = 0) ∨ viter body n (S ((j : Int) - 1)).1 (S ((j : Int) - 1)).2 = some (.ret, R (cmpI x y))
  | 0, n + 1, _, he, _ => by
    refine .inl ⟨vi_exit hx, ?_⟩
    simp only [Nat.pow_zero, Nat.div_one] at he
    subst he; simp [cmpI]
  | j + 1, n + 1, hj, he, hn => by
    have e : (((j + 1 : Nat) : Int) - 1) = (j : Int) := by omega
    rw [e]
    obtain ⟨s1, s2, s3⟩ := cmp_step he
    rcases Int.lt_trichotomy (dg x j) (dg y j) with hd | hd | hd
    · right
      rw [vi_ret (h2 j (by omega) hd)]
      unfold cmpI; rw [if_pos (s2 hd)]
    · rw [vi_norm (h1 j (by omega) hd)]
      exact comp_l hx h1 h2 h3 j n (by omega) (s1 hd) (by omega)
    · right
      rw [vi_ret (h3 j (by omega) hd)]
      have := s3 hd
      unfold cmpI; rw [if_neg (by omega), if_neg (by omega)]
def compS (x y : Nat) (i : Int) : VE × VH := ([(0, some (.ints .i64 (D x))), (1, some (.ints .i64 (D y))), (5, some (.int .i64 i))], [])
def cmpS (x y : Nat) (i : Int) : VE × VH := ([(2, some (.ptr 0 0)), (3, some (.ptr 1 0)), (5, some (.int .i64 i))], [.vals true [.ints .i64 (D x)], .vals true [.ints .i64 (D y)]])
end
end
/- Numbers: times, l2add, l2sub, l2mul. No conditions. -/
section
open Num
section
variable {x y : Nat}
theorem add_go {x y j : Nat} (h : j < (D (x + y)).length) : j < (D x).length ∨ (¬ j < (D x).length ∧ j < (D y).length) ∨ (¬ j < (D x).length ∧ ¬ j < (D y).length ∧ 0 < carry x y j) := by
  by_cases h1 : j < (D x).length
  · exact .inl h1
  · by_cases h2 : j < (D y).length
    · exact .inr (.inl ⟨h1, h2⟩)
    · refine .inr (.inr ⟨h1, h2, ?_⟩)
      have hx : x < 65536 ^ j := len_D_le.1 (by omega)
      have hy : y < 65536 ^ j := len_D_le.1 (by omega)
      have hp : 65536 ^ j ≤ x + y := len_D_lt.1 h
      unfold carry
      rw [Nat.mod_eq_of_lt hx, Nat.mod_eq_of_lt hy]
      have := Nat.div_pos hp (powN_pos j)
      omega
theorem add_end (x y : Nat) : (D x).length ≤ (D (x + y)).length ∧ (D y).length ≤ (D (x + y)).length ∧ carry x y (D (x + y)).length = 0 := by
  refine ⟨len_mono (by omega), len_mono (by omega), ?_⟩
  have h := lt_len_D (x + y)
  unfold carry
  rw [Nat.mod_eq_of_lt (by omega), Nat.mod_eq_of_lt (by omega), Nat.div_eq_of_lt h]; rfl
def addS (x y j : Nat) : VE × VH := ([(2, some (.ptr 0 0)), (3, some (.ptr 1 0)), (4, some (.ptr 2 0)), (5, some (.sl 3 0 j 1)), (6, some (.int .i64 (carry x y j))), (7, some (.int .i64 j))], [.vals true [.ints .i64 (D x)], .vals true [.ints .i64 (D y)], .vals true [.nil], .ints true .i64 (dgs (x + y) j)])
def subS (x y j : Nat) : VE × VH := ([(2, some (.ptr 0 0)), (3, some (.ptr 1 0)), (4, some (.ptr 2 0)), (5, some (.sl 3 0 j 1)), (6, some (.int .i64 (borrow x y j))), (7, some (.int .i64 j))], [.vals true [.ints .i64 (D x)], .vals true [.ints .i64 (D y)], .vals true [.nil], .ints true .i64 (dgs (x - y) j)])
end
section
variable {x y : Nat}
/-- A row of a product. -/
theorem mul_in {body : VE → VH → Option (AX × VE × VH)} {S : List Int → Int → Nat → VE × VH} {E : List Int → Int → VE × VH} {ex i N : Nat}
    (hs : ∀ (out : List Int) (c : Int) (j : Nat), j < (D y).length → out.length = N → 0 ≤ c → c < 65536 → 0 ≤ gt out (i + j) → gt out (i + j) < 65536 → 0 ≤ dg x i * dg y j → dg x i * dg y j ≤ 4294836225 →
      body (S out c j).1 (S out c j).2 = some (.norm, S (out.set (i + j) ((c + (gt out (i + j) + dg x i * dg y j)) % 65536)) ((c + (gt out (i + j) + dg x i * dg y j)) / 65536) (j + 1)))
    (hx : ∀ (out : List Int) (c : Int), out.length = N → body (S out c (D y).length).1 (S out c (D y).length).2 = some (.exit ex, E out c)) (hN : i + (D y).length < N) (v0 : Int) (d : Nat) :
    ∀ (j n : Nat) (out : List Int) (c : Int), j + d = (D y).length → d < n → GoodL out → out.length = N → 0 ≤ c → c < 65536 → out.getD (i + (D y).length) 0 = 0 →
      val out + 65536 ^ i * 65536 ^ j * c = v0 + 65536 ^ i * dg x i * lo y j →
    ∃ out' c', viter body n (S out c j).1 (S out c j).2 = some (.exit ex, E out' c') ∧ out'.length = N ∧ gt out' (i + (D y).length) = 0 ∧ 0 ≤ c' ∧ c' < 65536 ∧ GoodL (out'.set (i + (D y).length) c') ∧ val (out'.set (i + (D y).length) c') = v0 + 65536 ^ i * dg x i * y := by
  induction d with
  | zero =>
    intro j n out c hj hn hg hl h0 h1 hz hv
    obtain ⟨n, rfl⟩ : ∃ m, n = m + 1 := ⟨n - 1, by omega⟩
    obtain rfl : j = (D y).length := by omega
    refine ⟨out, c, vi_exit (hx out c hl), hl, hz, h0, h1, hg.set _ h0 h1, ?_⟩
    rw [val_set (by omega), hz, Int.pow_add]
    rw [lo_len (by omega)] at hv
    grind
  | succ d ih =>
    intro j n out c hj hn hg hl h0 h1 hz hv
    obtain ⟨n, rfl⟩ : ∃ m, n = m + 1 := ⟨n - 1, by omega⟩
    have b1 := dg_bd x i
    have b2 := dg_bd y j
    have e2 := lo_succ y j
    have bm := mul_bd b1 b2
    have bo := hg.getD (i + j)
    have bo0 : 0 ≤ gt out (i + j) := bo.1
    have bo1 : gt out (i + j) < 65536 := bo.2
    rw [vi_norm (hs out c j (by omega) hl h0 h1 bo0 bo1 bm.1 bm.2)]
    exact ih (j + 1) n (out.set (i + j) ((c + (gt out (i + j) + dg x i * dg y j)) % 65536)) ((c + (gt out (i + j) + dg x i * dg y j)) / 65536) (by omega) (by omega) (hg.set _ (by omega) (by omega)) (by rw [List.length_set]; exact hl) (by omega) (by omega) (by rw [getD_set_ne_ (by omega)]; exact hz) (by
      rw [e2, Int.pow_succ]
      refine step_mul hv rfl ?_
      rw [val_set (by omega), Int.pow_add]; rfl)
theorem row_zero {x y i : Nat} {out : List Int} (hg : GoodL out) (hv : val out = lo x i * y) : out.getD (i + (D y).length) 0 = 0 := by
  refine getD_zero_of_lt hg ?_
  rw [hv, Int.pow_add]
  have h1 := lo_lt x i
  have h2 : (y : Int) < 65536 ^ (D y).length := by rw [← pow_cast]; exact Int.ofNat_lt.2 (lt_len_D y)
  have h3 := lo_nonneg x i
  have h4 := pow_pos' i
  exact Int.lt_of_le_of_lt (Int.mul_le_mul_of_nonneg_right (Int.le_of_lt h1) (by omega)) (Int.mul_lt_mul_of_pos_left h2 h4)
theorem mul_out {body : VE → VH → Option (AX × VE × VH)} {S : List Int → Nat → VE × VH} {E : List Int → VE × VH} {ex N : Nat}
    (hs : ∀ (out : List Int) (j : Nat), j < (D x).length → GoodL out → out.length = N → val out = lo x j * y → ∃ out', body (S out j).1 (S out j).2 = some (.norm, S out' (j + 1)) ∧ GoodL out' ∧ out'.length = N ∧ val out' = lo x (j + 1) * y)
    (hx : ∀ (out : List Int), out.length = N → body (S out (D x).length).1 (S out (D x).length).2 = some (.exit ex, E out)) (d : Nat) :
    ∀ (j n : Nat) (out : List Int), j + d = (D x).length → d < n → GoodL out → out.length = N → val out = lo x j * y →
    ∃ out', viter body n (S out j).1 (S out j).2 = some (.exit ex, E out') ∧ GoodL out' ∧ out'.length = N ∧ val out' = ((x * y : Nat) : Int) := by
  induction d with
  | zero =>
    intro j n out hj hn hg hl hv
    obtain ⟨n, rfl⟩ : ∃ m, n = m + 1 := ⟨n - 1, by omega⟩
    obtain rfl : j = (D x).length := by omega
    exact ⟨out, vi_exit (hx out hl), hg, hl, by rw [hv, lo_len (by omega), ← Int.natCast_mul]⟩
  | succ d ih =>
    intro j n out hj hn hg hl hv
    obtain ⟨n, rfl⟩ : ∃ m, n = m + 1 := ⟨n - 1, by omega⟩
    obtain ⟨out', hr, hg', hl', hv'⟩ := hs out j (by omega) hg hl hv
    rw [vi_norm hr]
    exact ih (j + 1) n out' (by omega) (by omega) hg' hl' hv'
def timesI (x y i : Nat) (out : List Int) (c : Int) (j : Nat) : VE × VH := ([(1, some (.ints .i64 (D y))), (5, some (.sl 0 0 ((D x).length + (D y).length) 1)), (6, some (.int .i64 i)), (7, some (.int .i64 (dg x i))), (8, some (.int .i64 c)), (17, some (.ints .i64 (D x))), (18, some (.int .i64 (D x).length)), (19, some (.int .i64 i)), (24, some (.ints .i64 (D y))), (25, some (.int .i64 (D y).length)), (26, some (.int .i64 j))], [.ints true .i64 out])
def timesS (x y : Nat) (out : List Int) (j : Nat) : VE × VH := ([(1, some (.ints .i64 (D y))), (5, some (.sl 0 0 ((D x).length + (D y).length) 1)), (17, some (.ints .i64 (D x))), (18, some (.int .i64 (D x).length)), (19, some (.int .i64 j))], [.ints true .i64 out])
theorem times_v (d : Nat) (hx : (D x).length < 1000000) (hy : (D y).length < 1000000) :
    vrun Try.prog kn (d + 2) 74 [.ints .i64 (D x), .ints .i64 (D y)] [] = some (.sl 0 0 (D (x * y)).length 1, [.ints true .i64 (D (x * y))]) := by
  obtain ⟨out, hl, hg, hol, hv⟩ := mul_out (x := x) (y := y) (N := (D x).length + (D y).length) (ex := 0) (S := timesS x y) (E := fun out => ((timesS x y out (D x).length).1 ++ [(20, some (.bool false))], [.ints true .i64 out])) (body := vCode Try.prog kn (vrun Try.prog kn (d + 1)) 74 (loopAt Try.f74 0))
    (fun out i hi hg hol hv => by
      obtain ⟨out', c', hl, hol', hz', hc0, hc1, hg', hv'⟩ := mul_in (x := x) (y := y) (i := i) (ex := 2) (N := (D x).length + (D y).length) (S := timesI x y i) (E := fun out c => ((timesI x y i out c (D y).length).1 ++ [(27, some (.bool false))], [.ints true .i64 out])) (body := vCode Try.prog kn (vrun Try.prog kn (d + 1)) 74 (loopAt Try.f74 1))
        (fun out c j hj hol h0 h1 o0 o1 p0 p1 => by
          rw [round_v]; simp only [loopAt, nthC, bodyC, loops, List.nil_append, List.cons_append, List.append_nil, Try.f74, timesI]
          have e : ((i : Int) + (j : Int)).toNat = i + j := by omega
          simp (disch := omega) [go_sem, tab74, nil74, gt_D, hol, e])
        (fun out c hol => by
          rw [round_v]; simp only [loopAt, nthC, bodyC, loops, List.nil_append, List.cons_append, List.append_nil, Try.f74, timesI]
          simp (disch := omega) [go_sem, tab74, nil74, hol])
        (by omega) (lo x i * y) (D y).length 0 kn.cf.rounds out 0 (by omega) (by rw [k_cf, c_rounds]; omega) hg hol (by omega) (by omega) (row_zero hg hv) (by rw [lo_zero, hv]; grind)
      have hl0 := fun ks => loop_v (P := Try.prog) (K := kn) (ks := ks) hl
      simp only [loopAt, nthC, bodyC, loops, List.nil_append, List.cons_append, List.append_nil, Try.f74, timesI, Int.natCast_zero, List.cons_append, List.nil_append] at hl0
      refine ⟨_, ?_, hg', by rw [List.length_set]; exact hol', by rw [hv', lo_succ]; grind⟩
      rw [round_v]; simp only [loopAt, nthC, bodyC, loops, List.nil_append, List.cons_append, List.append_nil, Try.f74, timesS]
      have e : ((i : Int) + ((D y).length : Int)).toNat = i + (D y).length := by omega
      simp (disch := omega) [go_sem, tab74, nil74, gt_D, hl0, hol, hol', e])
    (fun out hol => by
      rw [round_v]; simp only [loopAt, nthC, bodyC, loops, List.nil_append, List.cons_append, List.append_nil, Try.f74, timesS]
      simp (disch := omega) [go_sem, tab74, nil74, hol])
    (D x).length 0 kn.cf.rounds (List.replicate ((D x).length + (D y).length) 0) (by omega) (by rw [k_cf, c_rounds]; omega) (GoodL.zeros _) (by simp) (by rw [val_zeros, lo_zero]; simp)
  have hl0 := fun ks => loop_v (P := Try.prog) (K := kn) (ks := ks) hl
  simp only [loopAt, nthC, bodyC, loops, List.nil_append, List.cons_append, List.append_nil, Try.f74, timesS, Int.natCast_zero, List.cons_append, List.nil_append] at hl0
  have ht := trim0_v d (l := out) (n := (D x).length + (D y).length) (v := x * y) (by omega) (by omega) hg hv
  obtain ⟨-, htk, hle⟩ := tl_D hg (l := out) (v := x * y) hv
  have e : ((D x).length + (D y).length : Int).toNat = (D x).length + (D y).length := by omega
  rw [vrun_v Try.func74 rfl rfl rfl]; simp only [Try.f74]
  simp (disch := omega) [go_sem, tab74, nil74, hl0, ht, htk, hol, e]
def mulI (x y i : Nat) (out : List Int) (c : Int) (j : Nat) : VE × VH := ([(2, some (.ptr 0 0)), (3, some (.ptr 1 0)), (4, some (.ptr 2 0)), (5, some (.sl 3 0 ((D x).length + (D y).length) 1)), (6, some (.int .i64 i)), (7, some (.int .i64 c)), (8, some (.int .i64 j))], [.vals true [.ints .i64 (D x)], .vals true [.ints .i64 (D y)], .vals true [.nil], .ints true .i64 out])
def mulS (x y : Nat) (out : List Int) (j : Nat) : VE × VH := ([(2, some (.ptr 0 0)), (3, some (.ptr 1 0)), (4, some (.ptr 2 0)), (5, some (.sl 3 0 ((D x).length + (D y).length) 1)), (6, some (.int .i64 j))], [.vals true [.ints .i64 (D x)], .vals true [.ints .i64 (D y)], .vals true [.nil], .ints true .i64 out])
end
end
/- Numbers: up, down, bits, and the reference's l2small, l2shl, l2shr, l2bit, l2trail. No conditions. -/
section
open Num
theorem b_and1 (P : Program) (t : TypeId) (a : Int) (h0 : 0 ≤ a) (h1 : a < 9223372036854775808) : binE P .and t (.int .i64 a) (.int .i64 1) = some (.int .i64 (a % 2)) := by
  rw [b_and]
  have : (BitVec.ofInt 64 a &&& BitVec.ofInt 64 1).toNat = (a % 2).toNat := by
    rw [BitVec.toNat_and, BitVec.toNat_ofInt, show (BitVec.ofInt 64 1).toNat = 1 from rfl, Nat.and_one_is_mod]
    omega
  have h2 : IntKind.wrap .i64 (((BitVec.ofInt 64 a &&& BitVec.ofInt 64 1).toNat : Nat) : Int) = a % 2 := by
    rw [this, w64 (by omega) (by omega)]; omega
  exact congrArg (fun q => some (CV.int .i64 q)) h2
section
def upS (x m s : Nat) (k : Int) (j : Nat) : VE × VH := ([(1, some (.int .i64 k)), (5, some (.sl 0 0 (s + j) 1)), (6, some (.int .i64 (mcar x m j))), (21, some (.ints .i64 (D x))), (22, some (.int .i64 (D x).length)), (23, some (.int .i64 j))], [.ints true .i64 (List.replicate s 0 ++ dgs (x * m) j)])
theorem shl_m (k : Nat) : (2 : Int) ^ ((k : Int) % 16).toNat = ((2 ^ (k % 16) : Nat) : Int) := by
  rw [show ((k : Int) % 16).toNat = k % 16 by omega, Int.natCast_pow]; rfl
theorem mulm_bd {a : Int} {m : Nat} (h0 : 0 ≤ a) (h1 : a < 65536) (hm : m ≤ 32768) : 0 ≤ a * m ∧ a * m ≤ 2147450880 := by
  refine ⟨Int.mul_nonneg h0 (by omega), ?_⟩
  have : a * m ≤ 65535 * 32768 := Int.mul_le_mul (by omega) (by omega) (by omega) (by omega)
  omega
variable {x k : Nat}
end
end
/- Numbers: down, and the reference's l2small, l2shl, l2shr. No conditions. -/
section
open Num
theorem fdiv_m (a : Int) (m : Nat) : a.fdiv (m : Int) = a / m := Int.fdiv_eq_ediv_of_nonneg _ (by omega)
section
variable {x k : Nat}
def downS (z m : Nat) (k : Int) (j : Nat) : VE × VH := ([(1, some (.int .i64 k)), (5, some (.ints .i64 (D z))), (6, some (.sl 0 0 j 1)), (21, some (.ints .i64 (D z))), (22, some (.int .i64 (D z).length)), (23, some (.int .i64 j))], [.ints true .i64 (dgs (z / m) j)])
theorem cut_D (x k : Nat) (h : k / 16 < (D x).length) : ((D x).drop ((k : Int) / 16).toNat).take (((D x).length : Int) - (k : Int) / 16).toNat = D (x / 65536 ^ (k / 16)) := by
  rw [show ((k : Int) / 16).toNat = k / 16 by omega, D_drop, List.take_of_length_le]
  rw [← D_drop, List.length_drop]; omega
end
section
def hi (q n i : Nat) : List Int := List.replicate i 0 ++ (dgs q n).drop i
theorem hi_len {q n i : Nat} (h : i ≤ n) : (hi q n i).length = n := by unfold hi; rw [List.length_append, List.length_replicate, List.length_drop, dgs_len]; omega
theorem gt_dgs : ∀ {q n i : Nat}, i < n → gt (dgs q n) i = dg q i
  | q, n + 1, i, h => by
    rw [dgs_succ]
    by_cases h1 : i < n
    · rw [gt_app_lt (by rw [dgs_len]; exact h1)]; exact gt_dgs h1
    · obtain rfl : i = n := by omega
      have := gt_snoc (dgs q i) (dg q i)
      rwa [dgs_len] at this
theorem hi_set {q n i : Nat} (h : i < n) : (hi q n (i + 1)).set i (dg q i) = hi q n i := by
  unfold hi
  have e : (dgs q n).drop i = dg q i :: (dgs q n).drop (i + 1) := by
    rw [List.drop_eq_getElem_cons (by rw [dgs_len]; exact h), gt_get, gt_dgs h]
  rw [e, List.replicate_succ', List.append_assoc, List.set_append_right _ _ (by simp)]
  simp
variable {z m : Nat}
def smS (z m : Nat) (i : Nat) : VE × VH := ([(1, some (.int .i64 m)), (2, some (.ptr 0 0)), (4, some (.ptr 1 0)), (6, some (.sl 2 0 (D z).length 1)), (7, some (.int .i64 ((z / 65536 ^ i % m : Nat) : Int))), (8, some (.int .i64 ((i : Int) - 1)))], [.vals true [.ints .i64 (D z)], .vals true [.nil], .ints true .i64 (hi (z / m) (D z).length i)])
theorem sm_r (call : CallV) (hm : 0 < m) (hm2 : m ≤ 65536) (hx : (D z).length < 1000000) (i : Nat) (hi' : i < (D z).length) :
    vCode Try.prog kn call 108 (loopAt Try.f108 0) (smS z m (i + 1)).1 (smS z m (i + 1)).2 = some (.norm, smS z m i) := by
  have b1 := dg_bd z i
  obtain ⟨e1, e2⟩ := divs_nat (x := z) (j := i) (d := m) hm
  have b3 := Nat.mod_lt (z / 65536 ^ (i + 1)) hm
  have b4 := divs_lt (d := m) b3 (Nat.mod_lt (z / 65536 ^ i) (by omega : 0 < 65536))
  have hd : dg (z / m) i = (((z / 65536 ^ (i + 1) % m * 65536 + z / 65536 ^ i % 65536) / m : Nat) : Int) := by
    unfold dg
    rw [Nat.div_div_eq_div_mul, Nat.mul_comm, ← Nat.div_div_eq_div_mul, e1, Nat.mul_add_mod, Nat.mod_eq_of_lt b4]
  have hq : (((z / 65536 ^ (i + 1) % m : Nat) : Int) * 65536 + dg z i) / (m : Int) = dg (z / m) i := by
    rw [hd, Int.natCast_ediv, Int.natCast_add, Int.natCast_mul]; rfl
  have hr : (((z / 65536 ^ (i + 1) % m : Nat) : Int) * 65536 + dg z i) % (m : Int) = ((z / 65536 ^ i % m : Nat) : Int) := by
    rw [e2]
    refine Eq.trans ?_ (Int.natCast_emod _ _).symm
    congr 1
  rw [round_v]; simp only [loopAt, nthC, bodyC, loops, List.nil_append, List.cons_append, List.append_nil, Try.f108, smS, ← hi_set hi']
  have e0 : (((i + 1 : Nat) : Int) - 1) = i := by omega
  have hl := hi_len (q := z / m) (n := (D z).length) (i := i + 1) (by omega)
  have b5 := dg_bd (z / m) i
  generalize hr0 : ((z / 65536 ^ (i + 1) % m : Nat) : Int) = r at *
  have b6 : 0 ≤ r := by rw [← hr0]; exact Int.natCast_nonneg _
  have b7 : r < m := by rw [← hr0]; exact Int.ofNat_lt.2 b3
  rw [e0]
  generalize hi (z / m) (D z).length (i + 1) = H at *
  generalize dg (z / m) i = q at *
  simp (disch := omega) [go_sem, tab108, gt_D, hl, hq, hr]
theorem sm_x (call : CallV) :
    vCode Try.prog kn call 108 (loopAt Try.f108 0) (smS z m 0).1 (smS z m 0).2 = some (.exit 0, (smS z m 0).1 ++ [(19, some (.bool false))], (smS z m 0).2) := by
  rw [round_v]; simp only [loopAt, nthC, bodyC, loops, List.nil_append, List.cons_append, List.append_nil, Try.f108, smS]
  simp (disch := omega) [go_sem, tab108]
theorem l2small_v (d : Nat) (hm : 0 < m) (hm2 : m ≤ 65536) (hx : (D z).length < 1000000) :
    vrun Try.prog kn (d + 2) 108 [.agg [.ints .i64 (D z)], .int .i64 (m : Int)] [] = some (.tup [.agg [.ints .i64 (D (z / m))], .int .i64 ((z % m : Nat) : Int)], []) := by
  have key : ∀ i n, i ≤ (D z).length → i < n → viter (vCode Try.prog kn (vrun Try.prog kn (d + 1)) 108 (loopAt Try.f108 0)) n (smS z m i).1 (smS z m i).2 = some (.exit 0, (smS z m 0).1 ++ [(19, some (.bool false))], (smS z m 0).2) := by
    intro i
    induction i with
    | zero => intro n _ hn; obtain ⟨n, rfl⟩ : ∃ q, n = q + 1 := ⟨n - 1, by omega⟩; exact vi_exit (sm_x _)
    | succ i ih => intro n h1 hn; obtain ⟨n, rfl⟩ : ∃ q, n = q + 1 := ⟨n - 1, by omega⟩; rw [vi_norm (sm_r _ hm hm2 hx i (by omega))]; exact ih n (by omega) (by omega)
  have hl0 := fun ks => loop_v (P := Try.prog) (K := kn) (ks := ks) (key (D z).length kn.cf.rounds (Nat.le_refl _) (by rw [k_cf, c_rounds]; omega))
  have h0 : hi (z / m) (D z).length (D z).length = List.replicate (D z).length 0 := by unfold hi; rw [List.drop_eq_nil_of_le (by rw [dgs_len]; omega), List.append_nil]
  have h1 : hi (z / m) (D z).length 0 = dgs (z / m) (D z).length := by unfold hi; rw [List.replicate_zero, List.nil_append, List.drop_zero]
  simp only [loopAt, nthC, bodyC, loops, List.nil_append, List.cons_append, List.append_nil, Try.f108, smS, h0, h1, quo_end, Nat.zero_mod, Nat.pow_zero, Nat.div_one, Int.natCast_zero, List.cons_append, List.nil_append] at hl0
  have c2 : z / m < 65536 ^ (D z).length := Nat.lt_of_le_of_lt (Nat.div_le_self _ _) (lt_len_D z)
  have hn := l2norm_v d (l := dgs (z / m) (D z).length) (v := z / m) (by rw [dgs_len]; omega) (dgs_good _ _) (by rw [dgs_val, lo_len (lt_pow_len c2)])
  rw [vrun_v Try.func108 rfl rfl rfl]; simp only [Try.f108]
  simp (disch := omega) [go_sem, tab108, hl0, dgs_len, dgs_take, hn]
end
section
variable {x k : Nat}
end
end
/- Bits; what is valid. No conditions. -/
section
open Num
section
variable {x k : Nat}
theorem bit_dg (x k : Nat) : dg x (k / 16) / ((2 ^ (k % 16) : Nat) : Int) % 2 = ((x / 2 ^ k % 2 : Nat) : Int) := by
  unfold dg
  have e : x / 2 ^ k = x / 65536 ^ (k / 16) / 2 ^ (k % 16) := by rw [Nat.div_div_eq_div_mul, ← pow_split]
  rw [e]
  generalize x / 65536 ^ (k / 16) = a
  have h1 : a % 65536 / 2 ^ (k % 16) % 2 = a / 2 ^ (k % 16) % 2 := by
    have e2 : 2 ^ (k % 16) * (2 ^ (15 - k % 16) * 2) = 65536 := by
      rw [← Nat.pow_succ, ← Nat.pow_add, show k % 16 + (15 - k % 16).succ = 16 by omega]
    have h2 : a = 2 ^ (k % 16) * (2 ^ (15 - k % 16) * 2) * (a / 65536) + a % 65536 := by rw [e2]; omega
    conv => rhs; lhs; lhs; rw [h2, Nat.mul_assoc]
    rw [Nat.mul_add_div (Nat.two_pow_pos _), Nat.mul_comm (2 ^ (15 - k % 16)) 2, Nat.mul_assoc]
    omega
  rw [← h1]
  generalize a % 65536 = b
  omega
end
section
variable {l : List Int} {g : Nat} {caps : List V} {p : Int → Bool} {call : CallV}
def ixS (l : List Int) (g : Nat) (caps : List V) (j : Nat) : VE × VH := ([(0, some (.ints .i64 l)), (1, some (.fn (.func g) [] caps)), (7, some (.int .i64 l.length)), (8, some (.int .i64 j))], [])
end
end
/- What is valid; copies. No conditions. -/
section
open Num
theorem clone_v (d : Nat) {l : List Int} (hl : l.length < 1000000000) : vrun Try.prog kn (d + 1) 113 [.ints .i64 l] [] = some (.sl 0 0 l.length 1, [.ints true .i64 l]) := by
  rw [vrun, k_cf, c_clone113]
  have : l.length ≤ 1000000000000 := by omega
  simp [vclone, vrdI, this]
section
variable {l : List Int}
def nokS (l : List Int) (j : Nat) : VE × VH := ([(1, some (.ptr 0 0)), (3, some (.int .i64 j))], [.vals true [.ints .i64 l]])
end
theorem bit0 (x : Nat) : x / 2 ^ 0 % 2 = x % 2 := by rw [Nat.pow_zero, Nat.div_one]
end
/- Drawing numbers off a code: bytes, numbers below a bound, picks. No conditions. -/
section
open Num
/-- A cursor. -/
def cur (b : List Int) (c s : Int) : VO := .vals true [.ints .u8 b, .int .i64 c, .int .i64 s]
/-- The cursor over b lies at i. -/
def Cu (b : List Int) (i : Nat) (h : VH) : Prop := ∃ c s, h[i]? = some (cur b c s) ∧ 0 ≤ c ∧ c ≤ b.length
/-- All but the cursor is as it was. -/
def Frm (i : Nat) (h g : VH) : Prop := h.length ≤ g.length ∧ ∀ q, q < h.length → q ≠ i → g[q]? = h[q]?
def Cod (b : List Int) : Prop := b.length ≤ 140737488355000 ∧ ∀ x ∈ b, 0 ≤ x ∧ x < 256
theorem Frm.refl (i : Nat) (h : VH) : Frm i h h := ⟨Nat.le_refl _, fun _ _ _ => rfl⟩
theorem Frm.trans {i : Nat} {h g k : VH} (a : Frm i h g) (b : Frm i g k) : Frm i h k := ⟨Nat.le_trans a.1 b.1, fun q hq hi => (b.2 q (Nat.lt_of_lt_of_le hq a.1) hi).trans (a.2 q hq hi)⟩
theorem Frm.app (i : Nat) (h a : VH) : Frm i h (h ++ a) := ⟨by simp, fun q hq _ => List.getElem?_append_left hq⟩
theorem Frm.set (i : Nat) (h : VH) (o : VO) : Frm i h (h.set i o) := ⟨by simp, fun q _ hi => List.getElem?_set_ne (Ne.symm hi)⟩
theorem Frm.at {i : Nat} {h g : VH} (a : Frm i h g) {q : Nat} {o : VO} (hq : h[q]? = some o) (hi : q ≠ i) : g[q]? = some o := by
  rw [a.2 q (List.getElem?_eq_some_iff.1 hq).1 hi]; exact hq
theorem Cu.lt {b : List Int} {i : Nat} {h : VH} (a : Cu b i h) : i < h.length := by obtain ⟨c, s, h1, _⟩ := a; exact (List.getElem?_eq_some_iff.1 h1).1
theorem Cu.app {b : List Int} {i : Nat} {h : VH} (a : Cu b i h) (m : VH) : Cu b i (h ++ m) := by
  obtain ⟨c, s, h1, h2⟩ := a
  exact ⟨c, s, by rw [List.getElem?_append_left (List.getElem?_eq_some_iff.1 h1).1]; exact h1, h2⟩
theorem Cu.set {b : List Int} {i : Nat} {h : VH} (hi : i < h.length) {c s : Int} (h0 : 0 ≤ c) (h1 : c ≤ b.length) : Cu b i (h.set i (cur b c s)) := ⟨c, s, by simp [hi], h0, h1⟩
theorem Cu.setne {b : List Int} {i k : Nat} {h : VH} (a : Cu b i h) (hk : k ≠ i) (o : VO) : Cu b i (h.set k o) := by
  obtain ⟨c, s, h1, h2⟩ := a
  exact ⟨c, s, by rw [List.getElem?_set_ne hk]; exact h1, h2⟩
def lcg (s : Int) : Int := IntKind.wrap .i64 (IntKind.wrap .i64 (s * 6364136223846793005) + 1442695040888963407)
def mixB (s : Int) : Int := and255 (xor64 (s.fdiv 8589934592) (s.fdiv 35184372088832))
section
variable {h : VH} {b : List Int} {i : Nat}
theorem l1Byte_v (d : Nat) (hb : Cod b) (hc : Cu b i h) : ∃ (x : Int) (g : VH), vrun Try.prog kn (d + 1) 64 [.ptr i 0] h = some (.int .i64 x, g) ∧ 0 ≤ x ∧ x < 256 ∧ Cu b i g ∧ Frm i h g ∧ g.length = h.length := by
  obtain ⟨c, s, hi, c0, c1⟩ := hc
  have hlt := (List.getElem?_eq_some_iff.1 hi).1
  unfold cur at hi
  have g1 : ∀ x, (h.set i x)[i]? = some x := fun x => by simp [hlt]
  by_cases hcl : c < b.length
  · have hg : 0 ≤ gt b c.toNat ∧ gt b c.toNat < 256 := hb.2 _ (gt_mem (by omega))
    have hm0 := and255_bd (xor64 ((lcg s).fdiv 8589934592) ((lcg s).fdiv 35184372088832))
    refine ⟨and255 (mixB (lcg s) + gt b c.toNat), h.set i (cur b (c + 1) (lcg s)), ?_, (and255_bd _).1, (and255_bd _).2, Cu.set hlt (by omega) (by omega), Frm.set _ _ _, by simp⟩
    unfold mixB lcg cur at *
    have hb1 := hb.1
    clear hlt
    rw [vrun_v Try.func64 rfl rfl rfl]; simp only [Try.f64]
    simp (implicitDefEqProofs := false) (disch := omega) [go_sem, tab64, hi, g1, b_and255, b_xor64, IntKind.bits, List.set_set]
  · refine ⟨mixB (lcg s), h.set i (cur b c (lcg s)), ?_, (and255_bd _).1, (and255_bd _).2, Cu.set hlt c0 c1, Frm.set _ _ _, by simp⟩
    unfold mixB lcg cur
    have hb1 := hb.1
    clear hlt
    rw [vrun_v Try.func64 rfl rfl rfl]; simp only [Try.f64]
    simp (implicitDefEqProofs := false) (disch := omega) [go_sem, tab64, hi, g1, b_and255, b_xor64, IntKind.bits, List.set_set]
theorem l1Below_v (d : Nat) (hb : Cod b) (hc : Cu b i h) {n : Int} (n0 : 0 < n) (n1 : n ≤ 4294967296) : ∃ (x : Int) (g : VH), vrun Try.prog kn (d + 2) 62 [.ptr i 0, .int .i64 n] h = some (.int .i64 x, g) ∧ 0 ≤ x ∧ x < n ∧ Cu b i g ∧ Frm i h g ∧ g.length = h.length := by
  obtain ⟨x1, g1, e1, a1, a1', q1, f1, l1⟩ := l1Byte_v d hb hc
  by_cases hn : n ≤ 256
  · refine ⟨x1 % n, g1, ?_, Int.emod_nonneg _ (by omega), Int.emod_lt_of_pos _ n0, q1, f1, l1⟩
    rw [vrun_v Try.func62 rfl rfl rfl]; simp only [Try.f62]
    simp (implicitDefEqProofs := false) (disch := omega) [go_sem, tab62, e1]
  · obtain ⟨x2, g2, e2, a2, a2', q2, f2, l2⟩ := l1Byte_v d hb q1
    obtain ⟨x3, g3, e3, a3, a3', q3, f3, l3⟩ := l1Byte_v d hb q2
    obtain ⟨x4, g4, e4, a4, a4', q4, f4, l4⟩ := l1Byte_v d hb q3
    refine ⟨(x1 * 16777216 + x2 * 65536 + x3 * 256 + x4) % n, g4, ?_, Int.emod_nonneg _ (by omega), Int.emod_lt_of_pos _ n0, q4, ((f1.trans f2).trans f3).trans f4, by omega⟩
    rw [vrun_v Try.func62 rfl rfl rfl]; simp only [Try.f62]
    simp (implicitDefEqProofs := false) (disch := omega) [go_sem, tab62, e1, e2, e3, e4]
theorem l1Once_v (d : Nat) (hb : Cod b) (hc : Cu b i h) {n : Int} (n0 : 0 < n) (n1 : n ≤ 4294967296) : ∃ (x : Bool) (g : VH), vrun Try.prog kn (d + 3) 37 [.ptr i 0, .int .i64 n] h = some (.bool x, g) ∧ Cu b i g ∧ Frm i h g ∧ g.length = h.length := by
  obtain ⟨x1, g1, e1, a1, a1', q1, f1, l1⟩ := l1Below_v d hb hc n0 n1
  refine ⟨decide (x1 = 0), g1, ?_, q1, f1, l1⟩
  rw [vrun_v Try.func37 rfl rfl rfl]; simp only [Try.f37]
  simp (implicitDefEqProofs := false) (disch := omega) [go_sem, tab37, e1]
theorem l1Pick_v (d : Nat) (hb : Cod b) (hc : Cu b i h) {L : List Int} {k n : Nat} {w : Bool} (hk : h[k]? = some (.ints w .i64 L)) (hn : n = L.length) (n0 : 0 < L.length) (n1 : L.length ≤ 4294967296) : ∃ (x : Int) (g : VH), vrun Try.prog kn (d + 3) 35 [.ptr i 0, .sl k 0 n 1] h = some (.int .i64 x, g) ∧ x ∈ L ∧ Cu b i g ∧ Frm i h g ∧ g.length = h.length := by
  subst hn
  have hki : k ≠ i := fun e => by obtain ⟨c, s, h1, _⟩ := hc; rw [e, h1] at hk; cases hk
  obtain ⟨x1, g1, e1, a1, a1', q1, f1, l1⟩ := l1Below_v d hb hc (n := (L.length : Int)) (by omega) (by omega)
  have hgk := f1.at hk hki
  have hlt : x1.toNat < L.length := by omega
  refine ⟨gt L x1.toNat, g1, ?_, gt_mem hlt, q1, f1, l1⟩
  rw [vrun_v Try.func35 rfl rfl rfl]; simp only [Try.f35]
  simp (implicitDefEqProofs := false) (disch := omega) [go_sem, tab35, e1, hgk]
end
end
/- Drawing natural numbers. No conditions. -/
section
open Num
section
variable {h : VH} {b : List Int} {i : Nat}
theorem last_at (g : VH) (o : VO) : (g ++ [o])[g.length]? = some o := by simp
theorem l2drawLen_v (d : Nat) (hb : Cod b) (hc : Cu b i h) : ∃ (n : Nat) (g : VH), vrun Try.prog kn (d + 4) 110 [.ptr i 0] h = some (.int .i64 (n : Int), g) ∧ n ≤ 100 ∧ Cu b i g ∧ Frm i h g := by
  obtain ⟨x1, g1, e1, q1, f1, l1⟩ := l1Once_v (d + 0) hb hc (n := 12) (by omega) (by omega)
  cases x1
  · obtain ⟨x2, g2, e2, a2, a2', q2, f2, l2⟩ := l1Below_v (d + 1) hb q1 (n := 6) (by omega) (by omega)
    refine ⟨x2.toNat, g2, ?_, by omega, q2, f1.trans f2⟩
    rw [show ((x2.toNat : Nat) : Int) = x2 by omega]
    rw [vrun_v Try.func110 rfl rfl rfl]; simp only [Try.f110]
    simp (implicitDefEqProofs := false) (disch := omega) [go_sem, tab110, e1, e2]
  · obtain ⟨x2, g2, e2, a2, q2, f2, l2⟩ := l1Pick_v (d + 0) hb (q1.app [.ints true .i64 [100, 99, 50, 20]]) (L := [100, 99, 50, 20]) (last_at _ _) (n := 4) rfl (by simp) (by simp)
    have hx : x2 = 100 ∨ x2 = 99 ∨ x2 = 50 ∨ x2 = 20 := by simpa using a2
    refine ⟨x2.toNat, g2, ?_, by omega, q2, (f1.trans (Frm.app _ _ _)).trans f2⟩
    rw [show ((x2.toNat : Nat) : Int) = x2 by omega]
    rw [vrun_v Try.func110 rfl rfl rfl]; simp only [Try.f110]
    simp (implicitDefEqProofs := false) (disch := omega) [go_sem, tab110, e1, e2]
/-- The list so far. -/
def drI (b : List Int) (i n : Nat) (h : VH) (j : Nat) (s : VE × VH) : Prop := ∃ (k : Nat) (l : List Int) (g : VH), s = ([(0, some (.ptr i 0)), (2, some (.ptr h.length 0)), (3, some (.sl k 0 j 1)), (4, some (.int .i64 (n : Int))), (5, some (.int .i64 j))], g) ∧ Cu b i g ∧ g[k]? = some (.ints true .i64 l) ∧ l.length = j ∧ GoodL l ∧ h.length < k ∧ Frm i h g ∧ g[h.length]? = some (.vals true [.nil])
theorem app_fr {g1 : VH} {k : Nat} {o : VO} {m : VH} (hf : Frm i h g1) (hk : h.length ≤ k) : Frm i h (g1.set k o ++ m) := by
  refine ⟨by have := hf.1; simp; omega, fun q hq hi => ?_⟩
  rw [List.getElem?_append_left (by have := hf.1; simp; omega), List.getElem?_set_ne (by omega)]
  exact hf.2 q hq hi
theorem mod_ne {g : VH} {k q : Nat} (h : k ≠ q) : (g.modify k VO.ro)[q]? = g[q]? := by
  rw [List.getElem?_modify]
  simp [h]
theorem set_fr {g1 : VH} {k : Nat} {o : VO} (hf : Frm i h g1) (hk : h.length ≤ k) : Frm i h (g1.set k o) := by
  have := app_fr (g1 := g1) (o := o) (m := []) hf hk
  rwa [List.append_nil] at this
theorem mod_fr {g1 : VH} {k : Nat} (hf : Frm i h g1) (hk : h.length ≤ k) : Frm i h (g1.modify k VO.ro) := by
  refine ⟨by have := hf.1; simp; omega, fun q hq hi => ?_⟩
  rw [mod_ne (by omega)]
  exact hf.2 q hq hi
theorem Cu.modne {g1 : VH} {k : Nat} (a : Cu b i g1) (hk : k ≠ i) : Cu b i (g1.modify k VO.ro) := by
  obtain ⟨c, s, h1, h2⟩ := a
  exact ⟨c, s, by rw [mod_ne hk]; exact h1, h2⟩
theorem l2draw_v (d : Nat) (hb : Cod b) (hc : Cu b i h) : ∃ (v k : Nat) (g : VH), vrun Try.prog kn (d + 5) 68 [.ptr i 0] h = some (.agg [.sl k 0 (D v).length 1], g) ∧ (D v).length ≤ 100 ∧ Cu b i g ∧ Frm i h g ∧ h.length < k ∧ g[k]? = some (.ints true .i64 (D v)) := by
  obtain ⟨n, g0, e0, hn, q0, f0⟩ := l2drawLen_v (d + 0) hb (hc.app [.vals true [.nil], .ints true .i64 []])
  have hi := hc.lt
  have hg0a : g0[h.length]? = some (.vals true [.nil]) := f0.at (by simp) (by omega)
  have hg0b : g0[h.length + 1]? = some (.ints true .i64 []) := f0.at (by rw [List.getElem?_append_right (by omega)]; simp) (by omega)
  have key := vi_inv (n := kn.cf.rounds) (body := vCode Try.prog kn (vrun Try.prog kn (d + 1 + 3)) 68 (loopAt Try.f68 0)) (drI b i n h)
    (fun r => ∃ (k : Nat) (l : List Int) (g : VH), r = some (.exit 0, [(0, some (.ptr i 0)), (2, some (.ptr h.length 0)), (3, some (.sl k 0 n 1)), (4, some (.int .i64 (n : Int))), (5, some (.int .i64 n)), (10, some (.bool false))], g) ∧ Cu b i g ∧ g[k]? = some (.ints true .i64 l) ∧ l.length = n ∧ GoodL l ∧ h.length < k ∧ Frm i h g ∧ g[h.length]? = some (.vals true [.nil])) n (by rw [k_cf, c_rounds]; omega)
    (fun j s hj hI => by
      obtain ⟨k, l, g, rfl, c1, hk, hl, hgl, hkh, hf, hp⟩ := hI
      left
      obtain ⟨x, g1, e1, x0, x1, c2, f2, len2⟩ := l1Below_v (d + 2) hb c1 (n := 4) (by omega) (by omega)
      have hk1 := f2.at hk (by omega)
      have hp1 := f2.at hp (by omega)
      have hkl := (List.getElem?_eq_some_iff.1 hk1).1
      have hk2 : ∀ a : VH, (g1 ++ a)[k]? = some (.ints true .i64 l) := fun a => by rw [List.getElem?_append_left hkl]; exact hk1
      have hset : ∀ (a : VH) (o : VO), (g1 ++ a).set k o = g1.set k o ++ a := fun a o => List.set_append_left _ _ hkl
      have hat : ∀ (o a : VO), (g1.set k o ++ [a])[g1.length]? = some a := fun o a => by rw [List.getElem?_append_right (by simp)]; simp
      have hend : ∀ (o a c : VO), (g1.set k o ++ [a, c])[g1.length + 1]? = some c := fun o a c => by rw [List.getElem?_append_right (by simp)]; simp
      have htk : l.take j = l := List.take_of_length_le (by omega)
      have fin : ∀ y : Int, 0 ≤ y → y < 65536 → drI b i n h (j + 1) ([(0, some (.ptr i 0)), (2, some (.ptr h.length 0)), (3, some (.sl (g1.length + 1) 0 (j + 1) 1)), (4, some (.int .i64 (n : Int))), (5, some (.int .i64 ((j : Int) + 1)))], g1.set k .dead ++ [.ints true .i64 [y], .ints true .i64 (l ++ [y])]) := fun y y0 y1 =>
        ⟨g1.length + 1, l ++ [y], g1.set k .dead ++ [.ints true .i64 [y], .ints true .i64 (l ++ [y])], by simp, (c2.setne (by omega) _).app _, hend _ _ _, by simp; omega, hgl.snoc y0 y1, by omega, app_fr (hf.trans f2) (by omega), by
          rw [List.getElem?_append_left (by simp; omega), List.getElem?_set_ne (by omega)]; exact hp1⟩
      by_cases z0 : x = 0
      · refine ⟨_, ?_, fin 65535 (by omega) (by omega)⟩
        subst z0
        clear hkl fin
        rw [round_v]; simp only [loopAt, nthC, bodyC, loops, List.nil_append, List.cons_append, List.append_nil, Try.f68]
        simp (implicitDefEqProofs := false) (disch := omega) [go_sem, tab68, nil68, e1, hk2, hset, hat, last_at, htk, hl]
      · by_cases z1 : x = 1
        · refine ⟨_, ?_, fin 0 (by omega) (by omega)⟩
          subst z1
          clear hkl fin
          rw [round_v]; simp only [loopAt, nthC, bodyC, loops, List.nil_append, List.cons_append, List.append_nil, Try.f68]
          simp (implicitDefEqProofs := false) (disch := omega) [go_sem, tab68, nil68, e1, hk2, hset, hat, last_at, htk, hl]
        · obtain ⟨y, g3, e3, y0, y1, c3, f3, len3⟩ := l1Below_v (d + 2) hb c2 (n := 65536) (by omega) (by omega)
          have hk3 := f3.at hk1 (by omega)
          have hp3 := f3.at hp1 (by omega)
          have hkl3 := (List.getElem?_eq_some_iff.1 hk3).1
          have hk2 : ∀ a : VH, (g3 ++ a)[k]? = some (.ints true .i64 l) := fun a => by rw [List.getElem?_append_left hkl3]; exact hk3
          have hset : ∀ (a : VH) (o : VO), (g3 ++ a).set k o = g3.set k o ++ a := fun a o => List.set_append_left _ _ hkl3
          have hat : ∀ (o a : VO), (g3.set k o ++ [a])[g3.length]? = some a := fun o a => by rw [List.getElem?_append_right (by simp)]; simp
          have hend : ∀ (o a c : VO), (g3.set k o ++ [a, c])[g3.length + 1]? = some c := fun o a c => by rw [List.getElem?_append_right (by simp)]; simp
          refine ⟨([(0, some (.ptr i 0)), (2, some (.ptr h.length 0)), (3, some (.sl (g3.length + 1) 0 (j + 1) 1)), (4, some (.int .i64 (n : Int))), (5, some (.int .i64 ((j : Int) + 1)))], g3.set k .dead ++ [.ints true .i64 [y], .ints true .i64 (l ++ [y])]), ?_, ⟨g3.length + 1, l ++ [y], g3.set k .dead ++ [.ints true .i64 [y], .ints true .i64 (l ++ [y])], by simp, (c3.setne (by omega) _).app _, hend _ _ _, by simp; omega, hgl.snoc y0 y1, by omega, app_fr ((hf.trans f2).trans f3) (by omega), by
            rw [List.getElem?_append_left (by simp; omega), List.getElem?_set_ne (by omega)]; exact hp3⟩⟩
          clear hkl fin hkl3
          rw [round_v]; simp only [loopAt, nthC, bodyC, loops, List.nil_append, List.cons_append, List.append_nil, Try.f68]
          simp (implicitDefEqProofs := false) (disch := omega) [go_sem, tab68, nil68, e1, e3, hk2, hset, hat, last_at, htk, hl, z0, z1])
    (fun s hI m => by
      obtain ⟨k, l, g, rfl, c1, hk, hl, hgl, hkh, hf, hp⟩ := hI
      refine ⟨k, l, g, vi_exit ?_, c1, hk, hl, hgl, hkh, hf, hp⟩
      rw [round_v]; simp only [loopAt, nthC, bodyC, loops, List.nil_append, List.cons_append, List.append_nil, Try.f68]
      simp (implicitDefEqProofs := false) (disch := omega) [go_sem, tab68, nil68])
    ([(0, some (.ptr i 0)), (2, some (.ptr h.length 0)), (3, some (.sl (h.length + 1) 0 0 1)), (4, some (.int .i64 (n : Int))), (5, some (.int .i64 0))], g0)
    ⟨h.length + 1, [], g0, rfl, q0, hg0b, rfl, GoodL.nil, by omega, (Frm.app _ _ _).trans f0, hg0a⟩
  obtain ⟨k, l, g, hv, c1, hk, hl, hgl, hkh, hf, hp⟩ := key
  have hl0 := fun ks => loop_v (P := Try.prog) (K := kn) (ks := ks) hv
  simp only [loopAt, nthC, bodyC, loops, List.nil_append, List.cons_append, List.append_nil, Try.f68] at hl0
  obtain ⟨x2, g2, e2, c2, f2, len2⟩ := l1Once_v (d + 1) hb c1 (n := 4) (by omega) (by omega)
  have hk2 := f2.at hk (by omega)
  have hp2 := f2.at hp (by omega)
  cases x2
  · have hval := val_nonneg hgl
    have hlt := val_lt hgl
    have hD : (D (val l).toNat).length ≤ 100 := by
      have h1 : (val l).toNat < 65536 ^ l.length := by
        have : ((val l).toNat : Int) < ((65536 ^ l.length : Nat) : Int) := by rw [pow_cast]; omega
        exact Int.ofNat_lt.1 this
      have := len_D_le.2 h1
      omega
    have e3 := fun d => l2norm_v d (l := l) (v := (val l).toNat) (by omega) hgl (by omega)
    have htk : l.take n = l := List.take_of_length_le (by omega)
    have hlt2 := (List.getElem?_eq_some_iff.1 hp2).1
    have hset2 : ∀ (a : VH) (X : VO), ((g2 ++ a).set h.length X) = g2.set h.length X ++ a := fun a X => List.set_append_left _ _ hlt2
    refine ⟨(val l).toNat, g2.length, g2.set h.length (.vals true [.sl g2.length 0 (D (val l).toNat).length 1]) ++ [.ints true .i64 (D (val l).toNat)], ?_, hD, (c2.setne (by omega) _).app _, (set_fr (hf.trans f2) (Nat.le_refl _)).trans (Frm.app _ _ _), hlt2, by rw [List.getElem?_append_right (by simp)]; simp⟩
    generalize D (val l).toNat = R at *
    have hx2 : ∀ X : VO, (g2.set h.length X)[h.length]? = some X := fun X => by simp [hlt2]
    have hx3 : ∀ (X : VO) (a : VH), (g2.set h.length X ++ a)[h.length]? = some X := fun X a => by rw [List.getElem?_append_left (by simpa using hlt2)]; exact hx2 X
    have hp3 : ∀ a : VH, (g2 ++ a)[h.length]? = some (.vals true [.nil]) := fun a => by rw [List.getElem?_append_left hlt2]; exact hp2
    clear hv hlt2
    rw [vrun_v Try.func68 rfl rfl rfl]; simp only [Try.f68]
    simp (implicitDefEqProofs := false) (disch := omega) [go_sem, tab68, nil68, e0, hl0, e2, e3, hk2, hp2, hp3, hset2, hx2, hx3, htk, hl]
  · obtain ⟨x3, g3, e3, a3, c3, f3, len3⟩ := l1Pick_v (d + 1) hb (c2.app [.ints true .i64 [0, 1, 2, 9, 10, 65535, 65536, 1099511627776, 4611686018427387903, 4611686018427387904]]) (L := [0, 1, 2, 9, 10, 65535, 65536, 1099511627776, 4611686018427387903, 4611686018427387904]) (last_at _ _) (n := 10) rfl (by simp) (by simp)
    have hx : 0 ≤ x3 ∧ x3 ≤ 4611686018427387904 := by
      simp only [List.mem_cons, List.not_mem_nil, or_false] at a3
      omega
    have hp3 := f3.at (q := h.length) (o := .vals true [.nil]) (by rw [List.getElem?_append_left (List.getElem?_eq_some_iff.1 hp2).1]; exact hp2) (by omega)
    have hlt3 := (List.getElem?_eq_some_iff.1 hp3).1
    have hset2 : ∀ (a : VH) (X : VO), ((g3 ++ a).set h.length X) = g3.set h.length X ++ a := fun a X => List.set_append_left _ _ hlt3
    have hx2 : ∀ X : VO, (g3.set h.length X)[h.length]? = some X := fun X => by simp [hlt3]
    have hx3 : ∀ (X : VO) (a : VH), (g3.set h.length X ++ a)[h.length]? = some X := fun X a => by rw [List.getElem?_append_left (by simpa using hlt3)]; exact hx2 X
    have hp4 : ∀ a : VH, (g3 ++ a)[h.length]? = some (.vals true [.nil]) := fun a => by rw [List.getElem?_append_left hlt3]; exact hp3
    have e4 := fun d => l2of_v (n := x3.toNat) d (by omega)
    rw [show ((x3.toNat : Nat) : Int) = x3 by omega] at e4
    have hD : (D x3.toNat).length ≤ 4 := len_small (by omega)
    refine ⟨x3.toNat, g3.length, g3.set h.length (.vals true [.sl g3.length 0 (D x3.toNat).length 1]) ++ [.ints true .i64 (D x3.toNat)], ?_, by omega, (c3.setne (by omega) _).app _, (set_fr (((hf.trans f2).trans (Frm.app _ _ _)).trans f3) (Nat.le_refl _)).trans (Frm.app _ _ _), hlt3, by rw [List.getElem?_append_right (by simp)]; simp⟩
    generalize D x3.toNat = R at *
    clear hv hlt3
    rw [vrun_v Try.func68 rfl rfl rfl]; simp only [Try.f68]
    simp (implicitDefEqProofs := false) (disch := omega) [go_sem, tab68, nil68, e0, hl0, e2, e3, e4, hk2, hp2, hp3, hp4, hset2, hx2, hx3]
end
end
/- Runes: the bits of bytes; one rune, program. No conditions. -/
section
open Num
def and8 (k : IntKind) (m : Int) (n : Nat) : Int := k.wrap (((BitVec.ofInt k.bits (n : Int) &&& BitVec.ofInt k.bits m).toNat : Nat) : Int)
theorem and8_31 : ((List.range 256).all fun n => decide (and8 .i64 31 n = (n : Int) % 32)) = true := by decide +kernel
theorem and8_15 : ((List.range 256).all fun n => decide (and8 .i64 15 n = (n : Int) % 16)) = true := by decide +kernel
theorem and8_7 : ((List.range 256).all fun n => decide (and8 .i64 7 n = (n : Int) % 8)) = true := by decide +kernel
theorem and8_63 : ((List.range 256).all fun n => decide (and8 .i64 63 n = (n : Int) % 64)) = true := by decide +kernel
theorem and8_u63 : ((List.range 256).all fun n => decide (and8 .u8 63 n = (n : Int) % 64)) = true := by decide +kernel
theorem and8_at {k : IntKind} {m w : Int} (h : ((List.range 256).all fun n => decide (and8 k m n = (n : Int) % w)) = true) (P : Program) (t : TypeId) {a : Int} (h0 : 0 ≤ a) (h1 : a < 256) : binE P .and t (.int k a) (.int k m) = some (.int k (a % w)) := by
  rw [b_and]
  have h2 := of_decide_eq_true (List.all_eq_true.1 h a.toNat (List.mem_range.2 (by omega)))
  unfold and8 at h2
  rw [show ((a.toNat : Nat) : Int) = a by omega] at h2
  exact congrArg (fun q => some (CV.int k q)) h2
/-- High bits and low bits put together. -/
theorem b_orp (P : Program) (t : TypeId) {a b : Int} {i : Nat} (h0 : 0 ≤ a) (h1 : a < 4294967296) (hb0 : 0 ≤ b) (hb1 : b < 2 ^ i) (hi : (2 : Int) ^ i ∣ a) (hs : b < 4294967296) : binE P .or t (.int .i64 a) (.int .i64 b) = some (.int .i64 (a + b)) := by
  rw [b_or]
  have e : (BitVec.ofInt 64 a ||| BitVec.ofInt 64 b).toNat = (a + b).toNat := by
    obtain ⟨A, rfl⟩ := Int.eq_ofNat_of_zero_le h0
    obtain ⟨b, rfl⟩ := Int.eq_ofNat_of_zero_le hb0
    have hp : ((2 : Int) ^ i) = ((2 ^ i : Nat) : Int) := by rw [Int.natCast_pow]; rfl
    rw [hp] at hb1 hi
    have hb2 : b < 2 ^ i := Int.ofNat_lt.1 hb1
    obtain ⟨q, hq⟩ := Int.natCast_dvd_natCast.1 hi
    have h3 := Nat.two_pow_add_eq_or_of_lt hb2 q
    rw [← hq] at h3
    rw [BitVec.toNat_or, BitVec.toNat_ofInt, BitVec.toNat_ofInt, show ((A : Int) % ((2 ^ 64 : Nat) : Int)).toNat = A by omega, show ((b : Int) % ((2 ^ 64 : Nat) : Int)).toNat = b by omega, ← h3]
    omega
  have h2 : IntKind.wrap .i64 (((BitVec.ofInt 64 a ||| BitVec.ofInt 64 b).toNat : Nat) : Int) = a + b := by
    rw [e, w64 (by omega) (by omega)]; omega
  exact congrArg (fun q => some (CV.int .i64 q)) h2
def isPt (r : Int) : Bool := decide (0 ≤ r) && decide (r ≤ 1114111) && !(decide (55296 ≤ r) && decide (r ≤ 57343))
def szOf (r : Int) : Int := if r < 128 then 1 else if r < 2048 then 2 else if r < 65536 then 3 else 4
def ldN (c : Int) : Int := if 192 ≤ c ∧ c ≤ 223 then 2 else if 224 ≤ c ∧ c ≤ 239 then 3 else if 240 ≤ c ∧ c ≤ 247 then 4 else 0
def ldR (c : Int) : Int := if 192 ≤ c ∧ c ≤ 223 then c % 32 else if 224 ≤ c ∧ c ≤ 239 then c % 16 else if 240 ≤ c ∧ c ≤ 247 then c % 8 else 0
theorem isPoint_v (d : Nat) (r : Int) : vrun Try.prog kn (d + 2) 106 [.int .i64 r] [] = some (.bool (isPt r), []) := by
  have h1 := fun d => within_v d r 0 1114111
  have h2 := fun d => within_v d r 55296 57343
  unfold isPt
  cases hc : (decide (0 ≤ r) && decide (r ≤ 1114111)) <;> rw [hc] at h1
  · rw [vrun_v Try.func106 rfl rfl rfl]; simp only [Try.f106]
    simp (disch := omega) [go_sem, tab106, h1]
  · cases hd : (decide (55296 ≤ r) && decide (r ≤ 57343)) <;> rw [hd] at h2
    all_goals
      rw [vrun_v Try.func106 rfl rfl rfl]; simp only [Try.f106]
      simp (disch := omega) [go_sem, tab106, h1, h2]
theorem sizeOf_v (d : Nat) (r : Int) : vrun Try.prog kn (d + 1) 107 [.int .i64 r] [] = some (.int .i64 (szOf r), []) := by
  unfold szOf
  by_cases h1 : r < 128
  · rw [vrun_v Try.func107 rfl rfl rfl]; simp only [Try.f107]
    simp (disch := omega) [go_sem, tab107, h1]
  · by_cases h2 : r < 2048
    · rw [vrun_v Try.func107 rfl rfl rfl]; simp only [Try.f107]
      simp (disch := omega) [go_sem, tab107, h1, h2]
    · by_cases h3 : r < 65536
      · rw [vrun_v Try.func107 rfl rfl rfl]; simp only [Try.f107]
        simp (disch := omega) [go_sem, tab107, h1, h2, h3]
      · rw [vrun_v Try.func107 rfl rfl rfl]; simp only [Try.f107]
        simp (disch := omega) [go_sem, tab107, h1, h2, h3]
theorem leadSize_v (d : Nat) {c : Int} (h0 : 0 ≤ c) (h1 : c < 256) : vrun Try.prog kn (d + 2) 115 [.int .i64 c] [] = some (.tup [.int .i64 (ldN c), .int .i64 (ldR c)], []) := by
  have a1 := fun d => within_v d c 192 223
  have a2 := fun d => within_v d c 224 239
  have a3 := fun d => within_v d c 240 247
  have m1 := fun P t => and8_at and8_31 P t h0 h1
  have m2 := fun P t => and8_at and8_15 P t h0 h1
  have m3 := fun P t => and8_at and8_7 P t h0 h1
  unfold ldN ldR
  by_cases c1 : 192 ≤ c ∧ c ≤ 223
  · have e : (decide (192 ≤ c) && decide (c ≤ 223)) = true := by simp [c1]
    rw [e] at a1
    simp only [c1, and_self, if_true]
    rw [vrun_v Try.func115 rfl rfl rfl]; simp only [Try.f115]
    simp (disch := omega) [go_sem, tab115, a1, m1]
  · have e : (decide (192 ≤ c) && decide (c ≤ 223)) = false := by simpa using c1
    rw [e] at a1
    simp only [c1, if_false]
    by_cases c2 : 224 ≤ c ∧ c ≤ 239
    · have e : (decide (224 ≤ c) && decide (c ≤ 239)) = true := by simp [c2]
      rw [e] at a2
      simp only [c2, and_self, if_true]
      rw [vrun_v Try.func115 rfl rfl rfl]; simp only [Try.f115]
      simp (disch := omega) [go_sem, tab115, a1, a2, m2]
    · have e : (decide (224 ≤ c) && decide (c ≤ 239)) = false := by simpa using c2
      rw [e] at a2
      simp only [c2, if_false]
      by_cases c3 : 240 ≤ c ∧ c ≤ 247
      · have e : (decide (240 ≤ c) && decide (c ≤ 247)) = true := by simp [c3]
        rw [e] at a3
        simp only [c3, and_self, if_true]
        rw [vrun_v Try.func115 rfl rfl rfl]; simp only [Try.f115]
        simp (disch := omega) [go_sem, tab115, a1, a2, a3, m3]
      · have e : (decide (240 ≤ c) && decide (c ≤ 247)) = false := by simpa using c3
        rw [e] at a3
        simp only [c3, if_false]
        rw [vrun_v Try.func115 rfl rfl rfl]; simp only [Try.f115]
        simp (disch := omega) [go_sem, tab115, a1, a2, a3]
end
end Go.Eng
