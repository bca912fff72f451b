/- What the functions of this seat do, one after another, told by plain values. No conditions. -/
import Derived.Test.YtafnipadjafcpaaDoorSeat
import Derived.Test.YtafnipadjafcpaaDoorVb
set_option linter.unusedVariables false
set_option linter.unusedSimpArgs false
namespace Go.Eng
open Go.Proofs
set_option maxRecDepth 100000
set_option linter.unusedSimpArgs false
attribute [local go_sem] r_seq r_skip r_retC r_exitC r_label r_block r_region r_regionW r_xWt r_xW r_cond r_Bt r_Bf r_Ncode r_Nret r_Nexit r_Nblk r_Nblkr r_Nblke r_Nnil r_Es r_Onil r_Oop r_Oif r_Xs r_Gt r_Gf r_wtt r_wtf r_wft r_wff r_wu r_gO r_putS r_putN r_get r_keepN r_keepC r_fr r_fn r_fi r_ff r_fo r_l1 r_l2t r_cun r_cul r_cub r_cui r_cus r_cuis r_cuc r_cusl r_cuti r_cutv r_ven r_vec r_l2f r_l3 r_t1 r_t2 r_t0 r_rt r_rc r_en r_ec r_cM r_oN r_oC r_end r_endt r_endf r_nob0 r_nobN r_nobC r_nobE r_nb0 r_nbi r_nbs r_nbsl r_nbin r_nbce r_nLn r_nLv r_nLc r_nAa r_nAn r_nAk_b r_nAk_i r_nAk_s r_nAk_n r_nAk_is r_nAk_ce r_nAk_fp r_nAk_sl r_nAk_pt r_nAk_fn r_nsn r_nsv r_nsc r_m0 r_mi r_ms r_msl r_min r_mce r_mLn r_mLv r_mLc r_mAa r_mAn r_mAk_b r_mAk_i r_mAk_s r_mAk_n r_mAk_is r_mAk_ce r_mAk_fp r_mAk_sl r_mAk_pt r_mAk_fn r_msn r_msv r_msc r_atb r_ati r_ats r_atn r_atis r_atc r_atf r_atl r_atp r_atfn r_gcn r_gcc r_gLn r_gLc r_gIt r_ndn r_ndc r_gcB r_gLB r_two r_rea r_rea0 r_re1n r_re1c r_ori r_orv r_ord r_orn r_adn r_adc r_ad1 r_ern r_ers r_er0 r_rsl r_rptr r_rb r_ri r_rs r_rn r_ris r_rce r_rfp r_ra4 r_ra3 r_rt4 r_rf4 r_rf3 r_idS r_idc r_nS r_nP r_nF r_nT r_vsl r_vptr r_vb r_vi r_vs r_vn r_vis r_vce r_vfp r_va4 r_va3 r_vt4 r_vf4 r_vf3 r_rV r_Oi r_Ov r_Od r_rE r_rE0 r_En r_Ec r_E0 r_pO r_pk r_agL r_cO r_fO r_fSi r_fSv r_fPv r_fsl r_fptr r_ffn r_fag r_fb r_fint r_fstr r_fnil r_fis r_fce r_ffp r_res r_move r_assign r_pick r_pickt r_pickf r_alloc r_box r_al r_build r_bslice r_load r_store r_nlc r_nl1 r_nl2 r_bin r_un r_conv r_mkf r_mks r_slc r_fad r_fld r_iad r_idx r_ext r_ex1 r_callf r_callt r_callen r_calapp r_calmax r_calmin r_vt r_vcb r_vci r_vcs r_vcnp r_vcn r_vca r_vcf r_vcg r_ofb r_ofi r_ofs r_ofn r_evs r_pn r_prt r_pc r_one_a r_one_b r_one_i r_one_s r_one_n r_one_is r_one_ce r_one_fp r_one_sl r_one_pt r_one_fn r_cs_a r_cs_b r_cs_i r_cs_s r_cs_n r_cs_is r_cs_ce r_cs_fp r_cs_sl r_cs_pt r_cs_fn r_tov r_tovA r_toc r_toa r_tb r_ti r_ts r_tn r_bd r_bd2 r_filn r_fp1 r_filc r_fsn r_fsc r_san r_sac r_bs2 r_bs1 r_newO r_mkq r_mkI r_mkOi r_mkOv r_tIn r_tIc r_repz r_repn r_ldp r_ldf r_l1t r_l1f r_lFt r_lFf r_aggO r_obj r_at r_ati' r_atv r_celli r_cellv r_subi r_subv r_sto r_sto1 r_sto2 r_sets r_setR r_setn r_setc r_s1i r_s1v r_bin1 r_bin2 r_tv1 r_cb r_ci r_cst r_cn r_csl r_cis r_cce r_uni r_unb r_cv r_cvO r_cvN r_cv0 r_cvS r_wB r_cvi r_cvs r_cvb r_cvl r_sO r_rdn r_rdi r_rdl r_rdO r_vsub r_vfn r_mk r_mk1 r_mk2 r_zoi r_zov r_leni r_lenv r_bn r_bndV r_bo r_sl0 r_sl1 r_vsz r_ct1 r_cts r_cti r_ctc r_ctn r_lnl r_lni r_lnc r_lnn r_fa r_fap r_faf r_fi1 r_fit r_fif r_ixi r_ixs r_ixc r_ixf r_ixF r_ixF2 r_ix1 r_ixsl r_ixin r_ixce r_len1 r_lenA r_lTs r_lTn r_lTl r_lTi r_lTc r_app0 r_app r_app1 r_app2 r_app3 r_catO r_cati r_catv r_newt r_newf r_pair r_pairK r_trip r_kis r_kiv r_srn r_srl r_sri r_src r_srs r_oln r_oll r_vw r_wi r_wv r_mm r_max r_min' r_str r_cF r_c2t r_c3f r_c3t r_ab r_c2f r_cV r_p1 r_la r_la2t r_la2f r_la3 r_sh r_z_is r_z_ce r_z_fp r_z_b r_z_i r_z_s r_z_n r_z_l r_z_p r_z_a4 r_z_a3 r_z_t4 r_zoI r_zoV r_roN r_roC r_roi r_rod r_zod r_rov r_aR r_trOi r_trOv r_trPv r_trl r_trp r_trf r_tra r_trb r_tri r_trs r_trn r_tris r_trce r_trfp r_vJ r_vJs r_vJn
attribute [local go_sem] b_add b_sub b_mul b_quo b_rem b_shl b_shr b_eql b_neq b_lss b_leq b_gtr b_geq eqB_s b_eqB b_neB u_neg u_not b_nn b_nn' eqS_s zerosT_s zerosT_n zt_i zt_sl zt_st dstOf_z dstOf_n iltT iltF ileT ileF ieqT ieqF nltT nltF nleT nleF neqT neqF tdiv_pos tmod_pos w64 idx0 List.take_of_length_le
/- Numbers: cmp.Compare, within, trim, small, plus. No conditions. -/
section
open Num
theorem within_v (d : Nat) (n a b : Int) : vrun Tryd.prog kn (d + 1) 25 [.int .i64 n, .int .i64 a, .int .i64 b] [] = some (.bool (decide (a ≤ n) && decide (n ≤ b)), []) := by
  rw [vrun_v Tryd.func25 rfl rfl rfl]; simp only [Tryd.f25]
  by_cases h : a ≤ n
  · simp (disch := omega) [go_sem, tab25, h]
  · simp (disch := omega) [go_sem, tab25, h]
theorem isNaN_v (d : Nat) (x : Int) : vrun Tryd.prog kn (d + 1) 58 [.int .i64 x] [] = some (.bool false, []) := by
  rw [vrun_v Tryd.func58 rfl rfl rfl]; simp only [Tryd.f58]
  simp (disch := omega) [go_sem, tab58]
def cmp2 (x y : Int) : Int := if x < y then -1 else if y < x then 1 else 0
theorem Compare_v (d : Nat) (x y : Int) : vrun Tryd.prog kn (d + 2) 54 [.int .i64 x, .int .i64 y] [] = some (.int .i64 (cmp2 x y), []) := by
  rw [vrun_v Tryd.func54 rfl rfl rfl]; simp only [Tryd.f54]
  by_cases h1 : x < y
  · simp (disch := omega) [go_sem, tab54, isNaN_v, cmp2]
  · by_cases h2 : y < x
    · simp (disch := omega) [go_sem, tab54, isNaN_v, cmp2]
    · simp (disch := omega) [go_sem, tab54, isNaN_v, cmp2]
section
variable {h : VH} {l : List Int} {i : Nat} {w : Bool}
theorem trim_r0 (call : CallV) : vCode Tryd.prog kn call 38 (loopAt Tryd.f38 0) [(0, some (.sl i 0 0 1))] h = some (.exit 0, [(0, some (.sl i 0 0 1)), (14, some (.bool false))], h) := by
  rw [round_v]; simp only [loopAt, nthC, bodyC, loops, List.nil_append, List.cons_append, List.append_nil, Tryd.f38]
  simp (disch := omega) [go_sem, tab38, nil38]
theorem trim_r1 (call : CallV) (j : Nat) (hj : j < 4611686018427387904) (hi : h[i]? = some (.ints w .i64 l)) (hm : j + 1 ≤ l.length) (h0 : gt l j = 0) :
    vCode Tryd.prog kn call 38 (loopAt Tryd.f38 0) [(0, some (.sl i 0 (j + 1) 1))] h = some (.norm, [(0, some (.sl i 0 j 1))], h) := by
  rw [round_v]; simp only [loopAt, nthC, bodyC, loops, List.nil_append, List.cons_append, List.append_nil, Tryd.f38]
  simp (disch := omega) [go_sem, tab38, nil38, hi, h0]
theorem trim_r2 (call : CallV) (j : Nat) (hj : j < 4611686018427387904) (hi : h[i]? = some (.ints w .i64 l)) (hm : j + 1 ≤ l.length) (h0 : ¬ gt l j = 0) :
    vCode Tryd.prog kn call 38 (loopAt Tryd.f38 0) [(0, some (.sl i 0 (j + 1) 1))] h = some (.exit 0, [(0, some (.sl i 0 (j + 1) 1)), (14, some (.bool false))], h) := by
  rw [round_v]; simp only [loopAt, nthC, bodyC, loops, List.nil_append, List.cons_append, List.append_nil, Tryd.f38]
  simp (disch := omega) [go_sem, tab38, nil38, hi, h0]
theorem trim_l (call : CallV) (hi : h[i]? = some (.ints w .i64 l)) (hl : l.length < 4611686018427387904) : ∀ (j n : Nat), j ≤ l.length → j < n →
    viter (vCode Tryd.prog kn call 38 (loopAt Tryd.f38 0)) n [(0, some (.sl i 0 j 1))] h = some (.exit 0, [(0, some (.sl i 0 (tl l j) 1)), (14, some (.bool false))], h)
  | 0, n + 1, _, _ => vi_exit (trim_r0 call)
  | j + 1, n + 1, hj, hn => by
    by_cases h0 : gt l j = 0
    · rw [vi_norm (trim_r1 call j (by omega) hi hj h0), trim_l call hi hl j n (by omega) (by omega), tl, if_pos h0]
    · rw [vi_exit (trim_r2 call j (by omega) hi hj h0), tl, if_neg h0]
theorem trim_v (d : Nat) (hi : h[i]? = some (.ints w .i64 l)) (hl : l.length < 1000000000) (n : Nat) (hn : n = l.length) :
    vrun Tryd.prog kn (d + 1) 38 [.sl i 0 n 1] h = some (.sl i 0 (tl l l.length) 1, h) := by
  subst hn
  have hl0 := fun ks => loop_v (P := Tryd.prog) (K := kn) (ks := ks) (trim_l (vrun Tryd.prog kn d) hi (by omega) l.length kn.cf.rounds (Nat.le_refl _) (by rw [k_cf, c_rounds]; omega))
  simp only [loopAt, nthC, bodyC, loops, List.nil_append, List.cons_append, List.append_nil, Tryd.f38] at hl0
  rw [vrun_v Tryd.func38 rfl rfl rfl]; simp only [Tryd.f38]
  simp (disch := omega) [go_sem, tab38, nil38, hl0]
/-- As plus, minus, times and their like call it. -/
theorem trim0_v (d : Nat) {l : List Int} {n v : Nat} (hl : l.length < 1000000000) (hn : n = l.length) (hg : GoodL l) (hv : val l = v) :
    vrun Tryd.prog kn (d + 1) 38 [.sl 0 0 n 1] [.ints false .i64 l] = some (.sl 0 0 (D v).length 1, [.ints false .i64 l]) := by
  rw [trim_v d (h := [.ints false .i64 l]) (i := 0) (w := false) (l := l) rfl hl n hn, (tl_D hg hv).1]
theorem trim2_v (d : Nat) {l : List Int} {n v : Nat} (hl : l.length < 1000000000) (hn : n = l.length) (hg : GoodL l) (hv : val l = v) (a b : VO) :
    vrun Tryd.prog kn (d + 1) 38 [.sl 2 0 n 1] [a, b, .ints false .i64 l] = some (.sl 2 0 (D v).length 1, [a, b, .ints false .i64 l]) := by
  rw [trim_v d (h := [a, b, .ints false .i64 l]) (i := 2) (w := false) (l := l) rfl hl n hn, (tl_D hg hv).1]
end
end
/- Numbers: small, plus, minus. No conditions. -/
section
open Num
section
variable {x y : Nat}
def plusS (x y j : Nat) : VE × VH := ([(1, some (.ints .i64 (D y))), (5, some (.sl 0 0 j 1)), (6, some (.int .i64 (carry x y j))), (20, some (.ints .i64 (D x))), (21, some (.int .i64 (D x).length)), (22, some (.int .i64 j))], [.ints true .i64 (dgs (x + y) j)])
end
end
/- Numbers: small, minus, and the reference's l2of, l2norm. No conditions. -/
section
open Num
theorem dg_step {n j : Nat} : n / 65536 ^ j % 65536 = n / 65536 ^ j % 65536 ∧ n / 65536 ^ (j + 1) = n / 65536 ^ j / 65536 := ⟨rfl, by rw [Nat.pow_succ, Nat.div_div_eq_div_mul]⟩
theorem quo_step (n j : Nat) : ((n / 65536 ^ j : Nat) : Int) / 65536 = ((n / 65536 ^ (j + 1) : Nat) : Int) := by rw [dg_step.2]; omega
theorem rem_step (n j : Nat) : ((n / 65536 ^ j : Nat) : Int) % 65536 = dg n j := by unfold dg; omega
theorem quo_pos {n j : Nat} (h : j < (D n).length) : 0 < n / 65536 ^ j := Nat.div_pos (len_D_lt.1 h) (powN_pos j)
theorem quo_end (n : Nat) : n / 65536 ^ (D n).length = 0 := Nat.div_eq_of_lt (lt_len_D n)
theorem quo_le (n j : Nat) : n / 65536 ^ j ≤ n := Nat.div_le_self _ _
section
def smallS (n j : Nat) : VE × VH := ([(0, some (.int .i64 ((n / 65536 ^ j : Nat) : Int))), (3, some (.sl 0 0 j 1))], [.ints true .i64 (dgs n j)])
theorem small_r (call : CallV) {n : Nat} (hn : n < 9223372036854775808) (hl : (D n).length < 1000000) (j : Nat) (hj : j < (D n).length) :
    vCode Tryd.prog kn call 26 (loopAt Tryd.f26 0) (smallS n j).1 (smallS n j).2 = some (.norm, smallS n (j + 1)) := by
  have b1 := quo_pos hj
  have b2 := quo_le n j
  rw [round_v]; simp only [loopAt, nthC, bodyC, loops, List.nil_append, List.cons_append, List.append_nil, Tryd.f26, smallS, dgs_succ, ← rem_step, ← quo_step]
  generalize n / 65536 ^ j = q at *
  simp (disch := omega) [go_sem, tab26, nil26, dgs_len, dgs_take]
theorem small_x (call : CallV) {n : Nat} (hl : (D n).length < 1000000) :
    vCode Tryd.prog kn call 26 (loopAt Tryd.f26 0) (smallS n (D n).length).1 (smallS n (D n).length).2 = some (.exit 0, [(0, some (.int .i64 0)), (3, some (.sl 0 0 (D n).length 1)), (5, some (.bool false))], [.ints true .i64 (dgs n (D n).length)]) := by
  rw [round_v]; simp only [loopAt, nthC, bodyC, loops, List.nil_append, List.cons_append, List.append_nil, Tryd.f26, smallS, quo_end]
  simp (disch := omega) [go_sem, tab26, nil26, dgs_len]
theorem dgs_D (n : Nat) : dgs n (D n).length = D n := by
  have := (dgs_tl (lt_len_D n)).2.1
  rwa [dgs_take] at this
theorem small_v (d : Nat) {n : Nat} (hn : n < 9223372036854775808) : vrun Tryd.prog kn (d + 1) 26 [.int .i64 (n : Int)] [] = some (.sl 0 0 (D n).length 1, [.ints true .i64 (D n)]) := by
  have hl : (D n).length < 1000000 := by
    have : (D n).length ≤ 4 := len_D_le.2 (by omega)
    omega
  have hl0 := fun ks => loop_v (P := Tryd.prog) (K := kn) (ks := ks) (vi_for (smallS n) (D n).length (by rw [k_cf, c_rounds]; omega) (small_r (vrun Tryd.prog kn d) hn hl) fun m => vi_exit (small_x _ hl))
  simp only [loopAt, nthC, bodyC, loops, List.nil_append, List.cons_append, List.append_nil, Tryd.f26, smallS, dgs, Nat.pow_zero, Nat.div_one] at hl0
  rw [vrun_v Tryd.func26 rfl rfl rfl]; simp only [Tryd.f26]
  simp (disch := omega) [go_sem, tab26, nil26, hl0, dgs_D]
def minusS (x y j : Nat) : VE × VH := ([(1, some (.ints .i64 (D y))), (5, some (.sl 0 0 j 1)), (6, some (.int .i64 (borrow x y j))), (12, some (.ints .i64 (D x))), (13, some (.int .i64 (D x).length)), (14, some (.int .i64 j))], [.ints true .i64 (dgs (x - y) j)])
variable {x y : Nat}
end
section
def normS (l : List Int) (j : Nat) : VE × VH := ([(0, some (.ints .i64 l)), (2, some (.ptr 0 0)), (3, some (.int .i64 j))], [.vals true [.nil]])
variable {l : List Int}
theorem norm_r1 (call : CallV) (j : Nat) (hj : j < l.length) (hl : l.length < 1000000000) (h0 : gt l j = 0) :
    vCode Tryd.prog kn call 48 (loopAt Tryd.f48 0) (normS l (j + 1)).1 (normS l (j + 1)).2 = some (.norm, normS l j) := by
  rw [round_v]; simp only [loopAt, nthC, bodyC, loops, List.nil_append, List.cons_append, List.append_nil, Tryd.f48, normS]
  simp (disch := omega) [go_sem, tab48, h0]
theorem norm_x (call : CallV) (j : Nat) (hj : j ≤ l.length) (hl : l.length < 1000000000) (h0 : tl l j = j) :
    vCode Tryd.prog kn call 48 (loopAt Tryd.f48 0) (normS l j).1 (normS l j).2 = some (.exit 0, [(0, some (.ints .i64 l)), (2, some (.ptr 0 0)), (3, some (.int .i64 j)), (15, some (.bool false))], [.vals true [.nil]]) := by
  rw [round_v]; simp only [loopAt, nthC, bodyC, loops, List.nil_append, List.cons_append, List.append_nil, Tryd.f48, normS]
  cases j with
  | zero => simp (disch := omega) [go_sem, tab48]
  | succ j =>
    have h1 : ¬ gt l j = 0 := fun h1 => by
      rw [tl, if_pos h1] at h0
      have := tl_le l j; omega
    simp (disch := omega) [go_sem, tab48, h1]
theorem norm_l (call : CallV) (hl : l.length < 1000000000) : ∀ (j n : Nat), j ≤ l.length → j < n →
    viter (vCode Tryd.prog kn call 48 (loopAt Tryd.f48 0)) n (normS l j).1 (normS l j).2 = some (.exit 0, [(0, some (.ints .i64 l)), (2, some (.ptr 0 0)), (3, some (.int .i64 (tl l j))), (15, some (.bool false))], [.vals true [.nil]])
  | 0, n + 1, _, _ => vi_exit (norm_x call 0 (by omega) hl rfl)
  | j + 1, n + 1, hj, hn => by
    by_cases h0 : gt l j = 0
    · rw [vi_norm (norm_r1 call j (by omega) hl h0), tl, if_pos h0]
      exact norm_l call hl j n (by omega) (by omega)
    · have e : tl l (j + 1) = j + 1 := by rw [tl, if_neg h0]
      rw [vi_exit (norm_x call (j + 1) hj hl e), e]
theorem l2norm_v (d : Nat) (hl : l.length < 1000000000) (hg : GoodL l) {v : Nat} (hv : val l = v) : vrun Tryd.prog kn (d + 1) 48 [.ints .i64 l] [] = some (.agg [.sl 0 0 (D v).length 1], [.ints true .i64 (D v)]) := by
  have hl0 := fun ks => loop_v (P := Tryd.prog) (K := kn) (ks := ks) (norm_l (vrun Tryd.prog kn d) hl l.length kn.cf.rounds (Nat.le_refl _) (by rw [k_cf, c_rounds]; omega))
  simp only [loopAt, nthC, bodyC, loops, List.nil_append, List.cons_append, List.append_nil, Tryd.f48, normS] at hl0
  obtain ⟨e1, e2, e3⟩ := tl_D hg hv
  rw [e1] at hl0
  rw [vrun_v Tryd.func48 rfl rfl rfl]; simp only [Tryd.f48]
  simp (disch := omega) [go_sem, tab48, hl0, e2]
end
section
def ofS (n j : Nat) : VE × VH := ([(0, some (.int .i64 ((n / 65536 ^ j : Nat) : Int))), (2, some (.ptr 0 0)), (3, some (.sl 1 0 j 1))], [.vals true [.nil], .ints true .i64 (dgs n j)])
theorem of_r (call : CallV) {n : Nat} (hn : n < 9223372036854775808) (hl : (D n).length < 1000000) (j : Nat) (hj : j < (D n).length) :
    vCode Tryd.prog kn call 40 (loopAt Tryd.f40 0) (ofS n j).1 (ofS n j).2 = some (.norm, ofS n (j + 1)) := by
  have b1 := quo_pos hj
  have b2 := quo_le n j
  rw [round_v]; simp only [loopAt, nthC, bodyC, loops, List.nil_append, List.cons_append, List.append_nil, Tryd.f40, ofS, dgs_succ, ← rem_step, ← quo_step]
  generalize n / 65536 ^ j = q at *
  simp (disch := omega) [go_sem, tab40, nil40, dgs_len, dgs_take]
theorem of_x (call : CallV) {n : Nat} (hl : (D n).length < 1000000) :
    vCode Tryd.prog kn call 40 (loopAt Tryd.f40 0) (ofS n (D n).length).1 (ofS n (D n).length).2 = some (.exit 0, [(0, some (.int .i64 0)), (2, some (.ptr 0 0)), (3, some (.sl 1 0 (D n).length 1)), (5, some (.bool false))], [.vals true [.nil], .ints true .i64 (dgs n (D n).length)]) := by
  rw [round_v]; simp only [loopAt, nthC, bodyC, loops, List.nil_append, List.cons_append, List.append_nil, Tryd.f40, ofS, quo_end]
  simp (disch := omega) [go_sem, tab40, nil40, dgs_len]
theorem l2of_v (d : Nat) {n : Nat} (hn : n < 9223372036854775808) : vrun Tryd.prog kn (d + 1) 40 [.int .i64 (n : Int)] [] = some (.agg [.sl 0 0 (D n).length 1], [.ints true .i64 (D n)]) := by
  have hl : (D n).length < 1000000 := by
    have : (D n).length ≤ 4 := len_D_le.2 (by omega)
    omega
  have hl0 := fun ks => loop_v (P := Tryd.prog) (K := kn) (ks := ks) (vi_for (ofS n) (D n).length (by rw [k_cf, c_rounds]; omega) (of_r (vrun Tryd.prog kn d) hn hl) fun m => vi_exit (of_x _ hl))
  simp only [loopAt, nthC, bodyC, loops, List.nil_append, List.cons_append, List.append_nil, Tryd.f40, ofS, dgs, Nat.pow_zero, Nat.div_one] at hl0
  rw [vrun_v Tryd.func40 rfl rfl rfl]; simp only [Tryd.f40]
  simp (disch := omega) [go_sem, tab40, nil40, hl0, dgs_D]
end
end
/- Numbers: compare, times, and the reference's l2cmp, l2add, l2sub, l2mul. No conditions. -/
section
open Num
theorem cmp_step {x y i : Nat} (h : x / 65536 ^ (i + 1) = y / 65536 ^ (i + 1)) : (dg x i = dg y i → x / 65536 ^ i = y / 65536 ^ i) ∧ (dg x i < dg y i → x < y) ∧ (dg y i < dg x i → y < x) := by
  have e1 := div_pow_succ x i
  have e2 := div_pow_succ y i
  unfold dg
  refine ⟨fun h1 => by omega, fun h1 => lt_of_div (p := 65536 ^ i) (by omega), fun h1 => lt_of_div (p := 65536 ^ i) (by omega)⟩
theorem div_len {x n : Nat} (h : (D x).length ≤ n) : x / 65536 ^ n = 0 := Nat.div_eq_of_lt (len_D_le.1 h)
section
variable {x y : Nat}
/-- Lists of one length: up from the high end. -/
theorem comp_l {body : VE → VH → Option (AX × VE × VH)} {S : Int → VE × VH} {E : VE × VH} {R : Int → VE × VH}
    (hx : body (S (-1)).1 (S (-1)).2 = some (.exit 0, E)) (h1 : ∀ j : Nat, j < (D x).length → dg x j = dg y j → body (S j).1 (S j).2 = some (.norm, S ((j : Int) - 1)))
    (h2 : ∀ j : Nat, j < (D x).length → dg x j < dg y j → body (S j).1 (S j).2 = some (.ret, R (-1))) (h3 : ∀ j : Nat, j < (D x).length → dg y j < dg x j → body (S j).1 (S j).2 = some (.ret, R 1)) :
    ∀ (j n : Nat), j ≤ (D x).length → x / 65536 ^ j = y / 65536 ^ j → j < n →
    (viter body n (S ((j : Int) - 1)).1 (S ((j : Int) - 1)).2 = some (.exit 0, E) ∧ cmpI x y = 0) ∨ viter body n (S ((j : Int) - 1)).1 (S ((j : Int) - 1)).2 = some (.ret, R (cmpI x y))
  | 0, n + 1, _, he, _ => by
    refine .inl ⟨vi_exit hx, ?_⟩
    simp only [Nat.pow_zero, Nat.div_one] at he
    subst he; simp [cmpI]
  | j + 1, n + 1, hj, he, hn => by
    have e : (((j + 1 : Nat) : Int) - 1) = (j : Int) := by omega
    rw [e]
    obtain ⟨s1, s2, s3⟩ := cmp_step he
    rcases Int.lt_trichotomy (dg x j) (dg y j) with hd | hd | hd
    · right
      rw [vi_ret (h2 j (by omega) hd)]
      unfold cmpI; rw [if_pos (s2 hd)]
    · rw [vi_norm (h1 j (by omega) hd)]
      exact comp_l hx h1 h2 h3 j n (by omega) (s1 hd) (by omega)
    · right
      rw [vi_ret (h3 j (by omega) hd)]
      have := s3 hd
      unfold cmpI; rw [if_neg (by omega), if_neg (by omega)]
def compS (x y : Nat) (i : Int) : VE × VH := ([(0, some (.ints .i64 (D x))), (1, some (.ints .i64 (D y))), (5, some (.int .i64 i))], [])
theorem compare_v (d : Nat) (hx : (D x).length < 1000000) (hy : (D y).length < 1000000) :
    vrun Tryd.prog kn (d + 3) 41 [.ints .i64 (D x), .ints .i64 (D y)] [] = some (.int .i64 (cmpI x y), []) := by
  by_cases hlt : (D x).length = (D y).length
  · have hc := comp_l (x := x) (y := y) (body := vCode Tryd.prog kn (vrun Tryd.prog kn (d + 2)) 41 (loopAt Tryd.f41 0)) (S := compS x y) (E := ([(0, some (.ints .i64 (D x))), (1, some (.ints .i64 (D y))), (5, some (.int .i64 (-1))), (20, some (.bool false))], [])) (R := fun v => ([(4, some (.int .i64 v))], []))
      (by rw [round_v]; simp only [loopAt, nthC, bodyC, loops, List.nil_append, List.cons_append, List.append_nil, Tryd.f41, compS]
          simp (disch := omega) [go_sem, tab41])
      (fun j hj he => by
          rw [round_v]; simp only [loopAt, nthC, bodyC, loops, List.nil_append, List.cons_append, List.append_nil, Tryd.f41, compS]
          simp (disch := omega) [go_sem, tab41, gt_D, he])
      (fun j hj he => by
          rw [round_v]; simp only [loopAt, nthC, bodyC, loops, List.nil_append, List.cons_append, List.append_nil, Tryd.f41, compS]
          simp (disch := omega) [go_sem, tab41, gt_D, Compare_v, cmp2])
      (fun j hj he => by
          rw [round_v]; simp only [loopAt, nthC, bodyC, loops, List.nil_append, List.cons_append, List.append_nil, Tryd.f41, compS]
          simp (disch := omega) [go_sem, tab41, gt_D, Compare_v, cmp2])
      (D x).length kn.cf.rounds (Nat.le_refl _) (by rw [div_len (Nat.le_refl _), hlt, div_len (Nat.le_refl _)]) (by rw [k_cf, c_rounds]; omega)
    rcases hc with ⟨hc, he⟩ | hc
    · have hl0 := fun ks => loop_v (P := Tryd.prog) (K := kn) (ks := ks) hc
      simp only [loopAt, nthC, bodyC, loops, List.nil_append, List.cons_append, List.append_nil, Tryd.f41, compS] at hl0
      rw [vrun_v Tryd.func41 rfl rfl rfl]; simp only [Tryd.f41]
      simp (disch := omega) [go_sem, tab41, hlt, he] at hl0 ⊢
      simp (disch := omega) [go_sem, tab41, hl0]
    · have hl0 := fun ks => loop_v (P := Tryd.prog) (K := kn) (ks := ks) hc
      simp only [loopAt, nthC, bodyC, loops, List.nil_append, List.cons_append, List.append_nil, Tryd.f41, compS] at hl0
      rw [vrun_v Tryd.func41 rfl rfl rfl]; simp only [Tryd.f41]
      simp (disch := omega) [go_sem, tab41, hlt] at hl0 ⊢
      simp (disch := omega) [go_sem, tab41, hl0]
  · have : cmp2 (D x).length (D y).length = cmpI x y := by
      unfold cmp2 cmpI
      by_cases h1 : (D x).length < (D y).length
      · rw [if_pos (by omega), if_pos (lt_of_len h1)]
      · have h2 := lt_of_len (x := y) (y := x) (by omega)
        rw [if_neg (by omega), if_pos (by omega), if_neg (by omega), if_neg (by omega)]
    rw [vrun_v Tryd.func41 rfl rfl rfl]; simp only [Tryd.f41]
    simp (disch := omega) [go_sem, tab41, Compare_v, this]
def cmpS (x y : Nat) (i : Int) : VE × VH := ([(2, some (.ptr 0 0)), (3, some (.ptr 1 0)), (5, some (.int .i64 i))], [.vals true [.ints .i64 (D x)], .vals true [.ints .i64 (D y)]])
end
end
/- Numbers: times, l2add, l2sub, l2mul. No conditions. -/
section
open Num
section
variable {x y : Nat}
theorem add_go {x y j : Nat} (h : j < (D (x + y)).length) : j < (D x).length ∨ (¬ j < (D x).length ∧ j < (D y).length) ∨ (¬ j < (D x).length ∧ ¬ j < (D y).length ∧ 0 < carry x y j) := by
  by_cases h1 : j < (D x).length
  · exact .inl h1
  · by_cases h2 : j < (D y).length
    · exact .inr (.inl ⟨h1, h2⟩)
    · refine .inr (.inr ⟨h1, h2, ?_⟩)
      have hx : x < 65536 ^ j := len_D_le.1 (by omega)
      have hy : y < 65536 ^ j := len_D_le.1 (by omega)
      have hp : 65536 ^ j ≤ x + y := len_D_lt.1 h
      unfold carry
      rw [Nat.mod_eq_of_lt hx, Nat.mod_eq_of_lt hy]
      have := Nat.div_pos hp (powN_pos j)
      omega
theorem add_end (x y : Nat) : (D x).length ≤ (D (x + y)).length ∧ (D y).length ≤ (D (x + y)).length ∧ carry x y (D (x + y)).length = 0 := by
  refine ⟨len_mono (by omega), len_mono (by omega), ?_⟩
  have h := lt_len_D (x + y)
  unfold carry
  rw [Nat.mod_eq_of_lt (by omega), Nat.mod_eq_of_lt (by omega), Nat.div_eq_of_lt h]; rfl
def addS (x y j : Nat) : VE × VH := ([(2, some (.ptr 0 0)), (3, some (.ptr 1 0)), (4, some (.ptr 2 0)), (5, some (.sl 3 0 j 1)), (6, some (.int .i64 (carry x y j))), (7, some (.int .i64 j))], [.vals true [.ints .i64 (D x)], .vals true [.ints .i64 (D y)], .vals true [.nil], .ints true .i64 (dgs (x + y) j)])
def subS (x y j : Nat) : VE × VH := ([(2, some (.ptr 0 0)), (3, some (.ptr 1 0)), (4, some (.ptr 2 0)), (5, some (.sl 3 0 j 1)), (6, some (.int .i64 (borrow x y j))), (7, some (.int .i64 j))], [.vals true [.ints .i64 (D x)], .vals true [.ints .i64 (D y)], .vals true [.nil], .ints true .i64 (dgs (x - y) j)])
end
section
variable {x y : Nat}
/-- A row of a product. -/
theorem mul_in {body : VE → VH → Option (AX × VE × VH)} {S : List Int → Int → Nat → VE × VH} {E : List Int → Int → VE × VH} {ex i N : Nat}
    (hs : ∀ (out : List Int) (c : Int) (j : Nat), j < (D y).length → out.length = N → 0 ≤ c → c < 65536 → 0 ≤ gt out (i + j) → gt out (i + j) < 65536 → 0 ≤ dg x i * dg y j → dg x i * dg y j ≤ 4294836225 →
      body (S out c j).1 (S out c j).2 = some (.norm, S (out.set (i + j) ((c + (gt out (i + j) + dg x i * dg y j)) % 65536)) ((c + (gt out (i + j) + dg x i * dg y j)) / 65536) (j + 1)))
    (hx : ∀ (out : List Int) (c : Int), out.length = N → body (S out c (D y).length).1 (S out c (D y).length).2 = some (.exit ex, E out c)) (hN : i + (D y).length < N) (v0 : Int) (d : Nat) :
    ∀ (j n : Nat) (out : List Int) (c : Int), j + d = (D y).length → d < n → GoodL out → out.length = N → 0 ≤ c → c < 65536 → out.getD (i + (D y).length) 0 = 0 →
      val out + 65536 ^ i * 65536 ^ j * c = v0 + 65536 ^ i * dg x i * lo y j →
    ∃ out' c', viter body n (S out c j).1 (S out c j).2 = some (.exit ex, E out' c') ∧ out'.length = N ∧ gt out' (i + (D y).length) = 0 ∧ 0 ≤ c' ∧ c' < 65536 ∧ GoodL (out'.set (i + (D y).length) c') ∧ val (out'.set (i + (D y).length) c') = v0 + 65536 ^ i * dg x i * y := by
  induction d with
  | zero =>
    intro j n out c hj hn hg hl h0 h1 hz hv
    obtain ⟨n, rfl⟩ : ∃ m, n = m + 1 := ⟨n - 1, by omega⟩
    obtain rfl : j = (D y).length := by omega
    refine ⟨out, c, vi_exit (hx out c hl), hl, hz, h0, h1, hg.set _ h0 h1, ?_⟩
    rw [val_set (by omega), hz, Int.pow_add]
    rw [lo_len (by omega)] at hv
    grind
  | succ d ih =>
    intro j n out c hj hn hg hl h0 h1 hz hv
    obtain ⟨n, rfl⟩ : ∃ m, n = m + 1 := ⟨n - 1, by omega⟩
    have b1 := dg_bd x i
    have b2 := dg_bd y j
    have e2 := lo_succ y j
    have bm := mul_bd b1 b2
    have bo := hg.getD (i + j)
    have bo0 : 0 ≤ gt out (i + j) := bo.1
    have bo1 : gt out (i + j) < 65536 := bo.2
    rw [vi_norm (hs out c j (by omega) hl h0 h1 bo0 bo1 bm.1 bm.2)]
    exact ih (j + 1) n (out.set (i + j) ((c + (gt out (i + j) + dg x i * dg y j)) % 65536)) ((c + (gt out (i + j) + dg x i * dg y j)) / 65536) (by omega) (by omega) (hg.set _ (by omega) (by omega)) (by rw [List.length_set]; exact hl) (by omega) (by omega) (by rw [getD_set_ne_ (by omega)]; exact hz) (by
      rw [e2, Int.pow_succ]
      refine step_mul hv rfl ?_
      rw [val_set (by omega), Int.pow_add]; rfl)
theorem row_zero {x y i : Nat} {out : List Int} (hg : GoodL out) (hv : val out = lo x i * y) : out.getD (i + (D y).length) 0 = 0 := by
  refine getD_zero_of_lt hg ?_
  rw [hv, Int.pow_add]
  have h1 := lo_lt x i
  have h2 : (y : Int) < 65536 ^ (D y).length := by rw [← pow_cast]; exact Int.ofNat_lt.2 (lt_len_D y)
  have h3 := lo_nonneg x i
  have h4 := pow_pos' i
  exact Int.lt_of_le_of_lt (Int.mul_le_mul_of_nonneg_right (Int.le_of_lt h1) (by omega)) (Int.mul_lt_mul_of_pos_left h2 h4)
theorem mul_out {body : VE → VH → Option (AX × VE × VH)} {S : List Int → Nat → VE × VH} {E : List Int → VE × VH} {ex N : Nat}
    (hs : ∀ (out : List Int) (j : Nat), j < (D x).length → GoodL out → out.length = N → val out = lo x j * y → ∃ out', body (S out j).1 (S out j).2 = some (.norm, S out' (j + 1)) ∧ GoodL out' ∧ out'.length = N ∧ val out' = lo x (j + 1) * y)
    (hx : ∀ (out : List Int), out.length = N → body (S out (D x).length).1 (S out (D x).length).2 = some (.exit ex, E out)) (d : Nat) :
    ∀ (j n : Nat) (out : List Int), j + d = (D x).length → d < n → GoodL out → out.length = N → val out = lo x j * y →
    ∃ out', viter body n (S out j).1 (S out j).2 = some (.exit ex, E out') ∧ GoodL out' ∧ out'.length = N ∧ val out' = ((x * y : Nat) : Int) := by
  induction d with
  | zero =>
    intro j n out hj hn hg hl hv
    obtain ⟨n, rfl⟩ : ∃ m, n = m + 1 := ⟨n - 1, by omega⟩
    obtain rfl : j = (D x).length := by omega
    exact ⟨out, vi_exit (hx out hl), hg, hl, by rw [hv, lo_len (by omega), ← Int.natCast_mul]⟩
  | succ d ih =>
    intro j n out hj hn hg hl hv
    obtain ⟨n, rfl⟩ : ∃ m, n = m + 1 := ⟨n - 1, by omega⟩
    obtain ⟨out', hr, hg', hl', hv'⟩ := hs out j (by omega) hg hl hv
    rw [vi_norm hr]
    exact ih (j + 1) n out' (by omega) (by omega) hg' hl' hv'
def timesI (x y i : Nat) (out : List Int) (c : Int) (j : Nat) : VE × VH := ([(1, some (.ints .i64 (D y))), (5, some (.sl 0 0 ((D x).length + (D y).length) 1)), (6, some (.int .i64 i)), (7, some (.int .i64 (dg x i))), (8, some (.int .i64 c)), (17, some (.ints .i64 (D x))), (18, some (.int .i64 (D x).length)), (19, some (.int .i64 i)), (24, some (.ints .i64 (D y))), (25, some (.int .i64 (D y).length)), (26, some (.int .i64 j))], [.ints true .i64 out])
def timesS (x y : Nat) (out : List Int) (j : Nat) : VE × VH := ([(1, some (.ints .i64 (D y))), (5, some (.sl 0 0 ((D x).length + (D y).length) 1)), (17, some (.ints .i64 (D x))), (18, some (.int .i64 (D x).length)), (19, some (.int .i64 j))], [.ints true .i64 out])
theorem times_v (d : Nat) (hx : (D x).length < 1000000) (hy : (D y).length < 1000000) :
    vrun Tryd.prog kn (d + 2) 27 [.ints .i64 (D x), .ints .i64 (D y)] [] = some (.sl 0 0 (D (x * y)).length 1, [.ints true .i64 (D (x * y))]) := by
  obtain ⟨out, hl, hg, hol, hv⟩ := mul_out (x := x) (y := y) (N := (D x).length + (D y).length) (ex := 0) (S := timesS x y) (E := fun out => ((timesS x y out (D x).length).1 ++ [(20, some (.bool false))], [.ints true .i64 out])) (body := vCode Tryd.prog kn (vrun Tryd.prog kn (d + 1)) 27 (loopAt Tryd.f27 0))
    (fun out i hi hg hol hv => by
      obtain ⟨out', c', hl, hol', hz', hc0, hc1, hg', hv'⟩ := mul_in (x := x) (y := y) (i := i) (ex := 2) (N := (D x).length + (D y).length) (S := timesI x y i) (E := fun out c => ((timesI x y i out c (D y).length).1 ++ [(27, some (.bool false))], [.ints true .i64 out])) (body := vCode Tryd.prog kn (vrun Tryd.prog kn (d + 1)) 27 (loopAt Tryd.f27 1))
        (fun out c j hj hol h0 h1 o0 o1 p0 p1 => by
          rw [round_v]; simp only [loopAt, nthC, bodyC, loops, List.nil_append, List.cons_append, List.append_nil, Tryd.f27, timesI]
          have e : ((i : Int) + (j : Int)).toNat = i + j := by omega
          simp (disch := omega) [go_sem, tab27, nil27, gt_D, hol, e])
        (fun out c hol => by
          rw [round_v]; simp only [loopAt, nthC, bodyC, loops, List.nil_append, List.cons_append, List.append_nil, Tryd.f27, timesI]
          simp (disch := omega) [go_sem, tab27, nil27, hol])
        (by omega) (lo x i * y) (D y).length 0 kn.cf.rounds out 0 (by omega) (by rw [k_cf, c_rounds]; omega) hg hol (by omega) (by omega) (row_zero hg hv) (by rw [lo_zero, hv]; grind)
      have hl0 := fun ks => loop_v (P := Tryd.prog) (K := kn) (ks := ks) hl
      simp only [loopAt, nthC, bodyC, loops, List.nil_append, List.cons_append, List.append_nil, Tryd.f27, timesI, Int.natCast_zero, List.cons_append, List.nil_append] at hl0
      refine ⟨_, ?_, hg', by rw [List.length_set]; exact hol', by rw [hv', lo_succ]; grind⟩
      rw [round_v]; simp only [loopAt, nthC, bodyC, loops, List.nil_append, List.cons_append, List.append_nil, Tryd.f27, timesS]
      have e : ((i : Int) + ((D y).length : Int)).toNat = i + (D y).length := by omega
      simp (disch := omega) [go_sem, tab27, nil27, gt_D, hl0, hol, hol', e])
    (fun out hol => by
      rw [round_v]; simp only [loopAt, nthC, bodyC, loops, List.nil_append, List.cons_append, List.append_nil, Tryd.f27, timesS]
      simp (disch := omega) [go_sem, tab27, nil27, hol])
    (D x).length 0 kn.cf.rounds (List.replicate ((D x).length + (D y).length) 0) (by omega) (by rw [k_cf, c_rounds]; omega) (GoodL.zeros _) (by simp) (by rw [val_zeros, lo_zero]; simp)
  have hl0 := fun ks => loop_v (P := Tryd.prog) (K := kn) (ks := ks) hl
  simp only [loopAt, nthC, bodyC, loops, List.nil_append, List.cons_append, List.append_nil, Tryd.f27, timesS, Int.natCast_zero, List.cons_append, List.nil_append] at hl0
  have ht := trim0_v d (l := out) (n := (D x).length + (D y).length) (v := x * y) (by omega) (by omega) hg hv
  obtain ⟨-, htk, hle⟩ := tl_D hg (l := out) (v := x * y) hv
  have e : ((D x).length + (D y).length : Int).toNat = (D x).length + (D y).length := by omega
  rw [vrun_v Tryd.func27 rfl rfl rfl]; simp only [Tryd.f27]
  simp (disch := omega) [go_sem, tab27, nil27, hl0, ht, htk, hol, e]
def mulI (x y i : Nat) (out : List Int) (c : Int) (j : Nat) : VE × VH := ([(2, some (.ptr 0 0)), (3, some (.ptr 1 0)), (4, some (.ptr 2 0)), (5, some (.sl 3 0 ((D x).length + (D y).length) 1)), (6, some (.int .i64 i)), (7, some (.int .i64 c)), (8, some (.int .i64 j))], [.vals true [.ints .i64 (D x)], .vals true [.ints .i64 (D y)], .vals true [.nil], .ints true .i64 out])
def mulS (x y : Nat) (out : List Int) (j : Nat) : VE × VH := ([(2, some (.ptr 0 0)), (3, some (.ptr 1 0)), (4, some (.ptr 2 0)), (5, some (.sl 3 0 ((D x).length + (D y).length) 1)), (6, some (.int .i64 j))], [.vals true [.ints .i64 (D x)], .vals true [.ints .i64 (D y)], .vals true [.nil], .ints true .i64 out])
end
end
/- Numbers: up, down, bits, and the reference's l2small, l2shl, l2shr, l2bit, l2trail. No conditions. -/
section
open Num
theorem b_and1 (P : Program) (t : TypeId) (a : Int) (h0 : 0 ≤ a) (h1 : a < 9223372036854775808) : binE P .and t (.int .i64 a) (.int .i64 1) = some (.int .i64 (a % 2)) := by
  rw [b_and]
  have : (BitVec.ofInt 64 a &&& BitVec.ofInt 64 1).toNat = (a % 2).toNat := by
    rw [BitVec.toNat_and, BitVec.toNat_ofInt, show (BitVec.ofInt 64 1).toNat = 1 from rfl, Nat.and_one_is_mod]
    omega
  have h2 : IntKind.wrap .i64 (((BitVec.ofInt 64 a &&& BitVec.ofInt 64 1).toNat : Nat) : Int) = a % 2 := by
    rw [this, w64 (by omega) (by omega)]; omega
  exact congrArg (fun q => some (CV.int .i64 q)) h2
section
def upS (x m s : Nat) (k : Int) (j : Nat) : VE × VH := ([(1, some (.int .i64 k)), (5, some (.sl 0 0 (s + j) 1)), (6, some (.int .i64 (mcar x m j))), (21, some (.ints .i64 (D x))), (22, some (.int .i64 (D x).length)), (23, some (.int .i64 j))], [.ints true .i64 (List.replicate s 0 ++ dgs (x * m) j)])
theorem shl_m (k : Nat) : (2 : Int) ^ ((k : Int) % 16).toNat = ((2 ^ (k % 16) : Nat) : Int) := by
  rw [show ((k : Int) % 16).toNat = k % 16 by omega, Int.natCast_pow]; rfl
theorem mulm_bd {a : Int} {m : Nat} (h0 : 0 ≤ a) (h1 : a < 65536) (hm : m ≤ 32768) : 0 ≤ a * m ∧ a * m ≤ 2147450880 := by
  refine ⟨Int.mul_nonneg h0 (by omega), ?_⟩
  have : a * m ≤ 65535 * 32768 := Int.mul_le_mul (by omega) (by omega) (by omega) (by omega)
  omega
variable {x k : Nat}
theorem up_r (call : CallV) (hx : (D x).length < 1000000) (hk : k < 1000000) (j : Nat) (hj : j < (D x).length) :
    vCode Tryd.prog kn call 21 (loopAt Tryd.f21 0) (upS x (2 ^ (k % 16)) (k / 16) k j).1 (upS x (2 ^ (k % 16)) (k / 16) k j).2 = some (.norm, upS x (2 ^ (k % 16)) (k / 16) k (j + 1)) := by
  have b1 := dg_bd x j
  have hm := pow16_le k
  have b2 := mcar_bd (x := x) (Nat.two_pow_pos (k % 16)) j
  have e := shl_m k
  rw [round_v]; simp only [loopAt, nthC, bodyC, loops, List.nil_append, List.cons_append, List.append_nil, Tryd.f21, upS, dgs_succ, mcar_succ, dg_mul]
  generalize 2 ^ (k % 16) = m at *
  have b3 := mulm_bd b1.1 b1.2 hm
  have e2 : ((k : Int) % 16).toNat = k % 16 := by omega
  have hl : (List.replicate (k / 16) (0 : Int) ++ dgs (x * m) j).length = k / 16 + j := by rw [List.length_append, List.length_replicate, dgs_len]
  have ht : (List.replicate (k / 16) (0 : Int) ++ dgs (x * m) j).take (k / 16 + j) = List.replicate (k / 16) (0 : Int) ++ dgs (x * m) j := List.take_of_length_le (by rw [hl]; omega)
  generalize List.replicate (k / 16) (0 : Int) = Z at *
  simp (disch := omega) [go_sem, tab21, nil21, gt_D, hl, ht, e, List.append_assoc, Nat.add_assoc]
theorem up_x (call : CallV) (hx : (D x).length < 1000000) (m s : Nat) (c : Int) :
    vCode Tryd.prog kn call 21 (loopAt Tryd.f21 0) (upS x m s c (D x).length).1 (upS x m s c (D x).length).2 = some (.exit 0, (upS x m s c (D x).length).1 ++ [(24, some (.bool false))], (upS x m s c (D x).length).2) := by
  rw [round_v]; simp only [loopAt, nthC, bodyC, loops, List.nil_append, List.cons_append, List.append_nil, Tryd.f21, upS]
  simp (disch := omega) [go_sem, tab21, nil21]
theorem up_v (d : Nat) (hx : (D x).length < 1000000) (hk : k < 1000000) :
    vrun Tryd.prog kn (d + 2) 21 [.ints .i64 (D x), .int .i64 (k : Int)] [] = some (.sl 0 0 (D (x * 2 ^ k)).length 1, [.ints true .i64 (D (x * 2 ^ k))]) := by
  by_cases h0 : (D x).length = 0
  · have e0 := lens_D.1 h0
    subst e0
    rw [vrun_v Tryd.func21 rfl rfl rfl]; simp only [Tryd.f21]
    simp (disch := omega) [go_sem, tab21, nil21, D_zero]
  · have hl0 := fun ks => loop_v (P := Tryd.prog) (K := kn) (ks := ks) (vi_for (upS x (2 ^ (k % 16)) (k / 16) k) (D x).length (by rw [k_cf, c_rounds]; omega) (up_r (vrun Tryd.prog kn (d + 1)) hx hk) fun m => vi_exit (up_x _ hx _ _ _))
    simp only [loopAt, nthC, bodyC, loops, List.nil_append, List.cons_append, List.append_nil, Tryd.f21, upS, dgs, mcar_zero, Int.natCast_zero, List.append_nil, Nat.add_zero, List.cons_append, List.nil_append] at hl0
    have hm := pow16_le k
    obtain ⟨c1, c2⟩ := mcar_end (x := x) (m := 2 ^ (k % 16)) (by omega) (Nat.le_refl _)
    have hval : val (List.replicate (k / 16) 0 ++ dgs (x * 2 ^ (k % 16)) ((D x).length + 1)) = ((x * 2 ^ k : Nat) : Int) := by
      rw [val_append, val_zeros, dgs_val, lo_len (lt_pow_len c2), List.length_replicate, pow_split k, Int.natCast_mul, Int.natCast_mul, Int.natCast_mul, pow_cast]
      grind
    have hg : GoodL (List.replicate (k / 16) 0 ++ dgs (x * 2 ^ (k % 16)) ((D x).length + 1)) := (GoodL.zeros _).append (dgs_good _ _)
    have hlen : (List.replicate (k / 16) (0 : Int) ++ dgs (x * 2 ^ (k % 16)) ((D x).length + 1)).length = k / 16 + ((D x).length + 1) := by rw [List.length_append, List.length_replicate, dgs_len]
    have ht := trim2_v d (l := List.replicate (k / 16) 0 ++ dgs (x * 2 ^ (k % 16)) ((D x).length + 1)) (n := k / 16 + ((D x).length + 1)) (v := x * 2 ^ k) (by omega) hlen.symm hg hval
    obtain ⟨-, htk, hle⟩ := tl_D hg hval
    rw [dgs_succ, ← c1] at ht htk hle hlen
    have hl : (List.replicate (k / 16) (0 : Int) ++ dgs (x * 2 ^ (k % 16)) (D x).length).length = k / 16 + (D x).length := by rw [List.length_append, List.length_replicate, dgs_len]
    have htt : (List.replicate (k / 16) (0 : Int) ++ dgs (x * 2 ^ (k % 16)) (D x).length).take (k / 16 + (D x).length) = List.replicate (k / 16) (0 : Int) ++ dgs (x * 2 ^ (k % 16)) (D x).length := List.take_of_length_le (by omega)
    have hz : (List.replicate (k / 16) (0 : Int)).length = k / 16 := List.length_replicate
    have e1 : ((k : Int) / 16).toNat = k / 16 := by omega
    have hne : ¬ D x = [] := fun e => h0 (by rw [e]; rfl)
    rw [vrun_v Tryd.func21 rfl rfl rfl]; simp only [Tryd.f21]
    generalize dgs (x * 2 ^ (k % 16)) (D x).length = Y at *
    generalize mcar x (2 ^ (k % 16)) (D x).length = c at *
    generalize hZ : List.replicate (k / 16) (0 : Int) = Z at *
    simp (disch := omega) [go_sem, tab21, nil21, hne, e1, hZ, hz, hl0, hl, htt, Nat.add_assoc, ht, htk, hle, List.append_assoc, hlen]
end
end
/- Numbers: down, and the reference's l2small, l2shl, l2shr. No conditions. -/
section
open Num
theorem fdiv_m (a : Int) (m : Nat) : a.fdiv (m : Int) = a / m := Int.fdiv_eq_ediv_of_nonneg _ (by omega)
section
variable {x k : Nat}
def downS (z m : Nat) (k : Int) (j : Nat) : VE × VH := ([(1, some (.int .i64 k)), (5, some (.ints .i64 (D z))), (6, some (.sl 0 0 j 1)), (21, some (.ints .i64 (D z))), (22, some (.int .i64 (D z).length)), (23, some (.int .i64 j))], [.ints true .i64 (dgs (z / m) j)])
theorem down_r (call : CallV) {z : Nat} (hx : (D z).length < 1000000) (j : Nat) (hj : j < (D z).length) :
    vCode Tryd.prog kn call 24 (loopAt Tryd.f24 0) (downS z (2 ^ (k % 16)) k j).1 (downS z (2 ^ (k % 16)) k j).2 = some (.norm, downS z (2 ^ (k % 16)) k (j + 1)) := by
  have b1 := dg_bd z j
  have b2 := dg_bd z (j + 1)
  have e := shl_m k
  rw [round_v]; simp only [loopAt, nthC, bodyC, loops, List.nil_append, List.cons_append, List.append_nil, Tryd.f24, downS, dgs_succ, dg_shr z (k % 16) j (by omega)]
  generalize 2 ^ (k % 16) = m at *
  have e2 : ((j : Int) + 1).toNat = j + 1 := by omega
  have b3 : 0 ≤ (dg z j + dg z (j + 1) * 65536) / (m : Int) := Int.ediv_nonneg (by omega) (by omega)
  by_cases h1 : j + 1 < (D z).length
  · simp (disch := omega) [go_sem, tab24, nil24, gt_D, e, e2, fdiv_m, dgs_len, dgs_take]
  · have h2 := dg_len (x := z) (i := j + 1) (by omega)
    rw [h2] at b3 ⊢
    simp only [Int.zero_mul, Int.add_zero] at b3 ⊢
    simp (disch := omega) [go_sem, tab24, nil24, gt_D, e, fdiv_m, dgs_len, dgs_take]
theorem down_x (call : CallV) {z m : Nat} (hx : (D z).length < 1000000) (c : Int) :
    vCode Tryd.prog kn call 24 (loopAt Tryd.f24 0) (downS z m c (D z).length).1 (downS z m c (D z).length).2 = some (.exit 0, (downS z m c (D z).length).1 ++ [(24, some (.bool false))], (downS z m c (D z).length).2) := by
  rw [round_v]; simp only [loopAt, nthC, bodyC, loops, List.nil_append, List.cons_append, List.append_nil, Tryd.f24, downS]
  simp (disch := omega) [go_sem, tab24, nil24]
theorem cut_D (x k : Nat) (h : k / 16 < (D x).length) : ((D x).drop ((k : Int) / 16).toNat).take (((D x).length : Int) - (k : Int) / 16).toNat = D (x / 65536 ^ (k / 16)) := by
  rw [show ((k : Int) / 16).toNat = k / 16 by omega, D_drop, List.take_of_length_le]
  rw [← D_drop, List.length_drop]; omega
theorem down_v (d : Nat) (hx : (D x).length < 1000000) (hk : k < 1000000) :
    vrun Tryd.prog kn (d + 2) 24 [.ints .i64 (D x), .int .i64 (k : Int)] [] = some (.sl 0 0 (D (x / 2 ^ k)).length 1, [.ints true .i64 (D (x / 2 ^ k))]) := by
  by_cases h0 : (D x).length ≤ k / 16
  · have e0 : x / 2 ^ k = 0 := Nat.div_eq_of_lt (Nat.lt_of_lt_of_le (len_D_le.1 h0) (by rw [pow_split k]; exact Nat.le_mul_of_pos_right _ (Nat.two_pow_pos _)))
    rw [e0]
    rw [vrun_v Tryd.func24 rfl rfl rfl]; simp only [Tryd.f24]
    simp (disch := omega) [go_sem, tab24, nil24, D_zero]
  · have hz : (D (x / 65536 ^ (k / 16))).length < 1000000 := by have := len_mono (Nat.div_le_self x (65536 ^ (k / 16))); omega
    have hl0 := fun ks => loop_v (P := Tryd.prog) (K := kn) (ks := ks) (vi_for (downS (x / 65536 ^ (k / 16)) (2 ^ (k % 16)) k) (D (x / 65536 ^ (k / 16))).length (by rw [k_cf, c_rounds]; omega) (down_r (vrun Tryd.prog kn (d + 1)) hz) fun m => vi_exit (down_x _ hz _))
    simp only [loopAt, nthC, bodyC, loops, List.nil_append, List.cons_append, List.append_nil, Tryd.f24, downS, dgs, Int.natCast_zero, List.cons_append, List.nil_append] at hl0
    have ec := cut_D x k (by omega)
    have ev : x / 2 ^ k = x / 65536 ^ (k / 16) / 2 ^ (k % 16) := by rw [Nat.div_div_eq_div_mul, ← pow_split]
    rw [ev]
    have hlen : ((D x).length : Int) - (k : Int) / 16 = ((D (x / 65536 ^ (k / 16))).length : Nat) := by rw [← D_drop, List.length_drop]; omega
    generalize x / 65536 ^ (k / 16) = z at *
    have c2 : z / 2 ^ (k % 16) < 65536 ^ (D z).length := Nat.lt_of_le_of_lt (Nat.div_le_self _ _) (lt_len_D z)
    have ht := trim0_v d (l := dgs (z / 2 ^ (k % 16)) (D z).length) (n := (D z).length) (v := z / 2 ^ (k % 16)) (by rw [dgs_len]; omega) (by rw [dgs_len]) (dgs_good _ _) (by rw [dgs_val, lo_len (lt_pow_len c2)])
    have ht2 := (dgs_tl c2).2
    rw [vrun_v Tryd.func24 rfl rfl rfl]; simp only [Tryd.f24]
    simp (disch := omega) [go_sem, tab24, nil24, ec, hl0, dgs_len, ht, ht2]
end
section
def hi (q n i : Nat) : List Int := List.replicate i 0 ++ (dgs q n).drop i
theorem hi_len {q n i : Nat} (h : i ≤ n) : (hi q n i).length = n := by unfold hi; rw [List.length_append, List.length_replicate, List.length_drop, dgs_len]; omega
theorem gt_dgs : ∀ {q n i : Nat}, i < n → gt (dgs q n) i = dg q i
  | q, n + 1, i, h => by
    rw [dgs_succ]
    by_cases h1 : i < n
    · rw [gt_app_lt (by rw [dgs_len]; exact h1)]; exact gt_dgs h1
    · obtain rfl : i = n := by omega
      have := gt_snoc (dgs q i) (dg q i)
      rwa [dgs_len] at this
theorem hi_set {q n i : Nat} (h : i < n) : (hi q n (i + 1)).set i (dg q i) = hi q n i := by
  unfold hi
  have e : (dgs q n).drop i = dg q i :: (dgs q n).drop (i + 1) := by
    rw [List.drop_eq_getElem_cons (by rw [dgs_len]; exact h), gt_get, gt_dgs h]
  rw [e, List.replicate_succ', List.append_assoc, List.set_append_right _ _ (by simp)]
  simp
variable {z m : Nat}
def smS (z m : Nat) (i : Nat) : VE × VH := ([(1, some (.int .i64 m)), (2, some (.ptr 0 0)), (4, some (.ptr 1 0)), (6, some (.sl 2 0 (D z).length 1)), (7, some (.int .i64 ((z / 65536 ^ i % m : Nat) : Int))), (8, some (.int .i64 ((i : Int) - 1)))], [.vals true [.ints .i64 (D z)], .vals true [.nil], .ints true .i64 (hi (z / m) (D z).length i)])
end
section
variable {x k : Nat}
end
end
/- Bits; what is valid. No conditions. -/
section
open Num
section
variable {x k : Nat}
theorem bit_dg (x k : Nat) : dg x (k / 16) / ((2 ^ (k % 16) : Nat) : Int) % 2 = ((x / 2 ^ k % 2 : Nat) : Int) := by
  unfold dg
  have e : x / 2 ^ k = x / 65536 ^ (k / 16) / 2 ^ (k % 16) := by rw [Nat.div_div_eq_div_mul, ← pow_split]
  rw [e]
  generalize x / 65536 ^ (k / 16) = a
  have h1 : a % 65536 / 2 ^ (k % 16) % 2 = a / 2 ^ (k % 16) % 2 := by
    have e2 : 2 ^ (k % 16) * (2 ^ (15 - k % 16) * 2) = 65536 := by
      rw [← Nat.pow_succ, ← Nat.pow_add, show k % 16 + (15 - k % 16).succ = 16 by omega]
    have h2 : a = 2 ^ (k % 16) * (2 ^ (15 - k % 16) * 2) * (a / 65536) + a % 65536 := by rw [e2]; omega
    conv => rhs; lhs; lhs; rw [h2, Nat.mul_assoc]
    rw [Nat.mul_add_div (Nat.two_pow_pos _), Nat.mul_comm (2 ^ (15 - k % 16)) 2, Nat.mul_assoc]
    omega
  rw [← h1]
  generalize a % 65536 = b
  omega
theorem bitOf_v (d : Nat) (hx : (D x).length < 1000000) (hk : k < 16000000) :
    vrun Tryd.prog kn (d + 1) 31 [.ints .i64 (D x), .int .i64 (k : Int)] [] = some (.int .i64 ((x / 2 ^ k % 2 : Nat) : Int), []) := by
  have e := shl_m k
  rw [← bit_dg x k]
  have b1 := dg_bd x (k / 16)
  have hm := pow16_le k
  generalize 2 ^ (k % 16) = m at *
  have h1 : 0 ≤ dg x (k / 16) / (m : Int) := Int.ediv_nonneg b1.1 (by omega)
  have h2 : dg x (k / 16) / (m : Int) ≤ dg x (k / 16) := Int.ediv_le_self _ b1.1
  have e1 : ((k : Int) / 16).toNat = k / 16 := by omega
  rw [vrun_v Tryd.func31 rfl rfl rfl]; simp only [Tryd.f31]
  by_cases h0 : k / 16 < (D x).length
  · have h3 := fun t => b_and1 Tryd.prog t (dg x (k / 16) / (m : Int)) h1 (by omega)
    simp (disch := omega) [go_sem, tab31, gt_D, e, e1, fdiv_m, h3]
  · have e0 := dg_len (x := x) (i := k / 16) (by omega)
    rw [e0]
    simp (disch := omega) [go_sem, tab31]
end
section
variable {l : List Int} {g : Nat} {caps : List V} {p : Int → Bool} {call : CallV}
def ixS (l : List Int) (g : Nat) (caps : List V) (j : Nat) : VE × VH := ([(0, some (.ints .i64 l)), (1, some (.fn (.func g) [] caps)), (7, some (.int .i64 l.length)), (8, some (.int .i64 j))], [])
theorem ixf_v (hl : l.length < 1000000000) {d : Nat} (hg : kn.cf.pure g = true) (hg2 : kn.ali g = false) (hc : ∀ h, omap (vfrz h 6) caps = some caps) (hp : ∀ x ∈ l, vrun Tryd.prog kn d g (vnrmAs (kn.args g) (.int .i64 x :: caps)) [] = some (.bool (p x), [])) :
    ∃ v : Int, vrun Tryd.prog kn (d + 1) 57 [.ints .i64 l, .fn (.func g) [] caps] [] = some (.int .i64 v, []) ∧ decide (0 ≤ v) = l.any p := by
  rw [k_cf] at hg
  have key := vi_inv (n := kn.cf.rounds) (body := vCode Tryd.prog kn (vrun Tryd.prog kn d) 57 (loopAt Tryd.f57 0)) (fun j s => s = ixS l g caps j ∧ (l.take j).any p = false)
    (fun r => (r = some (.exit 0, (ixS l g caps l.length).1 ++ [(9, some (.bool false))], []) ∧ l.any p = false) ∨ ∃ k : Nat, r = some (.ret, [(4, some (.int .i64 k))], []) ∧ l.any p = true) l.length (by rw [k_cf, c_rounds]; omega)
    (fun j s hj hI => by
      obtain ⟨rfl, hI⟩ := hI
      have hpp := hp _ (gt_mem hj)
      cases hq : p (gt l j) with
      | true =>
        right; intro m; right
        refine ⟨j, vi_ret ?_, List.any_eq_true.2 ⟨_, gt_mem hj, hq⟩⟩
        rw [hq] at hpp
        rw [round_v]; simp only [loopAt, nthC, bodyC, loops, List.nil_append, List.cons_append, List.append_nil, Tryd.f57, ixS]
        simp (disch := omega) [go_sem, tab57, hg, hg2, hc, hpp]
      | false =>
        left
        refine ⟨ixS l g caps (j + 1), ?_, rfl, ?_⟩
        · rw [hq] at hpp
          rw [round_v]; simp only [loopAt, nthC, bodyC, loops, List.nil_append, List.cons_append, List.append_nil, Tryd.f57, ixS]
          simp (disch := omega) [go_sem, tab57, hg, hg2, hc, hpp]
        · rw [List.take_add_one, gt_some hj, List.any_append, hI]; simp [hq])
    (fun s hI m => by
      obtain ⟨rfl, hI⟩ := hI
      left
      refine ⟨vi_exit ?_, by rwa [List.take_length] at hI⟩
      rw [round_v]; simp only [loopAt, nthC, bodyC, loops, List.nil_append, List.cons_append, List.append_nil, Tryd.f57, ixS]
      simp (disch := omega) [go_sem, tab57])
    (ixS l g caps 0) ⟨rfl, by simp⟩
  rcases key with ⟨hv, ha⟩ | ⟨k, hv, ha⟩
  · have hl0 := fun ks => loop_v (P := Tryd.prog) (K := kn) (ks := ks) hv
    simp only [loopAt, nthC, bodyC, loops, List.nil_append, List.cons_append, List.append_nil, Tryd.f57, ixS, Int.natCast_zero, List.cons_append, List.nil_append] at hl0
    refine ⟨-1, ?_, by rw [ha]; rfl⟩
    rw [vrun_v Tryd.func57 rfl rfl rfl]; simp only [Tryd.f57]
    simp (disch := omega) [go_sem, tab57, hc, hl0]
  · have hl0 := fun ks => loop_v (P := Tryd.prog) (K := kn) (ks := ks) hv
    simp only [loopAt, nthC, bodyC, loops, List.nil_append, List.cons_append, List.append_nil, Tryd.f57, ixS, Int.natCast_zero, List.cons_append, List.nil_append] at hl0
    refine ⟨k, ?_, by rw [ha]; simp⟩
    rw [vrun_v Tryd.func57 rfl rfl rfl]; simp only [Tryd.f57]
    simp (disch := omega) [go_sem, tab57, hc, hl0]
theorem all_v (hl : l.length < 1000000000) {d : Nat} (hg : kn.cf.pure g = true) (hg2 : kn.ali g = false) (ha : kn.args g = []) (hp : ∀ x ∈ l, vrun Tryd.prog kn d g [.int .i64 x] [] = some (.bool (p x), [])) :
    vrun Tryd.prog kn (d + 4) 35 [.ints .i64 l, .fn (.func g) [] []] [] = some (.bool (l.all p), []) := by
  have hg' := hg
  rw [k_cf] at hg'
  have h1 : ∀ x ∈ l, vrun Tryd.prog kn (d + 1) 51 (vnrmAs (kn.args 51) [.int .i64 x, .fptr [.fn (.func g) [] []]]) [] = some (.bool (!p x), []) := fun x hx => by
    have := hp x hx
    simp only [go_sem, k_args51]
    rw [vrun_v Tryd.func51 rfl rfl rfl]; simp only [Tryd.f51]
    simp (disch := omega) [go_sem, tab51, hg', hg2, ha, this]
  obtain ⟨v, hv, hany⟩ := ixf_v (caps := [.fptr [.fn (.func g) [] []]]) hl (c_pure51) rfl (fun h => by simp [go_sem]) h1
  have e : l.all p = !decide (0 ≤ v) := by
    rw [hany, List.not_any_eq_all_not]; simp
  rw [e]
  have h2 : vrun Tryd.prog kn (d + 3) 50 [.ints .i64 l, .fn (.func 51) [] [.fptr [.fn (.func g) [] []]]] [] = some (.bool (decide (0 ≤ v)), []) := by
    rw [vrun_v Tryd.func50 rfl rfl rfl]; simp only [Tryd.f50]
    simp (disch := omega) [go_sem, tab50, hv]
  rw [vrun_v Tryd.func35 rfl rfl rfl]; simp only [Tryd.f35]
  simp (disch := omega) [go_sem, tab35, h2]
end
theorem limb_v (d : Nat) (n : Int) : vrun Tryd.prog kn (d + 2) 36 [.int .i64 n] [] = some (.bool (limbB n), []) := by
  rw [vrun_v Tryd.func36 rfl rfl rfl]; simp only [Tryd.f36]
  simp (disch := omega) [go_sem, tab36, within_v, limbB]
theorem NatOk_v (d : Nat) {l : List Int} (hl : l.length < 1000000000) : vrun Tryd.prog kn (d + 7) 19 [.agg [.ints .i64 l]] [] = some (.bool (natOkB l), []) := by
  have h1 := all_v (g := 36) (d := d + 2) hl c_pure36 rfl rfl (fun x _ => limb_v d x)
  rw [vrun_v Tryd.func19 rfl rfl rfl]; simp only [Tryd.f19]
  by_cases q1 : l.length ≤ 100
  · by_cases q2 : l.all limbB = true
    · by_cases q3 : l.length = 0
      · simp (disch := omega) [go_sem, tab19, h1, q2, q3, natOkB]
      · have e : ((l.length : Int) - 1).toNat = l.length - 1 := by omega
        have q5 : ¬ l = [] := fun e => q3 (by rw [e]; rfl)
        by_cases q4 : gt l (l.length - 1) = 0
        · simp (disch := omega) [go_sem, tab19, h1, q2, q3, q4, q5, natOkB, e]
        · simp (disch := omega) [go_sem, tab19, h1, q2, q3, q4, q5, natOkB, e]
    · rw [Bool.not_eq_true] at q2
      simp (disch := omega) [go_sem, tab19, h1, q2, natOkB]
  · simp (disch := omega) [go_sem, tab19, natOkB, q1]
end
/- What is valid; copies. No conditions. -/
section
open Num
theorem clone_v (d : Nat) {l : List Int} (hl : l.length < 1000000000) : vrun Tryd.prog kn (d + 1) 37 [.ints .i64 l] [] = some (.sl 0 0 l.length 1, [.ints true .i64 l]) := by
  rw [vrun, k_cf, c_clone37]
  have : l.length ≤ 1000000000000 := by omega
  simp [vclone, vrdI, this]
section
variable {l : List Int}
def nokS (l : List Int) (j : Nat) : VE × VH := ([(1, some (.ptr 0 0)), (3, some (.int .i64 j))], [.vals true [.ints .i64 l]])
theorem sNatOk_v (d : Nat) (hl : l.length < 1000000000) : vrun Tryd.prog kn (d + 1) 6 [.agg [.ints .i64 l]] [] = some (.bool (natOkB l), []) := by
  by_cases q1 : l.length ≤ 100
  · have key := vi_inv (n := kn.cf.rounds) (body := vCode Tryd.prog kn (vrun Tryd.prog kn d) 6 (loopAt Tryd.f6 0)) (fun j s => s = nokS l j ∧ (l.take j).all limbB = true)
      (fun r => (r = some (.exit 0, (nokS l l.length).1 ++ [(12, some (.bool false))], (nokS l l.length).2) ∧ l.all limbB = true) ∨ (r = some (.ret, [(2, some (.bool false))], []) ∧ l.all limbB = false)) l.length (by rw [k_cf, c_rounds]; omega)
      (fun j s hj hI => by
        obtain ⟨rfl, hI⟩ := hI
        cases hq : limbB (gt l j) with
        | false =>
          right; intro m; right
          refine ⟨vi_ret ?_, ?_⟩
          · rw [round_v]; simp only [loopAt, nthC, bodyC, loops, List.nil_append, List.cons_append, List.append_nil, Tryd.f6, nokS]
            by_cases h0 : gt l j < 0
            · simp (disch := omega) [go_sem, tab6]
            · have h2 : 65536 ≤ gt l j := by unfold limbB at hq; simp at hq; omega
              simp (disch := omega) [go_sem, tab6]
          · cases ha : l.all limbB with
            | false => rfl
            | true => rw [List.all_eq_true.1 ha _ (gt_mem hj)] at hq; simp at hq
        | true =>
          left
          have h2 := (limbB_iff _).1 hq
          refine ⟨nokS l (j + 1), ?_, rfl, ?_⟩
          · rw [round_v]; simp only [loopAt, nthC, bodyC, loops, List.nil_append, List.cons_append, List.append_nil, Tryd.f6, nokS]
            simp (disch := omega) [go_sem, tab6]
          · rw [List.take_add_one, gt_some hj, List.all_append, hI]; simp [hq])
      (fun s hI m => by
        obtain ⟨rfl, hI⟩ := hI
        left
        refine ⟨vi_exit ?_, by rwa [List.take_length] at hI⟩
        rw [round_v]; simp only [loopAt, nthC, bodyC, loops, List.nil_append, List.cons_append, List.append_nil, Tryd.f6, nokS]
        simp (disch := omega) [go_sem, tab6])
      (nokS l 0) ⟨rfl, by simp⟩
    rcases key with ⟨hv, ha⟩ | ⟨hv, ha⟩
    · have hl0 := fun ks => loop_v (P := Tryd.prog) (K := kn) (ks := ks) hv
      simp only [loopAt, nthC, bodyC, loops, List.nil_append, List.cons_append, List.append_nil, Tryd.f6, nokS, Int.natCast_zero, List.cons_append, List.nil_append] at hl0
      rw [vrun_v Tryd.func6 rfl rfl rfl]; simp only [Tryd.f6]
      by_cases q3 : l = []
      · subst q3
        simp (disch := omega) [go_sem, tab6, hl0, natOkB] at hl0 ⊢
      · have q4 : 0 < l.length := List.length_pos_iff.2 q3
        have e : ((l.length : Int) - 1).toNat = l.length - 1 := by omega
        have hb := (limbB_iff _).1 (List.all_eq_true.1 ha _ (gt_mem (l := l) (j := l.length - 1) (by omega)))
        by_cases q5 : gt l (l.length - 1) = 0
        · simp (disch := omega) [go_sem, tab6, hl0, q3, q5, natOkB, ha, q1, e]
        · simp (disch := omega) [go_sem, tab6, hl0, q3, q5, natOkB, ha, q1, e]
    · have hl0 := fun ks => loop_v (P := Tryd.prog) (K := kn) (ks := ks) hv
      simp only [loopAt, nthC, bodyC, loops, List.nil_append, List.cons_append, List.append_nil, Tryd.f6, nokS, Int.natCast_zero] at hl0
      rw [vrun_v Tryd.func6 rfl rfl rfl]; simp only [Tryd.f6]
      simp (disch := omega) [go_sem, tab6, hl0, natOkB, ha]
  · rw [vrun_v Tryd.func6 rfl rfl rfl]; simp only [Tryd.f6]
    simp (disch := omega) [go_sem, tab6, natOkB, q1]
end
theorem bit0 (x : Nat) : x / 2 ^ 0 % 2 = x % 2 := by rw [Nat.pow_zero, Nat.div_one]
end
/- natOf, wholeOf; all of some dyadic numbers are valid. No conditions. -/
section
open Num
def fitL (l : List Int) : List Int := if l.length ≤ 100 then l else []
theorem fitL_len (l : List Int) : (fitL l).length ≤ 100 := by unfold fitL; split <;> simp_all
theorem natOf_v (d : Nat) {l : List Int} (hl : l.length < 1000000000) : vrun Tryd.prog kn (d + 2) 20 [.ints .i64 l] [] = some (.tup [.agg [.sl 0 0 (fitL l).length 1], .bool (decide (l.length ≤ 100))], [.ints true .i64 (fitL l)]) := by
  have h1 := fun d => clone_v d hl
  unfold fitL
  by_cases h : l.length ≤ 100
  · rw [vrun_v Tryd.func20 rfl rfl rfl]; simp only [Tryd.f20]
    simp (disch := omega) [go_sem, tab20, h1, h]
  · rw [vrun_v Tryd.func20 rfl rfl rfl]; simp only [Tryd.f20]
    simp (disch := omega) [go_sem, tab20, h]
section
variable {ds : List DyT} {g : Nat} {caps : List V} {p : DyT → Bool} {call : CallV}
def ixDS (ds : List DyT) (g : Nat) (caps : List V) (j : Nat) : VE × VH := ([(0, some (.cells 3 ds.length (flat DyT.v ds))), (1, some (.fn (.func g) [] caps)), (7, some (.int .i64 ds.length)), (8, some (.int .i64 j))], [])
end
end
end Go.Eng
