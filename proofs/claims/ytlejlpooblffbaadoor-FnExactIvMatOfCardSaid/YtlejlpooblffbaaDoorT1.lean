/- What the functions of this seat do, one after another, told by plain values. No conditions. -/
import Derived.Test.YtlejlpooblffbaaDoorSeat
import Derived.Test.YtlejlpooblffbaaDoorVb
set_option linter.unusedVariables false
set_option linter.unusedSimpArgs false
namespace Go.Eng
open Go.Proofs
set_option maxRecDepth 100000
set_option linter.unusedSimpArgs false
attribute [local go_sem] r_seq r_skip r_retC r_exitC r_label r_block r_region r_regionW r_xWt r_xW r_cond r_Bt r_Bf r_Ncode r_Nret r_Nexit r_Nblk r_Nblkr r_Nblke r_Nnil r_Es r_Onil r_Oop r_Oif r_Xs r_Gt r_Gf r_wtt r_wtf r_wft r_wff r_wu r_gO r_putS r_putN r_get r_keepN r_keepC r_fr r_fn r_fi r_ff r_fo r_l1 r_l2t r_cun r_cul r_cub r_cui r_cus r_cuis r_cuc r_cusl r_cuti r_cutv r_ven r_vec r_l2f r_l3 r_t1 r_t2 r_t0 r_rt r_rc r_en r_ec r_cM r_oN r_oC r_end r_endt r_endf r_nob0 r_nobN r_nobC r_nobE r_nb0 r_nbi r_nbs r_nbsl r_nbin r_nbce r_nLn r_nLv r_nLc r_nAa r_nAn r_nAk_b r_nAk_i r_nAk_s r_nAk_n r_nAk_is r_nAk_ce r_nAk_fp r_nAk_sl r_nAk_pt r_nAk_fn r_nsn r_nsv r_nsc r_m0 r_mi r_ms r_msl r_min r_mce r_mLn r_mLv r_mLc r_mAa r_mAn r_mAk_b r_mAk_i r_mAk_s r_mAk_n r_mAk_is r_mAk_ce r_mAk_fp r_mAk_sl r_mAk_pt r_mAk_fn r_msn r_msv r_msc r_atb r_ati r_ats r_atn r_atis r_atc r_atf r_atl r_atp r_atfn r_gcn r_gcc r_gLn r_gLc r_gIt r_ndn r_ndc r_gcB r_gLB r_two r_rea r_rea0 r_re1n r_re1c r_ori r_orv r_ord r_orn r_adn r_adc r_ad1 r_ern r_ers r_er0 r_rsl r_rptr r_rb r_ri r_rs r_rn r_ris r_rce r_rfp r_ra4 r_ra3 r_rt4 r_rf4 r_rf3 r_idS r_idc r_nS r_nP r_nF r_nT r_vsl r_vptr r_vb r_vi r_vs r_vn r_vis r_vce r_vfp r_va4 r_va3 r_vt4 r_vf4 r_vf3 r_rV r_Oi r_Ov r_Od r_rE r_rE0 r_En r_Ec r_E0 r_pO r_pk r_agL r_cO r_fO r_fSi r_fSv r_fPv r_fsl r_fptr r_ffn r_fag r_fb r_fint r_fstr r_fnil r_fis r_fce r_ffp r_res r_move r_assign r_pick r_pickt r_pickf r_alloc r_box r_al r_build r_bslice r_load r_store r_nlc r_nl1 r_nl2 r_bin r_un r_conv r_mkf r_mks r_slc r_fad r_fld r_iad r_idx r_ext r_ex1 r_callf r_callt r_callen r_calapp r_calmax r_calmin r_vt r_vcb r_vci r_vcs r_vcnp r_vcn r_vca r_vcf r_vcg r_ofb r_ofi r_ofs r_ofn r_evs r_pn r_prt r_pc r_one_a r_one_b r_one_i r_one_s r_one_n r_one_is r_one_ce r_one_fp r_one_sl r_one_pt r_one_fn r_cs_a r_cs_b r_cs_i r_cs_s r_cs_n r_cs_is r_cs_ce r_cs_fp r_cs_sl r_cs_pt r_cs_fn r_tov r_tovA r_toc r_toa r_tb r_ti r_ts r_tn r_bd r_bd2 r_filn r_fp1 r_filc r_fsn r_fsc r_san r_sac r_bs2 r_bs1 r_newO r_mkq r_mkI r_mkOi r_mkOv r_tIn r_tIc r_repz r_repn r_ldp r_ldf r_l1t r_l1f r_lFt r_lFf r_aggO r_obj r_at r_ati' r_atv r_celli r_cellv r_subi r_subv r_sto r_sto1 r_sto2 r_sets r_setR r_setn r_setc r_s1i r_s1v r_bin1 r_bin2 r_tv1 r_cb r_ci r_cst r_cn r_csl r_cis r_cce r_uni r_unb r_cv r_cvO r_cvN r_cv0 r_cvS r_wB r_cvi r_cvs r_cvb r_cvl r_sO r_rdn r_rdi r_rdl r_rdO r_vsub r_vfn r_mk r_mk1 r_mk2 r_zoi r_zov r_leni r_lenv r_bn r_bndV r_bo r_sl0 r_sl1 r_vsz r_ct1 r_cts r_cti r_ctc r_ctn r_lnl r_lni r_lnc r_lnn r_fa r_fap r_faf r_fi1 r_fit r_fif r_ixi r_ixs r_ixc r_ixf r_ixF r_ixF2 r_ix1 r_ixsl r_ixin r_ixce r_len1 r_lenA r_lTs r_lTn r_lTl r_lTi r_lTc r_app0 r_app r_app1 r_app2 r_app3 r_catO r_cati r_catv r_newt r_newf r_pair r_pairK r_trip r_kis r_kiv r_srn r_srl r_sri r_src r_srs r_oln r_oll r_vw r_wi r_wv r_mm r_max r_min' r_str r_cF r_c2t r_c3f r_c3t r_ab r_c2f r_cV r_p1 r_la r_la2t r_la2f r_la3 r_sh r_z_is r_z_ce r_z_fp r_z_b r_z_i r_z_s r_z_n r_z_l r_z_p r_z_a4 r_z_a3 r_z_t4 r_zoI r_zoV r_roN r_roC r_roi r_rod r_zod r_rov r_aR r_trOi r_trOv r_trPv r_trl r_trp r_trf r_tra r_trb r_tri r_trs r_trn r_tris r_trce r_trfp r_vJ r_vJs r_vJn
attribute [local go_sem] b_add b_sub b_mul b_quo b_rem b_shl b_shr b_eql b_neq b_lss b_leq b_gtr b_geq eqB_s b_eqB b_neB u_neg u_not b_nn b_nn' eqS_s zerosT_s zerosT_n zt_i zt_sl zt_st dstOf_z dstOf_n iltT iltF ileT ileF ieqT ieqF nltT nltF nleT nleF neqT neqF tdiv_pos tmod_pos w64 idx0 List.take_of_length_le
/- Numbers: cmp.Compare, within, trim, small, plus. No conditions. -/
section
open Num
theorem within_v (d : Nat) (n a b : Int) : vrun Tryd.prog kn (d + 1) 48 [.int .i64 n, .int .i64 a, .int .i64 b] [] = some (.bool (decide (a ≤ n) && decide (n ≤ b)), []) := by
  rw [vrun_v Tryd.func48 rfl rfl rfl]; simp only [Tryd.f48]
  by_cases h : a ≤ n
  · simp (disch := omega) [go_sem, tab48, h]
  · simp (disch := omega) [go_sem, tab48, h]
def cmp2 (x y : Int) : Int := if x < y then -1 else if y < x then 1 else 0
section
variable {h : VH} {l : List Int} {i : Nat} {w : Bool}
theorem trim_r0 (call : CallV) : vCode Tryd.prog kn call 121 (loopAt Tryd.f121 0) [(0, some (.sl i 0 0 1))] h = some (.exit 0, [(0, some (.sl i 0 0 1)), (14, some (.bool false))], h) := by
  rw [round_v]; simp only [loopAt, nthC, bodyC, loops, List.nil_append, List.cons_append, List.append_nil, Tryd.f121]
  simp (disch := omega) [go_sem, tab121, nil121]
theorem trim_r1 (call : CallV) (j : Nat) (hj : j < 4611686018427387904) (hi : h[i]? = some (.ints w .i64 l)) (hm : j + 1 ≤ l.length) (h0 : gt l j = 0) :
    vCode Tryd.prog kn call 121 (loopAt Tryd.f121 0) [(0, some (.sl i 0 (j + 1) 1))] h = some (.norm, [(0, some (.sl i 0 j 1))], h) := by
  rw [round_v]; simp only [loopAt, nthC, bodyC, loops, List.nil_append, List.cons_append, List.append_nil, Tryd.f121]
  simp (disch := omega) [go_sem, tab121, nil121, hi, h0]
theorem trim_r2 (call : CallV) (j : Nat) (hj : j < 4611686018427387904) (hi : h[i]? = some (.ints w .i64 l)) (hm : j + 1 ≤ l.length) (h0 : ¬ gt l j = 0) :
    vCode Tryd.prog kn call 121 (loopAt Tryd.f121 0) [(0, some (.sl i 0 (j + 1) 1))] h = some (.exit 0, [(0, some (.sl i 0 (j + 1) 1)), (14, some (.bool false))], h) := by
  rw [round_v]; simp only [loopAt, nthC, bodyC, loops, List.nil_append, List.cons_append, List.append_nil, Tryd.f121]
  simp (disch := omega) [go_sem, tab121, nil121, hi, h0]
theorem trim_l (call : CallV) (hi : h[i]? = some (.ints w .i64 l)) (hl : l.length < 4611686018427387904) : ∀ (j n : Nat), j ≤ l.length → j < n →
    viter (vCode Tryd.prog kn call 121 (loopAt Tryd.f121 0)) n [(0, some (.sl i 0 j 1))] h = some (.exit 0, [(0, some (.sl i 0 (tl l j) 1)), (14, some (.bool false))], h)
  | 0, n + 1, _, _ => vi_exit (trim_r0 call)
  | j + 1, n + 1, hj, hn => by
    by_cases h0 : gt l j = 0
    · rw [vi_norm (trim_r1 call j (by omega) hi hj h0), trim_l call hi hl j n (by omega) (by omega), tl, if_pos h0]
    · rw [vi_exit (trim_r2 call j (by omega) hi hj h0), tl, if_neg h0]
theorem trim_v (d : Nat) (hi : h[i]? = some (.ints w .i64 l)) (hl : l.length < 1000000000) (n : Nat) (hn : n = l.length) :
    vrun Tryd.prog kn (d + 1) 121 [.sl i 0 n 1] h = some (.sl i 0 (tl l l.length) 1, h) := by
  subst hn
  have hl0 := fun ks => loop_v (P := Tryd.prog) (K := kn) (ks := ks) (trim_l (vrun Tryd.prog kn d) hi (by omega) l.length kn.cf.rounds (Nat.le_refl _) (by rw [k_cf, c_rounds]; omega))
  simp only [loopAt, nthC, bodyC, loops, List.nil_append, List.cons_append, List.append_nil, Tryd.f121] at hl0
  rw [vrun_v Tryd.func121 rfl rfl rfl]; simp only [Tryd.f121]
  simp (disch := omega) [go_sem, tab121, nil121, hl0]
/-- As plus, minus, times and their like call it. -/
theorem trim0_v (d : Nat) {l : List Int} {n v : Nat} (hl : l.length < 1000000000) (hn : n = l.length) (hg : GoodL l) (hv : val l = v) :
    vrun Tryd.prog kn (d + 1) 121 [.sl 0 0 n 1] [.ints false .i64 l] = some (.sl 0 0 (D v).length 1, [.ints false .i64 l]) := by
  rw [trim_v d (h := [.ints false .i64 l]) (i := 0) (w := false) (l := l) rfl hl n hn, (tl_D hg hv).1]
theorem trim2_v (d : Nat) {l : List Int} {n v : Nat} (hl : l.length < 1000000000) (hn : n = l.length) (hg : GoodL l) (hv : val l = v) (a b : VO) :
    vrun Tryd.prog kn (d + 1) 121 [.sl 2 0 n 1] [a, b, .ints false .i64 l] = some (.sl 2 0 (D v).length 1, [a, b, .ints false .i64 l]) := by
  rw [trim_v d (h := [a, b, .ints false .i64 l]) (i := 2) (w := false) (l := l) rfl hl n hn, (tl_D hg hv).1]
end
end
/- Numbers: small, plus, minus. No conditions. -/
section
open Num
section
variable {x y : Nat}
def plusS (x y j : Nat) : VE × VH := ([(1, some (.ints .i64 (D y))), (5, some (.sl 0 0 j 1)), (6, some (.int .i64 (carry x y j))), (20, some (.ints .i64 (D x))), (21, some (.int .i64 (D x).length)), (22, some (.int .i64 j))], [.ints true .i64 (dgs (x + y) j)])
end
end
/- Numbers: small, minus, and the reference's l2of, l2norm. No conditions. -/
section
open Num
theorem dg_step {n j : Nat} : n / 65536 ^ j % 65536 = n / 65536 ^ j % 65536 ∧ n / 65536 ^ (j + 1) = n / 65536 ^ j / 65536 := ⟨rfl, by rw [Nat.pow_succ, Nat.div_div_eq_div_mul]⟩
theorem quo_step (n j : Nat) : ((n / 65536 ^ j : Nat) : Int) / 65536 = ((n / 65536 ^ (j + 1) : Nat) : Int) := by rw [dg_step.2]; omega
theorem rem_step (n j : Nat) : ((n / 65536 ^ j : Nat) : Int) % 65536 = dg n j := by unfold dg; omega
theorem quo_pos {n j : Nat} (h : j < (D n).length) : 0 < n / 65536 ^ j := Nat.div_pos (len_D_lt.1 h) (powN_pos j)
theorem quo_end (n : Nat) : n / 65536 ^ (D n).length = 0 := Nat.div_eq_of_lt (lt_len_D n)
theorem quo_le (n j : Nat) : n / 65536 ^ j ≤ n := Nat.div_le_self _ _
section
def smallS (n j : Nat) : VE × VH := ([(0, some (.int .i64 ((n / 65536 ^ j : Nat) : Int))), (3, some (.sl 0 0 j 1))], [.ints true .i64 (dgs n j)])
theorem small_r (call : CallV) {n : Nat} (hn : n < 9223372036854775808) (hl : (D n).length < 1000000) (j : Nat) (hj : j < (D n).length) :
    vCode Tryd.prog kn call 111 (loopAt Tryd.f111 0) (smallS n j).1 (smallS n j).2 = some (.norm, smallS n (j + 1)) := by
  have b1 := quo_pos hj
  have b2 := quo_le n j
  rw [round_v]; simp only [loopAt, nthC, bodyC, loops, List.nil_append, List.cons_append, List.append_nil, Tryd.f111, smallS, dgs_succ, ← rem_step, ← quo_step]
  generalize n / 65536 ^ j = q at *
  simp (disch := omega) [go_sem, tab111, nil111, dgs_len, dgs_take]
theorem small_x (call : CallV) {n : Nat} (hl : (D n).length < 1000000) :
    vCode Tryd.prog kn call 111 (loopAt Tryd.f111 0) (smallS n (D n).length).1 (smallS n (D n).length).2 = some (.exit 0, [(0, some (.int .i64 0)), (3, some (.sl 0 0 (D n).length 1)), (5, some (.bool false))], [.ints true .i64 (dgs n (D n).length)]) := by
  rw [round_v]; simp only [loopAt, nthC, bodyC, loops, List.nil_append, List.cons_append, List.append_nil, Tryd.f111, smallS, quo_end]
  simp (disch := omega) [go_sem, tab111, nil111, dgs_len]
theorem dgs_D (n : Nat) : dgs n (D n).length = D n := by
  have := (dgs_tl (lt_len_D n)).2.1
  rwa [dgs_take] at this
theorem small_v (d : Nat) {n : Nat} (hn : n < 9223372036854775808) : vrun Tryd.prog kn (d + 1) 111 [.int .i64 (n : Int)] [] = some (.sl 0 0 (D n).length 1, [.ints true .i64 (D n)]) := by
  have hl : (D n).length < 1000000 := by
    have : (D n).length ≤ 4 := len_D_le.2 (by omega)
    omega
  have hl0 := fun ks => loop_v (P := Tryd.prog) (K := kn) (ks := ks) (vi_for (smallS n) (D n).length (by rw [k_cf, c_rounds]; omega) (small_r (vrun Tryd.prog kn d) hn hl) fun m => vi_exit (small_x _ hl))
  simp only [loopAt, nthC, bodyC, loops, List.nil_append, List.cons_append, List.append_nil, Tryd.f111, smallS, dgs, Nat.pow_zero, Nat.div_one] at hl0
  rw [vrun_v Tryd.func111 rfl rfl rfl]; simp only [Tryd.f111]
  simp (disch := omega) [go_sem, tab111, nil111, hl0, dgs_D]
def minusS (x y j : Nat) : VE × VH := ([(1, some (.ints .i64 (D y))), (5, some (.sl 0 0 j 1)), (6, some (.int .i64 (borrow x y j))), (12, some (.ints .i64 (D x))), (13, some (.int .i64 (D x).length)), (14, some (.int .i64 j))], [.ints true .i64 (dgs (x - y) j)])
variable {x y : Nat}
end
section
def normS (l : List Int) (j : Nat) : VE × VH := ([(0, some (.ints .i64 l)), (2, some (.ptr 0 0)), (3, some (.int .i64 j))], [.vals true [.nil]])
variable {l : List Int}
theorem norm_r1 (call : CallV) (j : Nat) (hj : j < l.length) (hl : l.length < 1000000000) (h0 : gt l j = 0) :
    vCode Tryd.prog kn call 102 (loopAt Tryd.f102 0) (normS l (j + 1)).1 (normS l (j + 1)).2 = some (.norm, normS l j) := by
  rw [round_v]; simp only [loopAt, nthC, bodyC, loops, List.nil_append, List.cons_append, List.append_nil, Tryd.f102, normS]
  simp (disch := omega) [go_sem, tab102, h0]
theorem norm_x (call : CallV) (j : Nat) (hj : j ≤ l.length) (hl : l.length < 1000000000) (h0 : tl l j = j) :
    vCode Tryd.prog kn call 102 (loopAt Tryd.f102 0) (normS l j).1 (normS l j).2 = some (.exit 0, [(0, some (.ints .i64 l)), (2, some (.ptr 0 0)), (3, some (.int .i64 j)), (15, some (.bool false))], [.vals true [.nil]]) := by
  rw [round_v]; simp only [loopAt, nthC, bodyC, loops, List.nil_append, List.cons_append, List.append_nil, Tryd.f102, normS]
  cases j with
  | zero => simp (disch := omega) [go_sem, tab102]
  | succ j =>
    have h1 : ¬ gt l j = 0 := fun h1 => by
      rw [tl, if_pos h1] at h0
      have := tl_le l j; omega
    simp (disch := omega) [go_sem, tab102, h1]
theorem norm_l (call : CallV) (hl : l.length < 1000000000) : ∀ (j n : Nat), j ≤ l.length → j < n →
    viter (vCode Tryd.prog kn call 102 (loopAt Tryd.f102 0)) n (normS l j).1 (normS l j).2 = some (.exit 0, [(0, some (.ints .i64 l)), (2, some (.ptr 0 0)), (3, some (.int .i64 (tl l j))), (15, some (.bool false))], [.vals true [.nil]])
  | 0, n + 1, _, _ => vi_exit (norm_x call 0 (by omega) hl rfl)
  | j + 1, n + 1, hj, hn => by
    by_cases h0 : gt l j = 0
    · rw [vi_norm (norm_r1 call j (by omega) hl h0), tl, if_pos h0]
      exact norm_l call hl j n (by omega) (by omega)
    · have e : tl l (j + 1) = j + 1 := by rw [tl, if_neg h0]
      rw [vi_exit (norm_x call (j + 1) hj hl e), e]
theorem l2norm_v (d : Nat) (hl : l.length < 1000000000) (hg : GoodL l) {v : Nat} (hv : val l = v) : vrun Tryd.prog kn (d + 1) 102 [.ints .i64 l] [] = some (.agg [.sl 0 0 (D v).length 1], [.ints true .i64 (D v)]) := by
  have hl0 := fun ks => loop_v (P := Tryd.prog) (K := kn) (ks := ks) (norm_l (vrun Tryd.prog kn d) hl l.length kn.cf.rounds (Nat.le_refl _) (by rw [k_cf, c_rounds]; omega))
  simp only [loopAt, nthC, bodyC, loops, List.nil_append, List.cons_append, List.append_nil, Tryd.f102, normS] at hl0
  obtain ⟨e1, e2, e3⟩ := tl_D hg hv
  rw [e1] at hl0
  rw [vrun_v Tryd.func102 rfl rfl rfl]; simp only [Tryd.f102]
  simp (disch := omega) [go_sem, tab102, hl0, e2]
end
section
def ofS (n j : Nat) : VE × VH := ([(0, some (.int .i64 ((n / 65536 ^ j : Nat) : Int))), (2, some (.ptr 0 0)), (3, some (.sl 1 0 j 1))], [.vals true [.nil], .ints true .i64 (dgs n j)])
theorem of_r (call : CallV) {n : Nat} (hn : n < 9223372036854775808) (hl : (D n).length < 1000000) (j : Nat) (hj : j < (D n).length) :
    vCode Tryd.prog kn call 110 (loopAt Tryd.f110 0) (ofS n j).1 (ofS n j).2 = some (.norm, ofS n (j + 1)) := by
  have b1 := quo_pos hj
  have b2 := quo_le n j
  rw [round_v]; simp only [loopAt, nthC, bodyC, loops, List.nil_append, List.cons_append, List.append_nil, Tryd.f110, ofS, dgs_succ, ← rem_step, ← quo_step]
  generalize n / 65536 ^ j = q at *
  simp (disch := omega) [go_sem, tab110, nil110, dgs_len, dgs_take]
theorem of_x (call : CallV) {n : Nat} (hl : (D n).length < 1000000) :
    vCode Tryd.prog kn call 110 (loopAt Tryd.f110 0) (ofS n (D n).length).1 (ofS n (D n).length).2 = some (.exit 0, [(0, some (.int .i64 0)), (2, some (.ptr 0 0)), (3, some (.sl 1 0 (D n).length 1)), (5, some (.bool false))], [.vals true [.nil], .ints true .i64 (dgs n (D n).length)]) := by
  rw [round_v]; simp only [loopAt, nthC, bodyC, loops, List.nil_append, List.cons_append, List.append_nil, Tryd.f110, ofS, quo_end]
  simp (disch := omega) [go_sem, tab110, nil110, dgs_len]
theorem l2of_v (d : Nat) {n : Nat} (hn : n < 9223372036854775808) : vrun Tryd.prog kn (d + 1) 110 [.int .i64 (n : Int)] [] = some (.agg [.sl 0 0 (D n).length 1], [.ints true .i64 (D n)]) := by
  have hl : (D n).length < 1000000 := by
    have : (D n).length ≤ 4 := len_D_le.2 (by omega)
    omega
  have hl0 := fun ks => loop_v (P := Tryd.prog) (K := kn) (ks := ks) (vi_for (ofS n) (D n).length (by rw [k_cf, c_rounds]; omega) (of_r (vrun Tryd.prog kn d) hn hl) fun m => vi_exit (of_x _ hl))
  simp only [loopAt, nthC, bodyC, loops, List.nil_append, List.cons_append, List.append_nil, Tryd.f110, ofS, dgs, Nat.pow_zero, Nat.div_one] at hl0
  rw [vrun_v Tryd.func110 rfl rfl rfl]; simp only [Tryd.f110]
  simp (disch := omega) [go_sem, tab110, nil110, hl0, dgs_D]
end
end
/- Numbers: compare, times, and the reference's l2cmp, l2add, l2sub, l2mul. No conditions. -/
section
open Num
theorem cmp_step {x y i : Nat} (h : x / 65536 ^ (i + 1) = y / 65536 ^ (i + 1)) : (dg x i = dg y i → x / 65536 ^ i = y / 65536 ^ i) ∧ (dg x i < dg y i → x < y) ∧ (dg y i < dg x i → y < x) := by
  have e1 := div_pow_succ x i
  have e2 := div_pow_succ y i
  unfold dg
  refine ⟨fun h1 => by omega, fun h1 => lt_of_div (p := 65536 ^ i) (by omega), fun h1 => lt_of_div (p := 65536 ^ i) (by omega)⟩
theorem div_len {x n : Nat} (h : (D x).length ≤ n) : x / 65536 ^ n = 0 := Nat.div_eq_of_lt (len_D_le.1 h)
section
variable {x y : Nat}
/-- Lists of one length: up from the high end. -/
theorem comp_l {body : VE → VH → Option (AX × VE × VH)} {S : Int → VE × VH} {E : VE × VH} {R : Int → VE × VH}
    (hx : body (S (-1)).1 (S (-1)).2 = some (.exit 0, E)) (h1 : ∀ j : Nat, j < (D x).length → dg x j = dg y j → body (S j).1 (S j).2 = some (.norm, S ((j : Int) - 1)))
    (h2 : ∀ j : Nat, j < (D x).length → dg x j < dg y j → body (S j).1 (S j).2 = some (.ret, R (-1))) (h3 : ∀ j : Nat, j < (D x).length → dg y j < dg x j → body (S j).1 (S j).2 = some (.ret, R 1)) :
    ∀ (j n : Nat), j ≤ (D x).length → x / 65536 ^ j = y / 65536 ^ j → j < n →
    (viter body n (S ((j : Int) - 1)).1 (S ((j : Int) - 1)).2 = some (.exit 0, E) ∧ cmpI x y = 0) ∨ viter body n (S ((j : Int) - 1)).1 (S ((j : Int) - 1)).2 = some (.ret, R (cmpI x y))
  | 0, n + 1, _, he, _ => by
    refine .inl ⟨vi_exit hx, ?_⟩
    simp only [Nat.pow_zero, Nat.div_one] at he
    subst he; simp [cmpI]
  | j + 1, n + 1, hj, he, hn => by
    have e : (((j + 1 : Nat) : Int) - 1) = (j : Int) := by omega
    rw [e]
    obtain ⟨s1, s2, s3⟩ := cmp_step he
    rcases Int.lt_trichotomy (dg x j) (dg y j) with hd | hd | hd
    · right
      rw [vi_ret (h2 j (by omega) hd)]
      unfold cmpI; rw [if_pos (s2 hd)]
    · rw [vi_norm (h1 j (by omega) hd)]
      exact comp_l hx h1 h2 h3 j n (by omega) (s1 hd) (by omega)
    · right
      rw [vi_ret (h3 j (by omega) hd)]
      have := s3 hd
      unfold cmpI; rw [if_neg (by omega), if_neg (by omega)]
def compS (x y : Nat) (i : Int) : VE × VH := ([(0, some (.ints .i64 (D x))), (1, some (.ints .i64 (D y))), (5, some (.int .i64 i))], [])
def cmpS (x y : Nat) (i : Int) : VE × VH := ([(2, some (.ptr 0 0)), (3, some (.ptr 1 0)), (5, some (.int .i64 i))], [.vals true [.ints .i64 (D x)], .vals true [.ints .i64 (D y)]])
theorem l2cmp_v (d : Nat) (hx : (D x).length < 1000000) (hy : (D y).length < 1000000) :
    vrun Tryd.prog kn (d + 1) 139 [.agg [.ints .i64 (D x)], .agg [.ints .i64 (D y)]] [] = some (.int .i64 (cmpI x y), []) := by
  by_cases hlt : (D x).length = (D y).length
  · have hc := comp_l (x := x) (y := y) (body := vCode Tryd.prog kn (vrun Tryd.prog kn d) 139 (loopAt Tryd.f139 0)) (S := cmpS x y) (E := ([(2, some (.ptr 0 0)), (3, some (.ptr 1 0)), (5, some (.int .i64 (-1))), (25, some (.bool false))], [.vals true [.ints .i64 (D x)], .vals true [.ints .i64 (D y)]])) (R := fun v => ([(4, some (.int .i64 v))], []))
      (by rw [round_v]; simp only [loopAt, nthC, bodyC, loops, List.nil_append, List.cons_append, List.append_nil, Tryd.f139, cmpS]
          simp (disch := omega) [go_sem, tab139])
      (fun j hj he => by
          rw [round_v]; simp only [loopAt, nthC, bodyC, loops, List.nil_append, List.cons_append, List.append_nil, Tryd.f139, cmpS]
          simp (disch := omega) [go_sem, tab139, gt_D, he])
      (fun j hj he => by
          rw [round_v]; simp only [loopAt, nthC, bodyC, loops, List.nil_append, List.cons_append, List.append_nil, Tryd.f139, cmpS]
          simp (disch := omega) [go_sem, tab139, gt_D])
      (fun j hj he => by
          rw [round_v]; simp only [loopAt, nthC, bodyC, loops, List.nil_append, List.cons_append, List.append_nil, Tryd.f139, cmpS]
          simp (disch := omega) [go_sem, tab139, gt_D])
      (D x).length kn.cf.rounds (Nat.le_refl _) (by rw [div_len (Nat.le_refl _), hlt, div_len (Nat.le_refl _)]) (by rw [k_cf, c_rounds]; omega)
    rcases hc with ⟨hc, he⟩ | hc
    · have hl0 := fun ks => loop_v (P := Tryd.prog) (K := kn) (ks := ks) hc
      simp only [loopAt, nthC, bodyC, loops, List.nil_append, List.cons_append, List.append_nil, Tryd.f139, cmpS] at hl0
      rw [vrun_v Tryd.func139 rfl rfl rfl]; simp only [Tryd.f139]
      simp (disch := omega) [go_sem, tab139, hlt, he] at hl0 ⊢
      simp (disch := omega) [go_sem, tab139, hl0]
    · have hl0 := fun ks => loop_v (P := Tryd.prog) (K := kn) (ks := ks) hc
      simp only [loopAt, nthC, bodyC, loops, List.nil_append, List.cons_append, List.append_nil, Tryd.f139, cmpS] at hl0
      rw [vrun_v Tryd.func139 rfl rfl rfl]; simp only [Tryd.f139]
      simp (disch := omega) [go_sem, tab139, hlt] at hl0 ⊢
      simp (disch := omega) [go_sem, tab139, hl0]
  · rw [vrun_v Tryd.func139 rfl rfl rfl]; simp only [Tryd.f139]
    by_cases h1 : (D x).length < (D y).length
    · have : cmpI x y = -1 := by unfold cmpI; rw [if_pos (lt_of_len h1)]
      simp (disch := omega) [go_sem, tab139, this]
    · have h2 := lt_of_len (x := y) (y := x) (by omega)
      have : cmpI x y = 1 := by unfold cmpI; rw [if_neg (by omega), if_neg (by omega)]
      simp (disch := omega) [go_sem, tab139, this]
end
end
/- Numbers: times, l2add, l2sub, l2mul. No conditions. -/
section
open Num
section
variable {x y : Nat}
theorem add_go {x y j : Nat} (h : j < (D (x + y)).length) : j < (D x).length ∨ (¬ j < (D x).length ∧ j < (D y).length) ∨ (¬ j < (D x).length ∧ ¬ j < (D y).length ∧ 0 < carry x y j) := by
  by_cases h1 : j < (D x).length
  · exact .inl h1
  · by_cases h2 : j < (D y).length
    · exact .inr (.inl ⟨h1, h2⟩)
    · refine .inr (.inr ⟨h1, h2, ?_⟩)
      have hx : x < 65536 ^ j := len_D_le.1 (by omega)
      have hy : y < 65536 ^ j := len_D_le.1 (by omega)
      have hp : 65536 ^ j ≤ x + y := len_D_lt.1 h
      unfold carry
      rw [Nat.mod_eq_of_lt hx, Nat.mod_eq_of_lt hy]
      have := Nat.div_pos hp (powN_pos j)
      omega
theorem add_end (x y : Nat) : (D x).length ≤ (D (x + y)).length ∧ (D y).length ≤ (D (x + y)).length ∧ carry x y (D (x + y)).length = 0 := by
  refine ⟨len_mono (by omega), len_mono (by omega), ?_⟩
  have h := lt_len_D (x + y)
  unfold carry
  rw [Nat.mod_eq_of_lt (by omega), Nat.mod_eq_of_lt (by omega), Nat.div_eq_of_lt h]; rfl
def addS (x y j : Nat) : VE × VH := ([(2, some (.ptr 0 0)), (3, some (.ptr 1 0)), (4, some (.ptr 2 0)), (5, some (.sl 3 0 j 1)), (6, some (.int .i64 (carry x y j))), (7, some (.int .i64 j))], [.vals true [.ints .i64 (D x)], .vals true [.ints .i64 (D y)], .vals true [.nil], .ints true .i64 (dgs (x + y) j)])
theorem add_r (call : CallV) (hx : (D x).length < 1000000) (hy : (D y).length < 1000000) (j : Nat) (hj : j < (D (x + y)).length) :
    vCode Tryd.prog kn call 109 (loopAt Tryd.f109 0) (addS x y j).1 (addS x y j).2 = some (.norm, addS x y (j + 1)) := by
  have b1 := dg_bd x j
  have b2 := dg_bd y j
  have b3 := carry_bd x y j
  have hl := len_add (x := x) (y := y) (n := 1000000) (by omega) (by omega)
  rw [round_v]; simp only [loopAt, nthC, bodyC, loops, List.nil_append, List.cons_append, List.append_nil, Tryd.f109, addS, dgs_succ, carry_succ, dg_add]
  rcases add_go hj with h1 | ⟨h1, h2⟩ | ⟨h1, h2, h3⟩
  · by_cases h2 : j < (D y).length
    · simp (disch := omega) [go_sem, tab109, nil109, gt_D, dgs_len, dgs_take]
    · have e2 := dg_len (x := y) (i := j) (by omega)
      simp (disch := omega) [go_sem, tab109, nil109, gt_D, dgs_len, dgs_take, e2]
  · have e1 := dg_len (x := x) (i := j) (by omega)
    simp (disch := omega) [go_sem, tab109, nil109, gt_D, dgs_len, dgs_take, e1]
  · have e1 := dg_len (x := x) (i := j) (by omega)
    have e2 := dg_len (x := y) (i := j) (by omega)
    simp (disch := omega) [go_sem, tab109, nil109, gt_D, dgs_len, dgs_take, e1, e2]
theorem add_x (call : CallV) (hx : (D x).length < 1000000) (hy : (D y).length < 1000000) (hl : (D (x + y)).length < 1000002) :
    vCode Tryd.prog kn call 109 (loopAt Tryd.f109 0) (addS x y (D (x + y)).length).1 (addS x y (D (x + y)).length).2 = some (.exit 0, (addS x y (D (x + y)).length).1 ++ [(24, some (.bool false))], (addS x y (D (x + y)).length).2) := by
  obtain ⟨h1, h2, h3⟩ := add_end x y
  rw [round_v]; simp only [loopAt, nthC, bodyC, loops, List.nil_append, List.cons_append, List.append_nil, Tryd.f109, addS, h3]
  simp (disch := omega) [go_sem, tab109, nil109, dgs_len]
theorem l2add_v (d : Nat) (hx : (D x).length < 1000000) (hy : (D y).length < 1000000) :
    vrun Tryd.prog kn (d + 2) 109 [.agg [.ints .i64 (D x)], .agg [.ints .i64 (D y)]] [] = some (.agg [.ints .i64 (D (x + y))], []) := by
  have hl : (D (x + y)).length < 1000002 := by
    have := len_add (x := x) (y := y) (n := 1000000) (by omega) (by omega); omega
  have hl0 := fun ks => loop_v (P := Tryd.prog) (K := kn) (ks := ks) (vi_for (addS x y) (D (x + y)).length (by rw [k_cf, c_rounds]; omega) (add_r (vrun Tryd.prog kn (d + 1)) hx hy) fun m => vi_exit (add_x _ hx hy hl))
  simp only [loopAt, nthC, bodyC, loops, List.nil_append, List.cons_append, List.append_nil, Tryd.f109, addS, dgs, carry_zero, Int.natCast_zero] at hl0
  have hn := l2norm_v d (l := D (x + y)) (v := x + y) (by omega) (good_D _) (val_D _)
  rw [vrun_v Tryd.func109 rfl rfl rfl]; simp only [Tryd.f109]
  simp (disch := omega) [go_sem, tab109, nil109, hl0, dgs_len, dgs_D, hn]
def subS (x y j : Nat) : VE × VH := ([(2, some (.ptr 0 0)), (3, some (.ptr 1 0)), (4, some (.ptr 2 0)), (5, some (.sl 3 0 j 1)), (6, some (.int .i64 (borrow x y j))), (7, some (.int .i64 j))], [.vals true [.ints .i64 (D x)], .vals true [.ints .i64 (D y)], .vals true [.nil], .ints true .i64 (dgs (x - y) j)])
end
section
variable {x y : Nat}
/-- A row of a product. -/
theorem mul_in {body : VE → VH → Option (AX × VE × VH)} {S : List Int → Int → Nat → VE × VH} {E : List Int → Int → VE × VH} {ex i N : Nat}
    (hs : ∀ (out : List Int) (c : Int) (j : Nat), j < (D y).length → out.length = N → 0 ≤ c → c < 65536 → 0 ≤ gt out (i + j) → gt out (i + j) < 65536 → 0 ≤ dg x i * dg y j → dg x i * dg y j ≤ 4294836225 →
      body (S out c j).1 (S out c j).2 = some (.norm, S (out.set (i + j) ((c + (gt out (i + j) + dg x i * dg y j)) % 65536)) ((c + (gt out (i + j) + dg x i * dg y j)) / 65536) (j + 1)))
    (hx : ∀ (out : List Int) (c : Int), out.length = N → body (S out c (D y).length).1 (S out c (D y).length).2 = some (.exit ex, E out c)) (hN : i + (D y).length < N) (v0 : Int) (d : Nat) :
    ∀ (j n : Nat) (out : List Int) (c : Int), j + d = (D y).length → d < n → GoodL out → out.length = N → 0 ≤ c → c < 65536 → out.getD (i + (D y).length) 0 = 0 →
      val out + 65536 ^ i * 65536 ^ j * c = v0 + 65536 ^ i * dg x i * lo y j →
    ∃ out' c', viter body n (S out c j).1 (S out c j).2 = some (.exit ex, E out' c') ∧ out'.length = N ∧ gt out' (i + (D y).length) = 0 ∧ 0 ≤ c' ∧ c' < 65536 ∧ GoodL (out'.set (i + (D y).length) c') ∧ val (out'.set (i + (D y).length) c') = v0 + 65536 ^ i * dg x i * y := by
  induction d with
  | zero =>
    intro j n out c hj hn hg hl h0 h1 hz hv
    obtain ⟨n, rfl⟩ : ∃ m, n = m + 1 := ⟨n - 1, by omega⟩
    obtain rfl : j = (D y).length := by omega
    refine ⟨out, c, vi_exit (hx out c hl), hl, hz, h0, h1, hg.set _ h0 h1, ?_⟩
    rw [val_set (by omega), hz, Int.pow_add]
    rw [lo_len (by omega)] at hv
    grind
  | succ d ih =>
    intro j n out c hj hn hg hl h0 h1 hz hv
    obtain ⟨n, rfl⟩ : ∃ m, n = m + 1 := ⟨n - 1, by omega⟩
    have b1 := dg_bd x i
    have b2 := dg_bd y j
    have e2 := lo_succ y j
    have bm := mul_bd b1 b2
    have bo := hg.getD (i + j)
    have bo0 : 0 ≤ gt out (i + j) := bo.1
    have bo1 : gt out (i + j) < 65536 := bo.2
    rw [vi_norm (hs out c j (by omega) hl h0 h1 bo0 bo1 bm.1 bm.2)]
    exact ih (j + 1) n (out.set (i + j) ((c + (gt out (i + j) + dg x i * dg y j)) % 65536)) ((c + (gt out (i + j) + dg x i * dg y j)) / 65536) (by omega) (by omega) (hg.set _ (by omega) (by omega)) (by rw [List.length_set]; exact hl) (by omega) (by omega) (by rw [getD_set_ne_ (by omega)]; exact hz) (by
      rw [e2, Int.pow_succ]
      refine step_mul hv rfl ?_
      rw [val_set (by omega), Int.pow_add]; rfl)
theorem row_zero {x y i : Nat} {out : List Int} (hg : GoodL out) (hv : val out = lo x i * y) : out.getD (i + (D y).length) 0 = 0 := by
  refine getD_zero_of_lt hg ?_
  rw [hv, Int.pow_add]
  have h1 := lo_lt x i
  have h2 : (y : Int) < 65536 ^ (D y).length := by rw [← pow_cast]; exact Int.ofNat_lt.2 (lt_len_D y)
  have h3 := lo_nonneg x i
  have h4 := pow_pos' i
  exact Int.lt_of_le_of_lt (Int.mul_le_mul_of_nonneg_right (Int.le_of_lt h1) (by omega)) (Int.mul_lt_mul_of_pos_left h2 h4)
theorem mul_out {body : VE → VH → Option (AX × VE × VH)} {S : List Int → Nat → VE × VH} {E : List Int → VE × VH} {ex N : Nat}
    (hs : ∀ (out : List Int) (j : Nat), j < (D x).length → GoodL out → out.length = N → val out = lo x j * y → ∃ out', body (S out j).1 (S out j).2 = some (.norm, S out' (j + 1)) ∧ GoodL out' ∧ out'.length = N ∧ val out' = lo x (j + 1) * y)
    (hx : ∀ (out : List Int), out.length = N → body (S out (D x).length).1 (S out (D x).length).2 = some (.exit ex, E out)) (d : Nat) :
    ∀ (j n : Nat) (out : List Int), j + d = (D x).length → d < n → GoodL out → out.length = N → val out = lo x j * y →
    ∃ out', viter body n (S out j).1 (S out j).2 = some (.exit ex, E out') ∧ GoodL out' ∧ out'.length = N ∧ val out' = ((x * y : Nat) : Int) := by
  induction d with
  | zero =>
    intro j n out hj hn hg hl hv
    obtain ⟨n, rfl⟩ : ∃ m, n = m + 1 := ⟨n - 1, by omega⟩
    obtain rfl : j = (D x).length := by omega
    exact ⟨out, vi_exit (hx out hl), hg, hl, by rw [hv, lo_len (by omega), ← Int.natCast_mul]⟩
  | succ d ih =>
    intro j n out hj hn hg hl hv
    obtain ⟨n, rfl⟩ : ∃ m, n = m + 1 := ⟨n - 1, by omega⟩
    obtain ⟨out', hr, hg', hl', hv'⟩ := hs out j (by omega) hg hl hv
    rw [vi_norm hr]
    exact ih (j + 1) n out' (by omega) (by omega) hg' hl' hv'
def timesI (x y i : Nat) (out : List Int) (c : Int) (j : Nat) : VE × VH := ([(1, some (.ints .i64 (D y))), (5, some (.sl 0 0 ((D x).length + (D y).length) 1)), (6, some (.int .i64 i)), (7, some (.int .i64 (dg x i))), (8, some (.int .i64 c)), (17, some (.ints .i64 (D x))), (18, some (.int .i64 (D x).length)), (19, some (.int .i64 i)), (24, some (.ints .i64 (D y))), (25, some (.int .i64 (D y).length)), (26, some (.int .i64 j))], [.ints true .i64 out])
def timesS (x y : Nat) (out : List Int) (j : Nat) : VE × VH := ([(1, some (.ints .i64 (D y))), (5, some (.sl 0 0 ((D x).length + (D y).length) 1)), (17, some (.ints .i64 (D x))), (18, some (.int .i64 (D x).length)), (19, some (.int .i64 j))], [.ints true .i64 out])
theorem times_v (d : Nat) (hx : (D x).length < 1000000) (hy : (D y).length < 1000000) :
    vrun Tryd.prog kn (d + 2) 118 [.ints .i64 (D x), .ints .i64 (D y)] [] = some (.sl 0 0 (D (x * y)).length 1, [.ints true .i64 (D (x * y))]) := by
  obtain ⟨out, hl, hg, hol, hv⟩ := mul_out (x := x) (y := y) (N := (D x).length + (D y).length) (ex := 0) (S := timesS x y) (E := fun out => ((timesS x y out (D x).length).1 ++ [(20, some (.bool false))], [.ints true .i64 out])) (body := vCode Tryd.prog kn (vrun Tryd.prog kn (d + 1)) 118 (loopAt Tryd.f118 0))
    (fun out i hi hg hol hv => by
      obtain ⟨out', c', hl, hol', hz', hc0, hc1, hg', hv'⟩ := mul_in (x := x) (y := y) (i := i) (ex := 2) (N := (D x).length + (D y).length) (S := timesI x y i) (E := fun out c => ((timesI x y i out c (D y).length).1 ++ [(27, some (.bool false))], [.ints true .i64 out])) (body := vCode Tryd.prog kn (vrun Tryd.prog kn (d + 1)) 118 (loopAt Tryd.f118 1))
        (fun out c j hj hol h0 h1 o0 o1 p0 p1 => by
          rw [round_v]; simp only [loopAt, nthC, bodyC, loops, List.nil_append, List.cons_append, List.append_nil, Tryd.f118, timesI]
          have e : ((i : Int) + (j : Int)).toNat = i + j := by omega
          simp (disch := omega) [go_sem, tab118, nil118, gt_D, hol, e])
        (fun out c hol => by
          rw [round_v]; simp only [loopAt, nthC, bodyC, loops, List.nil_append, List.cons_append, List.append_nil, Tryd.f118, timesI]
          simp (disch := omega) [go_sem, tab118, nil118, hol])
        (by omega) (lo x i * y) (D y).length 0 kn.cf.rounds out 0 (by omega) (by rw [k_cf, c_rounds]; omega) hg hol (by omega) (by omega) (row_zero hg hv) (by rw [lo_zero, hv]; grind)
      have hl0 := fun ks => loop_v (P := Tryd.prog) (K := kn) (ks := ks) hl
      simp only [loopAt, nthC, bodyC, loops, List.nil_append, List.cons_append, List.append_nil, Tryd.f118, timesI, Int.natCast_zero, List.cons_append, List.nil_append] at hl0
      refine ⟨_, ?_, hg', by rw [List.length_set]; exact hol', by rw [hv', lo_succ]; grind⟩
      rw [round_v]; simp only [loopAt, nthC, bodyC, loops, List.nil_append, List.cons_append, List.append_nil, Tryd.f118, timesS]
      have e : ((i : Int) + ((D y).length : Int)).toNat = i + (D y).length := by omega
      simp (disch := omega) [go_sem, tab118, nil118, gt_D, hl0, hol, hol', e])
    (fun out hol => by
      rw [round_v]; simp only [loopAt, nthC, bodyC, loops, List.nil_append, List.cons_append, List.append_nil, Tryd.f118, timesS]
      simp (disch := omega) [go_sem, tab118, nil118, hol])
    (D x).length 0 kn.cf.rounds (List.replicate ((D x).length + (D y).length) 0) (by omega) (by rw [k_cf, c_rounds]; omega) (GoodL.zeros _) (by simp) (by rw [val_zeros, lo_zero]; simp)
  have hl0 := fun ks => loop_v (P := Tryd.prog) (K := kn) (ks := ks) hl
  simp only [loopAt, nthC, bodyC, loops, List.nil_append, List.cons_append, List.append_nil, Tryd.f118, timesS, Int.natCast_zero, List.cons_append, List.nil_append] at hl0
  have ht := trim0_v d (l := out) (n := (D x).length + (D y).length) (v := x * y) (by omega) (by omega) hg hv
  obtain ⟨-, htk, hle⟩ := tl_D hg (l := out) (v := x * y) hv
  have e : ((D x).length + (D y).length : Int).toNat = (D x).length + (D y).length := by omega
  rw [vrun_v Tryd.func118 rfl rfl rfl]; simp only [Tryd.f118]
  simp (disch := omega) [go_sem, tab118, nil118, hl0, ht, htk, hol, e]
def mulI (x y i : Nat) (out : List Int) (c : Int) (j : Nat) : VE × VH := ([(2, some (.ptr 0 0)), (3, some (.ptr 1 0)), (4, some (.ptr 2 0)), (5, some (.sl 3 0 ((D x).length + (D y).length) 1)), (6, some (.int .i64 i)), (7, some (.int .i64 c)), (8, some (.int .i64 j))], [.vals true [.ints .i64 (D x)], .vals true [.ints .i64 (D y)], .vals true [.nil], .ints true .i64 out])
def mulS (x y : Nat) (out : List Int) (j : Nat) : VE × VH := ([(2, some (.ptr 0 0)), (3, some (.ptr 1 0)), (4, some (.ptr 2 0)), (5, some (.sl 3 0 ((D x).length + (D y).length) 1)), (6, some (.int .i64 j))], [.vals true [.ints .i64 (D x)], .vals true [.ints .i64 (D y)], .vals true [.nil], .ints true .i64 out])
theorem l2mul_v (d : Nat) (hx : (D x).length < 1000000) (hy : (D y).length < 1000000) :
    vrun Tryd.prog kn (d + 2) 126 [.agg [.ints .i64 (D x)], .agg [.ints .i64 (D y)]] [] = some (.agg [.ints .i64 (D (x * y))], []) := by
  obtain ⟨out, hl, hg, hol, hv⟩ := mul_out (x := x) (y := y) (N := (D x).length + (D y).length) (ex := 0) (S := mulS x y) (E := fun out => ((mulS x y out (D x).length).1 ++ [(22, some (.bool false))], (mulS x y out 0).2)) (body := vCode Tryd.prog kn (vrun Tryd.prog kn (d + 1)) 126 (loopAt Tryd.f126 0))
    (fun out i hi hg hol hv => by
      obtain ⟨out', c', hl, hol', hz', hc0, hc1, hg', hv'⟩ := mul_in (x := x) (y := y) (i := i) (ex := 2) (N := (D x).length + (D y).length) (S := mulI x y i) (E := fun out c => ((mulI x y i out c (D y).length).1 ++ [(29, some (.bool false))], (mulI x y i out c 0).2)) (body := vCode Tryd.prog kn (vrun Tryd.prog kn (d + 1)) 126 (loopAt Tryd.f126 1))
        (fun out c j hj hol h0 h1 o0 o1 p0 p1 => by
          rw [round_v]; simp only [loopAt, nthC, bodyC, loops, List.nil_append, List.cons_append, List.append_nil, Tryd.f126, mulI]
          have e : ((i : Int) + (j : Int)).toNat = i + j := by omega
          have e3 : gt out (i + j) + dg x i * dg y j + c = c + (gt out (i + j) + dg x i * dg y j) := by omega
          simp (disch := omega) [go_sem, tab126, gt_D, hol, e, e3])
        (fun out c hol => by
          rw [round_v]; simp only [loopAt, nthC, bodyC, loops, List.nil_append, List.cons_append, List.append_nil, Tryd.f126, mulI]
          simp (disch := omega) [go_sem, tab126, hol])
        (by omega) (lo x i * y) (D y).length 0 kn.cf.rounds out 0 (by omega) (by rw [k_cf, c_rounds]; omega) hg hol (by omega) (by omega) (row_zero hg hv) (by rw [lo_zero, hv]; grind)
      have hl0 := fun ks => loop_v (P := Tryd.prog) (K := kn) (ks := ks) hl
      simp only [loopAt, nthC, bodyC, loops, List.nil_append, List.cons_append, List.append_nil, Tryd.f126, mulI, Int.natCast_zero, List.cons_append, List.nil_append] at hl0
      refine ⟨_, ?_, hg', by rw [List.length_set]; exact hol', by rw [hv', lo_succ]; grind⟩
      rw [round_v]; simp only [loopAt, nthC, bodyC, loops, List.nil_append, List.cons_append, List.append_nil, Tryd.f126, mulS]
      have e : ((i : Int) + ((D y).length : Int)).toNat = i + (D y).length := by omega
      simp (disch := omega) [go_sem, tab126, gt_D, hl0, hol, hol', e, hz'])
    (fun out hol => by
      rw [round_v]; simp only [loopAt, nthC, bodyC, loops, List.nil_append, List.cons_append, List.append_nil, Tryd.f126, mulS]
      simp (disch := omega) [go_sem, tab126, hol])
    (D x).length 0 kn.cf.rounds (List.replicate ((D x).length + (D y).length) 0) (by omega) (by rw [k_cf, c_rounds]; omega) (GoodL.zeros _) (by simp) (by rw [val_zeros, lo_zero]; simp)
  have hl0 := fun ks => loop_v (P := Tryd.prog) (K := kn) (ks := ks) hl
  simp only [loopAt, nthC, bodyC, loops, List.nil_append, List.cons_append, List.append_nil, Tryd.f126, mulS, Int.natCast_zero, List.cons_append, List.nil_append] at hl0
  have hn := l2norm_v d (l := out) (v := x * y) (by omega) hg hv
  have e : ((D x).length + (D y).length : Int).toNat = (D x).length + (D y).length := by omega
  have htk : out.take ((D x).length + (D y).length) = out := List.take_of_length_le (by omega)
  rw [vrun_v Tryd.func126 rfl rfl rfl]; simp only [Tryd.f126]
  simp (disch := omega) [go_sem, tab126, hl0, hn, hol, e, htk]
end
end
/- Numbers: up, down, bits, and the reference's l2small, l2shl, l2shr, l2bit, l2trail. No conditions. -/
section
open Num
theorem b_and1 (P : Program) (t : TypeId) (a : Int) (h0 : 0 ≤ a) (h1 : a < 9223372036854775808) : binE P .and t (.int .i64 a) (.int .i64 1) = some (.int .i64 (a % 2)) := by
  rw [b_and]
  have : (BitVec.ofInt 64 a &&& BitVec.ofInt 64 1).toNat = (a % 2).toNat := by
    rw [BitVec.toNat_and, BitVec.toNat_ofInt, show (BitVec.ofInt 64 1).toNat = 1 from rfl, Nat.and_one_is_mod]
    omega
  have h2 : IntKind.wrap .i64 (((BitVec.ofInt 64 a &&& BitVec.ofInt 64 1).toNat : Nat) : Int) = a % 2 := by
    rw [this, w64 (by omega) (by omega)]; omega
  exact congrArg (fun q => some (CV.int .i64 q)) h2
section
def upS (x m s : Nat) (k : Int) (j : Nat) : VE × VH := ([(1, some (.int .i64 k)), (5, some (.sl 0 0 (s + j) 1)), (6, some (.int .i64 (mcar x m j))), (21, some (.ints .i64 (D x))), (22, some (.int .i64 (D x).length)), (23, some (.int .i64 j))], [.ints true .i64 (List.replicate s 0 ++ dgs (x * m) j)])
theorem shl_m (k : Nat) : (2 : Int) ^ ((k : Int) % 16).toNat = ((2 ^ (k % 16) : Nat) : Int) := by
  rw [show ((k : Int) % 16).toNat = k % 16 by omega, Int.natCast_pow]; rfl
theorem mulm_bd {a : Int} {m : Nat} (h0 : 0 ≤ a) (h1 : a < 65536) (hm : m ≤ 32768) : 0 ≤ a * m ∧ a * m ≤ 2147450880 := by
  refine ⟨Int.mul_nonneg h0 (by omega), ?_⟩
  have : a * m ≤ 65535 * 32768 := Int.mul_le_mul (by omega) (by omega) (by omega) (by omega)
  omega
variable {x k : Nat}
end
end
/- Numbers: down, and the reference's l2small, l2shl, l2shr. No conditions. -/
section
open Num
theorem fdiv_m (a : Int) (m : Nat) : a.fdiv (m : Int) = a / m := Int.fdiv_eq_ediv_of_nonneg _ (by omega)
section
variable {x k : Nat}
def downS (z m : Nat) (k : Int) (j : Nat) : VE × VH := ([(1, some (.int .i64 k)), (5, some (.ints .i64 (D z))), (6, some (.sl 0 0 j 1)), (21, some (.ints .i64 (D z))), (22, some (.int .i64 (D z).length)), (23, some (.int .i64 j))], [.ints true .i64 (dgs (z / m) j)])
theorem down_r (call : CallV) {z : Nat} (hx : (D z).length < 1000000) (j : Nat) (hj : j < (D z).length) :
    vCode Tryd.prog kn call 104 (loopAt Tryd.f104 0) (downS z (2 ^ (k % 16)) k j).1 (downS z (2 ^ (k % 16)) k j).2 = some (.norm, downS z (2 ^ (k % 16)) k (j + 1)) := by
  have b1 := dg_bd z j
  have b2 := dg_bd z (j + 1)
  have e := shl_m k
  rw [round_v]; simp only [loopAt, nthC, bodyC, loops, List.nil_append, List.cons_append, List.append_nil, Tryd.f104, downS, dgs_succ, dg_shr z (k % 16) j (by omega)]
  generalize 2 ^ (k % 16) = m at *
  have e2 : ((j : Int) + 1).toNat = j + 1 := by omega
  have b3 : 0 ≤ (dg z j + dg z (j + 1) * 65536) / (m : Int) := Int.ediv_nonneg (by omega) (by omega)
  by_cases h1 : j + 1 < (D z).length
  · simp (disch := omega) [go_sem, tab104, nil104, gt_D, e, e2, fdiv_m, dgs_len, dgs_take]
  · have h2 := dg_len (x := z) (i := j + 1) (by omega)
    rw [h2] at b3 ⊢
    simp only [Int.zero_mul, Int.add_zero] at b3 ⊢
    simp (disch := omega) [go_sem, tab104, nil104, gt_D, e, fdiv_m, dgs_len, dgs_take]
theorem down_x (call : CallV) {z m : Nat} (hx : (D z).length < 1000000) (c : Int) :
    vCode Tryd.prog kn call 104 (loopAt Tryd.f104 0) (downS z m c (D z).length).1 (downS z m c (D z).length).2 = some (.exit 0, (downS z m c (D z).length).1 ++ [(24, some (.bool false))], (downS z m c (D z).length).2) := by
  rw [round_v]; simp only [loopAt, nthC, bodyC, loops, List.nil_append, List.cons_append, List.append_nil, Tryd.f104, downS]
  simp (disch := omega) [go_sem, tab104, nil104]
theorem cut_D (x k : Nat) (h : k / 16 < (D x).length) : ((D x).drop ((k : Int) / 16).toNat).take (((D x).length : Int) - (k : Int) / 16).toNat = D (x / 65536 ^ (k / 16)) := by
  rw [show ((k : Int) / 16).toNat = k / 16 by omega, D_drop, List.take_of_length_le]
  rw [← D_drop, List.length_drop]; omega
theorem down_v (d : Nat) (hx : (D x).length < 1000000) (hk : k < 1000000) :
    vrun Tryd.prog kn (d + 2) 104 [.ints .i64 (D x), .int .i64 (k : Int)] [] = some (.sl 0 0 (D (x / 2 ^ k)).length 1, [.ints true .i64 (D (x / 2 ^ k))]) := by
  by_cases h0 : (D x).length ≤ k / 16
  · have e0 : x / 2 ^ k = 0 := Nat.div_eq_of_lt (Nat.lt_of_lt_of_le (len_D_le.1 h0) (by rw [pow_split k]; exact Nat.le_mul_of_pos_right _ (Nat.two_pow_pos _)))
    rw [e0]
    rw [vrun_v Tryd.func104 rfl rfl rfl]; simp only [Tryd.f104]
    simp (disch := omega) [go_sem, tab104, nil104, D_zero]
  · have hz : (D (x / 65536 ^ (k / 16))).length < 1000000 := by have := len_mono (Nat.div_le_self x (65536 ^ (k / 16))); omega
    have hl0 := fun ks => loop_v (P := Tryd.prog) (K := kn) (ks := ks) (vi_for (downS (x / 65536 ^ (k / 16)) (2 ^ (k % 16)) k) (D (x / 65536 ^ (k / 16))).length (by rw [k_cf, c_rounds]; omega) (down_r (vrun Tryd.prog kn (d + 1)) hz) fun m => vi_exit (down_x _ hz _))
    simp only [loopAt, nthC, bodyC, loops, List.nil_append, List.cons_append, List.append_nil, Tryd.f104, downS, dgs, Int.natCast_zero, List.cons_append, List.nil_append] at hl0
    have ec := cut_D x k (by omega)
    have ev : x / 2 ^ k = x / 65536 ^ (k / 16) / 2 ^ (k % 16) := by rw [Nat.div_div_eq_div_mul, ← pow_split]
    rw [ev]
    have hlen : ((D x).length : Int) - (k : Int) / 16 = ((D (x / 65536 ^ (k / 16))).length : Nat) := by rw [← D_drop, List.length_drop]; omega
    generalize x / 65536 ^ (k / 16) = z at *
    have c2 : z / 2 ^ (k % 16) < 65536 ^ (D z).length := Nat.lt_of_le_of_lt (Nat.div_le_self _ _) (lt_len_D z)
    have ht := trim0_v d (l := dgs (z / 2 ^ (k % 16)) (D z).length) (n := (D z).length) (v := z / 2 ^ (k % 16)) (by rw [dgs_len]; omega) (by rw [dgs_len]) (dgs_good _ _) (by rw [dgs_val, lo_len (lt_pow_len c2)])
    have ht2 := (dgs_tl c2).2
    rw [vrun_v Tryd.func104 rfl rfl rfl]; simp only [Tryd.f104]
    simp (disch := omega) [go_sem, tab104, nil104, ec, hl0, dgs_len, ht, ht2]
end
section
def hi (q n i : Nat) : List Int := List.replicate i 0 ++ (dgs q n).drop i
theorem hi_len {q n i : Nat} (h : i ≤ n) : (hi q n i).length = n := by unfold hi; rw [List.length_append, List.length_replicate, List.length_drop, dgs_len]; omega
theorem gt_dgs : ∀ {q n i : Nat}, i < n → gt (dgs q n) i = dg q i
  | q, n + 1, i, h => by
    rw [dgs_succ]
    by_cases h1 : i < n
    · rw [gt_app_lt (by rw [dgs_len]; exact h1)]; exact gt_dgs h1
    · obtain rfl : i = n := by omega
      have := gt_snoc (dgs q i) (dg q i)
      rwa [dgs_len] at this
theorem hi_set {q n i : Nat} (h : i < n) : (hi q n (i + 1)).set i (dg q i) = hi q n i := by
  unfold hi
  have e : (dgs q n).drop i = dg q i :: (dgs q n).drop (i + 1) := by
    rw [List.drop_eq_getElem_cons (by rw [dgs_len]; exact h), gt_get, gt_dgs h]
  rw [e, List.replicate_succ', List.append_assoc, List.set_append_right _ _ (by simp)]
  simp
variable {z m : Nat}
def smS (z m : Nat) (i : Nat) : VE × VH := ([(1, some (.int .i64 m)), (2, some (.ptr 0 0)), (4, some (.ptr 1 0)), (6, some (.sl 2 0 (D z).length 1)), (7, some (.int .i64 ((z / 65536 ^ i % m : Nat) : Int))), (8, some (.int .i64 ((i : Int) - 1)))], [.vals true [.ints .i64 (D z)], .vals true [.nil], .ints true .i64 (hi (z / m) (D z).length i)])
theorem sm_r (call : CallV) (hm : 0 < m) (hm2 : m ≤ 65536) (hx : (D z).length < 1000000) (i : Nat) (hi' : i < (D z).length) :
    vCode Tryd.prog kn call 123 (loopAt Tryd.f123 0) (smS z m (i + 1)).1 (smS z m (i + 1)).2 = some (.norm, smS z m i) := by
  have b1 := dg_bd z i
  obtain ⟨e1, e2⟩ := divs_nat (x := z) (j := i) (d := m) hm
  have b3 := Nat.mod_lt (z / 65536 ^ (i + 1)) hm
  have b4 := divs_lt (d := m) b3 (Nat.mod_lt (z / 65536 ^ i) (by omega : 0 < 65536))
  have hd : dg (z / m) i = (((z / 65536 ^ (i + 1) % m * 65536 + z / 65536 ^ i % 65536) / m : Nat) : Int) := by
    unfold dg
    rw [Nat.div_div_eq_div_mul, Nat.mul_comm, ← Nat.div_div_eq_div_mul, e1, Nat.mul_add_mod, Nat.mod_eq_of_lt b4]
  have hq : (((z / 65536 ^ (i + 1) % m : Nat) : Int) * 65536 + dg z i) / (m : Int) = dg (z / m) i := by
    rw [hd, Int.natCast_ediv, Int.natCast_add, Int.natCast_mul]; rfl
  have hr : (((z / 65536 ^ (i + 1) % m : Nat) : Int) * 65536 + dg z i) % (m : Int) = ((z / 65536 ^ i % m : Nat) : Int) := by
    rw [e2]
    refine Eq.trans ?_ (Int.natCast_emod _ _).symm
    congr 1
  rw [round_v]; simp only [loopAt, nthC, bodyC, loops, List.nil_append, List.cons_append, List.append_nil, Tryd.f123, smS, ← hi_set hi']
  have e0 : (((i + 1 : Nat) : Int) - 1) = i := by omega
  have hl := hi_len (q := z / m) (n := (D z).length) (i := i + 1) (by omega)
  have b5 := dg_bd (z / m) i
  generalize hr0 : ((z / 65536 ^ (i + 1) % m : Nat) : Int) = r at *
  have b6 : 0 ≤ r := by rw [← hr0]; exact Int.natCast_nonneg _
  have b7 : r < m := by rw [← hr0]; exact Int.ofNat_lt.2 b3
  rw [e0]
  generalize hi (z / m) (D z).length (i + 1) = H at *
  generalize dg (z / m) i = q at *
  simp (disch := omega) [go_sem, tab123, gt_D, hl, hq, hr]
theorem sm_x (call : CallV) :
    vCode Tryd.prog kn call 123 (loopAt Tryd.f123 0) (smS z m 0).1 (smS z m 0).2 = some (.exit 0, (smS z m 0).1 ++ [(19, some (.bool false))], (smS z m 0).2) := by
  rw [round_v]; simp only [loopAt, nthC, bodyC, loops, List.nil_append, List.cons_append, List.append_nil, Tryd.f123, smS]
  simp (disch := omega) [go_sem, tab123]
theorem l2small_v (d : Nat) (hm : 0 < m) (hm2 : m ≤ 65536) (hx : (D z).length < 1000000) :
    vrun Tryd.prog kn (d + 2) 123 [.agg [.ints .i64 (D z)], .int .i64 (m : Int)] [] = some (.tup [.agg [.ints .i64 (D (z / m))], .int .i64 ((z % m : Nat) : Int)], []) := by
  have key : ∀ i n, i ≤ (D z).length → i < n → viter (vCode Tryd.prog kn (vrun Tryd.prog kn (d + 1)) 123 (loopAt Tryd.f123 0)) n (smS z m i).1 (smS z m i).2 = some (.exit 0, (smS z m 0).1 ++ [(19, some (.bool false))], (smS z m 0).2) := by
    intro i
    induction i with
    | zero => intro n _ hn; obtain ⟨n, rfl⟩ : ∃ q, n = q + 1 := ⟨n - 1, by omega⟩; exact vi_exit (sm_x _)
    | succ i ih => intro n h1 hn; obtain ⟨n, rfl⟩ : ∃ q, n = q + 1 := ⟨n - 1, by omega⟩; rw [vi_norm (sm_r _ hm hm2 hx i (by omega))]; exact ih n (by omega) (by omega)
  have hl0 := fun ks => loop_v (P := Tryd.prog) (K := kn) (ks := ks) (key (D z).length kn.cf.rounds (Nat.le_refl _) (by rw [k_cf, c_rounds]; omega))
  have h0 : hi (z / m) (D z).length (D z).length = List.replicate (D z).length 0 := by unfold hi; rw [List.drop_eq_nil_of_le (by rw [dgs_len]; omega), List.append_nil]
  have h1 : hi (z / m) (D z).length 0 = dgs (z / m) (D z).length := by unfold hi; rw [List.replicate_zero, List.nil_append, List.drop_zero]
  simp only [loopAt, nthC, bodyC, loops, List.nil_append, List.cons_append, List.append_nil, Tryd.f123, smS, h0, h1, quo_end, Nat.zero_mod, Nat.pow_zero, Nat.div_one, Int.natCast_zero, List.cons_append, List.nil_append] at hl0
  have c2 : z / m < 65536 ^ (D z).length := Nat.lt_of_le_of_lt (Nat.div_le_self _ _) (lt_len_D z)
  have hn := l2norm_v d (l := dgs (z / m) (D z).length) (v := z / m) (by rw [dgs_len]; omega) (dgs_good _ _) (by rw [dgs_val, lo_len (lt_pow_len c2)])
  rw [vrun_v Tryd.func123 rfl rfl rfl]; simp only [Tryd.f123]
  simp (disch := omega) [go_sem, tab123, hl0, dgs_len, dgs_take, hn]
end
section
variable {x k : Nat}
theorem l2shl_v (d : Nat) (hx : (D x).length < 400000) (hk : k < 1000000) :
    vrun Tryd.prog kn (d + 3) 138 [.agg [.ints .i64 (D x)], .int .i64 (k : Int)] [] = some (.agg [.ints .i64 (D (x * 2 ^ k))], []) := by
  by_cases h0 : x = 0
  · subst h0
    rw [vrun_v Tryd.func138 rfl rfl rfl]; simp only [Tryd.f138]
    simp (disch := omega) [go_sem, tab138, D_zero]
  · have hm := pow16_le k
    have h1 := l2of_v (d + (2 - 1)) (n := 2 ^ (k % 16)) (by omega)
    have hs := D_shift h0 (k / 16)
    have hlen : (D (x * 65536 ^ (k / 16))).length = k / 16 + (D x).length := by rw [← hs, List.length_append, List.length_replicate]
    have hl2 : (D (2 ^ (k % 16))).length ≤ 1 := len_small (by omega)
    have h2 := l2mul_v d (x := x * 65536 ^ (k / 16)) (y := 2 ^ (k % 16)) (by omega) (by omega)
    have ev : x * 2 ^ k = x * 65536 ^ (k / 16) * 2 ^ (k % 16) := by rw [Nat.mul_assoc, ← pow_split]
    rw [ev]
    have hne : ¬ D x = [] := fun e => h0 (D_nil_iff.1 e)
    have e := shl_m k
    have e1 : ((k : Int) / 16).toNat = k / 16 := by omega
    have hz : (List.replicate (k / 16) (0 : Int)).length = k / 16 := List.length_replicate
    rw [vrun_v Tryd.func138 rfl rfl rfl]; simp only [Tryd.f138]
    generalize 2 ^ (k % 16) = m at *
    generalize hZ : List.replicate (k / 16) (0 : Int) = Z at *
    simp (disch := omega) [go_sem, tab138, hne, e, e1, hZ, hz, hs, h1, h2, hlen]
theorem l2shr_v (d : Nat) (hx : (D x).length < 1000000) (hk : k < 1000000) :
    vrun Tryd.prog kn (d + 3) 108 [.agg [.ints .i64 (D x)], .int .i64 (k : Int)] [] = some (.agg [.ints .i64 (D (x / 2 ^ k))], []) := by
  by_cases h0 : (D x).length ≤ k / 16
  · have e0 : x / 2 ^ k = 0 := Nat.div_eq_of_lt (Nat.lt_of_lt_of_le (len_D_le.1 h0) (by rw [pow_split k]; exact Nat.le_mul_of_pos_right _ (Nat.two_pow_pos _)))
    rw [e0]
    rw [vrun_v Tryd.func108 rfl rfl rfl]; simp only [Tryd.f108]
    simp (disch := omega) [go_sem, tab108, D_zero]
  · have hm := pow16_le k
    have hz : (D (x / 65536 ^ (k / 16))).length < 1000000 := by have := len_mono (Nat.div_le_self x (65536 ^ (k / 16))); omega
    have h1 := l2small_v d (z := x / 65536 ^ (k / 16)) (m := 2 ^ (k % 16)) (Nat.two_pow_pos _) (by omega) hz
    have ec := cut_D x k (by omega)
    have ev : x / 2 ^ k = x / 65536 ^ (k / 16) / 2 ^ (k % 16) := by rw [Nat.div_div_eq_div_mul, ← pow_split]
    rw [ev]
    have e := shl_m k
    rw [vrun_v Tryd.func108 rfl rfl rfl]; simp only [Tryd.f108]
    generalize 2 ^ (k % 16) = m at *
    generalize x / 65536 ^ (k / 16) = z at *
    simp (disch := omega) [go_sem, tab108, ec, e, h1]
end
end
/- Bits; what is valid. No conditions. -/
section
open Num
section
variable {x k : Nat}
theorem bit_dg (x k : Nat) : dg x (k / 16) / ((2 ^ (k % 16) : Nat) : Int) % 2 = ((x / 2 ^ k % 2 : Nat) : Int) := by
  unfold dg
  have e : x / 2 ^ k = x / 65536 ^ (k / 16) / 2 ^ (k % 16) := by rw [Nat.div_div_eq_div_mul, ← pow_split]
  rw [e]
  generalize x / 65536 ^ (k / 16) = a
  have h1 : a % 65536 / 2 ^ (k % 16) % 2 = a / 2 ^ (k % 16) % 2 := by
    have e2 : 2 ^ (k % 16) * (2 ^ (15 - k % 16) * 2) = 65536 := by
      rw [← Nat.pow_succ, ← Nat.pow_add, show k % 16 + (15 - k % 16).succ = 16 by omega]
    have h2 : a = 2 ^ (k % 16) * (2 ^ (15 - k % 16) * 2) * (a / 65536) + a % 65536 := by rw [e2]; omega
    conv => rhs; lhs; lhs; rw [h2, Nat.mul_assoc]
    rw [Nat.mul_add_div (Nat.two_pow_pos _), Nat.mul_comm (2 ^ (15 - k % 16)) 2, Nat.mul_assoc]
    omega
  rw [← h1]
  generalize a % 65536 = b
  omega
theorem bitOf_v (d : Nat) (hx : (D x).length < 1000000) (hk : k < 16000000) :
    vrun Tryd.prog kn (d + 1) 95 [.ints .i64 (D x), .int .i64 (k : Int)] [] = some (.int .i64 ((x / 2 ^ k % 2 : Nat) : Int), []) := by
  have e := shl_m k
  rw [← bit_dg x k]
  have b1 := dg_bd x (k / 16)
  have hm := pow16_le k
  generalize 2 ^ (k % 16) = m at *
  have h1 : 0 ≤ dg x (k / 16) / (m : Int) := Int.ediv_nonneg b1.1 (by omega)
  have h2 : dg x (k / 16) / (m : Int) ≤ dg x (k / 16) := Int.ediv_le_self _ b1.1
  have e1 : ((k : Int) / 16).toNat = k / 16 := by omega
  rw [vrun_v Tryd.func95 rfl rfl rfl]; simp only [Tryd.f95]
  by_cases h0 : k / 16 < (D x).length
  · have h3 := fun t => b_and1 Tryd.prog t (dg x (k / 16) / (m : Int)) h1 (by omega)
    simp (disch := omega) [go_sem, tab95, gt_D, e, e1, fdiv_m, h3]
  · have e0 := dg_len (x := x) (i := k / 16) (by omega)
    rw [e0]
    simp (disch := omega) [go_sem, tab95]
theorem l2bit_v (d : Nat) (hx : (D x).length < 1000000) (hk : k < 16000000) :
    vrun Tryd.prog kn (d + 1) 91 [.agg [.ints .i64 (D x)], .int .i64 (k : Int)] [] = some (.int .i64 ((x / 2 ^ k % 2 : Nat) : Int), []) := by
  have e := shl_m k
  rw [← bit_dg x k]
  have b1 := dg_bd x (k / 16)
  have hm := pow16_le k
  generalize 2 ^ (k % 16) = m at *
  have h1 : 0 ≤ dg x (k / 16) / (m : Int) := Int.ediv_nonneg b1.1 (by omega)
  have h2 : dg x (k / 16) / (m : Int) ≤ dg x (k / 16) := Int.ediv_le_self _ b1.1
  have e1 : ((k : Int) / 16).toNat = k / 16 := by omega
  rw [vrun_v Tryd.func91 rfl rfl rfl]; simp only [Tryd.f91]
  by_cases h0 : k / 16 < (D x).length
  · have h3 := fun t => b_and1 Tryd.prog t (dg x (k / 16) / (m : Int)) h1 (by omega)
    simp (disch := omega) [go_sem, tab91, gt_D, e, e1, fdiv_m, h3]
  · have e0 := dg_len (x := x) (i := k / 16) (by omega)
    rw [e0]
    simp (disch := omega) [go_sem, tab91]
end
section
variable {l : List Int} {g : Nat} {caps : List V} {p : Int → Bool} {call : CallV}
def ixS (l : List Int) (g : Nat) (caps : List V) (j : Nat) : VE × VH := ([(0, some (.ints .i64 l)), (1, some (.fn (.func g) [] caps)), (7, some (.int .i64 l.length)), (8, some (.int .i64 j))], [])
theorem ixf_v (hl : l.length < 1000000000) {d : Nat} (hg : kn.cf.pure g = true) (hg2 : kn.ali g = false) (hc : ∀ h, omap (vfrz h 6) caps = some caps) (hp : ∀ x ∈ l, vrun Tryd.prog kn d g (vnrmAs (kn.args g) (.int .i64 x :: caps)) [] = some (.bool (p x), [])) :
    ∃ v : Int, vrun Tryd.prog kn (d + 1) 137 [.ints .i64 l, .fn (.func g) [] caps] [] = some (.int .i64 v, []) ∧ decide (0 ≤ v) = l.any p := by
  rw [k_cf] at hg
  have key := vi_inv (n := kn.cf.rounds) (body := vCode Tryd.prog kn (vrun Tryd.prog kn d) 137 (loopAt Tryd.f137 0)) (fun j s => s = ixS l g caps j ∧ (l.take j).any p = false)
    (fun r => (r = some (.exit 0, (ixS l g caps l.length).1 ++ [(9, some (.bool false))], []) ∧ l.any p = false) ∨ ∃ k : Nat, r = some (.ret, [(4, some (.int .i64 k))], []) ∧ l.any p = true) l.length (by rw [k_cf, c_rounds]; omega)
    (fun j s hj hI => by
      obtain ⟨rfl, hI⟩ := hI
      have hpp := hp _ (gt_mem hj)
      cases hq : p (gt l j) with
      | true =>
        right; intro m; right
        refine ⟨j, vi_ret ?_, List.any_eq_true.2 ⟨_, gt_mem hj, hq⟩⟩
        rw [hq] at hpp
        rw [round_v]; simp only [loopAt, nthC, bodyC, loops, List.nil_append, List.cons_append, List.append_nil, Tryd.f137, ixS]
        simp (disch := omega) [go_sem, tab137, hg, hg2, hc, hpp]
      | false =>
        left
        refine ⟨ixS l g caps (j + 1), ?_, rfl, ?_⟩
        · rw [hq] at hpp
          rw [round_v]; simp only [loopAt, nthC, bodyC, loops, List.nil_append, List.cons_append, List.append_nil, Tryd.f137, ixS]
          simp (disch := omega) [go_sem, tab137, hg, hg2, hc, hpp]
        · rw [List.take_add_one, gt_some hj, List.any_append, hI]; simp [hq])
    (fun s hI m => by
      obtain ⟨rfl, hI⟩ := hI
      left
      refine ⟨vi_exit ?_, by rwa [List.take_length] at hI⟩
      rw [round_v]; simp only [loopAt, nthC, bodyC, loops, List.nil_append, List.cons_append, List.append_nil, Tryd.f137, ixS]
      simp (disch := omega) [go_sem, tab137])
    (ixS l g caps 0) ⟨rfl, by simp⟩
  rcases key with ⟨hv, ha⟩ | ⟨k, hv, ha⟩
  · have hl0 := fun ks => loop_v (P := Tryd.prog) (K := kn) (ks := ks) hv
    simp only [loopAt, nthC, bodyC, loops, List.nil_append, List.cons_append, List.append_nil, Tryd.f137, ixS, Int.natCast_zero, List.cons_append, List.nil_append] at hl0
    refine ⟨-1, ?_, by rw [ha]; rfl⟩
    rw [vrun_v Tryd.func137 rfl rfl rfl]; simp only [Tryd.f137]
    simp (disch := omega) [go_sem, tab137, hc, hl0]
  · have hl0 := fun ks => loop_v (P := Tryd.prog) (K := kn) (ks := ks) hv
    simp only [loopAt, nthC, bodyC, loops, List.nil_append, List.cons_append, List.append_nil, Tryd.f137, ixS, Int.natCast_zero, List.cons_append, List.nil_append] at hl0
    refine ⟨k, ?_, by rw [ha]; simp⟩
    rw [vrun_v Tryd.func137 rfl rfl rfl]; simp only [Tryd.f137]
    simp (disch := omega) [go_sem, tab137, hc, hl0]
theorem all_v (hl : l.length < 1000000000) {d : Nat} (hg : kn.cf.pure g = true) (hg2 : kn.ali g = false) (ha : kn.args g = []) (hp : ∀ x ∈ l, vrun Tryd.prog kn d g [.int .i64 x] [] = some (.bool (p x), [])) :
    vrun Tryd.prog kn (d + 4) 127 [.ints .i64 l, .fn (.func g) [] []] [] = some (.bool (l.all p), []) := by
  have hg' := hg
  rw [k_cf] at hg'
  have h1 : ∀ x ∈ l, vrun Tryd.prog kn (d + 1) 134 (vnrmAs (kn.args 134) [.int .i64 x, .fptr [.fn (.func g) [] []]]) [] = some (.bool (!p x), []) := fun x hx => by
    have := hp x hx
    simp only [go_sem, k_args134]
    rw [vrun_v Tryd.func134 rfl rfl rfl]; simp only [Tryd.f134]
    simp (disch := omega) [go_sem, tab134, hg', hg2, ha, this]
  obtain ⟨v, hv, hany⟩ := ixf_v (caps := [.fptr [.fn (.func g) [] []]]) hl (c_pure134) rfl (fun h => by simp [go_sem]) h1
  have e : l.all p = !decide (0 ≤ v) := by
    rw [hany, List.not_any_eq_all_not]; simp
  rw [e]
  have h2 : vrun Tryd.prog kn (d + 3) 133 [.ints .i64 l, .fn (.func 134) [] [.fptr [.fn (.func g) [] []]]] [] = some (.bool (decide (0 ≤ v)), []) := by
    rw [vrun_v Tryd.func133 rfl rfl rfl]; simp only [Tryd.f133]
    simp (disch := omega) [go_sem, tab133, hv]
  rw [vrun_v Tryd.func127 rfl rfl rfl]; simp only [Tryd.f127]
  simp (disch := omega) [go_sem, tab127, h2]
end
theorem limb_v (d : Nat) (n : Int) : vrun Tryd.prog kn (d + 2) 128 [.int .i64 n] [] = some (.bool (limbB n), []) := by
  rw [vrun_v Tryd.func128 rfl rfl rfl]; simp only [Tryd.f128]
  simp (disch := omega) [go_sem, tab128, within_v, limbB]
theorem NatOk_v (d : Nat) {l : List Int} (hl : l.length < 1000000000) : vrun Tryd.prog kn (d + 7) 117 [.agg [.ints .i64 l]] [] = some (.bool (natOkB l), []) := by
  have h1 := all_v (g := 128) (d := d + 2) hl c_pure128 rfl rfl (fun x _ => limb_v d x)
  rw [vrun_v Tryd.func117 rfl rfl rfl]; simp only [Tryd.f117]
  by_cases q1 : l.length ≤ 100
  · by_cases q2 : l.all limbB = true
    · by_cases q3 : l.length = 0
      · simp (disch := omega) [go_sem, tab117, h1, q2, q3, natOkB]
      · have e : ((l.length : Int) - 1).toNat = l.length - 1 := by omega
        have q5 : ¬ l = [] := fun e => q3 (by rw [e]; rfl)
        by_cases q4 : gt l (l.length - 1) = 0
        · simp (disch := omega) [go_sem, tab117, h1, q2, q3, q4, q5, natOkB, e]
        · simp (disch := omega) [go_sem, tab117, h1, q2, q3, q4, q5, natOkB, e]
    · rw [Bool.not_eq_true] at q2
      simp (disch := omega) [go_sem, tab117, h1, q2, natOkB]
  · simp (disch := omega) [go_sem, tab117, natOkB, q1]
end
/- What is valid; copies. No conditions. -/
section
open Num
theorem clone_v (d : Nat) {l : List Int} (hl : l.length < 1000000000) : vrun Tryd.prog kn (d + 1) 122 [.ints .i64 l] [] = some (.sl 0 0 l.length 1, [.ints true .i64 l]) := by
  rw [vrun, k_cf, c_clone122]
  have : l.length ≤ 1000000000000 := by omega
  simp [vclone, vrdI, this]
section
variable {l : List Int}
def nokS (l : List Int) (j : Nat) : VE × VH := ([(1, some (.ptr 0 0)), (3, some (.int .i64 j))], [.vals true [.ints .i64 l]])
theorem sNatOk_v (d : Nat) (hl : l.length < 1000000000) : vrun Tryd.prog kn (d + 1) 114 [.agg [.ints .i64 l]] [] = some (.bool (natOkB l), []) := by
  by_cases q1 : l.length ≤ 100
  · have key := vi_inv (n := kn.cf.rounds) (body := vCode Tryd.prog kn (vrun Tryd.prog kn d) 114 (loopAt Tryd.f114 0)) (fun j s => s = nokS l j ∧ (l.take j).all limbB = true)
      (fun r => (r = some (.exit 0, (nokS l l.length).1 ++ [(12, some (.bool false))], (nokS l l.length).2) ∧ l.all limbB = true) ∨ (r = some (.ret, [(2, some (.bool false))], []) ∧ l.all limbB = false)) l.length (by rw [k_cf, c_rounds]; omega)
      (fun j s hj hI => by
        obtain ⟨rfl, hI⟩ := hI
        cases hq : limbB (gt l j) with
        | false =>
          right; intro m; right
          refine ⟨vi_ret ?_, ?_⟩
          · rw [round_v]; simp only [loopAt, nthC, bodyC, loops, List.nil_append, List.cons_append, List.append_nil, Tryd.f114, nokS]
            by_cases h0 : gt l j < 0
            · simp (disch := omega) [go_sem, tab114]
            · have h2 : 65536 ≤ gt l j := by unfold limbB at hq; simp at hq; omega
              simp (disch := omega) [go_sem, tab114]
          · cases ha : l.all limbB with
            | false => rfl
            | true => rw [List.all_eq_true.1 ha _ (gt_mem hj)] at hq; simp at hq
        | true =>
          left
          have h2 := (limbB_iff _).1 hq
          refine ⟨nokS l (j + 1), ?_, rfl, ?_⟩
          · rw [round_v]; simp only [loopAt, nthC, bodyC, loops, List.nil_append, List.cons_append, List.append_nil, Tryd.f114, nokS]
            simp (disch := omega) [go_sem, tab114]
          · rw [List.take_add_one, gt_some hj, List.all_append, hI]; simp [hq])
      (fun s hI m => by
        obtain ⟨rfl, hI⟩ := hI
        left
        refine ⟨vi_exit ?_, by rwa [List.take_length] at hI⟩
        rw [round_v]; simp only [loopAt, nthC, bodyC, loops, List.nil_append, List.cons_append, List.append_nil, Tryd.f114, nokS]
        simp (disch := omega) [go_sem, tab114])
      (nokS l 0) ⟨rfl, by simp⟩
    rcases key with ⟨hv, ha⟩ | ⟨hv, ha⟩
    · have hl0 := fun ks => loop_v (P := Tryd.prog) (K := kn) (ks := ks) hv
      simp only [loopAt, nthC, bodyC, loops, List.nil_append, List.cons_append, List.append_nil, Tryd.f114, nokS, Int.natCast_zero, List.cons_append, List.nil_append] at hl0
      rw [vrun_v Tryd.func114 rfl rfl rfl]; simp only [Tryd.f114]
      by_cases q3 : l = []
      · subst q3
        simp (disch := omega) [go_sem, tab114, hl0, natOkB] at hl0 ⊢
      · have q4 : 0 < l.length := List.length_pos_iff.2 q3
        have e : ((l.length : Int) - 1).toNat = l.length - 1 := by omega
        have hb := (limbB_iff _).1 (List.all_eq_true.1 ha _ (gt_mem (l := l) (j := l.length - 1) (by omega)))
        by_cases q5 : gt l (l.length - 1) = 0
        · simp (disch := omega) [go_sem, tab114, hl0, q3, q5, natOkB, ha, q1, e]
        · simp (disch := omega) [go_sem, tab114, hl0, q3, q5, natOkB, ha, q1, e]
    · have hl0 := fun ks => loop_v (P := Tryd.prog) (K := kn) (ks := ks) hv
      simp only [loopAt, nthC, bodyC, loops, List.nil_append, List.cons_append, List.append_nil, Tryd.f114, nokS, Int.natCast_zero] at hl0
      rw [vrun_v Tryd.func114 rfl rfl rfl]; simp only [Tryd.f114]
      simp (disch := omega) [go_sem, tab114, hl0, natOkB, ha]
  · rw [vrun_v Tryd.func114 rfl rfl rfl]; simp only [Tryd.f114]
    simp (disch := omega) [go_sem, tab114, natOkB, q1]
end
theorem WholeOk_v (d : Nat) (n : Bool) {l : List Int} (hl : l.length < 1000000000) : vrun Tryd.prog kn (d + 8) 94 [.agg [.bool n, .ints .i64 l]] [] = some (.bool (wholeOkB n l), []) := by
  have h1 := fun d => NatOk_v d hl
  rw [vrun_v Tryd.func94 rfl rfl rfl]; simp only [Tryd.f94]
  by_cases h0 : l = []
  · subst h0
    cases q : natOkB [] <;> rw [q] at h1 <;> cases n <;> simp (disch := omega) [go_sem, tab94, h1, q, wholeOkB]
  · cases q : natOkB l <;> rw [q] at h1 <;> cases n <;> simp (disch := omega) [go_sem, tab94, h1, q, h0, wholeOkB]
theorem sWholeOk_v (d : Nat) (n : Bool) {l : List Int} (hl : l.length < 1000000000) : vrun Tryd.prog kn (d + 2) 90 [.agg [.bool n, .ints .i64 l]] [] = some (.bool (wholeOkB n l), []) := by
  have h1 := fun d => sNatOk_v d hl
  rw [vrun_v Tryd.func90 rfl rfl rfl]; simp only [Tryd.f90]
  by_cases h0 : l = []
  · subst h0
    cases q : natOkB [] <;> rw [q] at h1 <;> cases n <;> simp (disch := omega) [go_sem, tab90, h1, q, wholeOkB]
  · have h2 : 0 < l.length := List.length_pos_iff.2 h0
    cases q : natOkB l <;> rw [q] at h1 <;> cases n <;> simp (disch := omega) [go_sem, tab90, h1, q, h0, wholeOkB]
theorem bit0 (x : Nat) : x / 2 ^ 0 % 2 = x % 2 := by rw [Nat.pow_zero, Nat.div_one]
theorem DyOk_v (d : Nat) (n : Bool) {l : List Int} (e : Int) (hl : l.length < 1000000000) : vrun Tryd.prog kn (d + 9) 64 [.agg [.bool n, .ints .i64 l, .int .i64 e]] [] = some (.bool (dyOkB ⟨n, l, e⟩), []) := by
  have h1 := fun d => WholeOk_v d n hl
  have h3 := within_v
  rw [vrun_v Tryd.func64 rfl rfl rfl]; simp only [Tryd.f64]
  unfold dyOkB
  cases q : wholeOkB n l with
  | false => rw [q] at h1; simp (disch := omega) [go_sem, tab64, h1, q]
  | true =>
    rw [q] at h1
    have hn : natOkB l = true := by unfold wholeOkB at q; simp at q; exact q.1
    obtain ⟨x, rfl, hx⟩ := (natOkB_iff l).1 hn
    have h2 := fun d => bitOf_v d (x := x) (k := 0) (by omega) (by omega)
    simp only [bit0, Int.natCast_zero] at h2
    have hg : gt (D x) 0 % 2 = ((x % 2 : Nat) : Int) := by rw [gt_D]; unfold dg; rw [Nat.pow_zero, Nat.div_one]; omega
    by_cases q1 : -3000 ≤ e
    · by_cases q2 : e ≤ 3000
      · by_cases q3 : x = 0
        · subst q3
          simp only [D_zero] at h1 h2 q hn hg ⊢
          by_cases q4 : e = 0 <;> simp (disch := omega) [go_sem, tab64, h1, h2, h3, q, q1, q2, q4]
        · have q5 : ¬ D x = [] := fun e => q3 (D_nil_iff.1 e)
          by_cases q4 : x % 2 = 1
          · simp (disch := omega) [go_sem, tab64, h1, h2, h3, q, q1, q2, q5, q4, hg]
          · have q6 : x % 2 = 0 := by omega
            simp (disch := omega) [go_sem, tab64, h1, h2, h3, q, q1, q2, q5, q6, hg]
      · simp (disch := omega) [go_sem, tab64, h1, h3, q, q1, q2]
    · simp (disch := omega) [go_sem, tab64, h1, h3, q, q1]
theorem sDyOk_v (d : Nat) (n : Bool) {l : List Int} (e : Int) (hl : l.length < 1000000000) : vrun Tryd.prog kn (d + 3) 60 [.agg [.bool n, .ints .i64 l, .int .i64 e]] [] = some (.bool (dyOkB ⟨n, l, e⟩), []) := by
  have h1 := fun d => sWholeOk_v d n hl
  rw [vrun_v Tryd.func60 rfl rfl rfl]; simp only [Tryd.f60]
  unfold dyOkB
  cases q : wholeOkB n l with
  | false => rw [q] at h1; simp (disch := omega) [go_sem, tab60, h1, q]
  | true =>
    rw [q] at h1
    have hn : natOkB l = true := by unfold wholeOkB at q; simp at q; exact q.1
    obtain ⟨x, rfl, hx⟩ := (natOkB_iff l).1 hn
    have h2 := fun d => l2bit_v d (x := x) (k := 0) (by omega) (by omega)
    simp only [bit0, Int.natCast_zero] at h2
    have hg : gt (D x) 0 % 2 = ((x % 2 : Nat) : Int) := by rw [gt_D]; unfold dg; rw [Nat.pow_zero, Nat.div_one]; omega
    by_cases q1 : -3000 ≤ e
    · by_cases q2 : e ≤ 3000
      · by_cases q3 : x = 0
        · subst q3
          simp only [D_zero] at h1 h2 q hn hg ⊢
          by_cases q4 : e = 0 <;> simp (disch := omega) [go_sem, tab60, h1, h2, q, q1, q2, q4]
        · have q5 : ¬ D x = [] := fun e => q3 (D_nil_iff.1 e)
          by_cases q4 : x % 2 = 1
          · simp (disch := omega) [go_sem, tab60, h1, h2, q, q1, q2, q5, q4, hg]
          · have q6 : x % 2 = 0 := by omega
            simp (disch := omega) [go_sem, tab60, h1, h2, q, q1, q2, q5, q6, hg]
      · simp (disch := omega) [go_sem, tab60, h1, q, q1, q2]
    · simp (disch := omega) [go_sem, tab60, h1, q, q1]
end
/- natOf, wholeOf; all of some dyadic numbers are valid. No conditions. -/
section
open Num
def fitL (l : List Int) : List Int := if l.length ≤ 100 then l else []
theorem fitL_len (l : List Int) : (fitL l).length ≤ 100 := by unfold fitL; split <;> simp_all
theorem natOf_v (d : Nat) {l : List Int} (hl : l.length < 1000000000) : vrun Tryd.prog kn (d + 2) 105 [.ints .i64 l] [] = some (.tup [.agg [.sl 0 0 (fitL l).length 1], .bool (decide (l.length ≤ 100))], [.ints true .i64 (fitL l)]) := by
  have h1 := fun d => clone_v d hl
  unfold fitL
  by_cases h : l.length ≤ 100
  · rw [vrun_v Tryd.func105 rfl rfl rfl]; simp only [Tryd.f105]
    simp (disch := omega) [go_sem, tab105, h1, h]
  · rw [vrun_v Tryd.func105 rfl rfl rfl]; simp only [Tryd.f105]
    simp (disch := omega) [go_sem, tab105, h]
theorem wholeOf_v (d : Nat) (n : Bool) {l : List Int} (hl : l.length < 1000000000) : vrun Tryd.prog kn (d + 3) 76 [.bool n, .ints .i64 l] [] = some (.tup [.agg [.bool (n && !decide (l.length = 0) && decide (l.length ≤ 100)), .sl 0 0 (fitL l).length 1], .bool (decide (l.length ≤ 100))], [.ints true .i64 (fitL l)]) := by
  have h1 := fun d => natOf_v d hl
  by_cases h : l.length ≤ 100
  · have e : fitL l = l := by unfold fitL; rw [if_pos h]
    rw [e] at h1 ⊢
    by_cases h0 : l = []
    · subst h0
      rw [vrun_v Tryd.func76 rfl rfl rfl]; simp only [Tryd.f76]
      cases n <;> simp (disch := omega) [go_sem, tab76, h1]
    · have h2 : 0 < l.length := List.length_pos_iff.2 h0
      rw [vrun_v Tryd.func76 rfl rfl rfl]; simp only [Tryd.f76]
      cases n <;> simp (disch := omega) [go_sem, tab76, h1, h, h0]
  · have e : fitL l = [] := by unfold fitL; rw [if_neg h]
    rw [e] at h1 ⊢
    rw [vrun_v Tryd.func76 rfl rfl rfl]; simp only [Tryd.f76]
    cases n <;> simp (disch := omega) [go_sem, tab76, h1, h]
section
variable {ds : List DyT} {g : Nat} {caps : List V} {p : DyT → Bool} {call : CallV}
def ixDS (ds : List DyT) (g : Nat) (caps : List V) (j : Nat) : VE × VH := ([(0, some (.cells 3 ds.length (flat DyT.v ds))), (1, some (.fn (.func g) [] caps)), (7, some (.int .i64 ds.length)), (8, some (.int .i64 j))], [])
theorem ixfD_v (hl : ds.length < 100000000) {d : Nat} (hg : kn.cf.pure g = true) (hg2 : kn.ali g = false) (hc : ∀ h, omap (vfrz h 6) caps = some caps) (hp : ∀ x ∈ ds, vrun Tryd.prog kn d g (vnrmAs (kn.args g) (.agg x.v :: caps)) [] = some (.bool (p x), [])) :
    ∃ v : Int, vrun Tryd.prog kn (d + 1) 132 [.cells 3 ds.length (flat DyT.v ds), .fn (.func g) [] caps] [] = some (.int .i64 v, []) ∧ decide (0 ≤ v) = ds.any p := by
  rw [k_cf] at hg
  have key := vi_inv (n := kn.cf.rounds) (body := vCode Tryd.prog kn (vrun Tryd.prog kn d) 132 (loopAt Tryd.f132 0)) (fun j s => s = ixDS ds g caps j ∧ (ds.take j).any p = false)
    (fun r => (r = some (.exit 0, (ixDS ds g caps ds.length).1 ++ [(9, some (.bool false))], []) ∧ ds.any p = false) ∨ ∃ k : Nat, r = some (.ret, [(4, some (.int .i64 k))], []) ∧ ds.any p = true) ds.length (by rw [k_cf, c_rounds]; omega)
    (fun j s hj hI => by
      obtain ⟨rfl, hI⟩ := hI
      have hget : ds[j]? = some ds[j] := List.getElem?_eq_getElem hj
      have hmem : ds[j] ∈ ds := List.getElem_mem hj
      have hpp := hp _ hmem
      have hsub : ((flat DyT.v ds).drop (j * 3)).take 3 = [.bool ds[j].neg, .ints .i64 ds[j].l, .int .i64 ds[j].e] := flat_sub DyT.len ds j _ hget
      generalize ds[j] = x at *
      unfold DyT.v at hpp
      cases hq : p x with
      | true =>
        right; intro m; right
        refine ⟨j, vi_ret ?_, List.any_eq_true.2 ⟨_, hmem, hq⟩⟩
        rw [hq] at hpp
        rw [round_v]; simp only [loopAt, nthC, bodyC, loops, List.nil_append, List.cons_append, List.append_nil, Tryd.f132, ixDS]
        simp (disch := omega) [go_sem, tab132, hg, hg2, hc, hpp, hsub]
      | false =>
        left
        refine ⟨ixDS ds g caps (j + 1), ?_, rfl, ?_⟩
        · rw [hq] at hpp
          rw [round_v]; simp only [loopAt, nthC, bodyC, loops, List.nil_append, List.cons_append, List.append_nil, Tryd.f132, ixDS]
          simp (disch := omega) [go_sem, tab132, hg, hg2, hc, hpp, hsub]
        · rw [List.take_add_one, hget, List.any_append, hI]; simp [hq])
    (fun s hI m => by
      obtain ⟨rfl, hI⟩ := hI
      left
      refine ⟨vi_exit ?_, by rwa [List.take_length] at hI⟩
      rw [round_v]; simp only [loopAt, nthC, bodyC, loops, List.nil_append, List.cons_append, List.append_nil, Tryd.f132, ixDS]
      simp (disch := omega) [go_sem, tab132])
    (ixDS ds g caps 0) ⟨rfl, by simp⟩
  rcases key with ⟨hv, ha⟩ | ⟨k, hv, ha⟩
  · have hl0 := fun ks => loop_v (P := Tryd.prog) (K := kn) (ks := ks) hv
    simp only [loopAt, nthC, bodyC, loops, List.nil_append, List.cons_append, List.append_nil, Tryd.f132, ixDS, Int.natCast_zero, List.cons_append, List.nil_append] at hl0
    refine ⟨-1, ?_, by rw [ha]; rfl⟩
    rw [vrun_v Tryd.func132 rfl rfl rfl]; simp only [Tryd.f132]
    simp (disch := omega) [go_sem, tab132, hc, hl0]
  · have hl0 := fun ks => loop_v (P := Tryd.prog) (K := kn) (ks := ks) hv
    simp only [loopAt, nthC, bodyC, loops, List.nil_append, List.cons_append, List.append_nil, Tryd.f132, ixDS, Int.natCast_zero, List.cons_append, List.nil_append] at hl0
    refine ⟨k, ?_, by rw [ha]; simp⟩
    rw [vrun_v Tryd.func132 rfl rfl rfl]; simp only [Tryd.f132]
    simp (disch := omega) [go_sem, tab132, hc, hl0]
theorem allD_v (hl : ds.length < 100000000) {d : Nat} (hg : kn.cf.pure g = true) (hg2 : kn.ali g = false) (hp : ∀ x ∈ ds, vrun Tryd.prog kn d g (vnrmAs (kn.args g) [.agg x.v]) [] = some (.bool (p x), [])) :
    vrun Tryd.prog kn (d + 4) 112 [.cells 3 ds.length (flat DyT.v ds), .fn (.func g) [] []] [] = some (.bool (ds.all p), []) := by
  have hg' := hg
  rw [k_cf] at hg'
  have h1 : ∀ x ∈ ds, vrun Tryd.prog kn (d + 1) 125 (vnrmAs (kn.args 125) [.agg x.v, .fptr [.fn (.func g) [] []]]) [] = some (.bool (!p x), []) := fun x hx => by
    have := hp x hx
    unfold DyT.v at this ⊢
    simp only [go_sem, k_args125]
    rw [vrun_v Tryd.func125 rfl rfl rfl]; simp only [Tryd.f125]
    simp (disch := omega) [go_sem, tab125, hg', hg2, this]
  obtain ⟨v, hv, hany⟩ := ixfD_v (caps := [.fptr [.fn (.func g) [] []]]) hl (c_pure125) rfl (fun h => by simp [go_sem]) h1
  have e : ds.all p = !decide (0 ≤ v) := by
    rw [hany, List.not_any_eq_all_not]; simp
  rw [e]
  have h2 : vrun Tryd.prog kn (d + 3) 124 [.cells 3 ds.length (flat DyT.v ds), .fn (.func 125) [] [.fptr [.fn (.func g) [] []]]] [] = some (.bool (decide (0 ≤ v)), []) := by
    rw [vrun_v Tryd.func124 rfl rfl rfl]; simp only [Tryd.f124]
    simp (disch := omega) [go_sem, tab124, hv]
  rw [vrun_v Tryd.func112 rfl rfl rfl]; simp only [Tryd.f112]
  simp (disch := omega) [go_sem, tab112, h2]
theorem areDys_v (d : Nat) (hl : ds.length < 100000000) (hs : ∀ x ∈ ds, x.sz) : vrun Tryd.prog kn (d + 14) 88 [.cells 3 ds.length (flat DyT.v ds)] [] = some (.bool (ds.all dyOkB), []) := by
  have h1 := fun d => allD_v (g := 64) (ds := ds) (p := dyOkB) (d := d + 9) hl c_pure64 rfl (fun x hx => by
    have hx' := hs x hx
    unfold DyT.sz at hx'
    have := DyOk_v d x.neg (l := x.l) x.e (by omega)
    unfold DyT.v
    simp only [go_sem, k_args64]
    exact this)
  rw [vrun_v Tryd.func88 rfl rfl rfl]; simp only [Tryd.f88]
  simp (disch := omega) [go_sem, tab88, h1]
theorem areDys2_v (d : Nat) (n1 n2 : Bool) {l1 l2 : List Int} (e1 e2 : Int) (h1 : l1.length < 100000000) (h2 : l2.length < 100000000) : vrun Tryd.prog kn (d + 14) 88 [.cells 3 2 [.bool n1, .ints .i64 l1, .int .i64 e1, .bool n2, .ints .i64 l2, .int .i64 e2]] [] = some (.bool (dyOkB ⟨n1, l1, e1⟩ && dyOkB ⟨n2, l2, e2⟩), []) := by
  have := areDys_v d (ds := [⟨n1, l1, e1⟩, ⟨n2, l2, e2⟩]) (by simp) (by simp [DyT.sz, h1, h2])
  simpa [flat, DyT.v] using this
end
end
/- Dyadics: alignment and comparison, program and reference. No conditions. -/
section
open Num
def alE (a : Nat) (ex : Int) (b : Nat) (ey : Int) : Int := if b = 0 then ex else if a = 0 then ey else if ey < ex then ey else ex
def alA (a : Nat) (ex : Int) (b : Nat) (ey : Int) : Nat := a * 2 ^ (ex - alE a ex b ey).toNat
def alB (a : Nat) (ex : Int) (b : Nat) (ey : Int) : Nat := b * 2 ^ (ey - alE a ex b ey).toNat
def scmp (n : Bool) (a : Nat) (m : Bool) (b : Nat) : Int := if n && !m then -1 else if !n && m then 1 else if n then cmpI b a else cmpI a b
section
variable {a b : Nat} {ex ey : Int} {n m : Bool}
theorem alE_bd (he : -100000 ≤ ex) (he' : ex ≤ 100000) (hf : -100000 ≤ ey) (hf' : ey ≤ 100000) : -100000 ≤ alE a ex b ey ∧ alE a ex b ey ≤ 100000 := by
  unfold alE
  by_cases h1 : b = 0
  · rw [if_pos h1]; omega
  · rw [if_neg h1]
    by_cases h2 : a = 0
    · rw [if_pos h2]; omega
    · rw [if_neg h2]; split <;> omega
theorem al_len (ha : (D a).length < 100000) (hb : (D b).length < 100000) (he : -100000 ≤ ex) (he' : ex ≤ 100000) (hf : -100000 ≤ ey) (hf' : ey ≤ 100000) : (D (alA a ex b ey)).length < 200000 ∧ (D (alB a ex b ey)).length < 200000 := by
  have := alE_bd (a := a) (b := b) he he' hf hf'
  unfold alA alB
  have h1 := len_shl a (ex - alE a ex b ey).toNat
  have h2 := len_shl b (ey - alE a ex b ey).toNat
  omega
theorem exactOf_v (d : Nat) (l : List Int) : vrun Tryd.prog kn (d + 1) 66 [.agg [.bool n, .ints .i64 l, .int .i64 ex]] [] = some (.agg [.bool n, .ints .i64 l, .int .i64 ex], []) := by
  rw [vrun_v Tryd.func66 rfl rfl rfl]; simp only [Tryd.f66]
  simp (disch := omega) [go_sem, tab66]
theorem l3make_v (d : Nat) (ha : (D a).length < 1000000) : vrun Tryd.prog kn (d + 2) 74 [.bool n, .agg [.ints .i64 (D a)]] [] = some (.agg [.bool (n && decide (a ≠ 0)), .ints .i64 (D a)], []) := by
  have h1 := fun d => l2norm_v d (l := D a) (v := a) (by omega) (good_D a) (val_D a)
  by_cases h0 : a = 0
  · subst h0
    rw [D_zero] at h1 ⊢
    rw [vrun_v Tryd.func74 rfl rfl rfl]; simp only [Tryd.f74]
    cases n <;> simp (disch := omega) [go_sem, tab74, h1]
  · have hn : ¬ D a = [] := fun h => h0 (D_nil_iff.1 h)
    have hp : 0 < (D a).length := List.length_pos_iff.2 hn
    rw [vrun_v Tryd.func74 rfl rfl rfl]; simp only [Tryd.f74]
    cases n <;> simp (disch := omega) [go_sem, tab74, h1, h0, hn]
theorem l3cmp_v (d : Nat) (ha : (D a).length < 1000000) (hb : (D b).length < 1000000) : vrun Tryd.prog kn (d + 2) 136 [.agg [.bool n, .ints .i64 (D a)], .agg [.bool m, .ints .i64 (D b)]] [] = some (.int .i64 (scmp n a m b), []) := by
  have h1 := fun d => l2cmp_v d ha hb
  have h2 := fun d => l2cmp_v d hb ha
  rw [vrun_v Tryd.func136 rfl rfl rfl]; simp only [Tryd.f136]
  cases n <;> cases m <;> simp (disch := omega) [go_sem, tab136, h1, h2, scmp]
def alE2 (a : Nat) (ex : Int) (b : Nat) (ey : Int) : Int := if a = 0 then ey else if b = 0 then ex else if ey < ex then ey else ex
theorem l4align_v (d : Nat) (ha : (D a).length < 100000) (hb : (D b).length < 100000) (he : -100000 ≤ ex) (he' : ex ≤ 100000) (hf : -100000 ≤ ey) (hf' : ey ≤ 100000) (hn : a = 0 → n = false) (hm : b = 0 → m = false) : vrun Tryd.prog kn (d + 4) 135 [.agg [.bool n, .ints .i64 (D a), .int .i64 ex], .agg [.bool m, .ints .i64 (D b), .int .i64 ey]] [] = some (.tup [.agg [.bool n, .ints .i64 (D (alA a ex b ey))], .agg [.bool m, .ints .i64 (D (alB a ex b ey))], .int .i64 (alE2 a ex b ey)], []) := by
  have ka : ∀ (x : Nat), (D x).length < 100000 → ∀ (k : Int), 0 ≤ k → k ≤ 200000 → ∀ d, vrun Tryd.prog kn (d + 3) 138 [.agg [.ints .i64 (D x)], .int .i64 k] [] = some (.agg [.ints .i64 (D (x * 2 ^ k.toNat))], []) := fun x hx k h0 h1 d => by
    have := l2shl_v (x := x) (k := k.toNat) d (by omega) (by omega)
    rwa [show ((k.toNat : Nat) : Int) = k by omega] at this
  have z0 : (0 : Int).toNat = 0 := rfl
  by_cases ha0 : a = 0
  · have e1 : alA a ex b ey = 0 := by unfold alA; rw [ha0, Nat.zero_mul]
    have e2 : alB a ex b ey = b := by
      unfold alB alE
      by_cases hb0 : b = 0
      · rw [hb0, Nat.zero_mul]
      · rw [if_neg hb0, if_pos ha0, Int.sub_self, z0, Nat.pow_zero, Nat.mul_one]
    have e3 : alE2 a ex b ey = ey := by unfold alE2; rw [if_pos ha0]
    rw [e1, e2, e3]
    subst ha0
    rw [D_zero]
    rw [vrun_v Tryd.func135 rfl rfl rfl]; simp only [Tryd.f135]
    simp (disch := omega) [go_sem, tab135, w_nil, w_op, w_if, w_Gt, w_Gf, w_Xs, w_V, r_xWt, vmodI, vldI, vmodS, vldS, vmodA, vmodB, vldOK, V.self]
  have hm' : ¬ D a = [] := fun h => ha0 (D_nil_iff.1 h)
  have ha1 : ¬ (D a).length = 0 := fun h => ha0 (D_nil_iff.1 (List.eq_nil_of_length_eq_zero h))
  by_cases hb0 : b = 0
  · have e1 : alB a ex b ey = 0 := by unfold alB; rw [hb0, Nat.zero_mul]
    have e2 : alA a ex b ey = a := by unfold alA alE; rw [if_pos hb0, Int.sub_self, z0, Nat.pow_zero, Nat.mul_one]
    have e3 : alE2 a ex b ey = ex := by unfold alE2; rw [if_neg ha0, if_pos hb0]
    rw [e1, e2, e3]
    subst hb0
    rw [D_zero]
    rw [vrun_v Tryd.func135 rfl rfl rfl]; simp only [Tryd.f135]
    simp (disch := omega) [go_sem, tab135, hm', w_nil, w_op, w_if, w_Gt, w_Gf, w_Xs, w_V, r_xWt, vmodI, vldI, vmodS, vldS, vmodA, vmodB, vldOK, V.self]
  have hn' : ¬ D b = [] := fun h => hb0 (D_nil_iff.1 h)
  have hb1 : ¬ (D b).length = 0 := fun h => hb0 (D_nil_iff.1 (List.eq_nil_of_length_eq_zero h))
  have hl := al_len (ex := ex) (ey := ey) ha hb he he' hf hf'
  by_cases hq : ex ≤ ey
  · have e0 : alE a ex b ey = ex := by unfold alE; rw [if_neg hb0, if_neg ha0, if_neg (by omega)]
    have e1 : alA a ex b ey = a := by unfold alA; rw [e0, Int.sub_self, z0, Nat.pow_zero, Nat.mul_one]
    have e2 : alB a ex b ey = b * 2 ^ (ey - ex).toNat := by unfold alB; rw [e0]
    have e3 : alE2 a ex b ey = ex := by unfold alE2; rw [if_neg ha0, if_neg hb0, if_neg (by omega)]
    have h1 := ka b hb (ey - ex) (by omega) (by omega)
    rw [e2] at hl
    have hX : b * 2 ^ (ey - ex).toNat ≠ 0 := Nat.mul_ne_zero hb0 (Nat.pos_iff_ne_zero.1 (Nat.two_pow_pos _))
    rw [e1, e2, e3]
    generalize b * 2 ^ (ey - ex).toNat = X at *
    have h2 := fun d => l3make_v (n := m) (a := X) d (by omega)
    simp only [ne_eq, hX, not_false_eq_true, decide_true, Bool.and_true] at h2
    clear ka e0 e1 e2 e3
    rw [vrun_v Tryd.func135 rfl rfl rfl]; simp only [Tryd.f135]
    simp (disch := omega) [go_sem, tab135, hm', hn', hq, h1, h2, w_nil, w_op, w_if, w_Gt, w_Gf, w_Xs, w_V, r_xWt, vmodI, vldI, vmodS, vldS, vmodA, vmodB, vldOK, V.self]
  · have e0 : alE a ex b ey = ey := by unfold alE; rw [if_neg hb0, if_neg ha0, if_pos (by omega)]
    have e1 : alB a ex b ey = b := by unfold alB; rw [e0, Int.sub_self, z0, Nat.pow_zero, Nat.mul_one]
    have e2 : alA a ex b ey = a * 2 ^ (ex - ey).toNat := by unfold alA; rw [e0]
    have e3 : alE2 a ex b ey = ey := by unfold alE2; rw [if_neg ha0, if_neg hb0, if_pos (by omega)]
    have h1 := ka a ha (ex - ey) (by omega) (by omega)
    rw [e2] at hl
    have hX : a * 2 ^ (ex - ey).toNat ≠ 0 := Nat.mul_ne_zero ha0 (Nat.pos_iff_ne_zero.1 (Nat.two_pow_pos _))
    rw [e1, e2, e3]
    generalize a * 2 ^ (ex - ey).toNat = X at *
    have h2 := fun d => l3make_v (n := n) (a := X) d (by omega)
    simp only [ne_eq, hX, not_false_eq_true, decide_true, Bool.and_true] at h2
    clear ka e0 e1 e2 e3
    rw [vrun_v Tryd.func135 rfl rfl rfl]; simp only [Tryd.f135]
    simp (disch := omega) [go_sem, tab135, hm', hn', hq, h1, h2, w_nil, w_op, w_if, w_Gt, w_Gf, w_Xs, w_V, r_xWt, vmodI, vldI, vmodS, vldS, vmodA, vmodB, vldOK, V.self]
theorem l4cmp_v (d : Nat) (ha : (D a).length < 100000) (hb : (D b).length < 100000) (he : -100000 ≤ ex) (he' : ex ≤ 100000) (hf : -100000 ≤ ey) (hf' : ey ≤ 100000) (hn : a = 0 → n = false) (hm : b = 0 → m = false) : vrun Tryd.prog kn (d + 5) 129 [.agg [.bool n, .ints .i64 (D a), .int .i64 ex], .agg [.bool m, .ints .i64 (D b), .int .i64 ey]] [] = some (.int .i64 (scmp n (alA a ex b ey) m (alB a ex b ey)), []) := by
  have h1 := fun d => l4align_v (n := n) (m := m) d ha hb he he' hf hf' hn hm
  obtain ⟨l1, l2⟩ := al_len ha hb he he' hf hf'
  have h2 := fun d => l3cmp_v (n := n) (m := m) d (a := alA a ex b ey) (b := alB a ex b ey) (by omega) (by omega)
  rw [vrun_v Tryd.func129 rfl rfl rfl]; simp only [Tryd.f129]
  simp (disch := omega) [go_sem, tab129, h1, h2]
end
end
/- What the exact laws do beside: sizes and equality of whole numbers' lists, naturals, wholes, dyadics. No conditions. -/
section
open Num
section
variable {l a b : List Int} {left e : Int} {n : Bool}
theorem szIntS_v (d : Nat) (hl : l.length ≤ 9223372036854775807) (h0 : 0 ≤ left) (h1 : left ≤ 1048576) : ∃ r : Int, vrun Tryd.prog kn (d + 1) 113 [.ints .i64 l, .int .i64 left] [] = some (.int .i64 r, []) ∧ r ≤ left ∧ (0 ≤ r → l.length ≤ 1048576) := by
  by_cases h : left < l.length
  · refine ⟨-1, ?_, by omega, fun h => by omega⟩
    rw [vrun_v Tryd.func113 rfl rfl rfl]; simp only [Tryd.f113]
    simp (disch := omega) [go_sem, tab113]
  · refine ⟨left - l.length, ?_, by omega, fun h => by omega⟩
    rw [vrun_v Tryd.func113 rfl rfl rfl]; simp only [Tryd.f113]
    simp (disch := omega) [go_sem, tab113]
theorem szNat_v (d : Nat) (hl : l.length ≤ 9223372036854775807) (h0 : 0 ≤ left) (h1 : left ≤ 1048576) : ∃ r : Int, vrun Tryd.prog kn (d + 2) 89 [.agg [.ints .i64 l], .int .i64 left] [] = some (.int .i64 r, []) ∧ r ≤ left ∧ (0 ≤ r → l.length ≤ 1048576) := by
  obtain ⟨r, hr, h2, h3⟩ := szIntS_v d hl h0 h1
  by_cases h : r < 0
  · refine ⟨-1, ?_, by omega, fun h => by omega⟩
    rw [vrun_v Tryd.func89 rfl rfl rfl]; simp only [Tryd.f89]
    simp (disch := omega) [go_sem, tab89, hr]
  · refine ⟨r, ?_, by omega, h3⟩
    rw [vrun_v Tryd.func89 rfl rfl rfl]; simp only [Tryd.f89]
    simp (disch := omega) [go_sem, tab89, hr]
theorem szWhole_v (d : Nat) (hl : l.length ≤ 9223372036854775807) (h0 : 0 ≤ left) (h1 : left ≤ 1048576) : ∃ r : Int, vrun Tryd.prog kn (d + 3) 59 [.agg [.bool n, .ints .i64 l], .int .i64 left] [] = some (.int .i64 r, []) ∧ r ≤ left ∧ (0 ≤ r → l.length ≤ 1048576) := by
  obtain ⟨r, hr, h2, h3⟩ := szNat_v d hl h0 h1
  by_cases h : r < 0
  · refine ⟨-1, ?_, by omega, fun h => by omega⟩
    rw [vrun_v Tryd.func59 rfl rfl rfl]; simp only [Tryd.f59]
    simp (disch := omega) [go_sem, tab59, hr]
  · refine ⟨r, ?_, by omega, h3⟩
    rw [vrun_v Tryd.func59 rfl rfl rfl]; simp only [Tryd.f59]
    simp (disch := omega) [go_sem, tab59, hr]
theorem szDy_v (d : Nat) (hl : l.length ≤ 9223372036854775807) (h0 : 0 ≤ left) (h1 : left ≤ 1048576) : ∃ r : Int, vrun Tryd.prog kn (d + 4) 25 [.agg [.bool n, .ints .i64 l, .int .i64 e], .int .i64 left] [] = some (.int .i64 r, []) ∧ r ≤ left ∧ (0 ≤ r → l.length ≤ 1048576) := by
  obtain ⟨r, hr, h2, h3⟩ := szWhole_v (n := n) d hl h0 h1
  by_cases h : r < 0
  · refine ⟨-1, ?_, by omega, fun h => by omega⟩
    rw [vrun_v Tryd.func25 rfl rfl rfl]; simp only [Tryd.f25]
    simp (disch := omega) [go_sem, tab25, hr]
  · refine ⟨r, ?_, by omega, h3⟩
    rw [vrun_v Tryd.func25 rfl rfl rfl]; simp only [Tryd.f25]
    simp (disch := omega) [go_sem, tab25, hr]
def eqIS (a b : List Int) (j : Nat) : VE × VH := ([(0, some (.ints .i64 a)), (1, some (.ints .i64 b)), (5, some (.int .i64 j))], [])
theorem eqIntS_v (d : Nat) (ha : a.length < 1000000000) (hb : b.length < 1000000000) : vrun Tryd.prog kn (d + 1) 106 [.ints .i64 a, .ints .i64 b] [] = some (.bool (decide (a = b)), []) := by
  by_cases hl : ¬ a.length = b.length
  · have : ¬ a = b := fun h => hl (by rw [h])
    have h' : ¬ (a.length : Int) = b.length := by omega
    rw [vrun_v Tryd.func106 rfl rfl rfl]; simp only [Tryd.f106]
    simp (disch := omega) [go_sem, tab106, h', this, hl]
  rw [Decidable.not_not] at hl
  have key := vi_inv (n := kn.cf.rounds) (body := vCode Tryd.prog kn (vrun Tryd.prog kn d) 106 (loopAt Tryd.f106 0)) (fun j s => s = eqIS a b j ∧ a.take j = b.take j)
    (fun r => (r = some (.exit 0, (eqIS a b a.length).1 ++ [(14, some (.bool false))], []) ∧ a = b) ∨ (r = some (.ret, [(4, some (.bool false))], []) ∧ ¬ a = b)) a.length (by rw [k_cf, c_rounds]; omega)
    (fun j s hj hI => by
      obtain ⟨rfl, hI⟩ := hI
      have hja : a[j]? = some (gt a j) := by rw [gt]; simp [hj]
      have hjb : b[j]? = some (gt b j) := by rw [gt]; simp [show j < b.length by omega]
      by_cases hq : gt a j = gt b j
      · left
        refine ⟨eqIS a b (j + 1), ?_, rfl, ?_⟩
        · rw [round_v]; simp only [loopAt, nthC, bodyC, loops, List.nil_append, List.cons_append, List.append_nil, Tryd.f106, eqIS]
          simp (disch := omega) [go_sem, tab106, hq]
        · rw [List.take_add_one, List.take_add_one, hI, hja, hjb, hq]
      · right; intro m; right
        refine ⟨vi_ret ?_, fun h => hq (by rw [h])⟩
        rw [round_v]; simp only [loopAt, nthC, bodyC, loops, List.nil_append, List.cons_append, List.append_nil, Tryd.f106, eqIS]
        simp (disch := omega) [go_sem, tab106, hq])
    (fun s hI m => by
      obtain ⟨rfl, hI⟩ := hI
      left
      refine ⟨vi_exit ?_, by rwa [List.take_length, hl, List.take_length] at hI⟩
      rw [round_v]; simp only [loopAt, nthC, bodyC, loops, List.nil_append, List.cons_append, List.append_nil, Tryd.f106, eqIS]
      simp (disch := omega) [go_sem, tab106])
    (eqIS a b 0) ⟨rfl, by simp⟩
  rcases key with ⟨hv, hq⟩ | ⟨hv, hq⟩
  · rw [decide_eq_true hq]
    have hl0 := fun ks => loop_v (P := Tryd.prog) (K := kn) (ks := ks) hv
    simp only [loopAt, nthC, bodyC, loops, List.nil_append, List.cons_append, List.append_nil, Tryd.f106, eqIS, Int.natCast_zero, List.cons_append, List.nil_append] at hl0
    rw [vrun_v Tryd.func106 rfl rfl rfl]; simp only [Tryd.f106]
    simp (disch := omega) [go_sem, tab106, hl, hl0]
  · rw [decide_eq_false hq]
    have hl0 := fun ks => loop_v (P := Tryd.prog) (K := kn) (ks := ks) hv
    simp only [loopAt, nthC, bodyC, loops, List.nil_append, List.cons_append, List.append_nil, Tryd.f106, eqIS, Int.natCast_zero, List.cons_append, List.nil_append] at hl0
    rw [vrun_v Tryd.func106 rfl rfl rfl]; simp only [Tryd.f106]
    simp (disch := omega) [go_sem, tab106, hl, hl0]
theorem eqNat_v (d : Nat) (ha : a.length < 1000000000) (hb : b.length < 1000000000) : vrun Tryd.prog kn (d + 2) 77 [.agg [.ints .i64 a], .agg [.ints .i64 b]] [] = some (.bool (decide (a = b)), []) := by
  have h1 := fun d => eqIntS_v d ha hb
  by_cases h : a = b <;> simp only [h, decide_true, decide_false] at h1 ⊢
  all_goals
    rw [vrun_v Tryd.func77 rfl rfl rfl]; simp only [Tryd.f77]
    simp (disch := omega) [go_sem, tab77, h1]
theorem eqWhole_v (d : Nat) {n1 n2 : Bool} (ha : a.length < 1000000000) (hb : b.length < 1000000000) : vrun Tryd.prog kn (d + 3) 42 [.agg [.bool n1, .ints .i64 a], .agg [.bool n2, .ints .i64 b]] [] = some (.bool (decide (n1 = n2) && decide (a = b)), []) := by
  have h1 := fun d => eqNat_v d ha hb
  by_cases h : a = b <;> simp only [h, decide_true, decide_false, Bool.and_true, Bool.and_false] at h1 ⊢
  all_goals
    rw [vrun_v Tryd.func42 rfl rfl rfl]; simp only [Tryd.f42]
    cases n1 <;> cases n2 <;> simp (disch := omega) [go_sem, tab42, h1]
theorem eqDy_v (d : Nat) {n1 n2 : Bool} {e1 e2 : Int} (ha : a.length < 1000000000) (hb : b.length < 1000000000) : vrun Tryd.prog kn (d + 4) 13 [.agg [.bool n1, .ints .i64 a, .int .i64 e1], .agg [.bool n2, .ints .i64 b, .int .i64 e2]] [] = some (.bool (decide (n1 = n2) && decide (a = b) && decide (e1 = e2)), []) := by
  have h1 := fun d => eqWhole_v (n1 := n1) (n2 := n2) d ha hb
  cases hc : (decide (n1 = n2) && decide (a = b)) <;> rw [hc] at h1 <;> by_cases he : e1 = e2
  all_goals
    rw [vrun_v Tryd.func13 rfl rfl rfl]; simp only [Tryd.f13]
    simp (disch := omega) [go_sem, tab13, h1, he]
end
end
end Go.Eng
