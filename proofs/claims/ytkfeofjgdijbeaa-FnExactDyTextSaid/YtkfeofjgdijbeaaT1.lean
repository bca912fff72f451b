/- What the functions of this seat do, one after another, told by plain values. No conditions. -/
import Derived.Test.YtkfeofjgdijbeaaSeat
import Derived.Test.YtkfeofjgdijbeaaVb
set_option linter.unusedVariables false
set_option linter.unusedSimpArgs false
namespace Go.Eng
open Go.Proofs
set_option maxRecDepth 100000
set_option linter.unusedSimpArgs false
attribute [local go_sem] r_seq r_skip r_retC r_exitC r_label r_block r_region r_or0 r_regionW r_xWt r_xW r_cond r_Bt r_Bf r_Ncode r_Nret r_Nexit r_Nblk r_Nblkr r_Nblke r_Nnil r_Es r_Onil r_Oop r_Oif r_Xs r_Gt r_Gf r_wtt r_wtf r_wft r_wff r_wu r_gO r_putS r_putN r_get r_keepN r_keepC r_fr r_fn r_fi r_ff r_fo r_l1 r_l2t r_cun r_cul r_cub r_cui r_cus r_cuis r_cuc r_cusl r_cuti r_cutv r_ven r_vec r_l2f r_l3 r_t1 r_t2 r_t0 r_rt r_rc r_en r_ec r_cM r_oN r_oC r_end r_endt r_endf r_nob0 r_nobN r_nobC r_nobE r_nb0 r_nbi r_nbs r_nbsl r_nbin r_nbce r_nLn r_nLv r_nLc r_nAa r_nAn r_nAk_b r_nAk_i r_nAk_s r_nAk_n r_nAk_is r_nAk_ce r_nAk_fp r_nAk_sl r_nAk_pt r_nAk_fn r_nsn r_nsv r_nsc r_m0 r_mi r_ms r_msl r_min r_mce r_mLn r_mLv r_mLc r_mAa r_mAn r_mAk_b r_mAk_i r_mAk_s r_mAk_n r_mAk_is r_mAk_ce r_mAk_fp r_mAk_sl r_mAk_pt r_mAk_fn r_msn r_msv r_msc r_atb r_ati r_ats r_atn r_atis r_atc r_atf r_atl r_atp r_atfn r_gcn r_gcc r_gLn r_gLc r_gIt r_ndn r_ndc r_gcB r_gLB r_two r_rea r_rea0 r_re1n r_re1c r_ori r_orv r_ord r_orn r_adn r_adc r_ad1 r_ern r_ers r_er0 r_rsl r_rptr r_rb r_ri r_rs r_rn r_ris r_rce r_rfp r_ra4 r_ra3 r_rt4 r_rf4 r_rf3 r_idS r_idc r_nS r_nP r_nF r_nT r_vsl r_vptr r_vb r_vi r_vs r_vn r_vis r_vce r_vfp r_va4 r_va3 r_vt4 r_vf4 r_vf3 r_rV r_Oi r_Ov r_Od r_rE r_rE0 r_En r_Ec r_E0 r_pO r_pk r_agL r_cO r_fO r_fSi r_fSv r_fPv r_fsl r_fptr r_ffn r_fag r_fb r_fint r_fstr r_fnil r_fis r_fce r_ffp r_res r_move r_assign r_pick r_pickt r_pickf r_alloc r_box r_al r_build r_bslice r_load r_store r_nlc r_nl1 r_nl2 r_bin r_un r_conv r_mkf r_mks r_slc r_fad r_fld r_iad r_idx r_ext r_ex1 r_callf r_callt r_callen r_calapp r_calcp r_calmax r_calmin r_vt r_vcb r_vci r_vcs r_vcnp r_vcn r_vca r_vcf r_vcg r_ofb r_ofi r_ofs r_ofn r_evs r_pn r_prt r_pc r_one_a r_one_b r_one_i r_one_s r_one_n r_one_is r_one_ce r_one_fp r_one_sl r_one_pt r_one_fn r_cs_a r_cs_b r_cs_i r_cs_s r_cs_n r_cs_is r_cs_ce r_cs_fp r_cs_sl r_cs_pt r_cs_fn r_tov r_tovA r_toc r_toa r_tb r_ti r_ts r_tn r_bd r_bd2 r_filn r_fp1 r_filc r_fsn r_fsc r_san r_sac r_bs2 r_bs1 r_nE r_newO r_mkq r_mkI r_mkOi r_mkOv r_tIn r_tIc r_repz r_repn r_ldp r_ldf r_l1t r_l1f r_lFt r_lFf r_aggO r_obj r_at r_ati' r_atv r_celli r_cellv r_subi r_subv r_sto r_sto1 r_sto2 r_sets r_setR r_setn r_setc r_s1i r_s1v r_bin1 r_bin2 r_tv1 r_cb r_ci r_cst r_cn r_csl r_cis r_cce r_uni r_unb r_cv r_cvO r_cvN r_cv0 r_cvS r_wB r_cvi r_cvs r_cvb r_cvl r_sO r_rdn r_rdi r_rdl r_rdO r_vsub r_vfn r_mk r_mk1 r_mk2 r_zoi r_zov r_leni r_lenv r_bn r_bndV r_bo r_sl0 r_sl1 r_vsz r_ct1 r_cts r_cti r_ctc r_ctn r_lnl r_lni r_lnc r_lnn r_fa r_fap r_faf r_fi1 r_fit r_fif r_ixi r_ixs r_ixc r_ixf r_ixF r_ixF2 r_ix1 r_ixsl r_ixin r_ixce r_len1 r_lenA r_lTs r_lTn r_lTl r_lTi r_lTc r_cp0 r_cp1 r_cp2 r_cp3 r_cp4 r_nts r_nti r_ntn r_app0 r_app9 r_paf r_pat r_pal r_son r_soe r_sos r_frn r_fre r_tt1 r_tt2 r_tt3 r_app r_app1 r_app2 r_app3 r_catO r_cati r_catv r_newt r_newf r_pair r_pairK r_trip r_kis r_kiv r_srn r_srl r_sri r_src r_srs r_oln r_ole r_oll r_vw r_wi r_wv r_mm r_max r_min' r_str r_cF r_c2t r_c3f r_c3t r_ab r_c2f r_cV r_p1 r_la r_la2t r_la2f r_la3 r_sh r_z_is r_z_ce r_z_fp r_z_b r_z_i r_z_s r_z_n r_z_l r_z_p r_z_a4 r_z_a3 r_z_t4 r_zoI r_zoV r_roN r_roC r_roi r_rod r_zod r_rov r_aR r_trOi r_trOv r_trPv r_trl r_trp r_trf r_tra r_trb r_tri r_trs r_trn r_tris r_trce r_trfp r_vJ r_vJs r_vJn
attribute [local go_sem] b_add b_sub b_mul b_quo b_rem b_shl b_shr b_eql b_neq b_lss b_leq b_gtr b_geq eqB_s b_eqB b_neB u_neg u_not b_nn b_nn' eqS_s zerosT_s zerosT_n zt_i zt_sl zt_st dstOf_z dstOf_n iltT iltF ileT ileF ieqT ieqF nltT nltF nleT nleF neqT neqF tdiv_pos tmod_pos w64 idx0 List.take_of_length_le
/- Numbers: cmp.Compare, within, trim, small, plus. No conditions. -/
section
open Num
theorem within_v (d : Nat) (n a b : Int) : vrun Try.prog kn (d + 1) 43 [.int .i64 n, .int .i64 a, .int .i64 b] [] = some (.bool (decide (a ≤ n) && decide (n ≤ b)), []) := by
  rw [vrun_v Try.func43 rfl rfl rfl]; simp only [Try.f43]
  by_cases h : a ≤ n
  · simp (disch := omega) [go_sem, tab43, h]
  · simp (disch := omega) [go_sem, tab43, h]
def cmp2 (x y : Int) : Int := if x < y then -1 else if y < x then 1 else 0
section
variable {h : VH} {l : List Int} {i : Nat} {w : Bool}
theorem trim_r0 (call : CallV) : vCode Try.prog kn call 114 (loopAt Try.f114 0) [(0, some (.sl i 0 0 1))] h = some (.exit 0, [(0, some (.sl i 0 0 1)), (14, some (.bool false))], h) := by
  rw [round_v]; simp only [loopAt, nthC, bodyC, loops, List.nil_append, List.cons_append, List.append_nil, Try.f114]
  simp (disch := omega) [go_sem, tab114, nil114]
theorem trim_r1 (call : CallV) (j : Nat) (hj : j < 4611686018427387904) (hi : h[i]? = some (.ints w .i64 l)) (hm : j + 1 ≤ l.length) (h0 : gt l j = 0) :
    vCode Try.prog kn call 114 (loopAt Try.f114 0) [(0, some (.sl i 0 (j + 1) 1))] h = some (.norm, [(0, some (.sl i 0 j 1))], h) := by
  rw [round_v]; simp only [loopAt, nthC, bodyC, loops, List.nil_append, List.cons_append, List.append_nil, Try.f114]
  simp (disch := omega) [go_sem, tab114, nil114, hi, h0]
theorem trim_r2 (call : CallV) (j : Nat) (hj : j < 4611686018427387904) (hi : h[i]? = some (.ints w .i64 l)) (hm : j + 1 ≤ l.length) (h0 : ¬ gt l j = 0) :
    vCode Try.prog kn call 114 (loopAt Try.f114 0) [(0, some (.sl i 0 (j + 1) 1))] h = some (.exit 0, [(0, some (.sl i 0 (j + 1) 1)), (14, some (.bool false))], h) := by
  rw [round_v]; simp only [loopAt, nthC, bodyC, loops, List.nil_append, List.cons_append, List.append_nil, Try.f114]
  simp (disch := omega) [go_sem, tab114, nil114, hi, h0]
theorem trim_l (call : CallV) (hi : h[i]? = some (.ints w .i64 l)) (hl : l.length < 4611686018427387904) : ∀ (j n : Nat), j ≤ l.length → j < n →
    viter (vCode Try.prog kn call 114 (loopAt Try.f114 0)) n [(0, some (.sl i 0 j 1))] h = some (.exit 0, [(0, some (.sl i 0 (tl l j) 1)), (14, some (.bool false))], h)
  | 0, n + 1, _, _ => vi_exit (trim_r0 call)
  | j + 1, n + 1, hj, hn => by
    by_cases h0 : gt l j = 0
    · rw [vi_norm (trim_r1 call j (by omega) hi hj h0), trim_l call hi hl j n (by omega) (by omega), tl, if_pos h0]
    · rw [vi_exit (trim_r2 call j (by omega) hi hj h0), tl, if_neg h0]
theorem trim_v (d : Nat) (hi : h[i]? = some (.ints w .i64 l)) (hl : l.length < 1000000000) (n : Nat) (hn : n = l.length) :
    vrun Try.prog kn (d + 1) 114 [.sl i 0 n 1] h = some (.sl i 0 (tl l l.length) 1, h) := by
  subst hn
  have hl0 := fun ks => loop_v (P := Try.prog) (K := kn) (ks := ks) (trim_l (vrun Try.prog kn d) hi (by omega) l.length kn.cf.rounds (Nat.le_refl _) (by rw [k_cf, c_rounds]; omega))
  simp only [loopAt, nthC, bodyC, loops, List.nil_append, List.cons_append, List.append_nil, Try.f114] at hl0
  rw [vrun_v Try.func114 rfl rfl rfl]; simp only [Try.f114]
  simp (disch := omega) [go_sem, tab114, nil114, hl0]
/-- As plus, minus, times and their like call it. -/
theorem trim0_v (d : Nat) {l : List Int} {n v : Nat} (hl : l.length < 1000000000) (hn : n = l.length) (hg : GoodL l) (hv : val l = v) :
    vrun Try.prog kn (d + 1) 114 [.sl 0 0 n 1] [.ints false .i64 l] = some (.sl 0 0 (D v).length 1, [.ints false .i64 l]) := by
  rw [trim_v d (h := [.ints false .i64 l]) (i := 0) (w := false) (l := l) rfl hl n hn, (tl_D hg hv).1]
theorem trim2_v (d : Nat) {l : List Int} {n v : Nat} (hl : l.length < 1000000000) (hn : n = l.length) (hg : GoodL l) (hv : val l = v) (a b : VO) :
    vrun Try.prog kn (d + 1) 114 [.sl 2 0 n 1] [a, b, .ints false .i64 l] = some (.sl 2 0 (D v).length 1, [a, b, .ints false .i64 l]) := by
  rw [trim_v d (h := [a, b, .ints false .i64 l]) (i := 2) (w := false) (l := l) rfl hl n hn, (tl_D hg hv).1]
end
end
/- Numbers: small, plus, minus. No conditions. -/
section
open Num
section
variable {x y : Nat}
def plusS (x y j : Nat) : VE × VH := ([(1, some (.ints .i64 (D y))), (5, some (.sl 0 0 j 1)), (6, some (.int .i64 (carry x y j))), (20, some (.ints .i64 (D x))), (21, some (.int .i64 (D x).length)), (22, some (.int .i64 j))], [.ints true .i64 (dgs (x + y) j)])
end
end
/- Numbers: small, minus, and the reference's l2of, l2norm. No conditions. -/
section
open Num
theorem dg_step {n j : Nat} : n / 65536 ^ j % 65536 = n / 65536 ^ j % 65536 ∧ n / 65536 ^ (j + 1) = n / 65536 ^ j / 65536 := ⟨rfl, by rw [Nat.pow_succ, Nat.div_div_eq_div_mul]⟩
theorem quo_step (n j : Nat) : ((n / 65536 ^ j : Nat) : Int) / 65536 = ((n / 65536 ^ (j + 1) : Nat) : Int) := by rw [dg_step.2]; omega
theorem rem_step (n j : Nat) : ((n / 65536 ^ j : Nat) : Int) % 65536 = dg n j := by unfold dg; omega
theorem quo_pos {n j : Nat} (h : j < (D n).length) : 0 < n / 65536 ^ j := Nat.div_pos (len_D_lt.1 h) (powN_pos j)
theorem quo_end (n : Nat) : n / 65536 ^ (D n).length = 0 := Nat.div_eq_of_lt (lt_len_D n)
theorem quo_le (n j : Nat) : n / 65536 ^ j ≤ n := Nat.div_le_self _ _
section
def smallS (n j : Nat) : VE × VH := ([(0, some (.int .i64 ((n / 65536 ^ j : Nat) : Int))), (3, some (.sl 0 0 j 1))], [.ints true .i64 (dgs n j)])
theorem small_r (call : CallV) {n : Nat} (hn : n < 9223372036854775808) (hl : (D n).length < 1000000) (j : Nat) (hj : j < (D n).length) :
    vCode Try.prog kn call 75 (loopAt Try.f75 0) (smallS n j).1 (smallS n j).2 = some (.norm, smallS n (j + 1)) := by
  have b1 := quo_pos hj
  have b2 := quo_le n j
  rw [round_v]; simp only [loopAt, nthC, bodyC, loops, List.nil_append, List.cons_append, List.append_nil, Try.f75, smallS, dgs_succ, ← rem_step, ← quo_step]
  generalize n / 65536 ^ j = q at *
  simp (disch := omega) [go_sem, tab75, nil75, dgs_len, dgs_take]
theorem small_x (call : CallV) {n : Nat} (hl : (D n).length < 1000000) :
    vCode Try.prog kn call 75 (loopAt Try.f75 0) (smallS n (D n).length).1 (smallS n (D n).length).2 = some (.exit 0, [(0, some (.int .i64 0)), (3, some (.sl 0 0 (D n).length 1)), (5, some (.bool false))], [.ints true .i64 (dgs n (D n).length)]) := by
  rw [round_v]; simp only [loopAt, nthC, bodyC, loops, List.nil_append, List.cons_append, List.append_nil, Try.f75, smallS, quo_end]
  simp (disch := omega) [go_sem, tab75, nil75, dgs_len]
theorem dgs_D (n : Nat) : dgs n (D n).length = D n := by
  have := (dgs_tl (lt_len_D n)).2.1
  rwa [dgs_take] at this
theorem small_v (d : Nat) {n : Nat} (hn : n < 9223372036854775808) : vrun Try.prog kn (d + 1) 75 [.int .i64 (n : Int)] [] = some (.sl 0 0 (D n).length 1, [.ints true .i64 (D n)]) := by
  have hl : (D n).length < 1000000 := by
    have : (D n).length ≤ 4 := len_D_le.2 (by omega)
    omega
  have hl0 := fun ks => loop_v (P := Try.prog) (K := kn) (ks := ks) (vi_for (smallS n) (D n).length (by rw [k_cf, c_rounds]; omega) (small_r (vrun Try.prog kn d) hn hl) fun m => vi_exit (small_x _ hl))
  simp only [loopAt, nthC, bodyC, loops, List.nil_append, List.cons_append, List.append_nil, Try.f75, smallS, dgs, Nat.pow_zero, Nat.div_one] at hl0
  rw [vrun_v Try.func75 rfl rfl rfl]; simp only [Try.f75]
  simp (disch := omega) [go_sem, tab75, nil75, hl0, dgs_D]
def minusS (x y j : Nat) : VE × VH := ([(1, some (.ints .i64 (D y))), (5, some (.sl 0 0 j 1)), (6, some (.int .i64 (borrow x y j))), (12, some (.ints .i64 (D x))), (13, some (.int .i64 (D x).length)), (14, some (.int .i64 j))], [.ints true .i64 (dgs (x - y) j)])
variable {x y : Nat}
theorem minus_r (call : CallV) (hxy : y ≤ x) (hx : (D x).length < 1000000) (j : Nat) (hj : j < (D x).length) :
    vCode Try.prog kn call 91 (loopAt Try.f91 0) (minusS x y j).1 (minusS x y j).2 = some (.norm, minusS x y (j + 1)) := by
  have b1 := dg_bd x j
  have b2 := dg_bd y j
  have b3 := borrow_bd x y j
  rw [round_v]; simp only [loopAt, nthC, bodyC, loops, List.nil_append, List.cons_append, List.append_nil, Try.f91, minusS, dgs_succ, borrow_succ hxy, dg_sub hxy]
  by_cases hlt : j < (D y).length
  · by_cases hb : dg x j - borrow x y j - dg y j < 0
    · simp (disch := omega) [go_sem, tab91, nil91, gt_D, dgs_len, dgs_take, hb]
    · simp (disch := omega) [go_sem, tab91, nil91, gt_D, dgs_len, dgs_take, hb]
  · have := dg_len (x := y) (i := j) (by omega)
    rw [this]
    by_cases hb : dg x j - borrow x y j - 0 < 0
    · simp (disch := omega) [go_sem, tab91, nil91, gt_D, dgs_len, dgs_take]
    · simp (disch := omega) [go_sem, tab91, nil91, gt_D, dgs_len, dgs_take]
theorem minus_x (call : CallV) (hx : (D x).length < 1000000) :
    vCode Try.prog kn call 91 (loopAt Try.f91 0) (minusS x y (D x).length).1 (minusS x y (D x).length).2 = some (.exit 0, [(1, some (.ints .i64 (D y))), (5, some (.sl 0 0 (D x).length 1)), (6, some (.int .i64 (borrow x y (D x).length))), (12, some (.ints .i64 (D x))), (13, some (.int .i64 (D x).length)), (14, some (.int .i64 (D x).length)), (15, some (.bool false))], [.ints true .i64 (dgs (x - y) (D x).length)]) := by
  rw [round_v]; simp only [loopAt, nthC, bodyC, loops, List.nil_append, List.cons_append, List.append_nil, Try.f91, minusS]
  simp (disch := omega) [go_sem, tab91, nil91, dgs_len]
theorem minus_v (d : Nat) (hxy : y ≤ x) (hx : (D x).length < 1000000) :
    vrun Try.prog kn (d + 2) 91 [.ints .i64 (D x), .ints .i64 (D y)] [] = some (.sl 0 0 (D (x - y)).length 1, [.ints true .i64 (D (x - y))]) := by
  have hl0 := fun ks => loop_v (P := Try.prog) (K := kn) (ks := ks) (vi_for (minusS x y) (D x).length (by rw [k_cf, c_rounds]; omega) (minus_r (vrun Try.prog kn (d + 1)) hxy hx) fun m => vi_exit (minus_x _ hx))
  simp only [loopAt, nthC, bodyC, loops, List.nil_append, List.cons_append, List.append_nil, Try.f91, minusS, dgs, borrow_zero, Int.natCast_zero] at hl0
  have c2 : x - y < 65536 ^ (D x).length := Nat.lt_of_le_of_lt (Nat.sub_le _ _) (lt_len_D x)
  have ht := trim0_v d (l := dgs (x - y) (D x).length) (n := (D x).length) (v := x - y) (by rw [dgs_len]; omega) (by rw [dgs_len]) (dgs_good _ _) (by rw [dgs_val, lo_len (lt_pow_len c2)])
  have ht2 := (dgs_tl c2).2
  rw [vrun_v Try.func91 rfl rfl rfl]; simp only [Try.f91]
  simp (disch := omega) [go_sem, tab91, nil91, hl0, dgs_len, ht, ht2]
end
section
def normS (l : List Int) (j : Nat) : VE × VH := ([(0, some (.ints .i64 l)), (2, some (.ptr 0 0)), (3, some (.int .i64 j))], [.vals true [.nil]])
variable {l : List Int}
theorem norm_r1 (call : CallV) (j : Nat) (hj : j < l.length) (hl : l.length < 1000000000) (h0 : gt l j = 0) :
    vCode Try.prog kn call 109 (loopAt Try.f109 0) (normS l (j + 1)).1 (normS l (j + 1)).2 = some (.norm, normS l j) := by
  rw [round_v]; simp only [loopAt, nthC, bodyC, loops, List.nil_append, List.cons_append, List.append_nil, Try.f109, normS]
  simp (disch := omega) [go_sem, tab109, h0]
theorem norm_x (call : CallV) (j : Nat) (hj : j ≤ l.length) (hl : l.length < 1000000000) (h0 : tl l j = j) :
    vCode Try.prog kn call 109 (loopAt Try.f109 0) (normS l j).1 (normS l j).2 = some (.exit 0, [(0, some (.ints .i64 l)), (2, some (.ptr 0 0)), (3, some (.int .i64 j)), (15, some (.bool false))], [.vals true [.nil]]) := by
  rw [round_v]; simp only [loopAt, nthC, bodyC, loops, List.nil_append, List.cons_append, List.append_nil, Try.f109, normS]
  cases j with
  | zero => simp (disch := omega) [go_sem, tab109]
  | succ j =>
    have h1 : ¬ gt l j = 0 := fun h1 => by
      rw [tl, if_pos h1] at h0
      have := tl_le l j; omega
    simp (disch := omega) [go_sem, tab109, h1]
theorem norm_l (call : CallV) (hl : l.length < 1000000000) : ∀ (j n : Nat), j ≤ l.length → j < n →
    viter (vCode Try.prog kn call 109 (loopAt Try.f109 0)) n (normS l j).1 (normS l j).2 = some (.exit 0, [(0, some (.ints .i64 l)), (2, some (.ptr 0 0)), (3, some (.int .i64 (tl l j))), (15, some (.bool false))], [.vals true [.nil]])
  | 0, n + 1, _, _ => vi_exit (norm_x call 0 (by omega) hl rfl)
  | j + 1, n + 1, hj, hn => by
    by_cases h0 : gt l j = 0
    · rw [vi_norm (norm_r1 call j (by omega) hl h0), tl, if_pos h0]
      exact norm_l call hl j n (by omega) (by omega)
    · have e : tl l (j + 1) = j + 1 := by rw [tl, if_neg h0]
      rw [vi_exit (norm_x call (j + 1) hj hl e), e]
theorem l2norm_v (d : Nat) (hl : l.length < 1000000000) (hg : GoodL l) {v : Nat} (hv : val l = v) : vrun Try.prog kn (d + 1) 109 [.ints .i64 l] [] = some (.agg [.sl 0 0 (D v).length 1], [.ints true .i64 (D v)]) := by
  have hl0 := fun ks => loop_v (P := Try.prog) (K := kn) (ks := ks) (norm_l (vrun Try.prog kn d) hl l.length kn.cf.rounds (Nat.le_refl _) (by rw [k_cf, c_rounds]; omega))
  simp only [loopAt, nthC, bodyC, loops, List.nil_append, List.cons_append, List.append_nil, Try.f109, normS] at hl0
  obtain ⟨e1, e2, e3⟩ := tl_D hg hv
  rw [e1] at hl0
  rw [vrun_v Try.func109 rfl rfl rfl]; simp only [Try.f109]
  simp (disch := omega) [go_sem, tab109, hl0, e2]
end
section
def ofS (n j : Nat) : VE × VH := ([(0, some (.int .i64 ((n / 65536 ^ j : Nat) : Int))), (2, some (.ptr 0 0)), (3, some (.sl 1 0 j 1))], [.vals true [.nil], .ints true .i64 (dgs n j)])
theorem of_r (call : CallV) {n : Nat} (hn : n < 9223372036854775808) (hl : (D n).length < 1000000) (j : Nat) (hj : j < (D n).length) :
    vCode Try.prog kn call 83 (loopAt Try.f83 0) (ofS n j).1 (ofS n j).2 = some (.norm, ofS n (j + 1)) := by
  have b1 := quo_pos hj
  have b2 := quo_le n j
  rw [round_v]; simp only [loopAt, nthC, bodyC, loops, List.nil_append, List.cons_append, List.append_nil, Try.f83, ofS, dgs_succ, ← rem_step, ← quo_step]
  generalize n / 65536 ^ j = q at *
  simp (disch := omega) [go_sem, tab83, nil83, dgs_len, dgs_take]
theorem of_x (call : CallV) {n : Nat} (hl : (D n).length < 1000000) :
    vCode Try.prog kn call 83 (loopAt Try.f83 0) (ofS n (D n).length).1 (ofS n (D n).length).2 = some (.exit 0, [(0, some (.int .i64 0)), (2, some (.ptr 0 0)), (3, some (.sl 1 0 (D n).length 1)), (5, some (.bool false))], [.vals true [.nil], .ints true .i64 (dgs n (D n).length)]) := by
  rw [round_v]; simp only [loopAt, nthC, bodyC, loops, List.nil_append, List.cons_append, List.append_nil, Try.f83, ofS, quo_end]
  simp (disch := omega) [go_sem, tab83, nil83, dgs_len]
theorem l2of_v (d : Nat) {n : Nat} (hn : n < 9223372036854775808) : vrun Try.prog kn (d + 1) 83 [.int .i64 (n : Int)] [] = some (.agg [.sl 0 0 (D n).length 1], [.ints true .i64 (D n)]) := by
  have hl : (D n).length < 1000000 := by
    have : (D n).length ≤ 4 := len_D_le.2 (by omega)
    omega
  have hl0 := fun ks => loop_v (P := Try.prog) (K := kn) (ks := ks) (vi_for (ofS n) (D n).length (by rw [k_cf, c_rounds]; omega) (of_r (vrun Try.prog kn d) hn hl) fun m => vi_exit (of_x _ hl))
  simp only [loopAt, nthC, bodyC, loops, List.nil_append, List.cons_append, List.append_nil, Try.f83, ofS, dgs, Nat.pow_zero, Nat.div_one] at hl0
  rw [vrun_v Try.func83 rfl rfl rfl]; simp only [Try.f83]
  simp (disch := omega) [go_sem, tab83, nil83, hl0, dgs_D]
end
end
/- Numbers: compare, times, and the reference's l2cmp, l2add, l2sub, l2mul. No conditions. -/
section
open Num
theorem cmp_step {x y i : Nat} (h : x / 65536 ^ (i + 1) = y / 65536 ^ (i + 1)) : (dg x i = dg y i → x / 65536 ^ i = y / 65536 ^ i) ∧ (dg x i < dg y i → x < y) ∧ (dg y i < dg x i → y < x) := by
  have e1 := div_pow_succ x i
  have e2 := div_pow_succ y i
  unfold dg
  refine ⟨fun h1 => by omega, fun h1 => lt_of_div (p := 65536 ^ i) (by omega), fun h1 => lt_of_div (p := 65536 ^ i) (by omega)⟩
theorem div_len {x n : Nat} (h : (D x).length ≤ n) : x / 65536 ^ n = 0 := Nat.div_eq_of_lt (len_D_le.1 h)
section
variable {x y : Nat}
/-- Lists of one length: up from the high end. -/
theorem comp_l {body : VE → VH → Option (AX × VE × VH)} {S : Int → VE × VH} {E : VE × VH} {R : Int → VE × VH}
    (hx : body (S (-1)).1 (S (-1)).2 = some (.exit 0, E)) (h1 : ∀ j : Nat, j < (D x).length → dg x j = dg y j → body (S j).1 (S j).2 = some (.norm, S ((j : Int) - 1)))
    (h2 : ∀ j : Nat, j < (D x).length → dg x j < dg y j → body (S j).1 (S j).2 = some (.ret, R (-1))) (h3 : ∀ j : Nat, j < (D x).length → dg y j < dg x j → body (S j).1 (S j).2 = some (.ret, R 1)) :
    ∀ (j n : Nat), j ≤ (D x).length → x / 65536 ^ j = y / 65536 ^ j → j < n →
    (viter body n (S ((j : Int) - 1)).1 (S ((j : Int) - 1)).2 = some (.exit 0, E) ∧ cmpI x y = 0) ∨ viter body n (S ((j : Int) - 1)).1 (S ((j : Int) - 1)).2 = some (.ret, R (cmpI x y))
  | 0, n + 1, _, he, _ => by
    refine .inl ⟨vi_exit hx, ?_⟩
    simp only [Nat.pow_zero, Nat.div_one] at he
    subst he; simp [cmpI]
  | j + 1, n + 1, hj, he, hn => by
    have e : (((j + 1 : Nat) : Int) - 1) = (j : Int) := by omega
    rw [e]
    obtain ⟨s1, s2, s3⟩ := cmp_step he
    rcases Int.lt_trichotomy (dg x j) (dg y j) with hd | hd | hd
    · right
      rw [vi_ret (h2 j (by omega) hd)]
      unfold cmpI; rw [if_pos (s2 hd)]
    · rw [vi_norm (h1 j (by omega) hd)]
      exact comp_l hx h1 h2 h3 j n (by omega) (s1 hd) (by omega)
    · right
      rw [vi_ret (h3 j (by omega) hd)]
      have := s3 hd
      unfold cmpI; rw [if_neg (by omega), if_neg (by omega)]
def compS (x y : Nat) (i : Int) : VE × VH := ([(0, some (.ints .i64 (D x))), (1, some (.ints .i64 (D y))), (5, some (.int .i64 i))], [])
def cmpS (x y : Nat) (i : Int) : VE × VH := ([(2, some (.ptr 0 0)), (3, some (.ptr 1 0)), (5, some (.int .i64 i))], [.vals true [.ints .i64 (D x)], .vals true [.ints .i64 (D y)]])
end
end
/- Numbers: times, l2add, l2sub, l2mul. No conditions. -/
section
open Num
section
variable {x y : Nat}
theorem add_go {x y j : Nat} (h : j < (D (x + y)).length) : j < (D x).length ∨ (¬ j < (D x).length ∧ j < (D y).length) ∨ (¬ j < (D x).length ∧ ¬ j < (D y).length ∧ 0 < carry x y j) := by
  by_cases h1 : j < (D x).length
  · exact .inl h1
  · by_cases h2 : j < (D y).length
    · exact .inr (.inl ⟨h1, h2⟩)
    · refine .inr (.inr ⟨h1, h2, ?_⟩)
      have hx : x < 65536 ^ j := len_D_le.1 (by omega)
      have hy : y < 65536 ^ j := len_D_le.1 (by omega)
      have hp : 65536 ^ j ≤ x + y := len_D_lt.1 h
      unfold carry
      rw [Nat.mod_eq_of_lt hx, Nat.mod_eq_of_lt hy]
      have := Nat.div_pos hp (powN_pos j)
      omega
theorem add_end (x y : Nat) : (D x).length ≤ (D (x + y)).length ∧ (D y).length ≤ (D (x + y)).length ∧ carry x y (D (x + y)).length = 0 := by
  refine ⟨len_mono (by omega), len_mono (by omega), ?_⟩
  have h := lt_len_D (x + y)
  unfold carry
  rw [Nat.mod_eq_of_lt (by omega), Nat.mod_eq_of_lt (by omega), Nat.div_eq_of_lt h]; rfl
def addS (x y j : Nat) : VE × VH := ([(2, some (.ptr 0 0)), (3, some (.ptr 1 0)), (4, some (.ptr 2 0)), (5, some (.sl 3 0 j 1)), (6, some (.int .i64 (carry x y j))), (7, some (.int .i64 j))], [.vals true [.ints .i64 (D x)], .vals true [.ints .i64 (D y)], .vals true [.nil], .ints true .i64 (dgs (x + y) j)])
def subS (x y j : Nat) : VE × VH := ([(2, some (.ptr 0 0)), (3, some (.ptr 1 0)), (4, some (.ptr 2 0)), (5, some (.sl 3 0 j 1)), (6, some (.int .i64 (borrow x y j))), (7, some (.int .i64 j))], [.vals true [.ints .i64 (D x)], .vals true [.ints .i64 (D y)], .vals true [.nil], .ints true .i64 (dgs (x - y) j)])
end
section
variable {x y : Nat}
/-- A row of a product. -/
theorem mul_in {body : VE → VH → Option (AX × VE × VH)} {S : List Int → Int → Nat → VE × VH} {E : List Int → Int → VE × VH} {ex i N : Nat}
    (hs : ∀ (out : List Int) (c : Int) (j : Nat), j < (D y).length → out.length = N → 0 ≤ c → c < 65536 → 0 ≤ gt out (i + j) → gt out (i + j) < 65536 → 0 ≤ dg x i * dg y j → dg x i * dg y j ≤ 4294836225 →
      body (S out c j).1 (S out c j).2 = some (.norm, S (out.set (i + j) ((c + (gt out (i + j) + dg x i * dg y j)) % 65536)) ((c + (gt out (i + j) + dg x i * dg y j)) / 65536) (j + 1)))
    (hx : ∀ (out : List Int) (c : Int), out.length = N → body (S out c (D y).length).1 (S out c (D y).length).2 = some (.exit ex, E out c)) (hN : i + (D y).length < N) (v0 : Int) (d : Nat) :
    ∀ (j n : Nat) (out : List Int) (c : Int), j + d = (D y).length → d < n → GoodL out → out.length = N → 0 ≤ c → c < 65536 → out.getD (i + (D y).length) 0 = 0 →
      val out + 65536 ^ i * 65536 ^ j * c = v0 + 65536 ^ i * dg x i * lo y j →
    ∃ out' c', viter body n (S out c j).1 (S out c j).2 = some (.exit ex, E out' c') ∧ out'.length = N ∧ gt out' (i + (D y).length) = 0 ∧ 0 ≤ c' ∧ c' < 65536 ∧ GoodL (out'.set (i + (D y).length) c') ∧ val (out'.set (i + (D y).length) c') = v0 + 65536 ^ i * dg x i * y := by
  induction d with
  | zero =>
    intro j n out c hj hn hg hl h0 h1 hz hv
    obtain ⟨n, rfl⟩ : ∃ m, n = m + 1 := ⟨n - 1, by omega⟩
    obtain rfl : j = (D y).length := by omega
    refine ⟨out, c, vi_exit (hx out c hl), hl, hz, h0, h1, hg.set _ h0 h1, ?_⟩
    rw [val_set (by omega), hz, Int.pow_add]
    rw [lo_len (by omega)] at hv
    grind
  | succ d ih =>
    intro j n out c hj hn hg hl h0 h1 hz hv
    obtain ⟨n, rfl⟩ : ∃ m, n = m + 1 := ⟨n - 1, by omega⟩
    have b1 := dg_bd x i
    have b2 := dg_bd y j
    have e2 := lo_succ y j
    have bm := mul_bd b1 b2
    have bo := hg.getD (i + j)
    have bo0 : 0 ≤ gt out (i + j) := bo.1
    have bo1 : gt out (i + j) < 65536 := bo.2
    rw [vi_norm (hs out c j (by omega) hl h0 h1 bo0 bo1 bm.1 bm.2)]
    exact ih (j + 1) n (out.set (i + j) ((c + (gt out (i + j) + dg x i * dg y j)) % 65536)) ((c + (gt out (i + j) + dg x i * dg y j)) / 65536) (by omega) (by omega) (hg.set _ (by omega) (by omega)) (by rw [List.length_set]; exact hl) (by omega) (by omega) (by rw [getD_set_ne_ (by omega)]; exact hz) (by
      rw [e2, Int.pow_succ]
      refine step_mul hv rfl ?_
      rw [val_set (by omega), Int.pow_add]; rfl)
theorem row_zero {x y i : Nat} {out : List Int} (hg : GoodL out) (hv : val out = lo x i * y) : out.getD (i + (D y).length) 0 = 0 := by
  refine getD_zero_of_lt hg ?_
  rw [hv, Int.pow_add]
  have h1 := lo_lt x i
  have h2 : (y : Int) < 65536 ^ (D y).length := by rw [← pow_cast]; exact Int.ofNat_lt.2 (lt_len_D y)
  have h3 := lo_nonneg x i
  have h4 := pow_pos' i
  exact Int.lt_of_le_of_lt (Int.mul_le_mul_of_nonneg_right (Int.le_of_lt h1) (by omega)) (Int.mul_lt_mul_of_pos_left h2 h4)
theorem mul_out {body : VE → VH → Option (AX × VE × VH)} {S : List Int → Nat → VE × VH} {E : List Int → VE × VH} {ex N : Nat}
    (hs : ∀ (out : List Int) (j : Nat), j < (D x).length → GoodL out → out.length = N → val out = lo x j * y → ∃ out', body (S out j).1 (S out j).2 = some (.norm, S out' (j + 1)) ∧ GoodL out' ∧ out'.length = N ∧ val out' = lo x (j + 1) * y)
    (hx : ∀ (out : List Int), out.length = N → body (S out (D x).length).1 (S out (D x).length).2 = some (.exit ex, E out)) (d : Nat) :
    ∀ (j n : Nat) (out : List Int), j + d = (D x).length → d < n → GoodL out → out.length = N → val out = lo x j * y →
    ∃ out', viter body n (S out j).1 (S out j).2 = some (.exit ex, E out') ∧ GoodL out' ∧ out'.length = N ∧ val out' = ((x * y : Nat) : Int) := by
  induction d with
  | zero =>
    intro j n out hj hn hg hl hv
    obtain ⟨n, rfl⟩ : ∃ m, n = m + 1 := ⟨n - 1, by omega⟩
    obtain rfl : j = (D x).length := by omega
    exact ⟨out, vi_exit (hx out hl), hg, hl, by rw [hv, lo_len (by omega), ← Int.natCast_mul]⟩
  | succ d ih =>
    intro j n out hj hn hg hl hv
    obtain ⟨n, rfl⟩ : ∃ m, n = m + 1 := ⟨n - 1, by omega⟩
    obtain ⟨out', hr, hg', hl', hv'⟩ := hs out j (by omega) hg hl hv
    rw [vi_norm hr]
    exact ih (j + 1) n out' (by omega) (by omega) hg' hl' hv'
def timesI (x y i : Nat) (out : List Int) (c : Int) (j : Nat) : VE × VH := ([(1, some (.ints .i64 (D y))), (5, some (.sl 0 0 ((D x).length + (D y).length) 1)), (6, some (.int .i64 i)), (7, some (.int .i64 (dg x i))), (8, some (.int .i64 c)), (17, some (.ints .i64 (D x))), (18, some (.int .i64 (D x).length)), (19, some (.int .i64 i)), (24, some (.ints .i64 (D y))), (25, some (.int .i64 (D y).length)), (26, some (.int .i64 j))], [.ints true .i64 out])
def timesS (x y : Nat) (out : List Int) (j : Nat) : VE × VH := ([(1, some (.ints .i64 (D y))), (5, some (.sl 0 0 ((D x).length + (D y).length) 1)), (17, some (.ints .i64 (D x))), (18, some (.int .i64 (D x).length)), (19, some (.int .i64 j))], [.ints true .i64 out])
theorem times_v (d : Nat) (hx : (D x).length < 1000000) (hy : (D y).length < 1000000) :
    vrun Try.prog kn (d + 2) 74 [.ints .i64 (D x), .ints .i64 (D y)] [] = some (.sl 0 0 (D (x * y)).length 1, [.ints true .i64 (D (x * y))]) := by
  obtain ⟨out, hl, hg, hol, hv⟩ := mul_out (x := x) (y := y) (N := (D x).length + (D y).length) (ex := 0) (S := timesS x y) (E := fun out => ((timesS x y out (D x).length).1 ++ [(20, some (.bool false))], [.ints true .i64 out])) (body := vCode Try.prog kn (vrun Try.prog kn (d + 1)) 74 (loopAt Try.f74 0))
    (fun out i hi hg hol hv => by
      obtain ⟨out', c', hl, hol', hz', hc0, hc1, hg', hv'⟩ := mul_in (x := x) (y := y) (i := i) (ex := 2) (N := (D x).length + (D y).length) (S := timesI x y i) (E := fun out c => ((timesI x y i out c (D y).length).1 ++ [(27, some (.bool false))], [.ints true .i64 out])) (body := vCode Try.prog kn (vrun Try.prog kn (d + 1)) 74 (loopAt Try.f74 1))
        (fun out c j hj hol h0 h1 o0 o1 p0 p1 => by
          rw [round_v]; simp only [loopAt, nthC, bodyC, loops, List.nil_append, List.cons_append, List.append_nil, Try.f74, timesI]
          have e : ((i : Int) + (j : Int)).toNat = i + j := by omega
          simp (disch := omega) [go_sem, tab74, nil74, gt_D, hol, e])
        (fun out c hol => by
          rw [round_v]; simp only [loopAt, nthC, bodyC, loops, List.nil_append, List.cons_append, List.append_nil, Try.f74, timesI]
          simp (disch := omega) [go_sem, tab74, nil74, hol])
        (by omega) (lo x i * y) (D y).length 0 kn.cf.rounds out 0 (by omega) (by rw [k_cf, c_rounds]; omega) hg hol (by omega) (by omega) (row_zero hg hv) (by rw [lo_zero, hv]; grind)
      have hl0 := fun ks => loop_v (P := Try.prog) (K := kn) (ks := ks) hl
      simp only [loopAt, nthC, bodyC, loops, List.nil_append, List.cons_append, List.append_nil, Try.f74, timesI, Int.natCast_zero, List.cons_append, List.nil_append] at hl0
      refine ⟨_, ?_, hg', by rw [List.length_set]; exact hol', by rw [hv', lo_succ]; grind⟩
      rw [round_v]; simp only [loopAt, nthC, bodyC, loops, List.nil_append, List.cons_append, List.append_nil, Try.f74, timesS]
      have e : ((i : Int) + ((D y).length : Int)).toNat = i + (D y).length := by omega
      simp (disch := omega) [go_sem, tab74, nil74, gt_D, hl0, hol, hol', e])
    (fun out hol => by
      rw [round_v]; simp only [loopAt, nthC, bodyC, loops, List.nil_append, List.cons_append, List.append_nil, Try.f74, timesS]
      simp (disch := omega) [go_sem, tab74, nil74, hol])
    (D x).length 0 kn.cf.rounds (List.replicate ((D x).length + (D y).length) 0) (by omega) (by rw [k_cf, c_rounds]; omega) (GoodL.zeros _) (by simp) (by rw [val_zeros, lo_zero]; simp)
  have hl0 := fun ks => loop_v (P := Try.prog) (K := kn) (ks := ks) hl
  simp only [loopAt, nthC, bodyC, loops, List.nil_append, List.cons_append, List.append_nil, Try.f74, timesS, Int.natCast_zero, List.cons_append, List.nil_append] at hl0
  have ht := trim0_v d (l := out) (n := (D x).length + (D y).length) (v := x * y) (by omega) (by omega) hg hv
  obtain ⟨-, htk, hle⟩ := tl_D hg (l := out) (v := x * y) hv
  have e : ((D x).length + (D y).length : Int).toNat = (D x).length + (D y).length := by omega
  rw [vrun_v Try.func74 rfl rfl rfl]; simp only [Try.f74]
  simp (disch := omega) [go_sem, tab74, nil74, hl0, ht, htk, hol, e]
def mulI (x y i : Nat) (out : List Int) (c : Int) (j : Nat) : VE × VH := ([(2, some (.ptr 0 0)), (3, some (.ptr 1 0)), (4, some (.ptr 2 0)), (5, some (.sl 3 0 ((D x).length + (D y).length) 1)), (6, some (.int .i64 i)), (7, some (.int .i64 c)), (8, some (.int .i64 j))], [.vals true [.ints .i64 (D x)], .vals true [.ints .i64 (D y)], .vals true [.nil], .ints true .i64 out])
def mulS (x y : Nat) (out : List Int) (j : Nat) : VE × VH := ([(2, some (.ptr 0 0)), (3, some (.ptr 1 0)), (4, some (.ptr 2 0)), (5, some (.sl 3 0 ((D x).length + (D y).length) 1)), (6, some (.int .i64 j))], [.vals true [.ints .i64 (D x)], .vals true [.ints .i64 (D y)], .vals true [.nil], .ints true .i64 out])
theorem l2mul_v (d : Nat) (hx : (D x).length < 1000000) (hy : (D y).length < 1000000) :
    vrun Try.prog kn (d + 2) 82 [.agg [.ints .i64 (D x)], .agg [.ints .i64 (D y)]] [] = some (.agg [.ints .i64 (D (x * y))], []) := by
  obtain ⟨out, hl, hg, hol, hv⟩ := mul_out (x := x) (y := y) (N := (D x).length + (D y).length) (ex := 0) (S := mulS x y) (E := fun out => ((mulS x y out (D x).length).1 ++ [(22, some (.bool false))], (mulS x y out 0).2)) (body := vCode Try.prog kn (vrun Try.prog kn (d + 1)) 82 (loopAt Try.f82 0))
    (fun out i hi hg hol hv => by
      obtain ⟨out', c', hl, hol', hz', hc0, hc1, hg', hv'⟩ := mul_in (x := x) (y := y) (i := i) (ex := 2) (N := (D x).length + (D y).length) (S := mulI x y i) (E := fun out c => ((mulI x y i out c (D y).length).1 ++ [(29, some (.bool false))], (mulI x y i out c 0).2)) (body := vCode Try.prog kn (vrun Try.prog kn (d + 1)) 82 (loopAt Try.f82 1))
        (fun out c j hj hol h0 h1 o0 o1 p0 p1 => by
          rw [round_v]; simp only [loopAt, nthC, bodyC, loops, List.nil_append, List.cons_append, List.append_nil, Try.f82, mulI]
          have e : ((i : Int) + (j : Int)).toNat = i + j := by omega
          have e3 : gt out (i + j) + dg x i * dg y j + c = c + (gt out (i + j) + dg x i * dg y j) := by omega
          simp (disch := omega) [go_sem, tab82, gt_D, hol, e, e3])
        (fun out c hol => by
          rw [round_v]; simp only [loopAt, nthC, bodyC, loops, List.nil_append, List.cons_append, List.append_nil, Try.f82, mulI]
          simp (disch := omega) [go_sem, tab82, hol])
        (by omega) (lo x i * y) (D y).length 0 kn.cf.rounds out 0 (by omega) (by rw [k_cf, c_rounds]; omega) hg hol (by omega) (by omega) (row_zero hg hv) (by rw [lo_zero, hv]; grind)
      have hl0 := fun ks => loop_v (P := Try.prog) (K := kn) (ks := ks) hl
      simp only [loopAt, nthC, bodyC, loops, List.nil_append, List.cons_append, List.append_nil, Try.f82, mulI, Int.natCast_zero, List.cons_append, List.nil_append] at hl0
      refine ⟨_, ?_, hg', by rw [List.length_set]; exact hol', by rw [hv', lo_succ]; grind⟩
      rw [round_v]; simp only [loopAt, nthC, bodyC, loops, List.nil_append, List.cons_append, List.append_nil, Try.f82, mulS]
      have e : ((i : Int) + ((D y).length : Int)).toNat = i + (D y).length := by omega
      simp (disch := omega) [go_sem, tab82, gt_D, hl0, hol, hol', e, hz'])
    (fun out hol => by
      rw [round_v]; simp only [loopAt, nthC, bodyC, loops, List.nil_append, List.cons_append, List.append_nil, Try.f82, mulS]
      simp (disch := omega) [go_sem, tab82, hol])
    (D x).length 0 kn.cf.rounds (List.replicate ((D x).length + (D y).length) 0) (by omega) (by rw [k_cf, c_rounds]; omega) (GoodL.zeros _) (by simp) (by rw [val_zeros, lo_zero]; simp)
  have hl0 := fun ks => loop_v (P := Try.prog) (K := kn) (ks := ks) hl
  simp only [loopAt, nthC, bodyC, loops, List.nil_append, List.cons_append, List.append_nil, Try.f82, mulS, Int.natCast_zero, List.cons_append, List.nil_append] at hl0
  have hn := l2norm_v d (l := out) (v := x * y) (by omega) hg hv
  have e : ((D x).length + (D y).length : Int).toNat = (D x).length + (D y).length := by omega
  have htk : out.take ((D x).length + (D y).length) = out := List.take_of_length_le (by omega)
  rw [vrun_v Try.func82 rfl rfl rfl]; simp only [Try.f82]
  simp (disch := omega) [go_sem, tab82, hl0, hn, hol, e, htk]
end
end
/- Numbers: up, down, bits, and the reference's l2small, l2shl, l2shr, l2bit, l2trail. No conditions. -/
section
open Num
theorem b_and1 (P : Program) (t : TypeId) (a : Int) (h0 : 0 ≤ a) (h1 : a < 9223372036854775808) : binE P .and t (.int .i64 a) (.int .i64 1) = some (.int .i64 (a % 2)) := by
  rw [b_and]
  have : (BitVec.ofInt 64 a &&& BitVec.ofInt 64 1).toNat = (a % 2).toNat := by
    rw [BitVec.toNat_and, BitVec.toNat_ofInt, show (BitVec.ofInt 64 1).toNat = 1 from rfl, Nat.and_one_is_mod]
    omega
  have h2 : IntKind.wrap .i64 (((BitVec.ofInt 64 a &&& BitVec.ofInt 64 1).toNat : Nat) : Int) = a % 2 := by
    rw [this, w64 (by omega) (by omega)]; omega
  exact congrArg (fun q => some (CV.int .i64 q)) h2
section
def upS (x m s : Nat) (k : Int) (j : Nat) : VE × VH := ([(1, some (.int .i64 k)), (5, some (.sl 0 0 (s + j) 1)), (6, some (.int .i64 (mcar x m j))), (21, some (.ints .i64 (D x))), (22, some (.int .i64 (D x).length)), (23, some (.int .i64 j))], [.ints true .i64 (List.replicate s 0 ++ dgs (x * m) j)])
theorem shl_m (k : Nat) : (2 : Int) ^ ((k : Int) % 16).toNat = ((2 ^ (k % 16) : Nat) : Int) := by
  rw [show ((k : Int) % 16).toNat = k % 16 by omega, Int.natCast_pow]; rfl
theorem mulm_bd {a : Int} {m : Nat} (h0 : 0 ≤ a) (h1 : a < 65536) (hm : m ≤ 32768) : 0 ≤ a * m ∧ a * m ≤ 2147450880 := by
  refine ⟨Int.mul_nonneg h0 (by omega), ?_⟩
  have : a * m ≤ 65535 * 32768 := Int.mul_le_mul (by omega) (by omega) (by omega) (by omega)
  omega
variable {x k : Nat}
theorem up_r (call : CallV) (hx : (D x).length < 1000000) (hk : k < 1000000) (j : Nat) (hj : j < (D x).length) :
    vCode Try.prog kn call 90 (loopAt Try.f90 0) (upS x (2 ^ (k % 16)) (k / 16) k j).1 (upS x (2 ^ (k % 16)) (k / 16) k j).2 = some (.norm, upS x (2 ^ (k % 16)) (k / 16) k (j + 1)) := by
  have b1 := dg_bd x j
  have hm := pow16_le k
  have b2 := mcar_bd (x := x) (Nat.two_pow_pos (k % 16)) j
  have e := shl_m k
  rw [round_v]; simp only [loopAt, nthC, bodyC, loops, List.nil_append, List.cons_append, List.append_nil, Try.f90, upS, dgs_succ, mcar_succ, dg_mul]
  generalize 2 ^ (k % 16) = m at *
  have b3 := mulm_bd b1.1 b1.2 hm
  have e2 : ((k : Int) % 16).toNat = k % 16 := by omega
  have hl : (List.replicate (k / 16) (0 : Int) ++ dgs (x * m) j).length = k / 16 + j := by rw [List.length_append, List.length_replicate, dgs_len]
  have ht : (List.replicate (k / 16) (0 : Int) ++ dgs (x * m) j).take (k / 16 + j) = List.replicate (k / 16) (0 : Int) ++ dgs (x * m) j := List.take_of_length_le (by rw [hl]; omega)
  generalize List.replicate (k / 16) (0 : Int) = Z at *
  simp (disch := omega) [go_sem, tab90, nil90, gt_D, hl, ht, e, List.append_assoc, Nat.add_assoc]
theorem up_x (call : CallV) (hx : (D x).length < 1000000) (m s : Nat) (c : Int) :
    vCode Try.prog kn call 90 (loopAt Try.f90 0) (upS x m s c (D x).length).1 (upS x m s c (D x).length).2 = some (.exit 0, (upS x m s c (D x).length).1 ++ [(24, some (.bool false))], (upS x m s c (D x).length).2) := by
  rw [round_v]; simp only [loopAt, nthC, bodyC, loops, List.nil_append, List.cons_append, List.append_nil, Try.f90, upS]
  simp (disch := omega) [go_sem, tab90, nil90]
theorem up_v (d : Nat) (hx : (D x).length < 1000000) (hk : k < 1000000) :
    vrun Try.prog kn (d + 2) 90 [.ints .i64 (D x), .int .i64 (k : Int)] [] = some (.sl 0 0 (D (x * 2 ^ k)).length 1, [.ints true .i64 (D (x * 2 ^ k))]) := by
  by_cases h0 : (D x).length = 0
  · have e0 := lens_D.1 h0
    subst e0
    rw [vrun_v Try.func90 rfl rfl rfl]; simp only [Try.f90]
    simp (disch := omega) [go_sem, tab90, nil90, D_zero]
  · have hl0 := fun ks => loop_v (P := Try.prog) (K := kn) (ks := ks) (vi_for (upS x (2 ^ (k % 16)) (k / 16) k) (D x).length (by rw [k_cf, c_rounds]; omega) (up_r (vrun Try.prog kn (d + 1)) hx hk) fun m => vi_exit (up_x _ hx _ _ _))
    simp only [loopAt, nthC, bodyC, loops, List.nil_append, List.cons_append, List.append_nil, Try.f90, upS, dgs, mcar_zero, Int.natCast_zero, List.append_nil, Nat.add_zero, List.cons_append, List.nil_append] at hl0
    have hm := pow16_le k
    obtain ⟨c1, c2⟩ := mcar_end (x := x) (m := 2 ^ (k % 16)) (by omega) (Nat.le_refl _)
    have hval : val (List.replicate (k / 16) 0 ++ dgs (x * 2 ^ (k % 16)) ((D x).length + 1)) = ((x * 2 ^ k : Nat) : Int) := by
      rw [val_append, val_zeros, dgs_val, lo_len (lt_pow_len c2), List.length_replicate, pow_split k, Int.natCast_mul, Int.natCast_mul, Int.natCast_mul, pow_cast]
      grind
    have hg : GoodL (List.replicate (k / 16) 0 ++ dgs (x * 2 ^ (k % 16)) ((D x).length + 1)) := (GoodL.zeros _).append (dgs_good _ _)
    have hlen : (List.replicate (k / 16) (0 : Int) ++ dgs (x * 2 ^ (k % 16)) ((D x).length + 1)).length = k / 16 + ((D x).length + 1) := by rw [List.length_append, List.length_replicate, dgs_len]
    have ht := trim2_v d (l := List.replicate (k / 16) 0 ++ dgs (x * 2 ^ (k % 16)) ((D x).length + 1)) (n := k / 16 + ((D x).length + 1)) (v := x * 2 ^ k) (by omega) hlen.symm hg hval
    obtain ⟨-, htk, hle⟩ := tl_D hg hval
    rw [dgs_succ, ← c1] at ht htk hle hlen
    have hl : (List.replicate (k / 16) (0 : Int) ++ dgs (x * 2 ^ (k % 16)) (D x).length).length = k / 16 + (D x).length := by rw [List.length_append, List.length_replicate, dgs_len]
    have htt : (List.replicate (k / 16) (0 : Int) ++ dgs (x * 2 ^ (k % 16)) (D x).length).take (k / 16 + (D x).length) = List.replicate (k / 16) (0 : Int) ++ dgs (x * 2 ^ (k % 16)) (D x).length := List.take_of_length_le (by omega)
    have hz : (List.replicate (k / 16) (0 : Int)).length = k / 16 := List.length_replicate
    have e1 : ((k : Int) / 16).toNat = k / 16 := by omega
    have hne : ¬ D x = [] := fun e => h0 (by rw [e]; rfl)
    rw [vrun_v Try.func90 rfl rfl rfl]; simp only [Try.f90]
    generalize dgs (x * 2 ^ (k % 16)) (D x).length = Y at *
    generalize mcar x (2 ^ (k % 16)) (D x).length = c at *
    generalize hZ : List.replicate (k / 16) (0 : Int) = Z at *
    simp (disch := omega) [go_sem, tab90, nil90, hne, e1, hZ, hz, hl0, hl, htt, Nat.add_assoc, ht, htk, hle, List.append_assoc, hlen]
end
end
/- bits.Mul of 1 and a small number; slices.Repeat of one byte. No conditions. -/
section
open Num
theorem wrU64 {a : Int} (h0 : 0 ≤ a) (h1 : a < 18446744073709551616) : IntKind.wrap .u64 a = a := by
  unfold IntKind.wrap IntKind.bits IntKind.signed
  simp; omega
theorem and32 (P : Program) (t : TypeId) (a : Nat) (h : a < 4294967296) : binE P .and t (.int .u64 a) (.int .u64 4294967295) = some (.int .u64 a) := by
  rw [b_and]
  have e : (BitVec.ofInt IntKind.u64.bits (a : Int) &&& BitVec.ofInt IntKind.u64.bits 4294967295).toNat = a := by
    rw [BitVec.toNat_and]
    have e1 : (BitVec.ofInt IntKind.u64.bits (a : Int)).toNat = a := by
      rw [BitVec.toNat_ofInt]
      show ((a : Int) % ((2 ^ 64 : Nat) : Int)).toNat = a
      omega
    have e2 : (BitVec.ofInt IntKind.u64.bits 4294967295).toNat = 2 ^ 32 - 1 := by decide
    rw [e1, e2, Nat.and_two_pow_sub_one_eq_mod]
    omega
  rw [e, wrU64 (by omega) (by omega)]
theorem shr32 (P : Program) (t : TypeId) (a : Nat) (h : a < 4294967296) : binE P .shr t (.int .u64 a) (.int .u64 32) = some (.int .u64 0) := by
  rw [b_shr, if_neg (by omega)]
  congr 2
  show (a : Int).fdiv (2 ^ (min 32 64)) = 0
  rw [Int.fdiv_eq_ediv_of_nonneg _ (by decide)]
  show (a : Int) / 4294967296 = 0
  omega
theorem Mul64_v (d : Nat) {n : Nat} (hn : n < 1000000) : vrun Try.prog kn (d + 1) 136 [.int .u64 1, .int .u64 n] [] = some (.tup [.int .u64 0, .int .u64 n], []) := by
  have a1 := fun t => and32 Try.prog t 1 (by omega)
  have a2 := fun t => and32 Try.prog t n (by omega)
  have a3 := fun t => and32 Try.prog t 0 (by omega)
  have s1 := fun t => shr32 Try.prog t 1 (by omega)
  have s2 := fun t => shr32 Try.prog t n (by omega)
  have s3 := fun t => shr32 Try.prog t 0 (by omega)
  have o1 : ((1 : Nat) : Int) = 1 := rfl
  have o0 : ((0 : Nat) : Int) = 0 := rfl
  rw [o1] at a1 s1
  rw [o0] at a3 s3
  have w0 : IntKind.wrap .u64 0 = 0 := wrU64 (by omega) (by omega)
  have w1 : IntKind.wrap .u64 (n : Int) = n := wrU64 (by omega) (by omega)
  rw [vrun_v Try.func136 rfl rfl rfl]; simp only [Try.f136]
  simp (implicitDefEqProofs := false) (disch := omega) [go_sem, tab136, a1, a2, a3, s1, s2, s3, w0, w1]
theorem Mul_v (d : Nat) {n : Nat} (hn : n < 1000000) : vrun Try.prog kn (d + 2) 122 [.int .u64 1, .int .u64 n] [] = some (.tup [.int .u64 0, .int .u64 n], []) := by
  have h1 := fun d => Mul64_v d hn
  rw [vrun_v Try.func122 rfl rfl rfl]; simp only [Try.f122]
  simp (implicitDefEqProofs := false) (disch := omega) [go_sem, tab122, h1]
end
/- slices.Repeat of one byte. No conditions. -/
section
open Num
theorem sets_ints {k : IntKind} : ∀ (xs : List Int) (l : List Int) (off : Nat), off + xs.length ≤ l.length → (VO.ints true k l).sets off (xs.map (.int k)) = some (.ints true k (l.take off ++ xs ++ l.drop (off + xs.length)))
  | [], l, off, _ => by simp [VO.sets]
  | x :: xs, l, off, h => by
    simp only [List.length_cons] at h
    have e1 : (VO.ints true k l).set1 off (.int k x) = some (.ints true k (l.set off x)) := by
      simp only [VO.set1]; rw [if_pos]; exact ⟨trivial, by omega⟩
    rw [List.map_cons, VO.sets, e1]
    simp only
    rw [sets_ints xs (l.set off x) (off + 1) (by simp; omega)]
    have e2 : (l.set off x).take (off + 1) = l.take off ++ [x] := by
      rw [List.take_add_one, List.getElem?_set_self (by omega), List.take_set_of_le (Nat.le_refl _)]; rfl
    have e3 : (l.set off x).drop (off + 1 + xs.length) = l.drop (off + (xs.length + 1)) := by
      rw [List.drop_set_of_lt (by omega), show off + 1 + xs.length = off + (xs.length + 1) by omega]
    rw [e2, e3, List.length_cons, List.append_assoc, List.append_assoc, List.append_assoc]; rfl
def repL (c : Int) (L n : Nat) : List Int := List.replicate n c ++ List.replicate (L - n) 0
theorem repL_take {c : Int} {L n : Nat} : (repL c L n).take n = List.replicate n c := by unfold repL; rw [List.take_append_of_le_length (by simp), List.take_of_length_le (by simp)]
theorem repL_len {c : Int} {L n : Nat} (h : n ≤ L) : (repL c L n).length = L := by unfold repL; simp; omega
theorem repL_set {c : Int} {L n m : Nat} (h : n + m ≤ L) : (VO.ints true .u8 (repL c L n)).sets n (List.replicate m (.int .u8 c)) = some (.ints true .u8 (repL c L (n + m))) := by
  have := sets_ints (k := .u8) (List.replicate m c) (repL c L n) n (by rw [repL_len (by omega)]; simp; omega)
  rw [List.map_replicate] at this
  rw [this, repL_take]
  congr 2
  unfold repL
  rw [List.length_replicate, List.replicate_append_replicate, List.drop_append, List.drop_of_length_le (by simp)]
  simp
  omega
section
variable {c : Int} {L n : Nat}
def repS (c : Int) (L n : Nat) : VE × VH := ([(7, some (.sl 0 0 L 1)), (8, some (.int .i64 n))], [.ints true .u8 (repL c L n)])
theorem rep_r (call : CallV) (hL : L < 1000000) (hn : n < L) (h0 : 0 < n) : vCode Try.prog kn call 93 (loopAt Try.f93 0) (repS c L n).1 (repS c L n).2 = some (.norm, repS c L (n + min n (L - n))) := by
  have h1 := repL_take (c := c) (L := L) (n := n)
  have h2 := repL_len (c := c) (L := L) (n := n) (by omega)
  have h3 := repL_set (c := c) (L := L) (n := n) (m := min n (L - n)) (by omega)
  rw [round_v]; simp only [loopAt, nthC, bodyC, loops, List.nil_append, List.cons_append, List.append_nil, Try.f93, repS]
  generalize repL c L (n + min n (L - n)) = M' at *
  generalize repL c L n = M at *
  have e1 : ((L : Int) - n).toNat = L - n := by omega
  have hm : ¬ min n (L - n) = 0 := by omega
  have hm2 : min (min n (L - n)) n = min n (L - n) := by omega
  have hm3 : ((min n (L - n) : Nat) : Int) ≤ 1000000 := by omega
  generalize hq : min n (L - n) = m at *
  simp (implicitDefEqProofs := false) (disch := omega) [go_sem, tab93, nil93, h1, h2, h3, e1, hm, hm2, hq]
theorem rep_x (call : CallV) : vCode Try.prog kn call 93 (loopAt Try.f93 0) (repS c L L).1 (repS c L L).2 = some (.exit 0, (repS c L L).1 ++ [(37, some (.bool false))], (repS c L L).2) := by
  rw [round_v]; simp only [loopAt, nthC, bodyC, loops, List.nil_append, List.cons_append, List.append_nil, Try.f93, repS]
  generalize repL c L L = M
  simp (implicitDefEqProofs := false) (disch := omega) [go_sem, tab93, nil93]
theorem rep_l (call : CallV) (hL : L < 1000000) : ∀ (f n k : Nat), n ≤ L → (0 < n ∨ L = 0) → L - n ≤ f → f < k → viter (vCode Try.prog kn call 93 (loopAt Try.f93 0)) k (repS c L n).1 (repS c L n).2 = some (.exit 0, (repS c L L).1 ++ [(37, some (.bool false))], (repS c L L).2)
  | 0, n, k + 1, h1, h2, h3, _ => by
    obtain rfl : n = L := by omega
    exact vi_exit (rep_x call)
  | f + 1, n, k + 1, h1, h2, h3, h4 => by
    by_cases h : n = L
    · subst h; exact vi_exit (rep_x call)
    · rw [vi_norm (rep_r call hL (by omega) (by omega))]
      exact rep_l call hL f (n + min n (L - n)) k (by omega) (by omega) (by omega) (by omega)
theorem Repeat_v (d : Nat) (hL : L < 1000000) : vrun Try.prog kn (d + 3) 93 [.ints .u8 [c], .int .i64 L] [] = some (.sl 0 0 L 1, [.ints true .u8 (List.replicate L c)]) := by
  have hm := fun d => Mul_v (n := L) d hL
  have w1 : IntKind.wrap .u64 (L : Int) = L := wrU64 (by omega) (by omega)
  have w0 : IntKind.wrap .u64 1 = 1 := wrU64 (by omega) (by omega)
  have hr : repL c L L = List.replicate L c := by unfold repL; simp
  have hl0 := fun n h1 h2 ks => loop_v (P := Try.prog) (K := kn) (ks := ks) (rep_l (c := c) (L := L) (vrun Try.prog kn (d + 2)) hL L n kn.cf.rounds h1 h2 (by omega) (by rw [k_cf, c_rounds]; omega))
  simp only [loopAt, nthC, bodyC, loops, List.nil_append, List.cons_append, List.append_nil, Try.f93, repS, hr, List.cons_append, List.nil_append] at hl0
  by_cases h0 : L = 0
  · subst h0
    have hl0 := fun ks => hl0 0 (by omega) (by omega) ks
    have e0 : repL c 0 0 = [] := rfl
    have z0 : ((0 : Nat) : Int) = 0 := rfl
    rw [e0, z0] at hl0
    rw [z0] at hm w1 ⊢
    rw [vrun_v Try.func93 rfl rfl rfl]; simp only [Try.f93]
    simp (implicitDefEqProofs := false) (disch := omega) [go_sem, tab93, nil93, hm, w1, w0, hl0]
  · have hl0 := fun ks => hl0 1 (by omega) (by omega) ks
    have e1 : (List.replicate L (0 : Int)).set 0 c = repL c L 1 := by
      obtain ⟨q, rfl⟩ : ∃ q, L = q + 1 := ⟨L - 1, by omega⟩
      unfold repL
      rw [List.replicate_succ, List.set_cons_zero]; simp
    have o1 : ((1 : Nat) : Int) = 1 := rfl
    rw [o1] at hl0
    have hm1 : min 1 L = 1 := by omega
    generalize repL c L 1 = M at *
    rw [vrun_v Try.func93 rfl rfl rfl]; simp only [Try.f93]
    simp (implicitDefEqProofs := false) (disch := omega) [go_sem, tab93, nil93, hm, w1, w0, e1, hm1, hl0, -List.reduceReplicate]
end
end
/- Decimal digits of what is written with a point: ahead of it and behind it. No program in sight. No conditions. -/
section
open Num
theorem lsd_add (n a : Nat) : ∀ b, lsd n (a + b) = lsd n a ++ lsd (n / 10 ^ a) b
  | 0 => by simp [lsd]
  | b + 1 => by
    rw [show a + (b + 1) = (a + b) + 1 by omega, lsd, lsd_add n a b, lsd, List.append_assoc, Nat.div_div_eq_div_mul, ← Nat.pow_add]
theorem lsd_0 : ∀ b, lsd 0 b = List.replicate b 48
  | 0 => rfl
  | b + 1 => by rw [lsd, lsd_0 b, List.replicate_succ', Nat.zero_div]; rfl
theorem dig_mod {n k j : Nat} (h : j < k) : n % 10 ^ k / 10 ^ j % 10 = n / 10 ^ j % 10 := by
  have e : 10 ^ k = 10 ^ j * (10 * 10 ^ (k - j - 1)) := by rw [← Nat.pow_succ', ← Nat.pow_add]; congr 1; omega
  rw [e, Nat.mod_mul_right_div_self, Nat.mod_mul_right_mod]
theorem lsd_mod {n k : Nat} : ∀ j, j ≤ k → lsd (n % 10 ^ k) j = lsd n j
  | 0, _ => rfl
  | j + 1, h => by rw [lsd, lsd, lsd_mod j (by omega), dig_mod (by omega)]
theorem nd_le_of {n k : Nat} (h : n < 10 ^ k) : nd n ≤ k := by
  rcases Nat.lt_or_ge k (nd n) with h1 | h1
  · have := nd_pos h1; omega
  · exact h1
/-- Padded with noughts. -/
theorem text_pad {n L : Nat} (h0 : n ≠ 0) (h : nd n ≤ L) : (lsd n L).reverse = List.replicate (L - nd n) 48 ++ text n := by
  have e : lsd n L = lsd n (nd n) ++ List.replicate (L - nd n) 48 := by
    rw [show L = nd n + (L - nd n) by omega, lsd_add, nd_div (Nat.le_refl _), lsd_0, Nat.add_sub_cancel_left]
  rw [e, List.reverse_append, List.reverse_replicate]
  unfold text; rw [if_neg h0]
theorem text_head {N k : Nat} (h0 : N ≠ 0) : (lsd (N / 10 ^ k) (max (nd N) (k + 1) - k)).reverse = text (N / 10 ^ k) := by
  by_cases h : N / 10 ^ k = 0
  · have hlt : N < 10 ^ k := by
      rcases Nat.lt_or_ge N (10 ^ k) with h1 | h1
      · exact h1
      · have := Nat.div_pos h1 (Nat.pow_pos (by omega)); omega
    have := nd_le_of hlt
    rw [h, show max (nd N) (k + 1) - k = 1 by omega]; rfl
  · have hge : 10 ^ k ≤ N := by
      rcases Nat.lt_or_ge N (10 ^ k) with h1 | h1
      · exact absurd (Nat.div_eq_of_lt h1) h
      · exact h1
    obtain ⟨h1, h2⟩ := nd_le h0
    have h3 := nd_lt N
    have hk : k + 1 ≤ nd N := by
      rcases Nat.lt_or_ge (nd N) (k + 1) with h4 | h4
      · have : 10 ^ nd N ≤ 10 ^ k := Nat.pow_le_pow_right (by omega) (by omega); omega
      · exact h4
    obtain ⟨q, hq⟩ : ∃ q, nd N = k + (q + 1) := ⟨nd N - k - 1, by omega⟩
    have hn : nd (N / 10 ^ k) = q + 1 := by
      refine nd_uniq ?_ ?_
      · rw [Nat.le_div_iff_mul_le (Nat.pow_pos (by omega)), ← Nat.pow_add]
        rw [hq] at h1
        rw [show q + k = k + (q + 1) - 1 by omega]; exact h1
      · rw [Nat.div_lt_iff_lt_mul (Nat.pow_pos (by omega)), ← Nat.pow_add]
        rw [hq] at h3
        rw [show q + 1 + k = k + (q + 1) by omega]; exact h3
    unfold text
    rw [if_neg h, hn, show max (nd N) (k + 1) - k = q + 1 by omega]
/-- A text that has at least k + 1 digits. -/
def padT (N k : Nat) : List Int := List.replicate (k + 1 - (text N).length) 48 ++ text N
theorem padT_eq {N k : Nat} (h0 : N ≠ 0) : padT N k = (lsd N (max (nd N) (k + 1))).reverse := by
  rw [text_pad h0 (by omega)]
  unfold padT
  rw [text_len h0, show max (nd N) (k + 1) - nd N = k + 1 - nd N by omega]
theorem padT_len {N k : Nat} (h0 : N ≠ 0) : (padT N k).length = max (nd N) (k + 1) := by rw [padT_eq h0, List.length_reverse, lsd_len]
theorem padT_split {N k : Nat} (h0 : N ≠ 0) (hR : N % 10 ^ k ≠ 0) : (padT N k).take ((padT N k).length - k) = text (N / 10 ^ k) ∧ (padT N k).drop ((padT N k).length - k) = List.replicate (k - (text (N % 10 ^ k)).length) 48 ++ text (N % 10 ^ k) := by
  have hL := padT_len (k := k) h0
  have e : padT N k = (lsd (N / 10 ^ k) (max (nd N) (k + 1) - k)).reverse ++ (lsd N k).reverse := by
    rw [padT_eq h0, ← List.reverse_append, ← lsd_add, show k + (max (nd N) (k + 1) - k) = max (nd N) (k + 1) by omega]
  have hl1 : (lsd (N / 10 ^ k) (max (nd N) (k + 1) - k)).reverse.length = (padT N k).length - k := by rw [List.length_reverse, lsd_len, hL]
  constructor
  · rw [← text_head h0]
    conv => lhs; arg 2; rw [e]
    rw [← hl1, List.take_left]
  · conv => lhs; arg 2; rw [e]
    rw [← hl1, List.drop_left, ← lsd_mod k (Nat.le_refl k), text_pad hR (nd_le_of (Nat.mod_lt _ (Nat.pow_pos (by omega)))), text_len hR]
theorem dec_nums (m k : Nat) : m * 5 ^ k / 10 ^ k = m / 2 ^ k ∧ m * 5 ^ k % 10 ^ k = m % 2 ^ k * 5 ^ k := by
  have e : 10 ^ k = 2 ^ k * 5 ^ k := by rw [← Nat.mul_pow]
  rw [e]
  exact ⟨Nat.mul_div_mul_right _ _ (Nat.pow_pos (by omega)), Nat.mul_mod_mul_right _ _ _⟩
theorem odd_rest {m k : Nat} (hm : m % 2 = 1) (hk : 0 < k) : m % 2 ^ k * 5 ^ k ≠ 0 := by
  obtain ⟨q, rfl⟩ : ∃ q, k = q + 1 := ⟨k - 1, by omega⟩
  have h1 : m % 2 ^ (q + 1) % 2 = 1 := by rw [Nat.pow_succ', Nat.mod_mul_right_mod]; exact hm
  have h2 : 0 < 5 ^ (q + 1) := Nat.pow_pos (by omega)
  have h3 : m % 2 ^ (q + 1) ≠ 0 := by intro e; rw [e] at h1; cases h1
  exact Nat.mul_ne_zero h3 (by omega)
/-- The text of a number that is a number of halves of halves. -/
def dyTx (neg : Bool) (m : Nat) (e : Int) : List Int :=
  (if neg then [45] else []) ++ (if 0 ≤ e then text (m * 2 ^ e.toNat) else text (m / 2 ^ (-e).toNat) ++ (46 :: (List.replicate ((-e).toNat - (text (m % 2 ^ (-e).toNat * 5 ^ (-e).toNat)).length) 48 ++ text (m % 2 ^ (-e).toNat * 5 ^ (-e).toNat))))
end
/- Runes: the bits of bytes; one rune, program. No conditions. -/
section
open Num
def and8 (k : IntKind) (m : Int) (n : Nat) : Int := k.wrap (((BitVec.ofInt k.bits (n : Int) &&& BitVec.ofInt k.bits m).toNat : Nat) : Int)
theorem and8_31 : ((List.range 256).all fun n => decide (and8 .i64 31 n = (n : Int) % 32)) = true := by decide +kernel
theorem and8_15 : ((List.range 256).all fun n => decide (and8 .i64 15 n = (n : Int) % 16)) = true := by decide +kernel
theorem and8_7 : ((List.range 256).all fun n => decide (and8 .i64 7 n = (n : Int) % 8)) = true := by decide +kernel
theorem and8_63 : ((List.range 256).all fun n => decide (and8 .i64 63 n = (n : Int) % 64)) = true := by decide +kernel
theorem and8_u63 : ((List.range 256).all fun n => decide (and8 .u8 63 n = (n : Int) % 64)) = true := by decide +kernel
theorem and8_at {k : IntKind} {m w : Int} (h : ((List.range 256).all fun n => decide (and8 k m n = (n : Int) % w)) = true) (P : Program) (t : TypeId) {a : Int} (h0 : 0 ≤ a) (h1 : a < 256) : binE P .and t (.int k a) (.int k m) = some (.int k (a % w)) := by
  rw [b_and]
  have h2 := of_decide_eq_true (List.all_eq_true.1 h a.toNat (List.mem_range.2 (by omega)))
  unfold and8 at h2
  rw [show ((a.toNat : Nat) : Int) = a by omega] at h2
  exact congrArg (fun q => some (CV.int k q)) h2
/-- High bits and low bits put together. -/
theorem b_orp (P : Program) (t : TypeId) {a b : Int} {i : Nat} (h0 : 0 ≤ a) (h1 : a < 4294967296) (hb0 : 0 ≤ b) (hb1 : b < 2 ^ i) (hi : (2 : Int) ^ i ∣ a) (hs : b < 4294967296) : binE P .or t (.int .i64 a) (.int .i64 b) = some (.int .i64 (a + b)) := by
  rw [b_or]
  have e : (BitVec.ofInt 64 a ||| BitVec.ofInt 64 b).toNat = (a + b).toNat := by
    obtain ⟨A, rfl⟩ := Int.eq_ofNat_of_zero_le h0
    obtain ⟨b, rfl⟩ := Int.eq_ofNat_of_zero_le hb0
    have hp : ((2 : Int) ^ i) = ((2 ^ i : Nat) : Int) := by rw [Int.natCast_pow]; rfl
    rw [hp] at hb1 hi
    have hb2 : b < 2 ^ i := Int.ofNat_lt.1 hb1
    obtain ⟨q, hq⟩ := Int.natCast_dvd_natCast.1 hi
    have h3 := Nat.two_pow_add_eq_or_of_lt hb2 q
    rw [← hq] at h3
    rw [BitVec.toNat_or, BitVec.toNat_ofInt, BitVec.toNat_ofInt, show ((A : Int) % ((2 ^ 64 : Nat) : Int)).toNat = A by omega, show ((b : Int) % ((2 ^ 64 : Nat) : Int)).toNat = b by omega, ← h3]
    omega
  have h2 : IntKind.wrap .i64 (((BitVec.ofInt 64 a ||| BitVec.ofInt 64 b).toNat : Nat) : Int) = a + b := by
    rw [e, w64 (by omega) (by omega)]; omega
  exact congrArg (fun q => some (CV.int .i64 q)) h2
def isPt (r : Int) : Bool := decide (0 ≤ r) && decide (r ≤ 1114111) && !(decide (55296 ≤ r) && decide (r ≤ 57343))
def szOf (r : Int) : Int := if r < 128 then 1 else if r < 2048 then 2 else if r < 65536 then 3 else 4
def ldN (c : Int) : Int := if 192 ≤ c ∧ c ≤ 223 then 2 else if 224 ≤ c ∧ c ≤ 239 then 3 else if 240 ≤ c ∧ c ≤ 247 then 4 else 0
def ldR (c : Int) : Int := if 192 ≤ c ∧ c ≤ 223 then c % 32 else if 224 ≤ c ∧ c ≤ 239 then c % 16 else if 240 ≤ c ∧ c ≤ 247 then c % 8 else 0
end
/- Runes: the one at the beginning, program. No conditions. -/
section
open Num
def conB (t : Int) : Bool := decide (t / 64 = 2)
def runeL (r : Int) (L : List Int) : Int := L.foldl (fun r t => r * 64 + t % 64) r
def restL (b : List Int) (n : Int) : List Int := (b.drop 1).take (n.toNat - 1)
/-- The rune that begins a text that is not empty; how many bytes it has. -/
def runeF (b : List Int) : Int × Int :=
  if gt b 0 < 128 then (gt b 0, 1) else
  if ldN (gt b 0) = 0 ∨ (b.length : Int) < ldN (gt b 0) then (65533, 1) else
  if (restL b (ldN (gt b 0))).all conB = false then (65533, 1) else
  if isPt (runeL (ldR (gt b 0)) (restL b (ldN (gt b 0)))) = true ∧ szOf (runeL (ldR (gt b 0)) (restL b (ldN (gt b 0)))) = ldN (gt b 0) then (runeL (ldR (gt b 0)) (restL b (ldN (gt b 0))), ldN (gt b 0)) else (65533, 1)
theorem ld_bd {c : Int} : (ldN c = 0 ∨ ldN c = 2 ∨ ldN c = 3 ∨ ldN c = 4) ∧ 0 ≤ ldR c ∧ ldR c < 32 := by
  unfold ldN ldR
  (repeat' split) <;> omega
theorem runeL_bd {L : List Int} : ∀ {r P : Int}, 0 ≤ r → r < 32 * P → 0 ≤ runeL r L ∧ runeL r L < 32 * (P * 64 ^ L.length) := by
  induction L with
  | nil => intro r P h0 h1; simp [runeL]; omega
  | cons t L ih =>
    intro r P h0 h1
    have := ih (r := r * 64 + t % 64) (P := P * 64) (by omega) (by omega)
    rw [List.length_cons, show P * 64 ^ (L.length + 1) = P * 64 * 64 ^ L.length by rw [Int.pow_succ, Int.mul_comm (64 ^ L.length), Int.mul_assoc]]
    exact this
section
variable {L : List Int} {n r : Int}
def rnS (n r : Int) (L : List Int) (j : Nat) : VE × VH := ([(4, some (.int .i64 n)), (5, some (.int .i64 (runeL r (L.take j)))), (34, some (.ints .u8 L)), (35, some (.int .i64 L.length)), (36, some (.int .i64 j))], [])
variable {b : List Int}
end
end
/- Runes: all of a text, program. No conditions. -/
section
open Num
theorem runeF_n {b : List Int} (h0 : 0 < b.length) : 1 ≤ (runeF b).2 ∧ (runeF b).2 ≤ b.length := by
  obtain ⟨q1, -, -⟩ := ld_bd (c := gt b 0)
  unfold runeF
  split
  · exact ⟨by simp, by show (1 : Int) ≤ _; omega⟩
  · split
    · exact ⟨by simp, by show (1 : Int) ≤ _; omega⟩
    · rename_i h
      split
      · exact ⟨by simp, by show (1 : Int) ≤ _; omega⟩
      · split
        · exact ⟨by show (1 : Int) ≤ ldN _; omega, by show ldN _ ≤ _; omega⟩
        · exact ⟨by simp, by show (1 : Int) ≤ _; omega⟩
def runesG : Nat → List Int → List Int
  | 0, _ => []
  | n + 1, b => if b = [] then [] else (runeF b).1 :: runesG n (b.drop (runeF b).2.toNat)
def runesF (b : List Int) : List Int := runesG b.length b
theorem runesG_nil (n : Nat) : runesG n [] = [] := by cases n <;> simp [runesG]
theorem runesG_len : ∀ (n : Nat) (b : List Int), (runesG n b).length ≤ n
  | 0, _ => by simp [runesG]
  | n + 1, b => by
    unfold runesG
    split
    · simp
    · have := runesG_len n (b.drop (runeF b).2.toNat)
      rw [List.length_cons]; omega
theorem runesG_eq : ∀ (n m : Nat) (b : List Int), b.length ≤ n → b.length ≤ m → runesG n b = runesG m b
  | 0, m, b, h, _ => by
    have : b = [] := List.eq_nil_of_length_eq_zero (by omega)
    subst this; rw [runesG_nil, runesG_nil]
  | n + 1, 0, b, _, h => by
    have : b = [] := List.eq_nil_of_length_eq_zero (by omega)
    subst this; rw [runesG_nil, runesG_nil]
  | n + 1, m + 1, b, h, h' => by
    unfold runesG
    split
    · rfl
    · rename_i hb
      have hp : 0 < b.length := List.length_pos_iff.2 hb
      have := (runeF_n hp).1
      rw [runesG_eq n m (b.drop (runeF b).2.toNat) (by rw [List.length_drop]; omega) (by rw [List.length_drop]; omega)]
theorem runesF_cons {b : List Int} (h : b ≠ []) : runesF b = (runeF b).1 :: runesF (b.drop (runeF b).2.toNat) := by
  have hp : 0 < b.length := List.length_pos_iff.2 h
  have := (runeF_n hp).1
  unfold runesF
  obtain ⟨n, hn⟩ : ∃ n, b.length = n + 1 := ⟨b.length - 1, by omega⟩
  rw [hn, runesG, if_neg h, runesG_eq n _ (b.drop (runeF b).2.toNat) (by rw [List.length_drop]; omega) (Nat.le_refl _)]
theorem runesF_nil : runesF [] = [] := rfl
theorem runesF_len (b : List Int) : (runesF b).length ≤ b.length := runesG_len _ _
section
variable {b : List Int}
def roS (r O : List Int) (c : Bool) (x : VE) : VE × VH := ((0, some (.ints .u8 r)) :: (4, some (.sl 0 0 O.length 1)) :: (5, some (.bool c)) :: x, [.ints true .i64 O])
end
end
/- Runes: what each becomes in a plain text, program. No conditions. -/
section
open Num
theorem wu8' {x : Int} (h0 : 0 ≤ x) (h1 : x < 256) : IntKind.wrap .u8 x = x := by
  unfold IntKind.wrap; simp [IntKind.signed, IntKind.bits]; omega
theorem b_and63 (P : Program) (t : TypeId) {a : Int} (h0 : 0 ≤ a) (h1 : a < 4294967296) : binE P .and t (.int .i64 a) (.int .i64 63) = some (.int .i64 (a % 64)) := by
  rw [b_and]
  have e : (BitVec.ofInt 64 a &&& BitVec.ofInt 64 63).toNat = (a % 64).toNat := by
    obtain ⟨A, rfl⟩ := Int.eq_ofNat_of_zero_le h0
    have h3 : A &&& 63 = A % 64 := Nat.and_two_pow_sub_one_eq_mod A 6
    rw [BitVec.toNat_and, BitVec.toNat_ofInt, show (BitVec.ofInt 64 63).toNat = 63 from rfl, show ((A : Int) % ((2 ^ 64 : Nat) : Int)).toNat = A by omega, h3]
    omega
  have h2 : IntKind.wrap .i64 (((BitVec.ofInt 64 a &&& BitVec.ofInt 64 63).toNat : Nat) : Int) = a % 64 := by
    rw [e, w64 (by omega) (by omega)]; omega
  exact congrArg (fun q => some (CV.int .i64 q)) h2
/-- The bytes of a rune. -/
def rbF (r : Int) : List Int :=
  if isPt r = false then [] else
  if r < 128 then [r] else
  if r < 2048 then [192 + r / 64, 128 + r % 64] else
  if r < 65536 then [224 + r / 4096, 128 + r / 64 % 64, 128 + r % 64] else
  [240 + r / 262144, 128 + r / 4096 % 64, 128 + r / 64 % 64, 128 + r % 64]
def rbS (r n : Int) (O : List Int) (i : Int) : VE × VH := ([(0, some (.int .i64 r)), (3, some (.int .i64 n)), (4, some (.sl 0 0 O.length 1)), (5, some (.int .i64 i))], [.ints true .u8 O])
theorem rounds5 : ∃ m, kn.cf.rounds = m + 1 + 1 + 1 + 1 + 1 := ⟨4294967291, by rw [k_cf, c_rounds]⟩
theorem gl2 : gt [0, 0, 192, 224, 240] 2 = 192 := rfl
theorem gl3 : gt [0, 0, 192, 224, 240] 3 = 224 := rfl
theorem gl4 : gt [0, 0, 192, 224, 240] 4 = 240 := rfl
theorem isPt_t {r : Int} (h : isPt r = true) : 0 ≤ r ∧ r ≤ 1114111 := by
  unfold isPt at h
  simp only [Bool.and_eq_true, decide_eq_true_eq] at h
  exact h.1
end
end Go.Eng
