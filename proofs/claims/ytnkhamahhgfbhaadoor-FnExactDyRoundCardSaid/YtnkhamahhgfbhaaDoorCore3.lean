/- Numbers: small, minus, and the reference's l2of, l2norm. No conditions. -/
import Derived.Test.YtnkhamahhgfbhaaDoorCore2
set_option linter.unusedVariables false
set_option linter.unusedSimpArgs false
namespace Go.Eng
open Go.Proofs
set_option maxRecDepth 100000
set_option linter.unusedSimpArgs false
attribute [local go_sem] r_seq r_skip r_retC r_exitC r_label r_block r_region r_regionW r_xWt r_xW r_cond r_Bt r_Bf r_Ncode r_Nret r_Nexit r_Nblk r_Nblkr r_Nblke r_Nnil r_Es r_Onil r_Oop r_Oif r_Xs r_Gt r_Gf r_wtt r_wtf r_wft r_wff r_wu r_gO r_putS r_putN r_get r_keepN r_keepC r_fr r_fn r_fi r_ff r_fo r_l1 r_l2t r_cun r_cul r_cub r_cui r_cus r_cuis r_cuc r_cusl r_cuti r_cutv r_ven r_vec r_l2f r_l3 r_t1 r_t2 r_t0 r_rt r_rc r_en r_ec r_cM r_oN r_oC r_end r_endt r_endf r_nob0 r_nobN r_nobC r_nobE r_nb0 r_nbi r_nbs r_nbsl r_nbin r_nbce r_nLn r_nLv r_nLc r_nAa r_nAn r_nAk_b r_nAk_i r_nAk_s r_nAk_n r_nAk_is r_nAk_ce r_nAk_fp r_nAk_sl r_nAk_pt r_nAk_fn r_nsn r_nsv r_nsc r_m0 r_mi r_ms r_msl r_min r_mce r_mLn r_mLv r_mLc r_mAa r_mAn r_mAk_b r_mAk_i r_mAk_s r_mAk_n r_mAk_is r_mAk_ce r_mAk_fp r_mAk_sl r_mAk_pt r_mAk_fn r_msn r_msv r_msc r_atb r_ati r_ats r_atn r_atis r_atc r_atf r_atl r_atp r_atfn r_gcn r_gcc r_gLn r_gLc r_gIt r_ndn r_ndc r_gcB r_gLB r_two r_rea r_rea0 r_re1n r_re1c r_ori r_orv r_ord r_orn r_adn r_adc r_ad1 r_ern r_ers r_er0 r_rsl r_rptr r_rb r_ri r_rs r_rn r_ris r_rce r_rfp r_ra4 r_ra3 r_rt4 r_rf4 r_rf3 r_idS r_idc r_nS r_nP r_nF r_nT r_vsl r_vptr r_vb r_vi r_vs r_vn r_vis r_vce r_vfp r_va4 r_va3 r_vt4 r_vf4 r_vf3 r_rV r_Oi r_Ov r_Od r_rE r_rE0 r_En r_Ec r_E0 r_pO r_pk r_agL r_cO r_fO r_fSi r_fSv r_fPv r_fsl r_fptr r_ffn r_fag r_fb r_fint r_fstr r_fnil r_fis r_fce r_ffp r_res r_move r_assign r_pick r_pickt r_pickf r_alloc r_box r_al r_build r_bslice r_load r_store r_nlc r_nl1 r_nl2 r_bin r_un r_conv r_mkf r_mks r_slc r_fad r_fld r_iad r_idx r_ext r_ex1 r_callf r_callt r_callen r_calapp r_calmax r_calmin r_vt r_vcb r_vci r_vcs r_vcn r_vca r_vcf r_vcg r_ofb r_ofi r_ofs r_ofn r_evs r_pn r_prt r_pc r_one_a r_one_b r_one_i r_one_s r_one_n r_one_is r_one_ce r_one_fp r_one_sl r_one_pt r_one_fn r_cs_a r_cs_b r_cs_i r_cs_s r_cs_n r_cs_is r_cs_ce r_cs_fp r_cs_sl r_cs_pt r_cs_fn r_tov r_tovA r_toc r_toa r_tb r_ti r_ts r_tn r_bd r_bd2 r_filn r_fp1 r_filc r_fsn r_fsc r_san r_sac r_bs2 r_bs1 r_newO r_mkq r_mkI r_mkOi r_mkOv r_tIn r_tIc r_repz r_repn r_ldp r_ldf r_l1t r_l1f r_lFt r_lFf r_aggO r_obj r_at r_ati' r_atv r_celli r_cellv r_subi r_subv r_sto r_sto1 r_sto2 r_sets r_setR r_setn r_setc r_s1i r_s1v r_bin1 r_bin2 r_tv1 r_cb r_ci r_cst r_cn r_csl r_cis r_cce r_uni r_unb r_cv r_cvi r_cvs r_cvb r_cvl r_sO r_rdn r_rdi r_rdl r_rdO r_vsub r_vfn r_mk r_mk1 r_mk2 r_zoi r_zov r_leni r_lenv r_bn r_bndV r_bo r_sl0 r_sl1 r_vsz r_ct1 r_cts r_cti r_ctc r_ctn r_lnl r_lni r_lnc r_lnn r_fa r_fap r_faf r_fi1 r_fit r_fif r_ixi r_ixs r_ixc r_ixf r_ixF r_ixF2 r_ix1 r_ixsl r_ixin r_ixce r_len1 r_lenA r_lTs r_lTn r_lTl r_lTi r_lTc r_app0 r_app r_app1 r_app2 r_app3 r_catO r_cati r_catv r_newt r_newf r_pair r_pairK r_trip r_kis r_kiv r_srn r_srl r_sri r_src r_srs r_oln r_oll r_vw r_wi r_wv r_mm r_max r_min' r_str r_cF r_c2t r_c3f r_c3t r_ab r_c2f r_cV r_p1 r_la r_la2t r_la2f r_la3 r_sh r_z_is r_z_ce r_z_fp r_z_b r_z_i r_z_s r_z_n r_z_l r_z_p r_z_a4 r_z_a3 r_z_t4 r_zoI r_zoV r_roN r_roC r_roi r_rod r_zod r_rov r_aR r_trOi r_trOv r_trPv r_trl r_trp r_trf r_tra r_trb r_tri r_trs r_trn r_tris r_trce r_trfp
attribute [local go_sem] b_add b_sub b_mul b_quo b_rem b_shl b_shr b_eql b_neq b_lss b_leq b_gtr b_geq eqB_s b_eqB b_neB u_neg u_not b_nn b_nn' eqS_s zerosT_s zerosT_n zt_i zt_sl zt_st dstOf_z dstOf_n iltT iltF ileT ileF ieqT ieqF nltT nltF nleT nleF neqT neqF tdiv_pos tmod_pos w64 idx0 List.take_of_length_le
open Num
theorem dg_step {n j : Nat} : n / 65536 ^ j % 65536 = n / 65536 ^ j % 65536 ∧ n / 65536 ^ (j + 1) = n / 65536 ^ j / 65536 := ⟨rfl, by rw [Nat.pow_succ, Nat.div_div_eq_div_mul]⟩
theorem quo_step (n j : Nat) : ((n / 65536 ^ j : Nat) : Int) / 65536 = ((n / 65536 ^ (j + 1) : Nat) : Int) := by rw [dg_step.2]; omega
theorem rem_step (n j : Nat) : ((n / 65536 ^ j : Nat) : Int) % 65536 = dg n j := by unfold dg; omega
theorem quo_pos {n j : Nat} (h : j < (D n).length) : 0 < n / 65536 ^ j := Nat.div_pos (len_D_lt.1 h) (powN_pos j)
theorem quo_end (n : Nat) : n / 65536 ^ (D n).length = 0 := Nat.div_eq_of_lt (lt_len_D n)
theorem quo_le (n j : Nat) : n / 65536 ^ j ≤ n := Nat.div_le_self _ _
section
def smallS (n j : Nat) : VE × VH := ([(0, some (.int .i64 ((n / 65536 ^ j : Nat) : Int))), (3, some (.sl 0 0 j 1))], [.ints true .i64 (dgs n j)])
theorem small_r (call : CallV) {n : Nat} (hn : n < 9223372036854775808) (hl : (D n).length < 1000000) (j : Nat) (hj : j < (D n).length) :
    vCode Tryd.prog kn call 85 (loopAt Tryd.f85 0) (smallS n j).1 (smallS n j).2 = some (.norm, smallS n (j + 1)) := by
  have b1 := quo_pos hj
  have b2 := quo_le n j
  rw [round_v]; simp only [loopAt, nthC, bodyC, loops, List.nil_append, List.cons_append, List.append_nil, Tryd.f85, smallS, dgs_succ, ← rem_step, ← quo_step]
  generalize n / 65536 ^ j = q at *
  simp (disch := omega) [go_sem, tab85, nil85, dgs_len, dgs_take]
theorem small_x (call : CallV) {n : Nat} (hl : (D n).length < 1000000) :
    vCode Tryd.prog kn call 85 (loopAt Tryd.f85 0) (smallS n (D n).length).1 (smallS n (D n).length).2 = some (.exit 0, [(0, some (.int .i64 0)), (3, some (.sl 0 0 (D n).length 1)), (5, some (.bool false))], [.ints true .i64 (dgs n (D n).length)]) := by
  rw [round_v]; simp only [loopAt, nthC, bodyC, loops, List.nil_append, List.cons_append, List.append_nil, Tryd.f85, smallS, quo_end]
  simp (disch := omega) [go_sem, tab85, nil85, dgs_len]
theorem dgs_D (n : Nat) : dgs n (D n).length = D n := by
  have := (dgs_tl (lt_len_D n)).2.1
  rwa [dgs_take] at this
theorem small_v (d : Nat) {n : Nat} (hn : n < 9223372036854775808) : vrun Tryd.prog kn (d + 1) 85 [.int .i64 (n : Int)] [] = some (.sl 0 0 (D n).length 1, [.ints true .i64 (D n)]) := by
  have hl : (D n).length < 1000000 := by
    have : (D n).length ≤ 4 := len_D_le.2 (by omega)
    omega
  have hl0 := fun ks => loop_v (P := Tryd.prog) (K := kn) (ks := ks) (vi_for (smallS n) (D n).length (by rw [k_cf, c_rounds]; omega) (small_r (vrun Tryd.prog kn d) hn hl) fun m => vi_exit (small_x _ hl))
  simp only [loopAt, nthC, bodyC, loops, List.nil_append, List.cons_append, List.append_nil, Tryd.f85, smallS, dgs, Nat.pow_zero, Nat.div_one] at hl0
  rw [vrun_v Tryd.func85 rfl rfl rfl]; simp only [Tryd.f85]
  simp (disch := omega) [go_sem, tab85, nil85, hl0, dgs_D]
def minusS (x y j : Nat) : VE × VH := ([(1, some (.ints .i64 (D y))), (5, some (.sl 0 0 j 1)), (6, some (.int .i64 (borrow x y j))), (12, some (.ints .i64 (D x))), (13, some (.int .i64 (D x).length)), (14, some (.int .i64 j))], [.ints true .i64 (dgs (x - y) j)])
variable {x y : Nat}
theorem minus_r (call : CallV) (hxy : y ≤ x) (hx : (D x).length < 1000000) (j : Nat) (hj : j < (D x).length) :
    vCode Tryd.prog kn call 102 (loopAt Tryd.f102 0) (minusS x y j).1 (minusS x y j).2 = some (.norm, minusS x y (j + 1)) := by
  have b1 := dg_bd x j
  have b2 := dg_bd y j
  have b3 := borrow_bd x y j
  rw [round_v]; simp only [loopAt, nthC, bodyC, loops, List.nil_append, List.cons_append, List.append_nil, Tryd.f102, minusS, dgs_succ, borrow_succ hxy, dg_sub hxy]
  by_cases hlt : j < (D y).length
  · by_cases hb : dg x j - borrow x y j - dg y j < 0
    · simp (disch := omega) [go_sem, tab102, nil102, gt_D, dgs_len, dgs_take, hb]
    · simp (disch := omega) [go_sem, tab102, nil102, gt_D, dgs_len, dgs_take, hb]
  · have := dg_len (x := y) (i := j) (by omega)
    rw [this]
    by_cases hb : dg x j - borrow x y j - 0 < 0
    · simp (disch := omega) [go_sem, tab102, nil102, gt_D, dgs_len, dgs_take]
    · simp (disch := omega) [go_sem, tab102, nil102, gt_D, dgs_len, dgs_take]
theorem minus_x (call : CallV) (hx : (D x).length < 1000000) :
    vCode Tryd.prog kn call 102 (loopAt Tryd.f102 0) (minusS x y (D x).length).1 (minusS x y (D x).length).2 = some (.exit 0, [(1, some (.ints .i64 (D y))), (5, some (.sl 0 0 (D x).length 1)), (6, some (.int .i64 (borrow x y (D x).length))), (12, some (.ints .i64 (D x))), (13, some (.int .i64 (D x).length)), (14, some (.int .i64 (D x).length)), (15, some (.bool false))], [.ints true .i64 (dgs (x - y) (D x).length)]) := by
  rw [round_v]; simp only [loopAt, nthC, bodyC, loops, List.nil_append, List.cons_append, List.append_nil, Tryd.f102, minusS]
  simp (disch := omega) [go_sem, tab102, nil102, dgs_len]
theorem minus_v (d : Nat) (hxy : y ≤ x) (hx : (D x).length < 1000000) :
    vrun Tryd.prog kn (d + 2) 102 [.ints .i64 (D x), .ints .i64 (D y)] [] = some (.sl 0 0 (D (x - y)).length 1, [.ints true .i64 (D (x - y))]) := by
  have hl0 := fun ks => loop_v (P := Tryd.prog) (K := kn) (ks := ks) (vi_for (minusS x y) (D x).length (by rw [k_cf, c_rounds]; omega) (minus_r (vrun Tryd.prog kn (d + 1)) hxy hx) fun m => vi_exit (minus_x _ hx))
  simp only [loopAt, nthC, bodyC, loops, List.nil_append, List.cons_append, List.append_nil, Tryd.f102, minusS, dgs, borrow_zero, Int.natCast_zero] at hl0
  have c2 : x - y < 65536 ^ (D x).length := Nat.lt_of_le_of_lt (Nat.sub_le _ _) (lt_len_D x)
  have ht := trim0_v d (l := dgs (x - y) (D x).length) (n := (D x).length) (v := x - y) (by rw [dgs_len]; omega) (by rw [dgs_len]) (dgs_good _ _) (by rw [dgs_val, lo_len (lt_pow_len c2)])
  have ht2 := (dgs_tl c2).2
  rw [vrun_v Tryd.func102 rfl rfl rfl]; simp only [Tryd.f102]
  simp (disch := omega) [go_sem, tab102, nil102, hl0, dgs_len, ht, ht2]
end
section
def normS (l : List Int) (j : Nat) : VE × VH := ([(0, some (.ints .i64 l)), (2, some (.ptr 0 0)), (3, some (.int .i64 j))], [.vals true [.nil]])
variable {l : List Int}
theorem norm_r1 (call : CallV) (j : Nat) (hj : j < l.length) (hl : l.length < 1000000000) (h0 : gt l j = 0) :
    vCode Tryd.prog kn call 81 (loopAt Tryd.f81 0) (normS l (j + 1)).1 (normS l (j + 1)).2 = some (.norm, normS l j) := by
  rw [round_v]; simp only [loopAt, nthC, bodyC, loops, List.nil_append, List.cons_append, List.append_nil, Tryd.f81, normS]
  simp (disch := omega) [go_sem, tab81, h0]
theorem norm_x (call : CallV) (j : Nat) (hj : j ≤ l.length) (hl : l.length < 1000000000) (h0 : tl l j = j) :
    vCode Tryd.prog kn call 81 (loopAt Tryd.f81 0) (normS l j).1 (normS l j).2 = some (.exit 0, [(0, some (.ints .i64 l)), (2, some (.ptr 0 0)), (3, some (.int .i64 j)), (15, some (.bool false))], [.vals true [.nil]]) := by
  rw [round_v]; simp only [loopAt, nthC, bodyC, loops, List.nil_append, List.cons_append, List.append_nil, Tryd.f81, normS]
  cases j with
  | zero => simp (disch := omega) [go_sem, tab81]
  | succ j =>
    have h1 : ¬ gt l j = 0 := fun h1 => by
      rw [tl, if_pos h1] at h0
      have := tl_le l j; omega
    simp (disch := omega) [go_sem, tab81, h1]
theorem norm_l (call : CallV) (hl : l.length < 1000000000) : ∀ (j n : Nat), j ≤ l.length → j < n →
    viter (vCode Tryd.prog kn call 81 (loopAt Tryd.f81 0)) n (normS l j).1 (normS l j).2 = some (.exit 0, [(0, some (.ints .i64 l)), (2, some (.ptr 0 0)), (3, some (.int .i64 (tl l j))), (15, some (.bool false))], [.vals true [.nil]])
  | 0, n + 1, _, _ => vi_exit (norm_x call 0 (by omega) hl rfl)
  | j + 1, n + 1, hj, hn => by
    by_cases h0 : gt l j = 0
    · rw [vi_norm (norm_r1 call j (by omega) hl h0), tl, if_pos h0]
      exact norm_l call hl j n (by omega) (by omega)
    · have e : tl l (j + 1) = j + 1 := by rw [tl, if_neg h0]
      rw [vi_exit (norm_x call (j + 1) hj hl e), e]
theorem l2norm_v (d : Nat) (hl : l.length < 1000000000) (hg : GoodL l) {v : Nat} (hv : val l = v) : vrun Tryd.prog kn (d + 1) 81 [.ints .i64 l] [] = some (.agg [.ints .i64 (D v)], []) := by
  have hl0 := fun ks => loop_v (P := Tryd.prog) (K := kn) (ks := ks) (norm_l (vrun Tryd.prog kn d) hl l.length kn.cf.rounds (Nat.le_refl _) (by rw [k_cf, c_rounds]; omega))
  simp only [loopAt, nthC, bodyC, loops, List.nil_append, List.cons_append, List.append_nil, Tryd.f81, normS] at hl0
  obtain ⟨e1, e2, e3⟩ := tl_D hg hv
  rw [e1] at hl0
  rw [vrun_v Tryd.func81 rfl rfl rfl]; simp only [Tryd.f81]
  simp (disch := omega) [go_sem, tab81, hl0, e2]
end
section
def ofS (n j : Nat) : VE × VH := ([(0, some (.int .i64 ((n / 65536 ^ j : Nat) : Int))), (2, some (.ptr 0 0)), (3, some (.sl 1 0 j 1))], [.vals true [.nil], .ints true .i64 (dgs n j)])
theorem of_r (call : CallV) {n : Nat} (hn : n < 9223372036854775808) (hl : (D n).length < 1000000) (j : Nat) (hj : j < (D n).length) :
    vCode Tryd.prog kn call 74 (loopAt Tryd.f74 0) (ofS n j).1 (ofS n j).2 = some (.norm, ofS n (j + 1)) := by
  have b1 := quo_pos hj
  have b2 := quo_le n j
  rw [round_v]; simp only [loopAt, nthC, bodyC, loops, List.nil_append, List.cons_append, List.append_nil, Tryd.f74, ofS, dgs_succ, ← rem_step, ← quo_step]
  generalize n / 65536 ^ j = q at *
  simp (disch := omega) [go_sem, tab74, nil74, dgs_len, dgs_take]
theorem of_x (call : CallV) {n : Nat} (hl : (D n).length < 1000000) :
    vCode Tryd.prog kn call 74 (loopAt Tryd.f74 0) (ofS n (D n).length).1 (ofS n (D n).length).2 = some (.exit 0, [(0, some (.int .i64 0)), (2, some (.ptr 0 0)), (3, some (.sl 1 0 (D n).length 1)), (5, some (.bool false))], [.vals true [.nil], .ints true .i64 (dgs n (D n).length)]) := by
  rw [round_v]; simp only [loopAt, nthC, bodyC, loops, List.nil_append, List.cons_append, List.append_nil, Tryd.f74, ofS, quo_end]
  simp (disch := omega) [go_sem, tab74, nil74, dgs_len]
theorem l2of_v (d : Nat) {n : Nat} (hn : n < 9223372036854775808) : vrun Tryd.prog kn (d + 1) 74 [.int .i64 (n : Int)] [] = some (.agg [.ints .i64 (D n)], []) := by
  have hl : (D n).length < 1000000 := by
    have : (D n).length ≤ 4 := len_D_le.2 (by omega)
    omega
  have hl0 := fun ks => loop_v (P := Tryd.prog) (K := kn) (ks := ks) (vi_for (ofS n) (D n).length (by rw [k_cf, c_rounds]; omega) (of_r (vrun Tryd.prog kn d) hn hl) fun m => vi_exit (of_x _ hl))
  simp only [loopAt, nthC, bodyC, loops, List.nil_append, List.cons_append, List.append_nil, Tryd.f74, ofS, dgs, Nat.pow_zero, Nat.div_one] at hl0
  rw [vrun_v Tryd.func74 rfl rfl rfl]; simp only [Tryd.f74]
  simp (disch := omega) [go_sem, tab74, nil74, hl0, dgs_D]
end
end Go.Eng
