/- What the functions of this seat do, one after another, told by plain values. No conditions. -/
import Derived.Test.YtkfeofjgdijbeaaSeat
import Derived.Test.YtkfeofjgdijbeaaVb
import Derived.Test.YtkfeofjgdijbeaaT4
set_option linter.unusedVariables false
set_option linter.unusedSimpArgs false
namespace Go.Eng
open Go.Proofs
set_option maxRecDepth 100000
set_option linter.unusedSimpArgs false
attribute [local go_sem] r_seq r_skip r_retC r_exitC r_label r_block r_region r_or0 r_regionW r_xWt r_xW r_cond r_Bt r_Bf r_Ncode r_Nret r_Nexit r_Nblk r_Nblkr r_Nblke r_Nnil r_Es r_Onil r_Oop r_Oif r_Xs r_Gt r_Gf r_wtt r_wtf r_wft r_wff r_wu r_gO r_putS r_putN r_get r_keepN r_keepC r_fr r_fn r_fi r_ff r_fo r_l1 r_l2t r_cun r_cul r_cub r_cui r_cus r_cuis r_cuc r_cusl r_cuti r_cutv r_ven r_vec r_l2f r_l3 r_t1 r_t2 r_t0 r_rt r_rc r_en r_ec r_cM r_oN r_oC r_end r_endt r_endf r_nob0 r_nobN r_nobC r_nobE r_nb0 r_nbi r_nbs r_nbsl r_nbin r_nbce r_nLn r_nLv r_nLc r_nAa r_nAn r_nAk_b r_nAk_i r_nAk_s r_nAk_n r_nAk_is r_nAk_ce r_nAk_fp r_nAk_sl r_nAk_pt r_nAk_fn r_nsn r_nsv r_nsc r_m0 r_mi r_ms r_msl r_min r_mce r_mLn r_mLv r_mLc r_mAa r_mAn r_mAk_b r_mAk_i r_mAk_s r_mAk_n r_mAk_is r_mAk_ce r_mAk_fp r_mAk_sl r_mAk_pt r_mAk_fn r_msn r_msv r_msc r_atb r_ati r_ats r_atn r_atis r_atc r_atf r_atl r_atp r_atfn r_gcn r_gcc r_gLn r_gLc r_gIt r_ndn r_ndc r_gcB r_gLB r_two r_rea r_rea0 r_re1n r_re1c r_ori r_orv r_ord r_orn r_adn r_adc r_ad1 r_ern r_ers r_er0 r_rsl r_rptr r_rb r_ri r_rs r_rn r_ris r_rce r_rfp r_ra4 r_ra3 r_rt4 r_rf4 r_rf3 r_idS r_idc r_nS r_nP r_nF r_nT r_vsl r_vptr r_vb r_vi r_vs r_vn r_vis r_vce r_vfp r_va4 r_va3 r_vt4 r_vf4 r_vf3 r_rV r_Oi r_Ov r_Od r_rE r_rE0 r_En r_Ec r_E0 r_pO r_pk r_agL r_cO r_fO r_fSi r_fSv r_fPv r_fsl r_fptr r_ffn r_fag r_fb r_fint r_fstr r_fnil r_fis r_fce r_ffp r_res r_move r_assign r_pick r_pickt r_pickf r_alloc r_box r_al r_build r_bslice r_load r_store r_nlc r_nl1 r_nl2 r_bin r_un r_conv r_mkf r_mks r_slc r_fad r_fld r_iad r_idx r_ext r_ex1 r_callf r_callt r_callen r_calapp r_calcp r_calmax r_calmin r_vt r_vcb r_vci r_vcs r_vcnp r_vcn r_vca r_vcf r_vcg r_ofb r_ofi r_ofs r_ofn r_evs r_pn r_prt r_pc r_one_a r_one_b r_one_i r_one_s r_one_n r_one_is r_one_ce r_one_fp r_one_sl r_one_pt r_one_fn r_cs_a r_cs_b r_cs_i r_cs_s r_cs_n r_cs_is r_cs_ce r_cs_fp r_cs_sl r_cs_pt r_cs_fn r_tov r_tovA r_toc r_toa r_tb r_ti r_ts r_tn r_bd r_bd2 r_filn r_fp1 r_filc r_fsn r_fsc r_san r_sac r_bs2 r_bs1 r_nE r_newO r_mkq r_mkI r_mkOi r_mkOv r_tIn r_tIc r_repz r_repn r_ldp r_ldf r_l1t r_l1f r_lFt r_lFf r_aggO r_obj r_at r_ati' r_atv r_celli r_cellv r_subi r_subv r_sto r_sto1 r_sto2 r_sets r_setR r_setn r_setc r_s1i r_s1v r_bin1 r_bin2 r_tv1 r_cb r_ci r_cst r_cn r_csl r_cis r_cce r_uni r_unb r_cv r_cvO r_cvN r_cv0 r_cvS r_wB r_cvi r_cvs r_cvb r_cvl r_sO r_rdn r_rdi r_rdl r_rdO r_vsub r_vfn r_mk r_mk1 r_mk2 r_zoi r_zov r_leni r_lenv r_bn r_bndV r_bo r_sl0 r_sl1 r_vsz r_ct1 r_cts r_cti r_ctc r_ctn r_lnl r_lni r_lnc r_lnn r_fa r_fap r_faf r_fi1 r_fit r_fif r_ixi r_ixs r_ixc r_ixf r_ixF r_ixF2 r_ix1 r_ixsl r_ixin r_ixce r_len1 r_lenA r_lTs r_lTn r_lTl r_lTi r_lTc r_cp0 r_cp1 r_cp2 r_cp3 r_cp4 r_nts r_nti r_ntn r_app0 r_app9 r_paf r_pat r_pal r_son r_soe r_sos r_frn r_fre r_tt1 r_tt2 r_tt3 r_app r_app1 r_app2 r_app3 r_catO r_cati r_catv r_newt r_newf r_pair r_pairK r_trip r_kis r_kiv r_srn r_srl r_sri r_src r_srs r_oln r_ole r_oll r_vw r_wi r_wv r_mm r_max r_min' r_str r_cF r_c2t r_c3f r_c3t r_ab r_c2f r_cV r_p1 r_la r_la2t r_la2f r_la3 r_sh r_z_is r_z_ce r_z_fp r_z_b r_z_i r_z_s r_z_n r_z_l r_z_p r_z_a4 r_z_a3 r_z_t4 r_zoI r_zoV r_roN r_roC r_roi r_rod r_zod r_rov r_aR r_trOi r_trOv r_trPv r_trl r_trp r_trf r_tra r_trb r_tri r_trs r_trn r_tris r_trce r_trfp r_vJ r_vJs r_vJn
attribute [local go_sem] b_add b_sub b_mul b_quo b_rem b_shl b_shr b_eql b_neq b_lss b_leq b_gtr b_geq eqB_s b_eqB b_neB u_neg u_not b_nn b_nn' eqS_s zerosT_s zerosT_n zt_i zt_sl zt_st dstOf_z dstOf_n iltT iltF ileT ileF ieqT ieqF nltT nltF nleT nleF neqT neqF tdiv_pos tmod_pos w64 idx0 List.take_of_length_le
/- FnExactDyText. No conditions. -/
section
open Num
section
variable {k : Int} {n : Nat}
theorem gt_wiota {j : Nat} (hj : j < n) : gt (wiota k n) j = IntKind.wrap .u8 (k + j) := by
  have h1 := gt_iota (k := k) hj
  obtain ⟨y, h2⟩ : ∃ y, (iota k n)[j]? = some y := ⟨_, List.getElem?_eq_getElem (by rw [iota_len]; exact hj)⟩
  unfold gt at h1 ⊢
  rw [List.getD_eq_getElem?_getD, h2] at h1
  unfold wiota
  rw [List.getD_eq_getElem?_getD, List.getElem?_map, h2]
  simp at h1 ⊢
  rw [h1]
def hbS (k : Int) (n j : Nat) : VE × VH := ([(0, some (.ints .u8 (wiota k n))), (1, some (.int .i64 (k + j))), (5, some (.int .i64 j))], [])
theorem hb_r (call : CallV) (hn : n < 100000000) (hk : 0 ≤ k) (hk' : k < 1000000000) {j : Nat} (hj : j < n) : vCode Try.prog kn call 24 (loopAt Try.f24 0) (hbS k n j).1 (hbS k n j).2 = some (.norm, hbS k n (j + 1)) := by
  have h1 := gt_wiota (k := k) hj
  have h2 := wiota_len k n
  have h3 : k + j + 1 = k + ((j + 1 : Nat) : Int) := by omega
  rw [round_v]; simp only [loopAt, nthC, bodyC, loops, List.nil_append, List.cons_append, List.append_nil, Try.f24, hbS, ← h3]
  simp (disch := omega) [go_sem, tab24, h1, h2]
theorem hb_x (call : CallV) (hn : n < 100000000) : vCode Try.prog kn call 24 (loopAt Try.f24 0) (hbS k n n).1 (hbS k n n).2 = some (.exit 0, (hbS k n n).1 ++ [(9, some (.bool false))], (hbS k n n).2) := by
  have h2 := wiota_len k n
  rw [round_v]; simp only [loopAt, nthC, bodyC, loops, List.nil_append, List.cons_append, List.append_nil, Try.f24, hbS]
  simp (disch := omega) [go_sem, tab24, h2]
theorem heldByteS_v (d : Nat) (hn : n < 100000000) (hk : 0 ≤ k) (hk' : k < 1000000000) : vrun Try.prog kn (d + 1) 24 [.ints .u8 (wiota k n), .int .i64 k] [] = some (.int .i64 (k + n), []) := by
  have hl0 := fun ks => loop_v (P := Try.prog) (K := kn) (ks := ks) (vi_for (hbS k n) n (n := kn.cf.rounds) (by rw [k_cf, c_rounds]; omega) (fun j hj => hb_r (vrun Try.prog kn d) hn hk hk' hj) fun m => vi_exit (hb_x _ hn))
  simp only [loopAt, nthC, bodyC, loops, List.nil_append, List.cons_append, List.append_nil, Try.f24, hbS, Int.natCast_zero, Int.add_zero, List.cons_append, List.nil_append] at hl0
  rw [vrun_v Try.func24 rfl rfl rfl]; simp only [Try.f24]
  simp (disch := omega) [go_sem, tab24, hl0]
end
theorem dyR_len (x : DyT) : (dyR x).length < 10000000 := by
  unfold dyR
  cases h : dyTok x with
  | false => simp
  | true =>
    obtain ⟨_, _, h2, h3, h4, h5⟩ := dyTok_t h
    simp only [if_true]
    unfold dyTx
    rw [List.length_append]
    have l0 : (if x.neg then [(45 : Int)] else []).length ≤ 1 := by cases x.neg <;> simp
    by_cases he : 0 ≤ x.e
    · rw [if_pos he]
      have l1 := len_shl x.n x.e.toNat
      have := text_le2 (n := x.n * 2 ^ x.e.toNat) (by omega)
      omega
    · rw [if_neg he]
      obtain ⟨k, hk⟩ : ∃ k, (-x.e).toNat = k := ⟨_, rfl⟩
      rw [hk]
      have l1 := text_le2 (n := x.n / 2 ^ k) (Nat.le_trans (len_D_mono (Nat.div_le_self _ _)) (by omega))
      have pl := powR_len (a := 5) (w := 3) (by omega) k
      have m4 := len_mul (x.n % 2 ^ k) (5 ^ k)
      have m3 : (D (x.n % 2 ^ k)).length ≤ 100 := Nat.le_trans (len_D_mono (Nat.mod_le _ _)) h2
      have l2 := text_le2 (n := x.n % 2 ^ k * 5 ^ k) (by omega)
      simp only [List.length_append, List.length_cons, List.length_replicate]
      omega
set_option maxHeartbeats 4000000 in
theorem FnExactDyText_v (d : Nat) {x : DyT} (hx : x.row) : vrun Try.prog kn (d + 11) 4 [.agg [.bool x.neg, .ints .i64 x.l, .int .i64 x.e]] [] = some (.bool true, []) := by
  obtain ⟨r, hr, h2, h3⟩ := szDy_v (n := x.neg) (e := x.e) (left := 1048576) (d := d + 6) hx.1 (by omega) (by omega)
  by_cases h : r < 0
  · rw [vrun_v Try.func4 rfl rfl rfl]; simp only [Try.f4]
    simp (implicitDefEqProofs := false) (disch := omega) [go_sem, tab4, hr]
  have hxs := h3 (by omega)
  have h1 := fun d => toDy_v (n := x.neg) (e := x.e) d (l := x.l) (by omega)
  have h6 := fun d => DyText_v d (x := x) (by unfold DyT.sz; omega)
  have h7 := fun d => sDyText_v d (x := x) (by unfold DyT.sz; omega)
  have hl := dyR_len x
  generalize dyR x = T at *
  generalize dyTok x = f at *
  have h8 := fun d => eqByteS_v d (a := T) (b := T) (by omega) (by omega)
  have h9 := fun d => eqDy_v (n1 := x.neg) (n2 := x.neg) (e1 := x.e) (e2 := x.e) d (a := x.l) (b := x.l) (by omega) (by omega)
  have h11 := fun d => heldByteS_v (k := 1) (n := T.length) d (by omega) (by omega) (by omega)
  simp only [decide_true, Bool.and_true] at h8 h9
  have hx2 : x.l.length < 100000000 := by omega
  clear hx
  generalize x.neg = xn at *
  generalize x.l = xl at *
  generalize x.e = xe at *
  have il : ∀ k n, (wiota k n).take n = wiota k n := fun k n => List.take_of_length_le (by rw [wiota_len]; exact Nat.le_refl _)
  rw [vrun_v Try.func4 rfl rfl rfl]; simp only [Try.f4]
  cases f
  all_goals
    simp (implicitDefEqProofs := false) (disch := omega) [go_sem, tab4, hr, h1, h6, h7, h8, h9, h11, markDy_s, mkStep_i, markByteS_s, mkStepB_i, il, wiota_len, iota_len]
end
end Go.Eng
