/- What the functions of this seat do, one after another, told by plain values. No conditions. -/
import Derived.Test.YtlejlpooblffbaaDoorSeat
import Derived.Test.YtlejlpooblffbaaDoorVb
import Derived.Test.YtlejlpooblffbaaDoorVc
import Derived.Test.YtlejlpooblffbaaDoorMMatAt
set_option linter.unusedVariables false
set_option linter.unusedSimpArgs false
namespace Go.Eng
/- FnExactMatAt. No conditions. -/
section
open Go.Proofs
set_option maxRecDepth 100000
set_option linter.unusedSimpArgs false
attribute [local go_sem] r_seq r_skip r_retC r_exitC r_label r_block r_region r_regionW r_xWt r_xW r_cond r_Bt r_Bf r_Ncode r_Nret r_Nexit r_Nblk r_Nblkr r_Nblke r_Nnil r_Es r_Onil r_Oop r_Oif r_Xs r_Gt r_Gf r_wtt r_wtf r_wft r_wff r_wu r_gO r_putS r_putN r_get r_keepN r_keepC r_fr r_fn r_fi r_ff r_fo r_l1 r_l2t r_cun r_cul r_cub r_cui r_cus r_cuis r_cuc r_cusl r_cuti r_cutv r_ven r_vec r_l2f r_l3 r_t1 r_t2 r_t0 r_rt r_rc r_en r_ec r_cM r_oN r_oC r_end r_endt r_endf r_nob0 r_nobN r_nobC r_nobE r_nb0 r_nbi r_nbs r_nbsl r_nbin r_nbce r_nLn r_nLv r_nLc r_nAa r_nAn r_nAk_b r_nAk_i r_nAk_s r_nAk_n r_nAk_is r_nAk_ce r_nAk_fp r_nAk_sl r_nAk_pt r_nAk_fn r_nsn r_nsv r_nsc r_m0 r_mi r_ms r_msl r_min r_mce r_mLn r_mLv r_mLc r_mAa r_mAn r_mAk_b r_mAk_i r_mAk_s r_mAk_n r_mAk_is r_mAk_ce r_mAk_fp r_mAk_sl r_mAk_pt r_mAk_fn r_msn r_msv r_msc r_atb r_ati r_ats r_atn r_atis r_atc r_atf r_atl r_atp r_atfn r_gcn r_gcc r_gLn r_gLc r_gIt r_ndn r_ndc r_gcB r_gLB r_two r_rea r_rea0 r_re1n r_re1c r_ori r_orv r_ord r_orn r_adn r_adc r_ad1 r_ern r_ers r_er0 r_rsl r_rptr r_rb r_ri r_rs r_rn r_ris r_rce r_rfp r_ra4 r_ra3 r_rt4 r_rf4 r_rf3 r_idS r_idc r_nS r_nP r_nF r_nT r_vsl r_vptr r_vb r_vi r_vs r_vn r_vis r_vce r_vfp r_va4 r_va3 r_vt4 r_vf4 r_vf3 r_rV r_Oi r_Ov r_Od r_rE r_rE0 r_En r_Ec r_E0 r_pO r_pk r_agL r_cO r_fO r_fSi r_fSv r_fPv r_fsl r_fptr r_ffn r_fag r_fb r_fint r_fstr r_fnil r_fis r_fce r_ffp r_res r_move r_assign r_pick r_pickt r_pickf r_alloc r_box r_al r_build r_bslice r_load r_store r_nlc r_nl1 r_nl2 r_bin r_un r_conv r_mkf r_mks r_slc r_fad r_fld r_iad r_idx r_ext r_ex1 r_callf r_callt r_callen r_calapp r_calmax r_calmin r_vt r_vcb r_vci r_vcs r_vcnp r_vcn r_vca r_vcf r_vcg r_ofb r_ofi r_ofs r_ofn r_evs r_pn r_prt r_pc r_one_a r_one_b r_one_i r_one_s r_one_n r_one_is r_one_ce r_one_fp r_one_sl r_one_pt r_one_fn r_cs_a r_cs_b r_cs_i r_cs_s r_cs_n r_cs_is r_cs_ce r_cs_fp r_cs_sl r_cs_pt r_cs_fn r_tov r_tovA r_toc r_toa r_tb r_ti r_ts r_tn r_bd r_bd2 r_filn r_fp1 r_filc r_fsn r_fsc r_san r_sac r_bs2 r_bs1 r_newO r_mkq r_mkI r_mkOi r_mkOv r_tIn r_tIc r_repz r_repn r_ldp r_ldf r_l1t r_l1f r_lFt r_lFf r_aggO r_obj r_at r_ati' r_atv r_celli r_cellv r_subi r_subv r_sto r_sto1 r_sto2 r_sets r_setR r_setn r_setc r_s1i r_s1v r_bin1 r_bin2 r_tv1 r_cb r_ci r_cst r_cn r_csl r_cis r_cce r_uni r_unb r_cv r_cvO r_cvN r_cv0 r_cvS r_wB r_cvi r_cvs r_cvb r_cvl r_sO r_rdn r_rdi r_rdl r_rdO r_vsub r_vfn r_mk r_mk1 r_mk2 r_zoi r_zov r_leni r_lenv r_bn r_bndV r_bo r_sl0 r_sl1 r_vsz r_ct1 r_cts r_cti r_ctc r_ctn r_lnl r_lni r_lnc r_lnn r_fa r_fap r_faf r_fi1 r_fit r_fif r_ixi r_ixs r_ixc r_ixf r_ixF r_ixF2 r_ix1 r_ixsl r_ixin r_ixce r_len1 r_lenA r_lTs r_lTn r_lTl r_lTi r_lTc r_app0 r_app r_app1 r_app2 r_app3 r_catO r_cati r_catv r_newt r_newf r_pair r_pairK r_trip r_kis r_kiv r_srn r_srl r_sri r_src r_srs r_oln r_oll r_vw r_wi r_wv r_mm r_max r_min' r_str r_cF r_c2t r_c3f r_c3t r_ab r_c2f r_cV r_p1 r_la r_la2t r_la2f r_la3 r_sh r_z_is r_z_ce r_z_fp r_z_b r_z_i r_z_s r_z_n r_z_l r_z_p r_z_a4 r_z_a3 r_z_t4 r_zoI r_zoV r_roN r_roC r_roi r_rod r_zod r_rov r_aR r_trOi r_trOv r_trPv r_trl r_trp r_trf r_tra r_trb r_tri r_trs r_trn r_tris r_trce r_trfp r_vJ r_vJs r_vJn
attribute [local go_sem] b_add b_sub b_mul b_quo b_rem b_shl b_shr b_eql b_neq b_lss b_leq b_gtr b_geq eqB_s b_eqB b_neB u_neg u_not b_nn b_nn' eqS_s zerosT_s zerosT_n zt_i zt_sl zt_st dstOf_z dstOf_n iltT iltF ileT ileF ieqT ieqF nltT nltF nleT nleF neqT neqF tdiv_pos tmod_pos w64 idx0 List.take_of_length_le
open Num
section
variable {ds : List DyT} {N a b k : Int} {h : VH} {i i' lo hi lo' hi' : Nat} {p p' : Nat → Nat}
theorem atT_len (hl : ∀ x ∈ ds, x.l.length ≤ 2097152) : (atT N ds a b).l.length ≤ 2097152 := by
  unfold atT
  cases hq : atB N ds a b with
  | false => simp [zT]
  | true =>
    simp only [if_true]
    cases hg : ds[(a * N + b).toNat]? with
    | none => simp [zT]
    | some x => exact hl x (List.mem_of_getElem? hg)
theorem sMatAt_c (d : Nat) (m : HM lo hi h i p ds) (ha : -9223372036854775808 ≤ a ∧ a ≤ 9223372036854775807) (hb : -9223372036854775808 ≤ b ∧ b ≤ 9223372036854775807) (hl : ds.length < 100000000) (hs : ∀ x ∈ ds, x.sz) :
    ∃ g, vcallF kn (vrun Tryd.prog kn (d + 5)) h 10 (some [.agg [.int .i64 N, .sl i 0 ds.length 3], .int .i64 a, .int .i64 b]) = some (.tup [.agg [.bool (atT N ds a b).neg, .ints .i64 (atT N ds a b).l, .int .i64 (atT N ds a b).e], .bool (atB N ds a b)], g) ∧ g.length = h.length ∧ ∀ q, ¬ (lo ≤ q ∧ q < hi) → g[q]? = h[q]? := by
  have h1 := sMatAt_v d (N := N) ha hb hl hs
  have hf := m.frzM (N := N) 3
  refine callF_ro (P := fun q => lo ≤ q ∧ q < hi) (fa := [.agg [.int .i64 N, .cells 3 ds.length (flat DyT.v ds)], .int .i64 a, .int .i64 b]) (r := .tup [.agg [.bool (atT N ds a b).neg, .ints .i64 (atT N ds a b).l, .int .i64 (atT N ds a b).e], .bool (atB N ds a b)]) c_pure10 rfl ?_ ?_ ?_ ?_ ?_
  · rw [r_oC, hf]; simp [go_sem]
  · simpa [go_sem] using h1
  · simp [go_sem]
  · simp [go_sem]
  · intro q hq
    rw [r_aR, List.flatMap_cons] at hq
    rcases List.mem_append.1 hq with hq | hq
    · exact m.trcM (m := 3) hq
    · simp [go_sem] at hq
theorem MatAt_c (d : Nat) (m : HM lo hi h i p ds) (hl : ds.length < 100000000) (hs : ∀ x ∈ ds, x.sz) :
    vcallF kn (vrun Tryd.prog kn (d + 17)) h 12 (some [.agg [.int .i64 N, .sl i 0 ds.length 3], .int .i64 a, .int .i64 b]) = some (.tup [.agg [.bool (atT N ds a b).neg, .sl h.length 0 (atT N ds a b).l.length 1, .int .i64 (atT N ds a b).e], .bool (atB N ds a b)], h ++ [.ints true .i64 (atT N ds a b).l]) := by
  have h1 := MatAt_v d (N := N) (i := a) (j := b) hl hs
  have hf := m.frzM (N := N) 3
  refine callF_own (fa := [.agg [.int .i64 N, .cells 3 ds.length (flat DyT.v ds)], .int .i64 a, .int .i64 b]) (o := [.ints true .i64 (atT N ds a b).l]) c_pure12 rfl ?_ ?_ ?_ rfl ?_ (r := .tup [.agg [.bool (atT N ds a b).neg, .sl 0 0 (atT N ds a b).l.length 1, .int .i64 (atT N ds a b).e], .bool (atB N ds a b)])
  · rw [r_oC, hf]; simp [go_sem]
  · simpa [go_sem] using h1
  · simp [go_sem]
  · simp [go_sem]
theorem eqMat_c (d : Nat) (m : HM lo hi h i p ds) (m' : HM lo' hi' h i' p' ds) (hd : ds.length < 1000000000) (hsd : ∀ x ∈ ds, x.l.length < 1000000000) :
    vcallF kn (vrun Tryd.prog kn (d + 6)) h 14 (some [.agg [.int .i64 N, .sl i 0 ds.length 3], .agg [.int .i64 N, .sl i' 0 ds.length 3]]) = some (.bool true, h) := by
  have h1 := eqMat_v d (N := N) (M := N) hd hd hsd hsd
  simp only [decide_true, Bool.and_true] at h1
  have hf := m.frzM (N := N) 3
  have hf' := m'.frzM (N := N) 3
  refine callF_frz (fa := [.agg [.int .i64 N, .cells 3 ds.length (flat DyT.v ds)], .agg [.int .i64 N, .cells 3 ds.length (flat DyT.v ds)]]) (r := .bool true) c_pure14 rfl ?_ ?_ ?_ ?_
  · rw [r_oC, hf, r_oC, hf']; simp [go_sem]
  · simpa [go_sem] using h1
  · simp [go_sem]
  · simp [go_sem]
theorem markDy_c (d : Nat) {l : List Int} {n : Bool} {e : Int} (hi : h[i]? = some (.ints true .i64 l)) (hl : l.length < 100000000) (hk : 0 ≤ k) (hk' : k < 1000000000) :
    ∃ G, vcallF kn (vrun Tryd.prog kn (d + 4)) h 16 (some [.agg [.bool n, .sl i 0 l.length 1, .int .i64 e], .int .i64 k]) = some (.int .i64 (k + l.length), G) ∧ G[i]? = some (.ints true .i64 (iota k l.length)) ∧ ∀ (q : Nat) (o : VO), q ≠ i → h[q]? = some o → G[q]? = some o :=
  ⟨_, by rw [r_cF]; simpa [go_sem] using markDy_v (n := n) (e := e) d hi hl hk hk', (Sub.app _ _).2 _ _ (by have := (List.getElem?_eq_some_iff.1 hi).1; simp [this]), fun q o hq ho => (Sub.app _ _).2 _ _ (by rw [List.getElem?_set_ne (Ne.symm hq)]; exact ho)⟩
theorem gapM {g : VH} {q : Nat} {o : VO} (hq : g[q]? = some o) (t : VH) : (g ++ t)[q]? = some o := (Sub.app _ _).2 _ _ hq
end
section
variable {ds : List DyT} {N a b : Int}
theorem nx0 (G : VH) (x : VO) (t : VH) : (G ++ x :: t)[G.length]? = some x := by rw [List.getElem?_append_right (Nat.le_refl _), Nat.sub_self]; rfl
theorem nx1 (G : VH) (x y : VO) (t : VH) : (G ++ x :: y :: t)[G.length + 1]? = some y := by rw [List.getElem?_append_right (by omega), show G.length + 1 - G.length = 1 by omega]; rfl
theorem nx2 (G : VH) (x y z : VO) (t : VH) : (G ++ x :: y :: z :: t)[G.length + 2]? = some z := by rw [List.getElem?_append_right (by omega), show G.length + 2 - G.length = 2 by omega]; rfl
theorem ns0 (G : VH) (x o : VO) (t : VH) : (G ++ x :: t).set G.length o = G ++ o :: t := by rw [List.set_append_right _ _ (Nat.le_refl _), Nat.sub_self]; rfl
theorem ns1 (G : VH) (x y o : VO) (t : VH) : (G ++ x :: y :: t).set (G.length + 1) o = G ++ x :: o :: t := by rw [List.set_append_right _ _ (by omega), show G.length + 1 - G.length = 1 by omega]; rfl
theorem ns2 (G : VH) (x y z o : VO) (t : VH) : (G ++ x :: y :: z :: t).set (G.length + 2) o = G ++ x :: y :: o :: t := by rw [List.set_append_right _ _ (by omega), show G.length + 2 - G.length = 2 by omega]; rfl
end
end
section
open Go.Proofs
set_option maxRecDepth 100000
set_option linter.unusedSimpArgs false
attribute [local go_sem] r_seq r_skip r_retC r_exitC r_label r_block r_region r_regionW r_xWt r_xW r_cond r_Bt r_Bf r_Ncode r_Nret r_Nexit r_Nblk r_Nblkr r_Nblke r_Nnil r_Es r_Onil r_Oop r_Oif r_Xs r_Gt r_Gf r_wtt r_wtf r_wft r_wff r_wu r_gO r_putS r_putN r_get r_keepN r_keepC r_fr r_fn r_fi r_ff r_fo r_l1 r_l2t r_cun r_cul r_cub r_cui r_cus r_cuis r_cuc r_cusl r_cuti r_cutv r_ven r_vec r_l2f r_l3 r_t1 r_t2 r_t0 r_rt r_rc r_en r_ec r_cM r_oN r_oC r_end r_endt r_endf r_nob0 r_nobN r_nobC r_nobE r_nb0 r_nbi r_nbs r_nbsl r_nbin r_nbce r_nLn r_nLv r_nLc r_nAa r_nAn r_nAk_b r_nAk_i r_nAk_s r_nAk_n r_nAk_is r_nAk_ce r_nAk_fp r_nAk_sl r_nAk_pt r_nAk_fn r_nsn r_nsv r_nsc r_m0 r_mi r_ms r_msl r_min r_mce r_mLn r_mLv r_mLc r_mAa r_mAn r_mAk_b r_mAk_i r_mAk_s r_mAk_n r_mAk_is r_mAk_ce r_mAk_fp r_mAk_sl r_mAk_pt r_mAk_fn r_msn r_msv r_msc r_atb r_ati r_ats r_atn r_atis r_atc r_atf r_atl r_atp r_atfn r_gcn r_gcc r_gLn r_gLc r_gIt r_ndn r_ndc r_gcB r_gLB r_two r_rea r_rea0 r_re1n r_re1c r_ori r_orv r_ord r_orn r_adn r_adc r_ad1 r_ern r_ers r_er0 r_rsl r_rptr r_rb r_ri r_rs r_rn r_ris r_rce r_rfp r_ra4 r_ra3 r_rt4 r_rf4 r_rf3 r_idS r_idc r_nS r_nP r_nF r_nT r_vsl r_vptr r_vb r_vi r_vs r_vn r_vis r_vce r_vfp r_va4 r_va3 r_vt4 r_vf4 r_vf3 r_rV r_Oi r_Ov r_Od r_rE r_rE0 r_En r_Ec r_E0 r_pO r_pk r_agL r_cO r_fO r_fSi r_fSv r_fPv r_fsl r_fptr r_ffn r_fag r_fb r_fint r_fstr r_fnil r_fis r_fce r_ffp r_res r_move r_assign r_pick r_pickt r_pickf r_alloc r_box r_al r_build r_bslice r_load r_store r_nlc r_nl1 r_nl2 r_bin r_un r_conv r_mkf r_mks r_slc r_fad r_fld r_iad r_idx r_ext r_ex1 r_callf r_callt r_callen r_calapp r_calmax r_calmin r_vt r_vcb r_vci r_vcs r_vcnp r_vcn r_vca r_vcf r_vcg r_ofb r_ofi r_ofs r_ofn r_evs r_pn r_prt r_pc r_one_a r_one_b r_one_i r_one_s r_one_n r_one_is r_one_ce r_one_fp r_one_sl r_one_pt r_one_fn r_cs_a r_cs_b r_cs_i r_cs_s r_cs_n r_cs_is r_cs_ce r_cs_fp r_cs_sl r_cs_pt r_cs_fn r_tov r_tovA r_toc r_toa r_tb r_ti r_ts r_tn r_bd r_bd2 r_filn r_fp1 r_filc r_fsn r_fsc r_san r_sac r_bs2 r_bs1 r_newO r_mkq r_mkI r_mkOi r_mkOv r_tIn r_tIc r_repz r_repn r_ldp r_ldf r_l1t r_l1f r_lFt r_lFf r_aggO r_obj r_at r_ati' r_atv r_celli r_cellv r_subi r_subv r_sto r_sto1 r_sto2 r_sets r_setR r_setn r_setc r_s1i r_s1v r_bin1 r_bin2 r_tv1 r_cb r_ci r_cst r_cn r_csl r_cis r_cce r_uni r_unb r_cv r_cvO r_cvN r_cv0 r_cvS r_wB r_cvi r_cvs r_cvb r_cvl r_sO r_rdn r_rdi r_rdl r_rdO r_vsub r_vfn r_mk r_mk1 r_mk2 r_zoi r_zov r_leni r_lenv r_bn r_bndV r_bo r_sl0 r_sl1 r_vsz r_ct1 r_cts r_cti r_ctc r_ctn r_lnl r_lni r_lnc r_lnn r_fa r_fap r_faf r_fi1 r_fit r_fif r_ixi r_ixs r_ixc r_ixf r_ixF r_ixF2 r_ix1 r_ixsl r_ixin r_ixce r_len1 r_lenA r_lTs r_lTn r_lTl r_lTi r_lTc r_app0 r_app r_app1 r_app2 r_app3 r_catO r_cati r_catv r_newt r_newf r_pair r_pairK r_trip r_kis r_kiv r_srn r_srl r_sri r_src r_srs r_oln r_oll r_vw r_wi r_wv r_mm r_max r_min' r_str r_c2t r_c3f r_c3t r_ab r_c2f r_cV r_p1 r_la r_la2t r_la2f r_la3 r_sh r_z_is r_z_ce r_z_fp r_z_b r_z_i r_z_s r_z_n r_z_l r_z_p r_z_a4 r_z_a3 r_z_t4 r_zoI r_zoV r_roN r_roC r_roi r_rod r_zod r_rov r_aR r_trOi r_trOv r_trPv r_trl r_trp r_trf r_tra r_trb r_tri r_trs r_trn r_tris r_trce r_trfp r_vJ r_vJs r_vJn
attribute [local go_sem] b_add b_sub b_mul b_quo b_rem b_shl b_shr b_eql b_neq b_lss b_leq b_gtr b_geq eqB_s b_eqB b_neB u_neg u_not b_nn b_nn' eqS_s zerosT_s zerosT_n zt_i zt_sl zt_st dstOf_z dstOf_n iltT iltF ileT ileF ieqT ieqF nltT nltF nleT nleF neqT neqF tdiv_pos tmod_pos w64 idx0 List.take_of_length_le
open Num
section
variable {ds : List DyT} {N a b : Int}
set_option maxHeartbeats 4000000 in
theorem FnExactMatAt_w (d : Nat) (hl : ds.length ≤ 9223372036854775807) (hs : ∀ x ∈ ds, x.l.length ≤ 9223372036854775807) (ha : -9223372036854775808 ≤ a ∧ a ≤ 9223372036854775807) (hb : -9223372036854775808 ≤ b ∧ b ≤ 9223372036854775807) : vrun Tryd.prog kn (d + 18) 3 [.agg [.int .i64 N, .cells 3 ds.length (flat DyT.v ds)], .int .i64 a, .int .i64 b] [] = some (.bool true, []) := by
  obtain ⟨r, hr, h2, h3⟩ := szMat_w (N := N) (left := 1048576) (d := d + 11) hl hs (by omega) (by omega)
  have c1 : ∀ call h args, vcallF kn call h 9 (some args) = vcall2 kn call 9 args h (kn.cf.pure 9) := fun _ _ _ => rfl
  by_cases h : r < 0
  · rw [vrun_v Tryd.func3 rfl rfl rfl]; simp only [Tryd.f3]
    simp (implicitDefEqProofs := false) (disch := omega) [go_sem, tab3, c1, hr]
  have hw := h3 (by omega)
  obtain ⟨z1, z2⟩ := wt_facts (ds := ds) (m := 2097152) (by omega)
  have zl := atT_len (N := N) (a := a) (b := b) z2
  have y1 : ∀ x ∈ ds, x.l.length < 10000000 := fun x hx => by have := z2 x hx; omega
  have y2 : ∀ x ∈ ds, x.sz := fun x hx => by have := z2 x hx; unfold DyT.sz; omega
  -- the reference's answer
  obtain ⟨G1, i1, p1, e1, m1, s1⟩ := toMat_c (d + 11) [.vals true [.int .i64 N, .cells 3 ds.length (flat DyT.v ds)]] N (ds := ds) (by omega) (fun x hx => by have := y1 x hx; omega)
  obtain ⟨G2, e2, l2, f2⟩ := sMatAt_c (N := N) (d + 12) m1 ha hb (by omega) y2
  have b2 : G2[0]? = some (.vals true [.int .i64 N, .cells 3 ds.length (flat DyT.v ds)]) := by rw [f2 0 (by simp)]; exact s1.2 _ _ rfl
  -- what is worked on
  obtain ⟨G3, i3, p3, e3, m3, s3⟩ := toMat_c (d + 11) (G2 ++ [.vals true [.bool (atT N ds a b).neg, .ints .i64 (atT N ds a b).l, .int .i64 (atT N ds a b).e]]) N (ds := ds) (by omega) (fun x hx => by have := y1 x hx; omega)
  have b3 := s3.2 _ _ ((Sub.app _ _).2 _ _ b2)
  have w3 := s3.2 _ _ (nx0 G2 _ [])
  have e4 := MatAt_c (N := N) (a := a) (b := b) (d + 0) (m3.app [.vals true [.int .i64 N, .sl i3 0 ds.length 3]]) (by omega) y2
  have l32 := s3.1
  simp only [List.length_append, List.length_cons, List.length_nil, List.append_assoc, List.cons_append, List.nil_append, Nat.zero_add] at e4 l32
  -- it is compared
  obtain ⟨G4, i4, p4, e5, m4, s4⟩ := toMat_c (d + 11) (G3 ++ [.vals true [.int .i64 N, .sl i3 0 ds.length 3], .ints true .i64 (atT N ds a b).l, .vals true [.bool (atT N ds a b).neg, .sl (G3.length + 1) 0 (atT N ds a b).l.length 1, .int .i64 (atT N ds a b).e]]) N (ds := ds) (by omega) (fun x hx => by have := y1 x hx; omega)
  have b4 := s4.2 _ _ ((Sub.app _ _).2 _ _ b3)
  have w4 := s4.2 _ _ ((Sub.app _ _).2 _ _ w3)
  have x4 := s4.2 _ _ (nx0 G3 _ _)
  have q4 := s4.2 _ _ (nx1 G3 _ _ _)
  have g4 := s4.2 _ _ (nx2 G3 _ _ _ [])
  have n3 := (m3.app _).sub s4
  have e6 := eqMat_c (N := N) (d + 11) n3 m4 (by omega) (fun x hx => by have := y1 x hx; omega)
  have l43 := s4.1
  simp only [List.length_append, List.length_cons, List.length_nil, Nat.zero_add] at l43
  -- it is marked
  obtain ⟨G5, e7, m5, l5, f5⟩ := markMat_c (N := N) (k := 1) (d + 14) n3 (by omega) y1 (by omega) (by omega) (by omega)
  simp only [List.length_append, List.length_cons, List.length_nil, Nat.zero_add] at f5
  have b5 := f5 _ _ (.inl (by omega)) b4
  have w5 := f5 _ _ (.inl (by omega)) w4
  have q5 := f5 _ _ (.inr (by omega)) q4
  have g5 := f5 _ _ (.inr (by omega)) g4
  -- the answer is marked
  obtain ⟨G6, e8, q6, f6⟩ := markDy_c (n := (atT N ds a b).neg) (e := (atT N ds a b).e) (k := 1) (d + 13) q5 (by omega) (by omega) (by omega)
  have b6 := f6 _ _ (by omega) b5
  have w6 := f6 _ _ (by omega) w5
  have g6 := f6 _ _ (by omega) g5
  have e9 := fun bb ee d => heldDy_v (k := 1) (n := (atT N ds a b).l.length) (b := bb) (e := ee) d (by omega) (by omega) (by omega)
  -- again
  obtain ⟨G7, i7, p7, e10, m7, s7⟩ := toMat_c (d + 11) G6 N (ds := ds) (by omega) (fun x hx => by have := y1 x hx; omega)
  have b7 := s7.2 _ _ b6
  have w7 := s7.2 _ _ w6
  have q7 := s7.2 _ _ q6
  have g7 := s7.2 _ _ g6
  have e11 := MatAt_c (N := N) (a := a) (b := b) (d + 0) m7 (by omega) y2
  have e12 := fun d => eqDy_v (n1 := (atT N ds a b).neg) (n2 := (atT N ds a b).neg) (e1 := (atT N ds a b).e) (e2 := (atT N ds a b).e) d (a := (atT N ds a b).l) (b := (atT N ds a b).l) (by omega) (by omega)
  simp only [decide_true, Bool.and_true] at e12
  have c2 : ∀ call h args, vcallF kn call h 13 (some args) = vcall2 kn call 13 args h (kn.cf.pure 13) := fun _ _ _ => rfl
  have c3 : ∀ call h args, vcallF kn call h 17 (some args) = vcall2 kn call 17 args h (kn.cf.pure 17) := fun _ _ _ => rfl
  have hmk : ¬ mkE ds 1 < 0 := by have := mkE_wt ds 1; omega
  have il : ∀ k n, (iota k n).take n = iota k n := fun k n => List.take_of_length_le (by rw [iota_len]; exact Nat.le_refl _)
  have gb2 := fun t => gapM b2 t
  have gb3 := fun t => gapM b3 t
  have gw3 := fun t => gapM w3 t
  have gw7 := fun t => gapM w7 t
  have gq7 := fun t => gapM q7 t
  have gg7 := fun t => gapM g7 t
  have gb7 := fun t => gapM b7 t
  have dl : ∀ l : List Int, l.length = l.length := fun _ => rfl
  clear l32 l43 s1 s3 s4 s7 f2 f5 f6 m1 m3 m4 m5 m7 n3 z2 y1 y2 h3 hs
  generalize flat DyT.v ds = F at *
  generalize (atT N ds a b).neg = xn at *
  generalize (atT N ds a b).l = xl at *
  generalize (atT N ds a b).e = xe at *
  rw [vrun_v Tryd.func3 rfl rfl rfl]; simp only [Tryd.f3]
  cases hf : atB N ds a b
  all_goals
    rw [hf] at e2 e4 e11
    simp (implicitDefEqProofs := false) (disch := omega) [go_sem, tab3, c1, c2, c3, hmk, hr, h, e1, e2, e3, e4, e5, e6, e7, e8, e9, e10, e11, e12, b2, b3, b4, b5, b6, b7, w3, w4, w5, w6, w7, x4, q4, g4, q5, g5, q6, g6, q7, g7, gb2, gb3, gw3, gw7, gq7, gg7, gb7, nx0, nx1, nx2, ns0, ns1, ns2, il, iota_len]
theorem FnExactMatAt_v (d : Nat) (_ : (Lit.int .i64 N).wf = true) (hl : ds.length ≤ 9223372036854775807) (hrow : ∀ x ∈ ds, x.row) (ha : (Lit.int .i64 a).wf = true) (hb : (Lit.int .i64 b).wf = true) : vrun Tryd.prog kn (d + 18) 3 [.agg [.int .i64 N, .cells 3 ds.length (flat DyT.v ds)], .int .i64 a, .int .i64 b] [] = some (.bool true, []) := by
  simp [Lit.wf, IntKind.min, IntKind.max, IntKind.signed, IntKind.bits] at ha hb
  exact FnExactMatAt_w d hl (fun x hx => (hrow x hx).1) ⟨by omega, by omega⟩ ⟨by omega, by omega⟩
end
end
end Go.Eng
