/- What the functions of this seat do, one after another, told by plain values. No conditions. -/
import Derived.Test.YtlejlpooblffbaaDoorSeat
import Derived.Test.YtlejlpooblffbaaDoorVb
import Derived.Test.YtlejlpooblffbaaDoorVc
import Derived.Test.YtlejlpooblffbaaDoorT3
set_option linter.unusedVariables false
set_option linter.unusedSimpArgs false
namespace Go.Eng
/- Calls of the exact laws' helpers over heaps of which parts are known. No conditions. -/
section
open Go.Proofs
set_option maxRecDepth 100000
set_option linter.unusedSimpArgs false
attribute [local go_sem] r_seq r_skip r_retC r_exitC r_label r_block r_region r_regionW r_xWt r_xW r_cond r_Bt r_Bf r_Ncode r_Nret r_Nexit r_Nblk r_Nblkr r_Nblke r_Nnil r_Es r_Onil r_Oop r_Oif r_Xs r_Gt r_Gf r_wtt r_wtf r_wft r_wff r_wu r_gO r_putS r_putN r_get r_keepN r_keepC r_fr r_fn r_fi r_ff r_fo r_l1 r_l2t r_cun r_cul r_cub r_cui r_cus r_cuis r_cuc r_cusl r_cuti r_cutv r_ven r_vec r_l2f r_l3 r_t1 r_t2 r_t0 r_rt r_rc r_en r_ec r_cM r_oN r_oC r_end r_endt r_endf r_nob0 r_nobN r_nobC r_nobE r_nb0 r_nbi r_nbs r_nbsl r_nbin r_nbce r_nLn r_nLv r_nLc r_nAa r_nAn r_nAk_b r_nAk_i r_nAk_s r_nAk_n r_nAk_is r_nAk_ce r_nAk_fp r_nAk_sl r_nAk_pt r_nAk_fn r_nsn r_nsv r_nsc r_m0 r_mi r_ms r_msl r_min r_mce r_mLn r_mLv r_mLc r_mAa r_mAn r_mAk_b r_mAk_i r_mAk_s r_mAk_n r_mAk_is r_mAk_ce r_mAk_fp r_mAk_sl r_mAk_pt r_mAk_fn r_msn r_msv r_msc r_atb r_ati r_ats r_atn r_atis r_atc r_atf r_atl r_atp r_atfn r_gcn r_gcc r_gLn r_gLc r_gIt r_ndn r_ndc r_gcB r_gLB r_two r_rea r_rea0 r_re1n r_re1c r_ori r_orv r_ord r_orn r_adn r_adc r_ad1 r_ern r_ers r_er0 r_rsl r_rptr r_rb r_ri r_rs r_rn r_ris r_rce r_rfp r_ra4 r_ra3 r_rt4 r_rf4 r_rf3 r_idS r_idc r_nS r_nP r_nF r_nT r_vsl r_vptr r_vb r_vi r_vs r_vn r_vis r_vce r_vfp r_va4 r_va3 r_vt4 r_vf4 r_vf3 r_rV r_Oi r_Ov r_Od r_rE r_rE0 r_En r_Ec r_E0 r_pO r_pk r_agL r_cO r_fO r_fSi r_fSv r_fPv r_fsl r_fptr r_ffn r_fag r_fb r_fint r_fstr r_fnil r_fis r_fce r_ffp r_res r_move r_assign r_pick r_pickt r_pickf r_alloc r_box r_al r_build r_bslice r_load r_store r_nlc r_nl1 r_nl2 r_bin r_un r_conv r_mkf r_mks r_slc r_fad r_fld r_iad r_idx r_ext r_ex1 r_callf r_callt r_callen r_calapp r_calmax r_calmin r_vt r_vcb r_vci r_vcs r_vcnp r_vcn r_vca r_vcf r_vcg r_ofb r_ofi r_ofs r_ofn r_evs r_pn r_prt r_pc r_one_a r_one_b r_one_i r_one_s r_one_n r_one_is r_one_ce r_one_fp r_one_sl r_one_pt r_one_fn r_cs_a r_cs_b r_cs_i r_cs_s r_cs_n r_cs_is r_cs_ce r_cs_fp r_cs_sl r_cs_pt r_cs_fn r_tov r_tovA r_toc r_toa r_tb r_ti r_ts r_tn r_bd r_bd2 r_filn r_fp1 r_filc r_fsn r_fsc r_san r_sac r_bs2 r_bs1 r_newO r_mkq r_mkI r_mkOi r_mkOv r_tIn r_tIc r_repz r_repn r_ldp r_ldf r_l1t r_l1f r_lFt r_lFf r_aggO r_obj r_at r_ati' r_atv r_celli r_cellv r_subi r_subv r_sto r_sto1 r_sto2 r_sets r_setR r_setn r_setc r_s1i r_s1v r_bin1 r_bin2 r_tv1 r_cb r_ci r_cst r_cn r_csl r_cis r_cce r_uni r_unb r_cv r_cvO r_cvN r_cv0 r_cvS r_wB r_cvi r_cvs r_cvb r_cvl r_sO r_rdn r_rdi r_rdl r_rdO r_vsub r_vfn r_mk r_mk1 r_mk2 r_zoi r_zov r_leni r_lenv r_bn r_bndV r_bo r_sl0 r_sl1 r_vsz r_ct1 r_cts r_cti r_ctc r_ctn r_lnl r_lni r_lnc r_lnn r_fa r_fap r_faf r_fi1 r_fit r_fif r_ixi r_ixs r_ixc r_ixf r_ixF r_ixF2 r_ix1 r_ixsl r_ixin r_ixce r_len1 r_lenA r_lTs r_lTn r_lTl r_lTi r_lTc r_app0 r_app r_app1 r_app2 r_app3 r_catO r_cati r_catv r_newt r_newf r_pair r_pairK r_trip r_kis r_kiv r_srn r_srl r_sri r_src r_srs r_oln r_oll r_vw r_wi r_wv r_mm r_max r_min' r_str r_cF r_c2t r_c3f r_c3t r_ab r_c2f r_cV r_p1 r_la r_la2t r_la2f r_la3 r_sh r_z_is r_z_ce r_z_fp r_z_b r_z_i r_z_s r_z_n r_z_l r_z_p r_z_a4 r_z_a3 r_z_t4 r_zoI r_zoV r_roN r_roC r_roi r_rod r_zod r_rov r_aR r_trOi r_trOv r_trPv r_trl r_trp r_trf r_tra r_trb r_tri r_trs r_trn r_tris r_trce r_trfp r_vJ r_vJs r_vJn
attribute [local go_sem] b_add b_sub b_mul b_quo b_rem b_shl b_shr b_eql b_neq b_lss b_leq b_gtr b_geq eqB_s b_eqB b_neB u_neg u_not b_nn b_nn' eqS_s zerosT_s zerosT_n zt_i zt_sl zt_st dstOf_z dstOf_n iltT iltF ileT ileF ieqT ieqF nltT nltF nleT nleF neqT neqF tdiv_pos tmod_pos w64 idx0 List.take_of_length_le
open Num
section
variable {ds : List DyT} {N k : Int} {h : VH} {i i' lo hi lo' hi' : Nat} {p p' : Nat → Nat}
theorem eqMat_c (d : Nat) (m : HM lo hi h i p ds) (m' : HM lo' hi' h i' p' ds) (hd : ds.length < 1000000000) (hsd : ∀ x ∈ ds, x.l.length < 1000000000) :
    vcallF kn (vrun Tryd.prog kn (d + 6)) h 14 (some [.agg [.int .i64 N, .sl i 0 ds.length 3], .agg [.int .i64 N, .sl i' 0 ds.length 3]]) = some (.bool true, h) := by
  have h1 := eqMat_v d (N := N) (M := N) hd hd hsd hsd
  simp only [decide_true, Bool.and_true] at h1
  have hf := m.frzM (N := N) 3
  have hf' := m'.frzM (N := N) 3
  refine callF_frz (fa := [.agg [.int .i64 N, .cells 3 ds.length (flat DyT.v ds)], .agg [.int .i64 N, .cells 3 ds.length (flat DyT.v ds)]]) (r := .bool true) c_pure14 rfl ?_ ?_ ?_ ?_
  · rw [r_oC, hf, r_oC, hf']; simp [go_sem]
  · simpa [go_sem] using h1
  · simp [go_sem]
  · simp [go_sem]
theorem markDy_c (d : Nat) {l : List Int} {n : Bool} {e : Int} (hi : h[i]? = some (.ints true .i64 l)) (hl : l.length < 100000000) (hk : 0 ≤ k) (hk' : k < 1000000000) :
    ∃ G, vcallF kn (vrun Tryd.prog kn (d + 4)) h 16 (some [.agg [.bool n, .sl i 0 l.length 1, .int .i64 e], .int .i64 k]) = some (.int .i64 (k + l.length), G) ∧ G[i]? = some (.ints true .i64 (iota k l.length)) ∧ ∀ (q : Nat) (o : VO), q ≠ i → h[q]? = some o → G[q]? = some o :=
  ⟨_, by rw [r_cF]; simpa [go_sem] using markDy_v (n := n) (e := e) d hi hl hk hk', (Sub.app _ _).2 _ _ (by have := (List.getElem?_eq_some_iff.1 hi).1; simp [this]), fun q o hq ho => (Sub.app _ _).2 _ _ (by rw [List.getElem?_set_ne (Ne.symm hq)]; exact ho)⟩
theorem gapM {g : VH} {q : Nat} {o : VO} (hq : g[q]? = some o) (t : VH) : (g ++ t)[q]? = some o := (Sub.app _ _).2 _ _ hq
end
theorem nx0 (G : VH) (x : VO) (t : VH) : (G ++ x :: t)[G.length]? = some x := by rw [List.getElem?_append_right (Nat.le_refl _), Nat.sub_self]; rfl
theorem nx1 (G : VH) (x y : VO) (t : VH) : (G ++ x :: y :: t)[G.length + 1]? = some y := by rw [List.getElem?_append_right (by omega), show G.length + 1 - G.length = 1 by omega]; rfl
theorem nx2 (G : VH) (x y z : VO) (t : VH) : (G ++ x :: y :: z :: t)[G.length + 2]? = some z := by rw [List.getElem?_append_right (by omega), show G.length + 2 - G.length = 2 by omega]; rfl
theorem ns0 (G : VH) (x o : VO) (t : VH) : (G ++ x :: t).set G.length o = G ++ o :: t := by rw [List.set_append_right _ _ (Nat.le_refl _), Nat.sub_self]; rfl
theorem ns1 (G : VH) (x y o : VO) (t : VH) : (G ++ x :: y :: t).set (G.length + 1) o = G ++ x :: o :: t := by rw [List.set_append_right _ _ (by omega), show G.length + 1 - G.length = 1 by omega]; rfl
theorem ns2 (G : VH) (x y z o : VO) (t : VH) : (G ++ x :: y :: z :: t).set (G.length + 2) o = G ++ x :: y :: o :: t := by rw [List.set_append_right _ _ (by omega), show G.length + 2 - G.length = 2 by omega]; rfl
theorem nx3 (G : VH) (x y z w : VO) (t : VH) : (G ++ x :: y :: z :: w :: t)[G.length + 3]? = some w := by rw [List.getElem?_append_right (by omega), show G.length + 3 - G.length = 3 by omega]; rfl
theorem nx4 (G : VH) (x y z w v : VO) (t : VH) : (G ++ x :: y :: z :: w :: v :: t)[G.length + 4]? = some v := by rw [List.getElem?_append_right (by omega), show G.length + 4 - G.length = 4 by omega]; rfl
end
/- Lists of numbers that are made anew, program: what is representable, as a list of its own. No conditions. -/
section
open Go.Proofs
set_option maxRecDepth 100000
set_option linter.unusedSimpArgs false
attribute [local go_sem] r_seq r_skip r_retC r_exitC r_label r_block r_region r_regionW r_xWt r_xW r_cond r_Bt r_Bf r_Ncode r_Nret r_Nexit r_Nblk r_Nblkr r_Nblke r_Nnil r_Es r_Onil r_Oop r_Oif r_Xs r_Gt r_Gf r_wtt r_wtf r_wft r_wff r_wu r_gO r_putS r_putN r_get r_keepN r_keepC r_fr r_fn r_fi r_ff r_fo r_l1 r_l2t r_cun r_cul r_cub r_cui r_cus r_cuis r_cuc r_cusl r_cuti r_cutv r_ven r_vec r_l2f r_l3 r_t1 r_t2 r_t0 r_rt r_rc r_en r_ec r_cM r_oN r_oC r_end r_endt r_endf r_nob0 r_nobN r_nobC r_nobE r_nb0 r_nbi r_nbs r_nbsl r_nbin r_nbce r_nLn r_nLv r_nLc r_nAa r_nAn r_nAk_b r_nAk_i r_nAk_s r_nAk_n r_nAk_is r_nAk_ce r_nAk_fp r_nAk_sl r_nAk_pt r_nAk_fn r_nsn r_nsv r_nsc r_m0 r_mi r_ms r_msl r_min r_mce r_mLn r_mLv r_mLc r_mAa r_mAn r_mAk_b r_mAk_i r_mAk_s r_mAk_n r_mAk_is r_mAk_ce r_mAk_fp r_mAk_sl r_mAk_pt r_mAk_fn r_msn r_msv r_msc r_atb r_ati r_ats r_atn r_atis r_atc r_atf r_atl r_atp r_atfn r_gcn r_gcc r_gLn r_gLc r_gIt r_ndn r_ndc r_gcB r_gLB r_two r_rea r_rea0 r_re1n r_re1c r_ori r_orv r_ord r_orn r_adn r_adc r_ad1 r_ern r_ers r_er0 r_rsl r_rptr r_rb r_ri r_rs r_rn r_ris r_rce r_rfp r_ra4 r_ra3 r_rt4 r_rf4 r_rf3 r_idS r_idc r_nS r_nP r_nF r_nT r_vsl r_vptr r_vb r_vi r_vs r_vn r_vis r_vce r_vfp r_va4 r_va3 r_vt4 r_vf4 r_vf3 r_rV r_Oi r_Ov r_Od r_rE r_rE0 r_En r_Ec r_E0 r_pO r_pk r_agL r_cO r_fO r_fSi r_fSv r_fPv r_fsl r_fptr r_ffn r_fag r_fb r_fint r_fstr r_fnil r_fis r_fce r_ffp r_res r_move r_assign r_pick r_pickt r_pickf r_alloc r_box r_al r_build r_bslice r_load r_store r_nlc r_nl1 r_nl2 r_bin r_un r_conv r_mkf r_mks r_slc r_fad r_fld r_iad r_idx r_ext r_ex1 r_callf r_callt r_callen r_calapp r_calmax r_calmin r_vt r_vcb r_vci r_vcs r_vcnp r_vcn r_vca r_vcf r_vcg r_ofb r_ofi r_ofs r_ofn r_evs r_pn r_prt r_pc r_one_a r_one_b r_one_i r_one_s r_one_n r_one_is r_one_ce r_one_fp r_one_sl r_one_pt r_one_fn r_cs_a r_cs_b r_cs_i r_cs_s r_cs_n r_cs_is r_cs_ce r_cs_fp r_cs_sl r_cs_pt r_cs_fn r_tov r_tovA r_toc r_toa r_tb r_ti r_ts r_tn r_bd r_bd2 r_filn r_fp1 r_filc r_fsn r_fsc r_san r_sac r_bs2 r_bs1 r_newO r_mkq r_mkI r_mkOi r_mkOv r_tIn r_tIc r_repz r_repn r_ldp r_ldf r_l1t r_l1f r_lFt r_lFf r_aggO r_obj r_at r_ati' r_atv r_celli r_cellv r_subi r_subv r_sto r_sto1 r_sto2 r_sets r_setR r_setn r_setc r_s1i r_s1v r_bin1 r_bin2 r_tv1 r_cb r_ci r_cst r_cn r_csl r_cis r_cce r_uni r_unb r_cv r_cvO r_cvN r_cv0 r_cvS r_wB r_cvi r_cvs r_cvb r_cvl r_sO r_rdn r_rdi r_rdl r_rdO r_vsub r_vfn r_mk r_mk1 r_mk2 r_zoi r_zov r_leni r_lenv r_bn r_bndV r_bo r_sl0 r_sl1 r_vsz r_ct1 r_cts r_cti r_ctc r_ctn r_lnl r_lni r_lnc r_lnn r_fa r_fap r_faf r_fi1 r_fit r_fif r_ixi r_ixs r_ixc r_ixf r_ixF r_ixF2 r_ix1 r_ixsl r_ixin r_ixce r_len1 r_lenA r_lTs r_lTn r_lTl r_lTi r_lTc r_app0 r_app r_app1 r_app2 r_app3 r_catO r_cati r_catv r_newt r_newf r_pair r_pairK r_trip r_kis r_kiv r_srn r_srl r_sri r_src r_srs r_oln r_oll r_vw r_wi r_wv r_mm r_max r_min' r_str r_cF r_c2t r_c3f r_c3t r_ab r_c2f r_cV r_p1 r_la r_la2t r_la2f r_la3 r_sh r_z_is r_z_ce r_z_fp r_z_b r_z_i r_z_s r_z_n r_z_l r_z_p r_z_a4 r_z_a3 r_z_t4 r_zoI r_zoV r_roN r_roC r_roi r_rod r_zod r_rov r_aR r_trOi r_trOv r_trPv r_trl r_trp r_trf r_tra r_trb r_tri r_trs r_trn r_tris r_trce r_trfp r_vJ r_vJs r_vJn
attribute [local go_sem] b_add b_sub b_mul b_quo b_rem b_shl b_shr b_eql b_neq b_lss b_leq b_gtr b_geq eqB_s b_eqB b_neB u_neg u_not b_nn b_nn' eqS_s zerosT_s zerosT_n zt_i zt_sl zt_st dstOf_z dstOf_n iltT iltF ileT ileF ieqT ieqF nltT nltF nleT nleF neqT neqF tdiv_pos tmod_pos w64 idx0 List.take_of_length_le
open Num
/-- A number that can be made representable. -/
def XOk (x : DyT) : Prop := x.l = D x.n ∧ (D x.n).length < 60000 ∧ -1000000000 ≤ x.e ∧ x.e ≤ 1000000000
def xmk (x : DyT) : DyT := mkD x.neg x.n x.e
def xft (x : DyT) : Bool := dyFit (xmk x)
theorem XOk_ok {x : DyT} (h : dyOkB x = true) : XOk x ∧ xmk x = x ∧ xft x = true := by
  obtain ⟨e1, x1, x2, x3, x4⟩ := okD h
  refine ⟨⟨e1, by omega, by omega, by omega⟩, mkD_self h, ?_⟩
  unfold xft xmk; rw [mkD_self h]; exact okFit h
theorem mkall_ok : ∀ {ds : List DyT}, (∀ x ∈ ds, dyOkB x = true) → ds.map xmk = ds ∧ ds.all xft = true
  | [], _ => ⟨rfl, rfl⟩
  | x :: r, h => by
    obtain ⟨_, e1, f1⟩ := XOk_ok (h x List.mem_cons_self)
    obtain ⟨e2, f2⟩ := mkall_ok fun y hy => h y (List.mem_cons_of_mem _ hy)
    exact ⟨by rw [List.map_cons, e1, e2], by rw [List.all_cons, f1, f2]; rfl⟩
section
variable {ds : List DyT} {h g : VH} {i i' m lo hi : Nat} {p : Nat → Nat}
theorem cellsP_congr {p q : Nat → Nat} : ∀ (ds : List DyT) (k : Nat), (∀ j, k ≤ j → j < k + ds.length → p j = q j) → cellsP p k ds = cellsP q k ds
  | [], _, _ => rfl
  | x :: r, k, hh => by
    rw [cellsP, cellsP, hh k (Nat.le_refl _) (by simp), cellsP_congr r (k + 1) fun j h1 h2 => hh j (by omega) (by rw [List.length_cons]; omega)]
theorem HM.push {x : DyT} (a : HM 0 h.length h i p ds) (hk : ∀ (q : Nat) (o : VO), q ≠ i → h[q]? = some o → g[q]? = some o) (hm : g[m]? = some (.ints true .i64 x.l)) (hm2 : h.length ≤ m) (hc : g[i']? = some (.vals true (cellsP p 0 ds ++ [.bool x.neg, .sl m 0 x.l.length 1, .int .i64 x.e]))) :
    HM 0 g.length g i' (fun q => if q < ds.length then p q else m) (ds ++ [x]) := by
  have hp : ∀ j, j < ds.length → p j < h.length := fun j hj => (a.lp j hj).2
  refine ⟨?_, fun j y hy => ?_, fun j k hj hk' e => ?_, ⟨Nat.zero_le _, (List.getElem?_eq_some_iff.1 hc).1⟩, fun j hj => ⟨Nat.zero_le _, ?_⟩⟩
  · rw [hc, cellsP_app, cellsP_congr (p := fun q => if q < ds.length then p q else m) (q := p) ds 0 fun j _ h2 => by simp; intro h3; omega]
    simp [cellsP]
  · by_cases hj : j < ds.length
    · rw [if_pos hj]
      rw [List.getElem?_append_left hj] at hy
      exact hk _ _ (a.ne hj) (a.e j y hy)
    · have hj2 : j = ds.length := by have := (List.getElem?_eq_some_iff.1 hy).1; simp at this; omega
      subst hj2
      rw [if_neg (by omega)]
      rw [List.getElem?_append_right (Nat.le_refl _), Nat.sub_self] at hy
      simp only [List.getElem?_cons_zero, Option.some.injEq] at hy
      subst hy; exact hm
  · simp only [List.length_append, List.length_cons, List.length_nil] at hj hk'
    by_cases h1 : j < ds.length <;> by_cases h2 : k < ds.length
    · rw [if_pos h1, if_pos h2] at e; exact a.inj j k h1 h2 e
    · rw [if_pos h1, if_neg h2] at e; have := hp j h1; omega
    · rw [if_neg h1, if_pos h2] at e; have := hp k h2; omega
    · omega
  · by_cases h1 : j < ds.length
    · rw [if_pos h1]
      obtain ⟨o, ho⟩ : ∃ o, h[p j]? = some o := ⟨_, List.getElem?_eq_getElem (hp j h1)⟩
      exact (List.getElem?_eq_some_iff.1 (hk _ _ (a.ne h1) ho)).1
    · rw [if_neg h1]; exact (List.getElem?_eq_some_iff.1 hm).1
theorem HM.lo0 (a : HM lo hi h i p ds) : HM 0 hi h i p ds := ⟨a.c, a.e, a.inj, ⟨Nat.zero_le _, a.li.2⟩, fun j hj => ⟨Nat.zero_le _, (a.lp j hj).2⟩⟩
theorem set_all {o : VO} {i : Nat} (hh : h.all plO = true) (ho : plO o = true) : (h.set i o).all plO = true := by
  refine List.all_eq_true.2 fun x hx => ?_
  rcases List.mem_or_eq_of_mem_set hx with h1 | rfl
  · exact List.all_eq_true.1 hh x h1
  · exact ho
end
section
variable {ds : List DyT}
def xR (ds : List DyT) : List DyT := if ds.all xft then ds.map xmk else []
def dyE (ds : List DyT) (i j : Nat) : VE := [(4, some (.sl i 0 j 3)), (9, some (.cells 3 ds.length (flat DyT.v ds))), (10, some (.int .i64 ds.length)), (11, some (.int .i64 j))]
theorem dysOf_v (d : Nat) (hl : ds.length < 1000000) (hx : ∀ x ∈ ds, XOk x) : ∃ (o : VH) (i : Nat) (p : Nat → Nat), vrun Tryd.prog kn (d + 6) 86 [.cells 3 ds.length (flat DyT.v ds)] [] = some (.tup [.sl i 0 (xR ds).length 3, .bool (ds.all xft)], o) ∧ Own o i p (xR ds) := by
  unfold xR
  have key := vi_inv (n := kn.cf.rounds) (body := vCode Tryd.prog kn (vrun Tryd.prog kn (d + 5)) 86 (loopAt Tryd.f86 0))
    (fun j s => ∃ (h : VH) (i : Nat) (p : Nat → Nat), s = (dyE ds i j, h) ∧ HM 0 h.length h i p ((ds.take j).map xmk) ∧ h.all plO = true ∧ (ds.take j).all xft = true)
    (fun r => (∃ (h : VH) (i : Nat) (p : Nat → Nat), r = some (.exit 0, dyE ds i ds.length ++ [(12, some (.bool false))], h) ∧ HM 0 h.length h i p (ds.map xmk) ∧ h.all plO = true ∧ ds.all xft = true) ∨ (∃ (h : VH) (i : Nat) (p : Nat → Nat), r = some (.ret, [(2, some (.sl i 0 0 3)), (3, some (.bool false))], h) ∧ HM 0 h.length h i p [] ∧ h.all plO = true ∧ ds.all xft = false)) ds.length (by rw [k_cf, c_rounds]; omega)
    (fun j s hj hI => by
      obtain ⟨h, i, p, rfl, a, hpl, hfit⟩ := hI
      have hget : ds[j]? = some ds[j] := List.getElem?_eq_getElem hj
      have hmem : ds[j] ∈ ds := List.getElem_mem hj
      have hsub : ((flat DyT.v ds).drop (j * 3)).take 3 = [.bool ds[j].neg, .ints .i64 ds[j].l, .int .i64 ds[j].e] := flat_sub DyT.len ds j _ hget
      obtain ⟨e1, e2, e3, e4⟩ := hx _ hmem
      have h1 := fun d => dy_v (n := ds[j].neg) (a := ds[j].n) (e := ds[j].e) d e2 e3 e4
      rw [← e1] at h1
      have hA : ((ds.take j).map xmk).length = j := by simp; omega
      have hCl := cellsP_len p ((ds.take j).map xmk) 0
      rw [hA] at hCl
      have hc := a.c
      have hi := a.li.2
      have hci := fun t => gapM hc t
      have hfl := fitT_len (mkD ds[j].neg ds[j].n ds[j].e)
      have hset : ∀ X, (h.set i X).length = h.length := fun X => by simp
      cases hq : xft ds[j] with
      | true =>
        left
        have hfe : fitT (mkD ds[j].neg ds[j].n ds[j].e) = xmk ds[j] := by unfold fitT; exact if_pos hq
        have hdf : dyFit (mkD ds[j].neg ds[j].n ds[j].e) = true := hq
        rw [hfe, hdf] at h1
        rw [hfe] at hfl
        have hq' := hq
        clear hx hget hmem hq hfe hdf e1 e2 e3 e4
        have hR2 : (ds.take (j + 1)).map xmk = (ds.take j).map xmk ++ [xmk ds[j]] := by rw [List.take_add_one, List.getElem?_eq_getElem hj, List.map_append]; rfl
        have hF2 : (ds.take (j + 1)).all xft = true := by rw [List.take_add_one, List.getElem?_eq_getElem hj, List.all_append, hfit]; simp [hq']
        rw [hR2]
        generalize (ds.take j).map xmk = R at *
        generalize xmk ds[j] = y at *
        have hsl : (h.set i VO.dead).length = h.length := by simp
        refine ⟨(dyE ds (h.length + 4) (j + 1), h.set i .dead ++ [.vals true [.bool ds[j].neg, .ints .i64 ds[j].l, .int .i64 ds[j].e], .ints true .i64 y.l, .vals true [.bool y.neg, .sl (h.length + 1) 0 y.l.length 1, .int .i64 y.e], .vals true [.bool y.neg, .sl (h.length + 1) 0 y.l.length 1, .int .i64 y.e], .vals true (cellsP p 0 R ++ [.bool y.neg, .sl (h.length + 1) 0 y.l.length 1, .int .i64 y.e])]), ?_, _, _, fun q => if q < R.length then p q else h.length + 1, rfl, ?_, ?_, hF2⟩
        · clear hF2 hR2 a hpl hfit
          generalize cellsP p 0 R = C at *
          generalize ds[j] = x at *
          have ht : C.take (j * 3) = C := List.take_of_length_le (by omega)
          rw [round_v]; simp only [loopAt, nthC, bodyC, loops, List.nil_append, List.cons_append, List.append_nil, Tryd.f86, dyE]
          generalize flat DyT.v ds = F at *
          simp (implicitDefEqProofs := false) (disch := omega) [go_sem, tab86, nil86, hsub, h1, hc, hci, hCl, ht, nx0, nx1, nx2, nx3, ns0, ns1, ns2]
        · refine a.push (m := h.length + 1) (fun q o hq ho => gapM (by rw [List.getElem?_set_ne (Ne.symm hq)]; exact ho) _) ?_ (by omega) ?_
          · rw [← hsl]; exact nx1 _ _ _ _
          · rw [← hsl]; exact nx4 _ _ _ _ _ _ _
        · rw [List.all_append, set_all hpl rfl]
          simp [plO, plV, pl_cellsP]
      | false =>
        right; intro m; right
        have hdf : dyFit (mkD ds[j].neg ds[j].n ds[j].e) = false := hq
        have hfe : fitT (mkD ds[j].neg ds[j].n ds[j].e) = zT := by unfold fitT; rw [hdf]; rfl
        rw [hfe, hdf] at h1
        refine ⟨h ++ [.vals true [.bool ds[j].neg, .ints .i64 ds[j].l, .int .i64 ds[j].e], .ints true .i64 [], .vals true [.bool false, .sl (h.length + 1) 0 0 1, .int .i64 0], .vals true []], h.length + 3, fun _ => 0, vi_ret ?_, ?_, ?_, ?_⟩
        · clear a hpl hfit
          rw [round_v]; simp only [loopAt, nthC, bodyC, loops, List.nil_append, List.cons_append, List.append_nil, Tryd.f86, dyE]
          generalize flat DyT.v ds = F at *
          generalize ds[j] = x at *
          simp (implicitDefEqProofs := false) (disch := omega) [go_sem, tab86, nil86, hsub, h1, hc, hci, nx0, nx1, nx2, nx3, ns0, ns1, ns2, zT]
        · exact ⟨nx3 _ _ _ _ _ _, fun j x h => by simp at h, fun j k hj => by simp at hj, ⟨Nat.zero_le _, by simp⟩, fun j hj => by simp at hj⟩
        · rw [List.all_append, hpl]; simp [plO, plV]
        · cases hz : ds.all xft with
          | false => rfl
          | true => rw [List.all_eq_true.1 hz _ hmem] at hq; cases hq)
    (fun s hI m => by
      obtain ⟨h, i, p, rfl, a, hpl, hfit⟩ := hI
      rw [List.take_length] at a hfit
      left
      refine ⟨h, i, p, vi_exit ?_, a, hpl, hfit⟩
      clear a
      rw [round_v]; simp only [loopAt, nthC, bodyC, loops, List.nil_append, List.cons_append, List.append_nil, Tryd.f86, dyE]
      simp (implicitDefEqProofs := false) (disch := omega) [go_sem, tab86, nil86])
    (dyE ds 0 0, [.vals true []]) ⟨[.vals true []], 0, fun _ => 0, rfl, ⟨rfl, fun j x h => by simp at h, fun j k hj => by simp at hj, by simp, fun j hj => by simp at hj⟩, rfl, rfl⟩
  rcases key with ⟨h, i, p, hv, a, hpl, hf⟩ | ⟨h, i, p, hv, a, hpl, hf⟩
  all_goals
    have hl0 := fun ks => loop_v (P := Tryd.prog) (K := kn) (ks := ks) hv
    simp only [loopAt, nthC, bodyC, loops, List.nil_append, List.cons_append, List.append_nil, Tryd.f86, dyE, Int.natCast_zero, List.cons_append, List.nil_append] at hl0
    rw [hf]
    refine ⟨h, i, p, ?_, ⟨a, hpl⟩⟩
    clear a hpl hv hf hx
    generalize flat DyT.v ds = F at *
    simp only [if_true, Bool.false_eq_true, if_false, List.length_map, List.length_nil]
    rw [vrun_v Tryd.func86 rfl rfl rfl]; simp only [Tryd.f86]
    simp (implicitDefEqProofs := false) (disch := omega) [go_sem, tab86, nil86, hl0]
theorem xR_len : (xR ds).length ≤ ds.length := by unfold xR; split <;> simp
theorem dysOf_c (d : Nat) (h : VH) (hl : ds.length < 1000000) (hx : ∀ x ∈ ds, XOk x) : ∃ (L : VH) (i : Nat) (p : Nat → Nat), vcallF kn (vrun Tryd.prog kn (d + 6)) h 86 (some [.cells 3 ds.length (flat DyT.v ds)]) = some (.tup [.sl i 0 (xR ds).length 3, .bool (ds.all xft)], h ++ L) ∧ HM h.length (h ++ L).length (h ++ L) i p (xR ds) ∧ L.all plO = true := by
  obtain ⟨o, i, p, h1, w⟩ := dysOf_v d hl hx
  refine ⟨o.map (shO h.length), h.length + i, fun j => h.length + p j, ?_, w.land h, ?_⟩
  · refine callF_land (fa := [.cells 3 ds.length (flat DyT.v ds)]) (r := .tup [.sl i 0 (xR ds).length 3, .bool (ds.all xft)]) c_pure86 rfl (by simp [go_sem]) ?_ (by simp [go_sem]) w.pl (by simp [go_sem])
    clear w
    generalize xR ds = R at *
    generalize ds.all xft = f at *
    simpa [go_sem] using h1
  · refine List.all_eq_true.2 fun x hx => ?_
    obtain ⟨y, hy, rfl⟩ := List.mem_map.1 hx
    have := List.all_eq_true.1 w.pl y hy
    cases y with
    | ints w k l => rfl
    | dead => rfl
    | vals w l =>
      simp only [plO, shO] at this ⊢
      rw [List.all_eq_true] at this ⊢
      intro v hv
      obtain ⟨u, hu, rfl⟩ := List.mem_map.1 hv
      have := this u hu
      cases u <;> simp_all [plV, shV]
def xNm (N : Int) (ds : List DyT) : Int := if ds.all xft then N else 0
end
end
section
open Go.Proofs
set_option maxRecDepth 100000
set_option linter.unusedSimpArgs false
attribute [local go_sem] r_seq r_skip r_retC r_exitC r_label r_block r_region r_regionW r_xWt r_xW r_cond r_Bt r_Bf r_Ncode r_Nret r_Nexit r_Nblk r_Nblkr r_Nblke r_Nnil r_Es r_Onil r_Oop r_Oif r_Xs r_Gt r_Gf r_wtt r_wtf r_wft r_wff r_wu r_gO r_putS r_putN r_get r_keepN r_keepC r_fr r_fn r_fi r_ff r_fo r_l1 r_l2t r_cun r_cul r_cub r_cui r_cus r_cuis r_cuc r_cusl r_cuti r_cutv r_ven r_vec r_l2f r_l3 r_t1 r_t2 r_t0 r_rt r_rc r_en r_ec r_cM r_oN r_oC r_end r_endt r_endf r_nob0 r_nobN r_nobC r_nobE r_nb0 r_nbi r_nbs r_nbsl r_nbin r_nbce r_nLn r_nLv r_nLc r_nAa r_nAn r_nAk_b r_nAk_i r_nAk_s r_nAk_n r_nAk_is r_nAk_ce r_nAk_fp r_nAk_sl r_nAk_pt r_nAk_fn r_nsn r_nsv r_nsc r_m0 r_mi r_ms r_msl r_min r_mce r_mLn r_mLv r_mLc r_mAa r_mAn r_mAk_b r_mAk_i r_mAk_s r_mAk_n r_mAk_is r_mAk_ce r_mAk_fp r_mAk_sl r_mAk_pt r_mAk_fn r_msn r_msv r_msc r_atb r_ati r_ats r_atn r_atis r_atc r_atf r_atl r_atp r_atfn r_gcn r_gcc r_gLn r_gLc r_gIt r_ndn r_ndc r_gcB r_gLB r_two r_rea r_rea0 r_re1n r_re1c r_ori r_orv r_ord r_orn r_adn r_adc r_ad1 r_ern r_ers r_er0 r_rsl r_rptr r_rb r_ri r_rs r_rn r_ris r_rce r_rfp r_ra4 r_ra3 r_rt4 r_rf4 r_rf3 r_idS r_idc r_nS r_nP r_nF r_nT r_vsl r_vptr r_vb r_vi r_vs r_vn r_vis r_vce r_vfp r_va4 r_va3 r_vt4 r_vf4 r_vf3 r_rV r_Oi r_Ov r_Od r_rE r_rE0 r_En r_Ec r_E0 r_pO r_pk r_agL r_cO r_fO r_fSi r_fSv r_fPv r_fsl r_fptr r_ffn r_fag r_fb r_fint r_fstr r_fnil r_fis r_fce r_ffp r_res r_move r_assign r_pick r_pickt r_pickf r_alloc r_box r_al r_build r_bslice r_load r_store r_nlc r_nl1 r_nl2 r_bin r_un r_conv r_mkf r_mks r_slc r_fad r_fld r_iad r_idx r_ext r_ex1 r_callf r_callt r_callen r_calapp r_calmax r_calmin r_vt r_vcb r_vci r_vcs r_vcnp r_vcn r_vca r_vcf r_vcg r_ofb r_ofi r_ofs r_ofn r_evs r_pn r_prt r_pc r_one_a r_one_b r_one_i r_one_s r_one_n r_one_is r_one_ce r_one_fp r_one_sl r_one_pt r_one_fn r_cs_a r_cs_b r_cs_i r_cs_s r_cs_n r_cs_is r_cs_ce r_cs_fp r_cs_sl r_cs_pt r_cs_fn r_tov r_tovA r_toc r_toa r_tb r_ti r_ts r_tn r_bd r_bd2 r_filn r_fp1 r_filc r_fsn r_fsc r_san r_sac r_bs2 r_bs1 r_newO r_mkq r_mkI r_mkOi r_mkOv r_tIn r_tIc r_repz r_repn r_ldp r_ldf r_l1t r_l1f r_lFt r_lFf r_aggO r_obj r_at r_ati' r_atv r_celli r_cellv r_subi r_subv r_sto r_sto1 r_sto2 r_sets r_setR r_setn r_setc r_s1i r_s1v r_bin1 r_bin2 r_tv1 r_cb r_ci r_cst r_cn r_csl r_cis r_cce r_uni r_unb r_cv r_cvO r_cvN r_cv0 r_cvS r_wB r_cvi r_cvs r_cvb r_cvl r_sO r_rdn r_rdi r_rdl r_rdO r_vsub r_vfn r_mk r_mk1 r_mk2 r_zoi r_zov r_leni r_lenv r_bn r_bndV r_bo r_sl0 r_sl1 r_vsz r_ct1 r_cts r_cti r_ctc r_ctn r_lnl r_lni r_lnc r_lnn r_fa r_fap r_faf r_fi1 r_fit r_fif r_ixi r_ixs r_ixc r_ixf r_ixF r_ixF2 r_ix1 r_ixsl r_ixin r_ixce r_len1 r_lenA r_lTs r_lTn r_lTl r_lTi r_lTc r_app0 r_app r_app1 r_app2 r_app3 r_catO r_cati r_catv r_newt r_newf r_pair r_pairK r_trip r_kis r_kiv r_srn r_srl r_sri r_src r_srs r_oln r_oll r_vw r_wi r_wv r_mm r_max r_min' r_str r_c2t r_c3f r_c3t r_ab r_c2f r_cV r_p1 r_la r_la2t r_la2f r_la3 r_sh r_z_is r_z_ce r_z_fp r_z_b r_z_i r_z_s r_z_n r_z_l r_z_p r_z_a4 r_z_a3 r_z_t4 r_zoI r_zoV r_roN r_roC r_roi r_rod r_zod r_rov r_aR r_trOi r_trOv r_trPv r_trl r_trp r_trf r_tra r_trb r_tri r_trs r_trn r_tris r_trce r_trfp r_vJ r_vJs r_vJn
attribute [local go_sem] b_add b_sub b_mul b_quo b_rem b_shl b_shr b_eql b_neq b_lss b_leq b_gtr b_geq eqB_s b_eqB b_neB u_neg u_not b_nn b_nn' eqS_s zerosT_s zerosT_n zt_i zt_sl zt_st dstOf_z dstOf_n iltT iltF ileT ileF ieqT ieqF nltT nltF nleT nleF neqT neqF tdiv_pos tmod_pos w64 idx0 List.take_of_length_le
open Num
section
variable {ds : List DyT}
/-- A grid as a matrix. -/
theorem mat_v (d : Nat) {N : Int} (hl : ds.length < 1000000) (hx : ∀ x ∈ ds, XOk x) : ∃ (o : VH) (i : Nat) (p : Nat → Nat), vrun Tryd.prog kn (d + 7) 50 [.agg [.int .i64 N, .cells 3 ds.length (flat DyT.v ds)]] [] = some (.tup [.agg [.int .i64 (xNm N ds), .sl i 0 (xR ds).length 3], .bool (ds.all xft)], o) ∧ Own o i p (xR ds) := by
  obtain ⟨L, i, p, h1, a, hpl⟩ := dysOf_c (d + 0) [.vals true [.int .i64 N, .cells 3 ds.length (flat DyT.v ds)], .vals true [.int .i64 0, .nil]] hl hx
  simp only [List.cons_append, List.nil_append, List.length_cons, List.length_nil, Nat.zero_add] at h1 a
  cases hf : ds.all xft with
  | true =>
    have e : xNm N ds = N := by unfold xNm; rw [hf]; rfl
    rw [e]
    rw [hf] at h1
    have eR : (xR ds).length = ds.length := by unfold xR; rw [hf]; simp
    refine ⟨.vals true [.int .i64 N, .cells 3 ds.length (flat DyT.v ds)] :: .vals true [.int .i64 N, .sl i 0 (xR ds).length 3] :: L, i, p, ?_, ⟨?_, ?_⟩⟩
    · clear a hpl hx hf
      generalize xR ds = R at *
      generalize flat DyT.v ds = F at *
      rw [vrun_v Tryd.func50 rfl rfl rfl]; simp only [Tryd.f50]
      simp (implicitDefEqProofs := false) (disch := omega) [go_sem, tab50, h1]
    · refine (a.frame (h' := .vals true [.int .i64 N, .cells 3 ds.length (flat DyT.v ds)] :: .vals true [.int .i64 N, .sl i 0 (xR ds).length 3] :: L) fun q h1 h2 => ?_).lo0
      obtain ⟨q, rfl⟩ : ∃ k, q = k + 2 := ⟨q - 2, by omega⟩
      rfl
    · simp [plO, plV, hpl]
  | false =>
    have e : xNm N ds = 0 := by unfold xNm; rw [hf]; rfl
    have eR : xR ds = [] := by unfold xR; rw [hf]; rfl
    rw [e, eR]
    rw [hf, eR] at h1
    refine ⟨.vals true [.int .i64 N, .cells 3 ds.length (flat DyT.v ds)] :: .vals true [.int .i64 0, .nil] :: (L ++ [.vals true []]), L.length + 2, fun _ => 0, ?_, ⟨⟨?_, fun j x h => by simp at h, fun j k hj => by simp at hj, ⟨Nat.zero_le _, by simp⟩, fun j hj => by simp at hj⟩, ?_⟩⟩
    · clear a hpl hx hf
      generalize flat DyT.v ds = F at *
      rw [vrun_v Tryd.func50 rfl rfl rfl]; simp only [Tryd.f50]
      simp (implicitDefEqProofs := false) (disch := omega) [go_sem, tab50, h1]
    · simp [cellsP]
    · simp [plO, plV, hpl]
end
end
/- Grids that are told number by number, program. No conditions. -/
section
open Go.Proofs
set_option maxRecDepth 100000
set_option linter.unusedSimpArgs false
attribute [local go_sem] r_seq r_skip r_retC r_exitC r_label r_block r_region r_regionW r_xWt r_xW r_cond r_Bt r_Bf r_Ncode r_Nret r_Nexit r_Nblk r_Nblkr r_Nblke r_Nnil r_Es r_Onil r_Oop r_Oif r_Xs r_Gt r_Gf r_wtt r_wtf r_wft r_wff r_wu r_gO r_putS r_putN r_get r_keepN r_keepC r_fr r_fn r_fi r_ff r_fo r_l1 r_l2t r_cun r_cul r_cub r_cui r_cus r_cuis r_cuc r_cusl r_cuti r_cutv r_ven r_vec r_l2f r_l3 r_t1 r_t2 r_t0 r_rt r_rc r_en r_ec r_cM r_oN r_oC r_end r_endt r_endf r_nob0 r_nobN r_nobC r_nobE r_nb0 r_nbi r_nbs r_nbsl r_nbin r_nbce r_nLn r_nLv r_nLc r_nAa r_nAn r_nAk_b r_nAk_i r_nAk_s r_nAk_n r_nAk_is r_nAk_ce r_nAk_fp r_nAk_sl r_nAk_pt r_nAk_fn r_nsn r_nsv r_nsc r_m0 r_mi r_ms r_msl r_min r_mce r_mLn r_mLv r_mLc r_mAa r_mAn r_mAk_b r_mAk_i r_mAk_s r_mAk_n r_mAk_is r_mAk_ce r_mAk_fp r_mAk_sl r_mAk_pt r_mAk_fn r_msn r_msv r_msc r_atb r_ati r_ats r_atn r_atis r_atc r_atf r_atl r_atp r_atfn r_gcn r_gcc r_gLn r_gLc r_gIt r_ndn r_ndc r_gcB r_gLB r_two r_rea r_rea0 r_re1n r_re1c r_ori r_orv r_ord r_orn r_adn r_adc r_ad1 r_ern r_ers r_er0 r_rsl r_rptr r_rb r_ri r_rs r_rn r_ris r_rce r_rfp r_ra4 r_ra3 r_rt4 r_rf4 r_rf3 r_idS r_idc r_nS r_nP r_nF r_nT r_vsl r_vptr r_vb r_vi r_vs r_vn r_vis r_vce r_vfp r_va4 r_va3 r_vt4 r_vf4 r_vf3 r_rV r_Oi r_Ov r_Od r_rE r_rE0 r_En r_Ec r_E0 r_pO r_pk r_agL r_cO r_fO r_fSi r_fSv r_fPv r_fsl r_fptr r_ffn r_fag r_fb r_fint r_fstr r_fnil r_fis r_fce r_ffp r_res r_move r_assign r_pick r_pickt r_pickf r_alloc r_box r_al r_build r_bslice r_load r_store r_nlc r_nl1 r_nl2 r_bin r_un r_conv r_mkf r_mks r_slc r_fad r_fld r_iad r_idx r_ext r_ex1 r_callf r_callt r_callen r_calapp r_calmax r_calmin r_vt r_vcb r_vci r_vcs r_vcnp r_vcn r_vca r_vcf r_vcg r_ofb r_ofi r_ofs r_ofn r_evs r_pn r_prt r_pc r_one_a r_one_b r_one_i r_one_s r_one_n r_one_is r_one_ce r_one_fp r_one_sl r_one_pt r_one_fn r_cs_a r_cs_b r_cs_i r_cs_s r_cs_n r_cs_is r_cs_ce r_cs_fp r_cs_sl r_cs_pt r_cs_fn r_tov r_tovA r_toc r_toa r_tb r_ti r_ts r_tn r_bd r_bd2 r_filn r_fp1 r_filc r_fsn r_fsc r_san r_sac r_bs2 r_bs1 r_newO r_mkq r_mkI r_mkOi r_mkOv r_tIn r_tIc r_repz r_repn r_ldp r_ldf r_l1t r_l1f r_lFt r_lFf r_aggO r_obj r_at r_ati' r_atv r_celli r_cellv r_subi r_subv r_sto r_sto1 r_sto2 r_sets r_setR r_setn r_setc r_s1i r_s1v r_bin1 r_bin2 r_tv1 r_cb r_ci r_cst r_cn r_csl r_cis r_cce r_uni r_unb r_cv r_cvO r_cvN r_cv0 r_cvS r_wB r_cvi r_cvs r_cvb r_cvl r_sO r_rdn r_rdi r_rdl r_rdO r_vsub r_vfn r_mk r_mk1 r_mk2 r_zoi r_zov r_leni r_lenv r_bn r_bndV r_bo r_sl0 r_sl1 r_vsz r_ct1 r_cts r_cti r_ctc r_ctn r_lnl r_lni r_lnc r_lnn r_fa r_fap r_faf r_fi1 r_fit r_fif r_ixi r_ixs r_ixc r_ixf r_ixF r_ixF2 r_ix1 r_ixsl r_ixin r_ixce r_len1 r_lenA r_lTs r_lTn r_lTl r_lTi r_lTc r_app0 r_app r_app1 r_app2 r_app3 r_catO r_cati r_catv r_newt r_newf r_pair r_pairK r_trip r_kis r_kiv r_srn r_srl r_sri r_src r_srs r_oln r_oll r_vw r_wi r_wv r_mm r_max r_min' r_str r_cF r_c2t r_c3f r_c3t r_ab r_c2f r_cV r_p1 r_la r_la2t r_la2f r_la3 r_sh r_z_is r_z_ce r_z_fp r_z_b r_z_i r_z_s r_z_n r_z_l r_z_p r_z_a4 r_z_a3 r_z_t4 r_zoI r_zoV r_roN r_roC r_roi r_rod r_zod r_rov r_aR r_trOi r_trOv r_trPv r_trl r_trp r_trf r_tra r_trb r_tri r_trs r_trn r_tris r_trce r_trfp r_vJ r_vJs r_vJn
attribute [local go_sem] b_add b_sub b_mul b_quo b_rem b_shl b_shr b_eql b_neq b_lss b_leq b_gtr b_geq eqB_s b_eqB b_neB u_neg u_not b_nn b_nn' eqS_s zerosT_s zerosT_n zt_i zt_sl zt_st dstOf_z dstOf_n iltT iltF ileT ileF ieqT ieqF nltT nltF nleT nleF neqT neqF tdiv_pos tmod_pos w64 idx0 List.take_of_length_le
open Num
/-- What a function holds is told in itself. -/
structure CapsOk (caps : List V) : Prop where
  fz : ∀ h, omap (vfrz h 6) caps = some caps
  tr : ∀ h, caps.flatMap (vtrc h 6) = []
  rf : ∀ n, caps.flatMap (vrefs n) = []
  rn : ∀ ρ n, omap (vren ρ n) caps = some caps
theorem caps0 : CapsOk [] := ⟨fun _ => rfl, fun _ => rfl, fun _ => rfl, fun _ _ => rfl⟩
theorem caps1 (a : List V) : CapsOk [.fptr a] := ⟨fun _ => by simp [go_sem], fun _ => by simp [go_sem], fun _ => by simp [go_sem], fun _ _ => by simp [go_sem]⟩
theorem caps2 (a b : List V) : CapsOk [.fptr a, .fptr b] := ⟨fun _ => by simp [go_sem], fun _ => by simp [go_sem], fun _ => by simp [go_sem], fun _ _ => by simp [go_sem]⟩
section
variable {G : List DyT} {n g : Nat} {caps : List V}
def fgO (G : List DyT) (n g : Nat) (caps : List V) (i : Nat) : VE × VH := ([(0, some (.int .i64 n)), (1, some (.fn (.func g) [] caps)), (4, some (.ptr 0 0)), (5, some (.ptr 1 0)), (10, some (.int .i64 n)), (11, some (.int .i64 i))], grH n G (i * n))
def fgI (G : List DyT) (n g : Nat) (caps : List V) (i j : Nat) : VE × VH := ([(0, some (.int .i64 n)), (1, some (.fn (.func g) [] caps)), (4, some (.ptr 0 0)), (5, some (.ptr 1 0)), (6, some (.int .i64 i)), (10, some (.int .i64 n)), (11, some (.int .i64 i)), (14, some (.int .i64 n)), (15, some (.int .i64 j))], grH n G (i * n + j))
theorem go_r {d : Nat} (hg : kn.cf.pure g = true) (hg2 : kn.ali g = false) (hc : CapsOk caps) (hn : n ≤ 4) {i j : Nat} (hi : i < n) (hj : j < n) {x : DyT} (hx : G[i * n + j]? = some x) (hp : vrun Tryd.prog kn d g (vnrmAs (kn.args g) (.int .i64 i :: .int .i64 j :: caps)) [] = some (.agg x.v, [])) :
    vCode Tryd.prog kn (vrun Tryd.prog kn d) 55 (loopAt Tryd.f55 1) (fgI G n g caps i j).1 (fgI G n g caps i j).2 = some (.norm, fgI G n g caps i (j + 1)) := by
  rw [k_cf] at hg
  have hsn := flat_snoc hx
  have hlt := (List.getElem?_eq_some_iff.1 hx).1
  have hln := flat_len3 (G.take (i * n + j))
  rw [List.length_take, Nat.min_eq_left (by omega)] at hln
  have hG1 := fun m => fl_refs m (G.take (i * n + j))
  have hG2 := fun ρ m => fl_ren ρ m (G.take (i * n + j))
  have hA1 := fun m => fl_refs m (G.take (i * n + j + 1))
  have hA2 := fun ρ m => fl_ren ρ m (G.take (i * n + j + 1))
  rw [hsn] at hA1 hA2
  have z1 := hc.fz
  have z2 := hc.tr
  have z3 := hc.rf
  have z4 := hc.rn
  unfold DyT.v at hp
  have hq : i * n ≤ 16 := Nat.le_trans (Nat.mul_le_mul (show i ≤ 4 by omega) hn) (by omega)
  have hq2 : i * n + j ≤ 20 := by omega
  rw [round_v]; simp only [loopAt, nthC, bodyC, loops, List.nil_append, List.cons_append, List.append_nil, Tryd.f55, fgI, grH]
  rw [if_neg (show ¬ i * n + (j + 1) = 0 by omega), show i * n + (j + 1) = i * n + j + 1 by omega, hsn]
  generalize i * n + j = q at *
  by_cases h0 : q = 0
  · subst h0
    simp only [List.take_zero, flat, List.nil_append]
    clear hx hlt hln hG1 hG2 hA1 hA2 hsn
    simp (implicitDefEqProofs := false) (disch := omega) [go_sem, tab55, hp, hg, hg2, z1, z2, z3, z4]
  · rw [if_neg h0]
    clear hx hlt hsn
    generalize flat DyT.v (G.take q) = F at *
    have ht : F.take (q * 3) = F := List.take_of_length_le (by omega)
    simp (implicitDefEqProofs := false) (disch := omega) [go_sem, tab55, hp, hg, hg2, z1, z2, z3, z4, hln, ht, hG1, hG2, hA1, hA2]
theorem go_x {call : CallV} (hc : CapsOk caps) (hn : n ≤ 4) {i : Nat} (hi : i < n) (hG : G.length = n * n) : vCode Tryd.prog kn call 55 (loopAt Tryd.f55 1) (fgI G n g caps i n).1 (fgI G n g caps i n).2 = some (.exit 2, (fgI G n g caps i n).1 ++ [(16, some (.bool false))], (fgI G n g caps i n).2) := by
  have hle : i * n + n ≤ n * n := by rw [← Nat.succ_mul]; exact Nat.mul_le_mul_right _ (by omega)
  have hq2 : i * n + n ≤ 16 := Nat.le_trans hle (Nat.mul_le_mul hn hn)
  have hln := flat_len3 (G.take (i * n + n))
  rw [List.length_take, Nat.min_eq_left (by omega)] at hln
  have hG1 := fun m => fl_refs m (G.take (i * n + n))
  have hG2 := fun ρ m => fl_ren ρ m (G.take (i * n + n))
  have z3 := hc.rf
  have z4 := hc.rn
  have hnn : n * n ≤ 16 := Nat.mul_le_mul hn hn
  rw [round_v]; simp only [loopAt, nthC, bodyC, loops, List.nil_append, List.cons_append, List.append_nil, Tryd.f55, fgI, grH]
  rw [if_neg (show ¬ i * n + n = 0 by omega)]
  generalize flat DyT.v (G.take (i * n + n)) = F at *
  generalize i * n + n = q at *
  have ht : F.take (q * 3) = F := List.take_of_length_le (by omega)
  simp (implicitDefEqProofs := false) (disch := omega) [go_sem, tab55, z3, z4, hln, ht, hG1, hG2]
theorem go_o {d : Nat} (hg : kn.cf.pure g = true) (hg2 : kn.ali g = false) (hc : CapsOk caps) (hn : n ≤ 4) (hG : G.length = n * n) {i : Nat} (hi : i < n) (hp : ∀ j x, j < n → G[i * n + j]? = some x → vrun Tryd.prog kn d g (vnrmAs (kn.args g) (.int .i64 i :: .int .i64 j :: caps)) [] = some (.agg x.v, [])) :
    vCode Tryd.prog kn (vrun Tryd.prog kn d) 55 (loopAt Tryd.f55 0) (fgO G n g caps i).1 (fgO G n g caps i).2 = some (.norm, fgO G n g caps (i + 1)) := by
  have hle : i * n + n ≤ n * n := by rw [← Nat.succ_mul]; exact Nat.mul_le_mul_right _ (by omega)
  have hq2 : i * n + n ≤ 16 := Nat.le_trans hle (Nat.mul_le_mul hn hn)
  have hnn : n * n ≤ 16 := Nat.mul_le_mul hn hn
  have hl0 := fun ks => loop_v (P := Tryd.prog) (K := kn) (ks := ks) (vi_for (fgI G n g caps i) n (n := kn.cf.rounds) (by rw [k_cf, c_rounds]; omega) (fun j hj => go_r hg hg2 hc hn hi hj (List.getElem?_eq_getElem (by omega)) (hp j _ hj (List.getElem?_eq_getElem (by omega)))) fun m => vi_exit (go_x hc hn hi hG))
  simp only [loopAt, nthC, bodyC, loops, List.nil_append, List.cons_append, List.append_nil, Tryd.f55, fgI, Int.natCast_zero, Nat.add_zero, List.cons_append, List.nil_append] at hl0
  have hln := flat_len3 (G.take (i * n))
  rw [List.length_take, Nat.min_eq_left (by omega)] at hln
  have hG1 := fun m => fl_refs m (G.take (i * n))
  have hG2 := fun ρ m => fl_ren ρ m (G.take (i * n))
  have hln' := flat_len3 (G.take (i * n + n))
  rw [List.length_take, Nat.min_eq_left (by omega)] at hln'
  have hG1' := fun m => fl_refs m (G.take (i * n + n))
  have hG2' := fun ρ m => fl_ren ρ m (G.take (i * n + n))
  have z3 := hc.rf
  have z4 := hc.rn
  rw [round_v]; simp only [loopAt, nthC, bodyC, loops, List.nil_append, List.cons_append, List.append_nil, Tryd.f55, fgO]
  rw [show (i + 1) * n = i * n + n by rw [Nat.succ_mul]]
  unfold grH at hl0 ⊢
  rw [if_neg (show ¬ i * n + n = 0 by omega)] at hl0 ⊢
  generalize flat DyT.v (G.take (i * n)) = F at *
  generalize flat DyT.v (G.take (i * n + n)) = F' at *
  generalize i * n + n = q' at *
  generalize i * n = q at *
  have ht : F.take (q * 3) = F := List.take_of_length_le (by omega)
  have ht' : F'.take (q' * 3) = F' := List.take_of_length_le (by omega)
  by_cases h0 : q = 0
  · subst h0
    simp only [if_true] at hl0 ⊢
    simp (implicitDefEqProofs := false) (disch := omega) [go_sem, tab55, hl0, z3, z4, hln', ht', hG1', hG2']
  · rw [if_neg h0] at hl0 ⊢
    simp (implicitDefEqProofs := false) (disch := omega) [go_sem, tab55, hl0, z3, z4, hln, ht, hG1, hG2, hln', ht', hG1', hG2']
end
end
/- The transpose, program; a matrix as a call's own result. No conditions. -/
section
open Go.Proofs
set_option maxRecDepth 100000
set_option linter.unusedSimpArgs false
attribute [local go_sem] r_seq r_skip r_retC r_exitC r_label r_block r_region r_regionW r_xWt r_xW r_cond r_Bt r_Bf r_Ncode r_Nret r_Nexit r_Nblk r_Nblkr r_Nblke r_Nnil r_Es r_Onil r_Oop r_Oif r_Xs r_Gt r_Gf r_wtt r_wtf r_wft r_wff r_wu r_gO r_putS r_putN r_get r_keepN r_keepC r_fr r_fn r_fi r_ff r_fo r_l1 r_l2t r_cun r_cul r_cub r_cui r_cus r_cuis r_cuc r_cusl r_cuti r_cutv r_ven r_vec r_l2f r_l3 r_t1 r_t2 r_t0 r_rt r_rc r_en r_ec r_cM r_oN r_oC r_end r_endt r_endf r_nob0 r_nobN r_nobC r_nobE r_nb0 r_nbi r_nbs r_nbsl r_nbin r_nbce r_nLn r_nLv r_nLc r_nAa r_nAn r_nAk_b r_nAk_i r_nAk_s r_nAk_n r_nAk_is r_nAk_ce r_nAk_fp r_nAk_sl r_nAk_pt r_nAk_fn r_nsn r_nsv r_nsc r_m0 r_mi r_ms r_msl r_min r_mce r_mLn r_mLv r_mLc r_mAa r_mAn r_mAk_b r_mAk_i r_mAk_s r_mAk_n r_mAk_is r_mAk_ce r_mAk_fp r_mAk_sl r_mAk_pt r_mAk_fn r_msn r_msv r_msc r_atb r_ati r_ats r_atn r_atis r_atc r_atf r_atl r_atp r_atfn r_gcn r_gcc r_gLn r_gLc r_gIt r_ndn r_ndc r_gcB r_gLB r_two r_rea r_rea0 r_re1n r_re1c r_ori r_orv r_ord r_orn r_adn r_adc r_ad1 r_ern r_ers r_er0 r_rsl r_rptr r_rb r_ri r_rs r_rn r_ris r_rce r_rfp r_ra4 r_ra3 r_rt4 r_rf4 r_rf3 r_idS r_idc r_nS r_nP r_nF r_nT r_vsl r_vptr r_vb r_vi r_vs r_vn r_vis r_vce r_vfp r_va4 r_va3 r_vt4 r_vf4 r_vf3 r_rV r_Oi r_Ov r_Od r_rE r_rE0 r_En r_Ec r_E0 r_pO r_pk r_agL r_cO r_fO r_fSi r_fSv r_fPv r_fsl r_fptr r_ffn r_fag r_fb r_fint r_fstr r_fnil r_fis r_fce r_ffp r_res r_move r_assign r_pick r_pickt r_pickf r_alloc r_box r_al r_build r_bslice r_load r_store r_nlc r_nl1 r_nl2 r_bin r_un r_conv r_mkf r_mks r_slc r_fad r_fld r_iad r_idx r_ext r_ex1 r_callf r_callt r_callen r_calapp r_calmax r_calmin r_vt r_vcb r_vci r_vcs r_vcnp r_vcn r_vca r_vcf r_vcg r_ofb r_ofi r_ofs r_ofn r_evs r_pn r_prt r_pc r_one_a r_one_b r_one_i r_one_s r_one_n r_one_is r_one_ce r_one_fp r_one_sl r_one_pt r_one_fn r_cs_a r_cs_b r_cs_i r_cs_s r_cs_n r_cs_is r_cs_ce r_cs_fp r_cs_sl r_cs_pt r_cs_fn r_tov r_tovA r_toc r_toa r_tb r_ti r_ts r_tn r_bd r_bd2 r_filn r_fp1 r_filc r_fsn r_fsc r_san r_sac r_bs2 r_bs1 r_newO r_mkq r_mkI r_mkOi r_mkOv r_tIn r_tIc r_repz r_repn r_ldp r_ldf r_l1t r_l1f r_lFt r_lFf r_aggO r_obj r_at r_ati' r_atv r_celli r_cellv r_subi r_subv r_sto r_sto1 r_sto2 r_sets r_setR r_setn r_setc r_s1i r_s1v r_bin1 r_bin2 r_tv1 r_cb r_ci r_cst r_cn r_csl r_cis r_cce r_uni r_unb r_cv r_cvO r_cvN r_cv0 r_cvS r_wB r_cvi r_cvs r_cvb r_cvl r_sO r_rdn r_rdi r_rdl r_rdO r_vsub r_vfn r_mk r_mk1 r_mk2 r_zoi r_zov r_leni r_lenv r_bn r_bndV r_bo r_sl0 r_sl1 r_vsz r_ct1 r_cts r_cti r_ctc r_ctn r_lnl r_lni r_lnc r_lnn r_fa r_fap r_faf r_fi1 r_fit r_fif r_ixi r_ixs r_ixc r_ixf r_ixF r_ixF2 r_ix1 r_ixsl r_ixin r_ixce r_len1 r_lenA r_lTs r_lTn r_lTl r_lTi r_lTc r_app0 r_app r_app1 r_app2 r_app3 r_catO r_cati r_catv r_newt r_newf r_pair r_pairK r_trip r_kis r_kiv r_srn r_srl r_sri r_src r_srs r_oln r_oll r_vw r_wi r_wv r_mm r_max r_min' r_str r_cF r_c2t r_c3f r_c3t r_ab r_c2f r_cV r_p1 r_la r_la2t r_la2f r_la3 r_sh r_z_is r_z_ce r_z_fp r_z_b r_z_i r_z_s r_z_n r_z_l r_z_p r_z_a4 r_z_a3 r_z_t4 r_zoI r_zoV r_roN r_roC r_roi r_rod r_zod r_rov r_aR r_trOi r_trOv r_trPv r_trl r_trp r_trf r_tra r_trb r_tri r_trs r_trn r_tris r_trce r_trfp r_vJ r_vJs r_vJn
attribute [local go_sem] b_add b_sub b_mul b_quo b_rem b_shl b_shr b_eql b_neq b_lss b_leq b_gtr b_geq eqB_s b_eqB b_neB u_neg u_not b_nn b_nn' eqS_s zerosT_s zerosT_n zt_i zt_sl zt_st dstOf_z dstOf_n iltT iltF ileT ileF ieqT ieqF nltT nltF nleT nleF neqT neqF tdiv_pos tmod_pos w64 idx0 List.take_of_length_le
open Num
section
variable {G ds : List DyT} {n g : Nat} {caps : List V} {N : Int}
/-- A grid that is told number by number. -/
theorem gridOf_v {d : Nat} (hg : kn.cf.pure g = true) (hg2 : kn.ali g = false) (hc : CapsOk caps) (hn0 : 1 ≤ n) (hn : n ≤ 4) (hG : G.length = n * n) (hp : ∀ i j x, i < n → j < n → G[i * n + j]? = some x → vrun Tryd.prog kn d g (vnrmAs (kn.args g) (.int .i64 i :: .int .i64 j :: caps)) [] = some (.agg x.v, [])) :
    vrun Tryd.prog kn (d + 1) 55 [.int .i64 n, .fn (.func g) [] caps] [] = some (.agg [.int .i64 n, .cells 3 G.length (flat DyT.v G)], []) := by
  have hnn : n * n ≤ 16 := Nat.mul_le_mul hn hn
  have hpos : 0 < n * n := Nat.mul_pos (by omega) (by omega)
  have hx : vCode Tryd.prog kn (vrun Tryd.prog kn d) 55 (loopAt Tryd.f55 0) (fgO G n g caps n).1 (fgO G n g caps n).2 = some (.exit 0, (fgO G n g caps n).1 ++ [(12, some (.bool false))], (fgO G n g caps n).2) := by
    have hln := flat_len3 (G.take (n * n))
    rw [List.length_take, Nat.min_eq_left (by omega)] at hln
    have hG1 := fun m => fl_refs m (G.take (n * n))
    have hG2 := fun ρ m => fl_ren ρ m (G.take (n * n))
    have z3 := hc.rf
    have z4 := hc.rn
    rw [round_v]; simp only [loopAt, nthC, bodyC, loops, List.nil_append, List.cons_append, List.append_nil, Tryd.f55, fgO, grH]
    rw [if_neg (show ¬ n * n = 0 by omega)]
    generalize flat DyT.v (G.take (n * n)) = F at *
    generalize n * n = q at *
    have ht : F.take (q * 3) = F := List.take_of_length_le (by omega)
    simp (implicitDefEqProofs := false) (disch := omega) [go_sem, tab55, z3, z4, hln, ht, hG1, hG2]
  have hl0 := fun ks => loop_v (P := Tryd.prog) (K := kn) (ks := ks) (vi_for (fgO G n g caps) n (n := kn.cf.rounds) (by rw [k_cf, c_rounds]; omega) (fun i hi => go_o hg hg2 hc hn hG hi fun j x hj hx => hp i j x hi hj hx) fun m => vi_exit hx)
  simp only [loopAt, nthC, bodyC, loops, List.nil_append, List.cons_append, List.append_nil, Tryd.f55, fgO, Int.natCast_zero, Nat.zero_mul, List.cons_append, List.nil_append] at hl0
  have ef : grH n G (n * n) = [.vals true [.int .i64 0, .nil], .vals true [.int .i64 n, .sl 2 0 (n * n) 3], .vals true (flat DyT.v G)] := by
    unfold grH; rw [if_neg (by omega), ← hG, List.take_length]
  have e0 : grH n G 0 = [.vals true [.int .i64 0, .nil], .vals true [.int .i64 n, .nil]] := rfl
  rw [ef, e0] at hl0
  have hln := flat_len3 G
  have hfz := fun h m => fl_frz h m G
  have hG1 := fun m => fl_refs m G
  have hG2 := fun ρ m => fl_ren ρ m G
  have z1 := hc.fz
  have z3 := hc.rf
  have z4 := hc.rn
  rw [hG] at hln ⊢
  have ht : (flat DyT.v G).take (n * n * 3) = flat DyT.v G := List.take_of_length_le (by omega)
  clear ef e0 hx hp
  generalize flat DyT.v G = F at *
  generalize n * n = q at *
  rw [show d + 1 = d + 1 from rfl]
  rw [vrun_v Tryd.func55 rfl rfl rfl]; simp only [Tryd.f55]
  simp (implicitDefEqProofs := false) (disch := omega) [go_sem, tab55, hl0, hln, ht, hfz, hG1, hG2, z1, z3, z4]
/-- The transpose. -/
def turnL (ds : List DyT) (n : Nat) : List DyT := (List.range (n * n)).map fun k => (ds[k % n * n + k / n]?).getD zT
theorem turnL_len : (turnL ds n).length = n * n := by unfold turnL; simp
theorem place (i j n : Nat) (hj : j < n) : (i * n + j) % n = j ∧ (i * n + j) / n = i := by
  constructor
  · rw [Nat.mul_comm, Nat.mul_add_mod, Nat.mod_eq_of_lt hj]
  · rw [Nat.mul_comm, Nat.mul_add_div (by omega), Nat.div_eq_of_lt hj]; omega
theorem place_lt {i j n : Nat} (hi : i < n) (hj : j < n) : i * n + j < n * n := by
  have : i * n + n ≤ n * n := by rw [← Nat.succ_mul]; exact Nat.mul_le_mul_right _ (by omega)
  omega
theorem turnL_at {i j : Nat} (hi : i < n) (hj : j < n) (hl : ds.length = n * n) : (turnL ds n)[i * n + j]? = ds[j * n + i]? := by
  obtain ⟨p1, p2⟩ := place i j n hj
  have h1 := place_lt hi hj
  have h2 := place_lt hj hi
  unfold turnL
  rw [List.getElem?_map, List.getElem?_range h1]
  simp only [Option.map_some, p1, p2]
  rw [List.getElem?_eq_getElem (by omega)]; rfl
theorem turnL_all {P : DyT → Prop} (hl : ds.length = n * n) (hn : 1 ≤ n) (h : ∀ x ∈ ds, P x) : ∀ x ∈ turnL ds n, P x := by
  intro x hx
  unfold turnL at hx
  obtain ⟨k, hk, rfl⟩ := List.mem_map.1 hx
  rw [List.mem_range] at hk
  have h1 : k / n < n := Nat.div_lt_of_lt_mul hk
  have h2 := place_lt (Nat.mod_lt k (by omega)) h1
  rw [List.getElem?_eq_getElem (by omega)]
  exact h _ (List.getElem_mem _)
end
end
/- Matrices of the reference: copied, laid anew. No conditions. -/
section
open Go.Proofs
set_option maxRecDepth 100000
set_option linter.unusedSimpArgs false
attribute [local go_sem] r_seq r_skip r_retC r_exitC r_label r_block r_region r_regionW r_xWt r_xW r_cond r_Bt r_Bf r_Ncode r_Nret r_Nexit r_Nblk r_Nblkr r_Nblke r_Nnil r_Es r_Onil r_Oop r_Oif r_Xs r_Gt r_Gf r_wtt r_wtf r_wft r_wff r_wu r_gO r_putS r_putN r_get r_keepN r_keepC r_fr r_fn r_fi r_ff r_fo r_l1 r_l2t r_cun r_cul r_cub r_cui r_cus r_cuis r_cuc r_cusl r_cuti r_cutv r_ven r_vec r_l2f r_l3 r_t1 r_t2 r_t0 r_rt r_rc r_en r_ec r_cM r_oN r_oC r_end r_endt r_endf r_nob0 r_nobN r_nobC r_nobE r_nb0 r_nbi r_nbs r_nbsl r_nbin r_nbce r_nLn r_nLv r_nLc r_nAa r_nAn r_nAk_b r_nAk_i r_nAk_s r_nAk_n r_nAk_is r_nAk_ce r_nAk_fp r_nAk_sl r_nAk_pt r_nAk_fn r_nsn r_nsv r_nsc r_m0 r_mi r_ms r_msl r_min r_mce r_mLn r_mLv r_mLc r_mAa r_mAn r_mAk_b r_mAk_i r_mAk_s r_mAk_n r_mAk_is r_mAk_ce r_mAk_fp r_mAk_sl r_mAk_pt r_mAk_fn r_msn r_msv r_msc r_atb r_ati r_ats r_atn r_atis r_atc r_atf r_atl r_atp r_atfn r_gcn r_gcc r_gLn r_gLc r_gIt r_ndn r_ndc r_gcB r_gLB r_two r_rea r_rea0 r_re1n r_re1c r_ori r_orv r_ord r_orn r_adn r_adc r_ad1 r_ern r_ers r_er0 r_rsl r_rptr r_rb r_ri r_rs r_rn r_ris r_rce r_rfp r_ra4 r_ra3 r_rt4 r_rf4 r_rf3 r_idS r_idc r_nS r_nP r_nF r_nT r_vsl r_vptr r_vb r_vi r_vs r_vn r_vis r_vce r_vfp r_va4 r_va3 r_vt4 r_vf4 r_vf3 r_rV r_Oi r_Ov r_Od r_rE r_rE0 r_En r_Ec r_E0 r_pO r_pk r_agL r_cO r_fO r_fSi r_fSv r_fPv r_fsl r_fptr r_ffn r_fag r_fb r_fint r_fstr r_fnil r_fis r_fce r_ffp r_res r_move r_assign r_pick r_pickt r_pickf r_alloc r_box r_al r_build r_bslice r_load r_store r_nlc r_nl1 r_nl2 r_bin r_un r_conv r_mkf r_mks r_slc r_fad r_fld r_iad r_idx r_ext r_ex1 r_callf r_callt r_callen r_calapp r_calmax r_calmin r_vt r_vcb r_vci r_vcs r_vcnp r_vcn r_vca r_vcf r_vcg r_ofb r_ofi r_ofs r_ofn r_evs r_pn r_prt r_pc r_one_a r_one_b r_one_i r_one_s r_one_n r_one_is r_one_ce r_one_fp r_one_sl r_one_pt r_one_fn r_cs_a r_cs_b r_cs_i r_cs_s r_cs_n r_cs_is r_cs_ce r_cs_fp r_cs_sl r_cs_pt r_cs_fn r_tov r_tovA r_toc r_toa r_tb r_ti r_ts r_tn r_bd r_bd2 r_filn r_fp1 r_filc r_fsn r_fsc r_san r_sac r_bs2 r_bs1 r_newO r_mkq r_mkI r_mkOi r_mkOv r_tIn r_tIc r_repz r_repn r_ldp r_ldf r_l1t r_l1f r_lFt r_lFf r_aggO r_obj r_at r_ati' r_atv r_celli r_cellv r_subi r_subv r_sto r_sto1 r_sto2 r_sets r_setR r_setn r_setc r_s1i r_s1v r_bin1 r_bin2 r_tv1 r_cb r_ci r_cst r_cn r_csl r_cis r_cce r_uni r_unb r_cv r_cvO r_cvN r_cv0 r_cvS r_wB r_cvi r_cvs r_cvb r_cvl r_sO r_rdn r_rdi r_rdl r_rdO r_vsub r_vfn r_mk r_mk1 r_mk2 r_zoi r_zov r_leni r_lenv r_bn r_bndV r_bo r_sl0 r_sl1 r_vsz r_ct1 r_cts r_cti r_ctc r_ctn r_lnl r_lni r_lnc r_lnn r_fa r_fap r_faf r_fi1 r_fit r_fif r_ixi r_ixs r_ixc r_ixf r_ixF r_ixF2 r_ix1 r_ixsl r_ixin r_ixce r_len1 r_lenA r_lTs r_lTn r_lTl r_lTi r_lTc r_app0 r_app r_app1 r_app2 r_app3 r_catO r_cati r_catv r_newt r_newf r_pair r_pairK r_trip r_kis r_kiv r_srn r_srl r_sri r_src r_srs r_oln r_oll r_vw r_wi r_wv r_mm r_max r_min' r_str r_cF r_c2t r_c3f r_c3t r_ab r_c2f r_cV r_p1 r_la r_la2t r_la2f r_la3 r_sh r_z_is r_z_ce r_z_fp r_z_b r_z_i r_z_s r_z_n r_z_l r_z_p r_z_a4 r_z_a3 r_z_t4 r_zoI r_zoV r_roN r_roC r_roi r_rod r_zod r_rov r_aR r_trOi r_trOv r_trPv r_trl r_trp r_trf r_tra r_trb r_tri r_trs r_trn r_tris r_trce r_trfp r_vJ r_vJs r_vJn
attribute [local go_sem] b_add b_sub b_mul b_quo b_rem b_shl b_shr b_eql b_neq b_lss b_leq b_gtr b_geq eqB_s b_eqB b_neB u_neg u_not b_nn b_nn' eqS_s zerosT_s zerosT_n zt_i zt_sl zt_st dstOf_z dstOf_n iltT iltF ileT ileF ieqT ieqF nltT nltF nleT nleF neqT neqF tdiv_pos tmod_pos w64 idx0 List.take_of_length_le
open Num
section
variable {ds : List DyT} {N : Int}
def owH (N : Int) (ds : List DyT) (j : Nat) : VH := if j = 0 then [.vals true [.int .i64 N, .cells 3 ds.length (flat DyT.v ds)], .vals true [.int .i64 0, .nil], .vals true [.int .i64 N, .nil]] else [.vals true [.int .i64 N, .cells 3 ds.length (flat DyT.v ds)], .vals true [.int .i64 0, .nil], .vals true [.int .i64 N, .sl 3 0 j 3], .vals true (flat DyT.v (ds.take j))]
def owS (N : Int) (ds : List DyT) (j : Nat) : VE × VH := ([(1, some (.ptr 0 0)), (2, some (.ptr 1 0)), (3, some (.ptr 2 0)), (4, some (.int .i64 j))], owH N ds j)
theorem ow_r (d : Nat) (hl : ds.length < 1000000) (ho : ∀ x ∈ ds, dyOkB x = true) {j : Nat} (hj : j < ds.length) : vCode Tryd.prog kn (vrun Tryd.prog kn (d + 3)) 52 (loopAt Tryd.f52 0) (owS N ds j).1 (owS N ds j).2 = some (.norm, owS N ds (j + 1)) := by
  have hget : ds[j]? = some ds[j] := List.getElem?_eq_getElem hj
  have hsub : ((flat DyT.v ds).drop (j * 3)).take 3 = [.bool ds[j].neg, .ints .i64 ds[j].l, .int .i64 ds[j].e] := flat_sub DyT.len ds j _ hget
  have hsn := flat_snoc hget
  have hln := flat_len3 (ds.take j)
  rw [List.length_take, Nat.min_eq_left (by omega)] at hln
  have e1 := fun d => l7own_v (x := ds[j]) d (ho _ (List.getElem_mem hj))
  have hFl := flat_len3 ds
  rw [round_v]; simp only [loopAt, nthC, bodyC, loops, List.nil_append, List.cons_append, List.append_nil, Tryd.f52, owS, owH]
  rw [if_neg (show ¬ j + 1 = 0 by omega), hsn]
  by_cases h0 : j = 0
  · subst h0
    simp only [List.take_zero, flat, List.nil_append]
    rw [Nat.zero_mul, List.drop_zero] at hsub
    generalize ds[0] = x at *
    generalize flat DyT.v ds = F at *
    have hm : 3 ≤ min 3 F.length := by omega
    simp (implicitDefEqProofs := false) (disch := omega) [go_sem, tab52, hsub, e1, hFl, hm]
  · rw [if_neg h0]
    have hG1 := fun n => fl_refs n (ds.take j)
    have hG2 := fun ρ n => fl_ren ρ n (ds.take j)
    have hA1 := fun n => fl_refs n (ds.take (j + 1))
    have hA2 := fun ρ n => fl_ren ρ n (ds.take (j + 1))
    rw [hsn] at hA1 hA2
    generalize ds[j] = x at *
    generalize flat DyT.v (ds.take j) = G at *
    generalize flat DyT.v ds = F at *
    have ht : G.take (j * 3) = G := List.take_of_length_le (by omega)
    simp (implicitDefEqProofs := false) (disch := omega) [go_sem, tab52, hsub, e1, hln, ht, hG1, hG2, hA1, hA2]
theorem ow_x (call : CallV) (hl : ds.length < 1000000) : vCode Tryd.prog kn call 52 (loopAt Tryd.f52 0) (owS N ds ds.length).1 (owS N ds ds.length).2 = some (.exit 0, (owS N ds ds.length).1 ++ [(12, some (.bool false))], (owS N ds ds.length).2) := by
  rw [round_v]; simp only [loopAt, nthC, bodyC, loops, List.nil_append, List.cons_append, List.append_nil, Tryd.f52, owS, owH, List.take_length]
  have hln := flat_len3 ds
  have ht : (flat DyT.v ds).take (ds.length * 3) = flat DyT.v ds := List.take_of_length_le (by omega)
  have hG1 := fun n => fl_refs n ds
  have hG2 := fun ρ n => fl_ren ρ n ds
  generalize flat DyT.v ds = F at *
  by_cases h0 : ds.length = 0
  · rw [if_pos h0, h0]
    simp (implicitDefEqProofs := false) (disch := omega) [go_sem, tab52]
  · rw [if_neg h0]
    simp (implicitDefEqProofs := false) (disch := omega) [go_sem, tab52, hln, ht, hG1, hG2]
theorem l8own_v (d : Nat) (hl : ds.length < 1000000) (h0 : 0 < ds.length) (ho : ∀ x ∈ ds, dyOkB x = true) : vrun Tryd.prog kn (d + 4) 52 [.agg [.int .i64 N, .cells 3 ds.length (flat DyT.v ds)]] [] = some (.agg [.int .i64 N, .cells 3 ds.length (flat DyT.v ds)], []) := by
  have hl0 := fun ks => loop_v (P := Tryd.prog) (K := kn) (ks := ks) (vi_for (owS N ds) ds.length (n := kn.cf.rounds) (by rw [k_cf, c_rounds]; omega) (fun j hj => ow_r d hl ho hj) fun m => vi_exit (ow_x _ hl))
  have ef : owH N ds ds.length = [.vals true [.int .i64 N, .cells 3 ds.length (flat DyT.v ds)], .vals true [.int .i64 0, .nil], .vals true [.int .i64 N, .sl 3 0 ds.length 3], .vals true (flat DyT.v ds)] := by
    unfold owH; rw [if_neg (by omega), List.take_length]
  have e0 : owH N ds 0 = [.vals true [.int .i64 N, .cells 3 ds.length (flat DyT.v ds)], .vals true [.int .i64 0, .nil], .vals true [.int .i64 N, .nil]] := rfl
  simp only [loopAt, nthC, bodyC, loops, List.nil_append, List.cons_append, List.append_nil, Tryd.f52, owS, Int.natCast_zero, List.cons_append, List.nil_append, ef, e0] at hl0
  have hln := flat_len3 ds
  have ht : (flat DyT.v ds).take (ds.length * 3) = flat DyT.v ds := List.take_of_length_le (by omega)
  have hfz := fun h n => fl_frz h n ds
  have hG1 := fun n => fl_refs n ds
  have hG2 := fun ρ n => fl_ren ρ n ds
  generalize flat DyT.v ds = F at *
  rw [vrun_v Tryd.func52 rfl rfl rfl]; simp only [Tryd.f52]
  simp (implicitDefEqProofs := false) (disch := omega) [go_sem, tab52, hl0, hln, ht, hfz, hG1, hG2]
end
/-! ### laid anew, written place by place -/
def cz : Option DyT → List V
  | none => [.bool false, .nil, .int .i64 0]
  | some x => [.bool x.neg, .ints .i64 x.l, .int .i64 x.e]
theorem cz_len (o : Option DyT) : (cz o).length = 3 := by cases o <;> rfl
section
variable {L : List (Option DyT)}
theorem cz_len3 : ∀ L : List (Option DyT), (flat cz L).length = L.length * 3
  | [] => rfl
  | x :: r => by rw [flat, List.length_append, cz_len3 r, List.length_cons, cz_len]; omega
theorem cz_refs (n : Nat) : ∀ L : List (Option DyT), (flat cz L).flatMap (vrefs n) = []
  | [] => rfl
  | x :: r => by rw [flat, List.flatMap_append, cz_refs n r]; cases x <;> simp [cz, r_rb, r_ri, r_ris, r_rn]
theorem cz_ren (ρ : Nat → Option Nat) (n : Nat) : ∀ L : List (Option DyT), omap (vren ρ n) (flat cz L) = some (flat cz L)
  | [] => rfl
  | x :: r => by
    rw [flat]
    exact omap_app _ (by cases x <;> simp [cz, r_oC, r_vb, r_vi, r_vis, r_vn, omap, consM]) (cz_ren ρ n r)
theorem cz_set : ∀ (L : List (Option DyT)) (k : Nat) (x : DyT), k < L.length → (((flat cz L).set (k * 3) (.bool x.neg)).set (k * 3 + 1) (.ints .i64 x.l)).set (k * 3 + 2) (.int .i64 x.e) = flat cz (L.set k (some x))
  | y :: r, 0, x, _ => by
    rw [flat, List.set_cons_zero, flat]
    have : ∃ a b c, cz y = [a, b, c] := by cases y <;> exact ⟨_, _, _, rfl⟩
    obtain ⟨a, b, c, e⟩ := this
    rw [e]; rfl
  | y :: r, k + 1, x, h => by
    have ih := cz_set r k x (by simpa using h)
    rw [flat, List.set_cons_succ, flat, ← ih]
    have : ∃ a b c, cz y = [a, b, c] := by cases y <;> exact ⟨_, _, _, rfl⟩
    obtain ⟨a, b, c, e⟩ := this
    rw [e, show (k + 1) * 3 = k * 3 + 3 by omega]; rfl
theorem cz_some (ds : List DyT) : flat cz (ds.map some) = flat DyT.v ds := by
  induction ds with
  | nil => rfl
  | cons x r ih => rw [List.map_cons, flat, flat, ih]; rfl
theorem cz_none (n : Nat) : flat cz (List.replicate n none) = vreps n [.bool false, .nil, .int .i64 0] := by
  induction n with
  | zero => rfl
  | succ n ih => rw [List.replicate_succ, flat, ih, r_repn]; rfl
theorem l8new_v (d : Nat) {n : Nat} (hn : n ≤ 4) : vrun Tryd.prog kn (d + 1) 81 [.int .i64 n] [] = some (.agg [.int .i64 n, .sl 0 0 (n * n) 3], [.vals true (flat cz (List.replicate (n * n) none))]) := by
  have hnn : n * n ≤ 16 := Nat.mul_le_mul hn hn
  have hI : (n : Int) * n = ((n * n : Nat) : Int) := by simp
  have hlen := cz_len3 (List.replicate (n * n) (none : Option DyT))
  have hG1 := fun m => cz_refs m (List.replicate (n * n) (none : Option DyT))
  have hG2 := fun ρ m => cz_ren ρ m (List.replicate (n * n) (none : Option DyT))
  rw [List.length_replicate] at hlen
  have hc := cz_none (n * n)
  rw [hc] at hlen hG1 hG2
  rw [hc]
  generalize n * n = q at *
  clear hc
  rw [vrun_v Tryd.func81 rfl rfl rfl]; simp only [Tryd.f81]
  simp (implicitDefEqProofs := false) (disch := omega) [go_sem, tab81, hI, hlen, hG1, hG2]
end
end
/- Calls whose results are matrices, over heaps of which parts are known. No conditions. -/
section
open Go.Proofs
set_option maxRecDepth 100000
set_option linter.unusedSimpArgs false
attribute [local go_sem] r_seq r_skip r_retC r_exitC r_label r_block r_region r_regionW r_xWt r_xW r_cond r_Bt r_Bf r_Ncode r_Nret r_Nexit r_Nblk r_Nblkr r_Nblke r_Nnil r_Es r_Onil r_Oop r_Oif r_Xs r_Gt r_Gf r_wtt r_wtf r_wft r_wff r_wu r_gO r_putS r_putN r_get r_keepN r_keepC r_fr r_fn r_fi r_ff r_fo r_l1 r_l2t r_cun r_cul r_cub r_cui r_cus r_cuis r_cuc r_cusl r_cuti r_cutv r_ven r_vec r_l2f r_l3 r_t1 r_t2 r_t0 r_rt r_rc r_en r_ec r_cM r_oN r_oC r_end r_endt r_endf r_nob0 r_nobN r_nobC r_nobE r_nb0 r_nbi r_nbs r_nbsl r_nbin r_nbce r_nLn r_nLv r_nLc r_nAa r_nAn r_nAk_b r_nAk_i r_nAk_s r_nAk_n r_nAk_is r_nAk_ce r_nAk_fp r_nAk_sl r_nAk_pt r_nAk_fn r_nsn r_nsv r_nsc r_m0 r_mi r_ms r_msl r_min r_mce r_mLn r_mLv r_mLc r_mAa r_mAn r_mAk_b r_mAk_i r_mAk_s r_mAk_n r_mAk_is r_mAk_ce r_mAk_fp r_mAk_sl r_mAk_pt r_mAk_fn r_msn r_msv r_msc r_atb r_ati r_ats r_atn r_atis r_atc r_atf r_atl r_atp r_atfn r_gcn r_gcc r_gLn r_gLc r_gIt r_ndn r_ndc r_gcB r_gLB r_two r_rea r_rea0 r_re1n r_re1c r_ori r_orv r_ord r_orn r_adn r_adc r_ad1 r_ern r_ers r_er0 r_rsl r_rptr r_rb r_ri r_rs r_rn r_ris r_rce r_rfp r_ra4 r_ra3 r_rt4 r_rf4 r_rf3 r_idS r_idc r_nS r_nP r_nF r_nT r_vsl r_vptr r_vb r_vi r_vs r_vn r_vis r_vce r_vfp r_va4 r_va3 r_vt4 r_vf4 r_vf3 r_rV r_Oi r_Ov r_Od r_rE r_rE0 r_En r_Ec r_E0 r_pO r_pk r_agL r_cO r_fO r_fSi r_fSv r_fPv r_fsl r_fptr r_ffn r_fag r_fb r_fint r_fstr r_fnil r_fis r_fce r_ffp r_res r_move r_assign r_pick r_pickt r_pickf r_alloc r_box r_al r_build r_bslice r_load r_store r_nlc r_nl1 r_nl2 r_bin r_un r_conv r_mkf r_mks r_slc r_fad r_fld r_iad r_idx r_ext r_ex1 r_callf r_callt r_callen r_calapp r_calmax r_calmin r_vt r_vcb r_vci r_vcs r_vcnp r_vcn r_vca r_vcf r_vcg r_ofb r_ofi r_ofs r_ofn r_evs r_pn r_prt r_pc r_one_a r_one_b r_one_i r_one_s r_one_n r_one_is r_one_ce r_one_fp r_one_sl r_one_pt r_one_fn r_cs_a r_cs_b r_cs_i r_cs_s r_cs_n r_cs_is r_cs_ce r_cs_fp r_cs_sl r_cs_pt r_cs_fn r_tov r_tovA r_toc r_toa r_tb r_ti r_ts r_tn r_bd r_bd2 r_filn r_fp1 r_filc r_fsn r_fsc r_san r_sac r_bs2 r_bs1 r_newO r_mkq r_mkI r_mkOi r_mkOv r_tIn r_tIc r_repz r_repn r_ldp r_ldf r_l1t r_l1f r_lFt r_lFf r_aggO r_obj r_at r_ati' r_atv r_celli r_cellv r_subi r_subv r_sto r_sto1 r_sto2 r_sets r_setR r_setn r_setc r_s1i r_s1v r_bin1 r_bin2 r_tv1 r_cb r_ci r_cst r_cn r_csl r_cis r_cce r_uni r_unb r_cv r_cvO r_cvN r_cv0 r_cvS r_wB r_cvi r_cvs r_cvb r_cvl r_sO r_rdn r_rdi r_rdl r_rdO r_vsub r_vfn r_mk r_mk1 r_mk2 r_zoi r_zov r_leni r_lenv r_bn r_bndV r_bo r_sl0 r_sl1 r_vsz r_ct1 r_cts r_cti r_ctc r_ctn r_lnl r_lni r_lnc r_lnn r_fa r_fap r_faf r_fi1 r_fit r_fif r_ixi r_ixs r_ixc r_ixf r_ixF r_ixF2 r_ix1 r_ixsl r_ixin r_ixce r_len1 r_lenA r_lTs r_lTn r_lTl r_lTi r_lTc r_app0 r_app r_app1 r_app2 r_app3 r_catO r_cati r_catv r_newt r_newf r_pair r_pairK r_trip r_kis r_kiv r_srn r_srl r_sri r_src r_srs r_oln r_oll r_vw r_wi r_wv r_mm r_max r_min' r_str r_cF r_c2t r_c3f r_c3t r_ab r_c2f r_cV r_p1 r_la r_la2t r_la2f r_la3 r_sh r_z_is r_z_ce r_z_fp r_z_b r_z_i r_z_s r_z_n r_z_l r_z_p r_z_a4 r_z_a3 r_z_t4 r_zoI r_zoV r_roN r_roC r_roi r_rod r_zod r_rov r_aR r_trOi r_trOv r_trPv r_trl r_trp r_trf r_tra r_trb r_tri r_trs r_trn r_tris r_trce r_trfp r_vJ r_vJs r_vJn
attribute [local go_sem] b_add b_sub b_mul b_quo b_rem b_shl b_shr b_eql b_neq b_lss b_leq b_gtr b_geq eqB_s b_eqB b_neB u_neg u_not b_nn b_nn' eqS_s zerosT_s zerosT_n zt_i zt_sl zt_st dstOf_z dstOf_n iltT iltF ileT ileF ieqT ieqF nltT nltF nleT nleF neqT neqF tdiv_pos tmod_pos w64 idx0 List.take_of_length_le
open Num
section
variable {ds R : List DyT} {N M k : Int} {f : Bool} {h g : VH} {i lo hi lo' hi' : Nat} {p : Nat → Nat} {call : CallV} {q : FuncId} {args fa : List V}
theorem HM.keep (a : HM lo hi h i p ds) (hk : ∀ (q : Nat) (o : VO), lo ≤ q → q < hi → h[q]? = some o → g[q]? = some o) : HM lo hi g i p ds :=
  ⟨hk _ _ a.li.1 a.li.2 a.c, fun j x hx => by
    have hj := (List.getElem?_eq_some_iff.1 hx).1
    exact hk _ _ (a.lp j hj).1 (a.lp j hj).2 (a.e j x hx), a.inj, a.li, a.lp⟩
/-- A call whose result is its own. -/
theorem own_c (hp : kn.cf.pure q = true) (ha : kn.ali q = false) (hf : omap (vfrz h 6) args = some fa) (hc : call q (vnrmAs (kn.args q) fa) [] = some (.tup [.agg [.int .i64 N, .sl 0 0 R.length 3], .bool f], mblk 0 R)) :
    ∃ (G : VH) (i : Nat) (p : Nat → Nat), vcallF kn call h q (some args) = some (.tup [.agg [.int .i64 N, .sl i 0 R.length 3], .bool f], G) ∧ HM h.length G.length G i p R ∧ Sub h G := by
  have hz : (V.noFz 4 (.tup [.agg [.int .i64 N, .sl 0 0 R.length 3], .bool f]) && (mblk 0 R).all VO.noFz) = true := by rw [nf_mblk]; simp [go_sem]
  exact ⟨_, _, _, callF_own hp ha hf hc hz (pl_mblk 0 R) (by simp [go_sem]), (own_mblk R).land h, Sub.app _ _⟩
/-- A call whose result is told. -/
theorem frz_c {P : Nat → Prop} (hp : kn.cf.pure q = true) (ha : kn.ali q = false) (hf : omap (vfrz h 6) args = some fa) (hc : call q (vnrmAs (kn.args q) fa) [] = some (.tup [.agg [.int .i64 N, .cells 3 R.length (flat DyT.v R)], .bool f], [])) (ht : ∀ x, x ∈ argRefs h args → P x) :
    ∃ G, vcallF kn call h q (some args) = some (.tup [.agg [.int .i64 N, .cells 3 R.length (flat DyT.v R)], .bool f], G) ∧ G.length = h.length ∧ ∀ x, ¬ P x → G[x]? = h[x]? :=
  callF_ro hp ha hf hc (by simp [go_sem]) (by simp [go_sem]) ht
theorem eqMatF_c (d : Nat) (m : HM lo hi h i p R) (hd : R.length < 1000000000) (hsd : ∀ x ∈ R, x.l.length < 1000000000) :
    vcallF kn (vrun Tryd.prog kn (d + 6)) h 14 (some [.agg [.int .i64 N, .sl i 0 R.length 3], .agg [.int .i64 N, .cells 3 R.length (flat DyT.v R)]]) = some (.bool true, h) := by
  have h1 := eqMat_v d (N := N) (M := N) hd hd hsd hsd
  simp only [decide_true, Bool.and_true] at h1
  have hf := m.frzM (N := N) 3
  refine callF_frz (fa := [.agg [.int .i64 N, .cells 3 R.length (flat DyT.v R)], .agg [.int .i64 N, .cells 3 R.length (flat DyT.v R)]]) (r := .bool true) c_pure14 rfl ?_ ?_ ?_ ?_
  · rw [r_oC, hf]; simp [go_sem]
  · simpa [go_sem] using h1
  · simp [go_sem]
  · simp [go_sem]
theorem heldMat_c (d : Nat) (m : HM lo hi h i p (mkds R k)) (hl : R.length < 10000000) (hs : ∀ x ∈ R, x.l.length < 10000000) (hk : 0 ≤ k) (hw : k + wt R < 100000000) :
    vcallF kn (vrun Tryd.prog kn (d + 3)) h 20 (some [.agg [.int .i64 N, .sl i 0 R.length 3], .int .i64 k]) = some (.int .i64 (mkE R k), h) := by
  have h1 := heldMat_v d (N := N) hl hs hk hw
  have hf := m.frzM (N := N) 3
  rw [mkds_len] at hf
  refine callF_frz (fa := [.agg [.int .i64 N, .cells 3 R.length (flat DyT.v (mkds R k))], .int .i64 k]) (r := .int .i64 (mkE R k)) c_pure20 rfl ?_ ?_ ?_ ?_
  · rw [r_oC, hf]; simp [go_sem]
  · simpa [go_sem] using h1
  · simp [go_sem]
  · simp [go_sem]
theorem frz1 (m : HM lo hi h i p ds) : omap (vfrz h 6) [.agg [.int .i64 N, .sl i 0 ds.length 3]] = some [.agg [.int .i64 N, .cells 3 ds.length (flat DyT.v ds)]] := by
  rw [r_oC, m.frzM (N := N) 3]; simp [go_sem]
theorem ref1 (m : HM lo hi h i p ds) : ∀ x, x ∈ argRefs h [.agg [.int .i64 N, .sl i 0 ds.length 3]] → lo ≤ x ∧ x < hi := by
  intro q hq
  rw [r_aR, List.flatMap_cons] at hq
  rcases List.mem_append.1 hq with hq | hq
  · exact m.trcM (m := 3) hq
  · simp at hq
theorem frz3 (m : HM lo hi h i p ds) {a b : Int} : omap (vfrz h 6) [.agg [.int .i64 N, .sl i 0 ds.length 3], .int .i64 a, .int .i64 b] = some [.agg [.int .i64 N, .cells 3 ds.length (flat DyT.v ds)], .int .i64 a, .int .i64 b] := by
  rw [r_oC, m.frzM (N := N) 3]; simp [go_sem]
theorem ref3 (m : HM lo hi h i p ds) {a b : Int} : ∀ x, x ∈ argRefs h [.agg [.int .i64 N, .sl i 0 ds.length 3], .int .i64 a, .int .i64 b] → lo ≤ x ∧ x < hi := by
  intro q hq
  rw [r_aR, List.flatMap_cons] at hq
  rcases List.mem_append.1 hq with hq | hq
  · exact m.trcM (m := 3) hq
  · simp [go_sem] at hq
end
end
end Go.Eng
