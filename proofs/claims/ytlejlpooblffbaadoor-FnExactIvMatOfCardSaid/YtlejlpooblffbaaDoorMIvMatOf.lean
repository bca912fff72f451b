/- What the functions of this seat do, one after another, told by plain values. No conditions. -/
import Derived.Test.YtlejlpooblffbaaDoorSeat
import Derived.Test.YtlejlpooblffbaaDoorVb
import Derived.Test.YtlejlpooblffbaaDoorVc
import Derived.Test.YtlejlpooblffbaaDoorT4
set_option linter.unusedVariables false
set_option linter.unusedSimpArgs false
namespace Go.Eng
/- The laws' types as values. No conditions. -/
section
open Go.Proofs Num
def DyT.row (x : DyT) : Prop := x.l.length ≤ 9223372036854775807 ∧ (∀ y ∈ x.l, (Lit.int .i64 y).wf = true) ∧ (Lit.int .i64 x.e).wf = true
def TInt (vs : List V) : Prop := ∃ x : Int, vs = [.int .i64 x] ∧ (Lit.int .i64 x).wf = true
def TBool (vs : List V) : Prop := ∃ x : Bool, vs = [.bool x]
def TInts (vs : List V) : Prop := ∃ l : List Int, vs = [.ints .i64 l] ∧ l.length ≤ 9223372036854775807 ∧ ∀ x ∈ l, (Lit.int .i64 x).wf = true
def TDys (vs : List V) : Prop := ∃ ds : List DyT, vs = [.cells 3 ds.length (flat DyT.v ds)] ∧ ds.length ≤ 9223372036854775807 ∧ ∀ x ∈ ds, x.row
theorem opInt : OpV Tryd.prog 3 1 TInt := OpV.int Tryd.underlying3 (by kernel_rfl)
theorem opBool : OpV Tryd.prog 4 1 TBool := OpV.bool Tryd.underlying4 (by kernel_rfl)
theorem opInts : OpV Tryd.prog 26 1 TInts := OpV.ints Tryd.underlying26 (by kernel_rfl) Tryd.underlying3 (by kernel_rfl)
theorem opNat : OpV Tryd.prog 50 1 TInts := OpV.struct1 Tryd.underlying50 (by kernel_rfl) rfl opInts
theorem opWhole : OpV Tryd.prog 52 2 (fun vs => ∃ (n : Bool) (l : List Int), vs = [.bool n, .ints .i64 l] ∧ l.length ≤ 9223372036854775807 ∧ ∀ x ∈ l, (Lit.int .i64 x).wf = true) :=
  (OpV.struct2 Tryd.underlying52 (by kernel_rfl) rfl rfl opBool opNat).imp fun vs ⟨_, _, e, ⟨n, e1⟩, ⟨l, e2, h1, h2⟩⟩ => ⟨n, l, by rw [e, e1, e2]; rfl, h1, h2⟩
theorem opDy : OpV Tryd.prog 54 3 (fun vs => ∃ x : DyT, vs = x.v ∧ x.row) :=
  (OpV.struct2 Tryd.underlying54 (by kernel_rfl) rfl rfl opWhole opInt).imp fun vs ⟨_, _, e, ⟨n, l, e1, h1, h2⟩, ⟨x, e2, h3⟩⟩ => ⟨⟨n, l, x⟩, by rw [e, e1, e2]; rfl, h1, h2, h3⟩
theorem opDys : OpV Tryd.prog 22 1 TDys := OpV.cells Tryd.underlying22 (by kernel_rfl) opDy (by omega)
theorem opMat : OpV Tryd.prog 24 2 (fun vs => ∃ (N : Int) (ds : List DyT), vs = [.int .i64 N, .cells 3 ds.length (flat DyT.v ds)] ∧ (Lit.int .i64 N).wf = true ∧ ds.length ≤ 9223372036854775807 ∧ ∀ x ∈ ds, x.row) :=
  (OpV.struct2 Tryd.underlying24 (by kernel_rfl) rfl rfl opInt opDys).imp fun vs ⟨_, _, e, ⟨n, e1, h1⟩, ⟨ds, e2, h2, h3⟩⟩ => ⟨n, ds, by rw [e, e1, e2]; rfl, h1, h2, h3⟩
end
/- The law's intervals as values. No conditions. -/
section
open Go.Proofs Num
def IvT.row (x : IvT) : Prop := x.lo.row ∧ x.hi.row
def TIvs (vs : List V) : Prop := ∃ ds : List IvT, vs = [.cells 6 ds.length (flat IvT.v ds)] ∧ ds.length ≤ 9223372036854775807 ∧ ∀ x ∈ ds, x.row
end
/- Sizes and equality of intervals. No conditions. -/
section
open Go.Proofs
set_option maxRecDepth 100000
set_option linter.unusedSimpArgs false
attribute [local go_sem] r_seq r_skip r_retC r_exitC r_label r_block r_region r_regionW r_xWt r_xW r_cond r_Bt r_Bf r_Ncode r_Nret r_Nexit r_Nblk r_Nblkr r_Nblke r_Nnil r_Es r_Onil r_Oop r_Oif r_Xs r_Gt r_Gf r_wtt r_wtf r_wft r_wff r_wu r_gO r_putS r_putN r_get r_keepN r_keepC r_fr r_fn r_fi r_ff r_fo r_l1 r_l2t r_cun r_cul r_cub r_cui r_cus r_cuis r_cuc r_cusl r_cuti r_cutv r_ven r_vec r_l2f r_l3 r_t1 r_t2 r_t0 r_rt r_rc r_en r_ec r_cM r_oN r_oC r_end r_endt r_endf r_nob0 r_nobN r_nobC r_nobE r_nb0 r_nbi r_nbs r_nbsl r_nbin r_nbce r_nLn r_nLv r_nLc r_nAa r_nAn r_nAk_b r_nAk_i r_nAk_s r_nAk_n r_nAk_is r_nAk_ce r_nAk_fp r_nAk_sl r_nAk_pt r_nAk_fn r_nsn r_nsv r_nsc r_m0 r_mi r_ms r_msl r_min r_mce r_mLn r_mLv r_mLc r_mAa r_mAn r_mAk_b r_mAk_i r_mAk_s r_mAk_n r_mAk_is r_mAk_ce r_mAk_fp r_mAk_sl r_mAk_pt r_mAk_fn r_msn r_msv r_msc r_atb r_ati r_ats r_atn r_atis r_atc r_atf r_atl r_atp r_atfn r_gcn r_gcc r_gLn r_gLc r_gIt r_ndn r_ndc r_gcB r_gLB r_two r_rea r_rea0 r_re1n r_re1c r_ori r_orv r_ord r_orn r_adn r_adc r_ad1 r_ern r_ers r_er0 r_rsl r_rptr r_rb r_ri r_rs r_rn r_ris r_rce r_rfp r_ra4 r_ra3 r_rt4 r_rf4 r_rf3 r_idS r_idc r_nS r_nP r_nF r_nT r_vsl r_vptr r_vb r_vi r_vs r_vn r_vis r_vce r_vfp r_va4 r_va3 r_vt4 r_vf4 r_vf3 r_rV r_Oi r_Ov r_Od r_rE r_rE0 r_En r_Ec r_E0 r_pO r_pk r_agL r_cO r_fO r_fSi r_fSv r_fPv r_fsl r_fptr r_ffn r_fag r_fb r_fint r_fstr r_fnil r_fis r_fce r_ffp r_res r_move r_assign r_pick r_pickt r_pickf r_alloc r_box r_al r_build r_bslice r_load r_store r_nlc r_nl1 r_nl2 r_bin r_un r_conv r_mkf r_mks r_slc r_fad r_fld r_iad r_idx r_ext r_ex1 r_callf r_callt r_callen r_calapp r_calmax r_calmin r_vt r_vcb r_vci r_vcs r_vcnp r_vcn r_vca r_vcf r_vcg r_ofb r_ofi r_ofs r_ofn r_evs r_pn r_prt r_pc r_one_a r_one_b r_one_i r_one_s r_one_n r_one_is r_one_ce r_one_fp r_one_sl r_one_pt r_one_fn r_cs_a r_cs_b r_cs_i r_cs_s r_cs_n r_cs_is r_cs_ce r_cs_fp r_cs_sl r_cs_pt r_cs_fn r_tov r_tovA r_toc r_toa r_tb r_ti r_ts r_tn r_bd r_bd2 r_filn r_fp1 r_filc r_fsn r_fsc r_san r_sac r_bs2 r_bs1 r_newO r_mkq r_mkI r_mkOi r_mkOv r_tIn r_tIc r_repz r_repn r_ldp r_ldf r_l1t r_l1f r_lFt r_lFf r_aggO r_obj r_at r_ati' r_atv r_celli r_cellv r_subi r_subv r_sto r_sto1 r_sto2 r_sets r_setR r_setn r_setc r_s1i r_s1v r_bin1 r_bin2 r_tv1 r_cb r_ci r_cst r_cn r_csl r_cis r_cce r_uni r_unb r_cv r_cvO r_cvN r_cv0 r_cvS r_wB r_cvi r_cvs r_cvb r_cvl r_sO r_rdn r_rdi r_rdl r_rdO r_vsub r_vfn r_mk r_mk1 r_mk2 r_zoi r_zov r_leni r_lenv r_bn r_bndV r_bo r_sl0 r_sl1 r_vsz r_ct1 r_cts r_cti r_ctc r_ctn r_lnl r_lni r_lnc r_lnn r_fa r_fap r_faf r_fi1 r_fit r_fif r_ixi r_ixs r_ixc r_ixf r_ixF r_ixF2 r_ix1 r_ixsl r_ixin r_ixce r_len1 r_lenA r_lTs r_lTn r_lTl r_lTi r_lTc r_app0 r_app r_app1 r_app2 r_app3 r_catO r_cati r_catv r_newt r_newf r_pair r_pairK r_trip r_kis r_kiv r_srn r_srl r_sri r_src r_srs r_oln r_oll r_vw r_wi r_wv r_mm r_max r_min' r_str r_cF r_c2t r_c3f r_c3t r_ab r_c2f r_cV r_p1 r_la r_la2t r_la2f r_la3 r_sh r_z_is r_z_ce r_z_fp r_z_b r_z_i r_z_s r_z_n r_z_l r_z_p r_z_a4 r_z_a3 r_z_t4 r_zoI r_zoV r_roN r_roC r_roi r_rod r_zod r_rov r_aR r_trOi r_trOv r_trPv r_trl r_trp r_trf r_tra r_trb r_tri r_trs r_trn r_tris r_trce r_trfp r_vJ r_vJs r_vJn
attribute [local go_sem] b_add b_sub b_mul b_quo b_rem b_shl b_shr b_eql b_neq b_lss b_leq b_gtr b_geq eqB_s b_eqB b_neB u_neg u_not b_nn b_nn' eqS_s zerosT_s zerosT_n zt_i zt_sl zt_st dstOf_z dstOf_n iltT iltF ileT ileF ieqT ieqF nltT nltF nleT nleF neqT neqF tdiv_pos tmod_pos w64 idx0 List.take_of_length_le
open Num
section
variable {v w : IvT} {left : Int}
def IvT.small (v : IvT) : Prop := v.lo.l.length ≤ 1048576 ∧ v.hi.l.length ≤ 1048576
theorem eqIv_v (d : Nat) (h : v.small) : vrun Tryd.prog kn (d + 5) 101 [.agg [.bool v.lo.neg, .ints .i64 v.lo.l, .int .i64 v.lo.e, .bool v.hi.neg, .ints .i64 v.hi.l, .int .i64 v.hi.e], .agg [.bool v.lo.neg, .ints .i64 v.lo.l, .int .i64 v.lo.e, .bool v.hi.neg, .ints .i64 v.hi.l, .int .i64 v.hi.e]] [] = some (.bool true, []) := by
  have h1 := fun d => eqDy_v (n1 := v.lo.neg) (n2 := v.lo.neg) (e1 := v.lo.e) (e2 := v.lo.e) d (a := v.lo.l) (b := v.lo.l) (by have := h.1; omega) (by have := h.1; omega)
  have h2 := fun d => eqDy_v (n1 := v.hi.neg) (n2 := v.hi.neg) (e1 := v.hi.e) (e2 := v.hi.e) d (a := v.hi.l) (b := v.hi.l) (by have := h.2; omega) (by have := h.2; omega)
  simp only [decide_true, Bool.and_true] at h1 h2
  rw [vrun_v Tryd.func101 rfl rfl rfl]; simp only [Tryd.f101]
  simp (disch := omega) [go_sem, tab101, h1, h2]
end
end
/- Equality of intervals is decided by the laws' helpers. No conditions. -/
section
open Go.Proofs
set_option maxRecDepth 100000
set_option linter.unusedSimpArgs false
attribute [local go_sem] r_seq r_skip r_retC r_exitC r_label r_block r_region r_regionW r_xWt r_xW r_cond r_Bt r_Bf r_Ncode r_Nret r_Nexit r_Nblk r_Nblkr r_Nblke r_Nnil r_Es r_Onil r_Oop r_Oif r_Xs r_Gt r_Gf r_wtt r_wtf r_wft r_wff r_wu r_gO r_putS r_putN r_get r_keepN r_keepC r_fr r_fn r_fi r_ff r_fo r_l1 r_l2t r_cun r_cul r_cub r_cui r_cus r_cuis r_cuc r_cusl r_cuti r_cutv r_ven r_vec r_l2f r_l3 r_t1 r_t2 r_t0 r_rt r_rc r_en r_ec r_cM r_oN r_oC r_end r_endt r_endf r_nob0 r_nobN r_nobC r_nobE r_nb0 r_nbi r_nbs r_nbsl r_nbin r_nbce r_nLn r_nLv r_nLc r_nAa r_nAn r_nAk_b r_nAk_i r_nAk_s r_nAk_n r_nAk_is r_nAk_ce r_nAk_fp r_nAk_sl r_nAk_pt r_nAk_fn r_nsn r_nsv r_nsc r_m0 r_mi r_ms r_msl r_min r_mce r_mLn r_mLv r_mLc r_mAa r_mAn r_mAk_b r_mAk_i r_mAk_s r_mAk_n r_mAk_is r_mAk_ce r_mAk_fp r_mAk_sl r_mAk_pt r_mAk_fn r_msn r_msv r_msc r_atb r_ati r_ats r_atn r_atis r_atc r_atf r_atl r_atp r_atfn r_gcn r_gcc r_gLn r_gLc r_gIt r_ndn r_ndc r_gcB r_gLB r_two r_rea r_rea0 r_re1n r_re1c r_ori r_orv r_ord r_orn r_adn r_adc r_ad1 r_ern r_ers r_er0 r_rsl r_rptr r_rb r_ri r_rs r_rn r_ris r_rce r_rfp r_ra4 r_ra3 r_rt4 r_rf4 r_rf3 r_idS r_idc r_nS r_nP r_nF r_nT r_vsl r_vptr r_vb r_vi r_vs r_vn r_vis r_vce r_vfp r_va4 r_va3 r_vt4 r_vf4 r_vf3 r_rV r_Oi r_Ov r_Od r_rE r_rE0 r_En r_Ec r_E0 r_pO r_pk r_agL r_cO r_fO r_fSi r_fSv r_fPv r_fsl r_fptr r_ffn r_fag r_fb r_fint r_fstr r_fnil r_fis r_fce r_ffp r_res r_move r_assign r_pick r_pickt r_pickf r_alloc r_box r_al r_build r_bslice r_load r_store r_nlc r_nl1 r_nl2 r_bin r_un r_conv r_mkf r_mks r_slc r_fad r_fld r_iad r_idx r_ext r_ex1 r_callf r_callt r_callen r_calapp r_calmax r_calmin r_vt r_vcb r_vci r_vcs r_vcnp r_vcn r_vca r_vcf r_vcg r_ofb r_ofi r_ofs r_ofn r_evs r_pn r_prt r_pc r_one_a r_one_b r_one_i r_one_s r_one_n r_one_is r_one_ce r_one_fp r_one_sl r_one_pt r_one_fn r_cs_a r_cs_b r_cs_i r_cs_s r_cs_n r_cs_is r_cs_ce r_cs_fp r_cs_sl r_cs_pt r_cs_fn r_tov r_tovA r_toc r_toa r_tb r_ti r_ts r_tn r_bd r_bd2 r_filn r_fp1 r_filc r_fsn r_fsc r_san r_sac r_bs2 r_bs1 r_newO r_mkq r_mkI r_mkOi r_mkOv r_tIn r_tIc r_repz r_repn r_ldp r_ldf r_l1t r_l1f r_lFt r_lFf r_aggO r_obj r_at r_ati' r_atv r_celli r_cellv r_subi r_subv r_sto r_sto1 r_sto2 r_sets r_setR r_setn r_setc r_s1i r_s1v r_bin1 r_bin2 r_tv1 r_cb r_ci r_cst r_cn r_csl r_cis r_cce r_uni r_unb r_cv r_cvO r_cvN r_cv0 r_cvS r_wB r_cvi r_cvs r_cvb r_cvl r_sO r_rdn r_rdi r_rdl r_rdO r_vsub r_vfn r_mk r_mk1 r_mk2 r_zoi r_zov r_leni r_lenv r_bn r_bndV r_bo r_sl0 r_sl1 r_vsz r_ct1 r_cts r_cti r_ctc r_ctn r_lnl r_lni r_lnc r_lnn r_fa r_fap r_faf r_fi1 r_fit r_fif r_ixi r_ixs r_ixc r_ixf r_ixF r_ixF2 r_ix1 r_ixsl r_ixin r_ixce r_len1 r_lenA r_lTs r_lTn r_lTl r_lTi r_lTc r_app0 r_app r_app1 r_app2 r_app3 r_catO r_cati r_catv r_newt r_newf r_pair r_pairK r_trip r_kis r_kiv r_srn r_srl r_sri r_src r_srs r_oln r_oll r_vw r_wi r_wv r_mm r_max r_min' r_str r_cF r_c2t r_c3f r_c3t r_ab r_c2f r_cV r_p1 r_la r_la2t r_la2f r_la3 r_sh r_z_is r_z_ce r_z_fp r_z_b r_z_i r_z_s r_z_n r_z_l r_z_p r_z_a4 r_z_a3 r_z_t4 r_zoI r_zoV r_roN r_roC r_roi r_rod r_zod r_rov r_aR r_trOi r_trOv r_trPv r_trl r_trp r_trf r_tra r_trb r_tri r_trs r_trn r_tris r_trce r_trfp r_vJ r_vJs r_vJn
attribute [local go_sem] b_add b_sub b_mul b_quo b_rem b_shl b_shr b_eql b_neq b_lss b_leq b_gtr b_geq eqB_s b_eqB b_neB u_neg u_not b_nn b_nn' eqS_s zerosT_s zerosT_n zt_i zt_sl zt_st dstOf_z dstOf_n iltT iltF ileT ileF ieqT ieqF nltT nltF nleT nleF neqT neqF tdiv_pos tmod_pos w64 idx0 List.take_of_length_le
open Num
instance : DecidableEq IvT := fun a b => match a, b with
  | ⟨n, l⟩, ⟨m, k⟩ => if h : n = m ∧ l = k then .isTrue (by obtain ⟨rfl, rfl⟩ := h; rfl) else .isFalse (fun q => h (by cases q; exact ⟨rfl, rfl⟩))
theorem dy_ext (x y : DyT) : decide (x = y) = (decide (x.neg = y.neg) && decide (x.l = y.l) && decide (x.e = y.e)) := by
  obtain ⟨a, b, c⟩ := x
  obtain ⟨p, q, r⟩ := y
  simp [Bool.and_assoc]
theorem iv_ext (x y : IvT) : decide (x = y) = (decide (x.lo = y.lo) && decide (x.hi = y.hi)) := by
  obtain ⟨a, b⟩ := x
  obtain ⟨p, q⟩ := y
  simp
theorem eqIv2_v (d : Nat) {v w : IvT} (h : v.small) (h' : w.small) : vrun Tryd.prog kn (d + 5) 101 [.agg [.bool v.lo.neg, .ints .i64 v.lo.l, .int .i64 v.lo.e, .bool v.hi.neg, .ints .i64 v.hi.l, .int .i64 v.hi.e], .agg [.bool w.lo.neg, .ints .i64 w.lo.l, .int .i64 w.lo.e, .bool w.hi.neg, .ints .i64 w.hi.l, .int .i64 w.hi.e]] [] = some (.bool (decide (v = w)), []) := by
  have h1 := fun d => eqDy_v (n1 := v.lo.neg) (n2 := w.lo.neg) (e1 := v.lo.e) (e2 := w.lo.e) d (a := v.lo.l) (b := w.lo.l) (by have := h.1; omega) (by have := h'.1; omega)
  have h2 := fun d => eqDy_v (n1 := v.hi.neg) (n2 := w.hi.neg) (e1 := v.hi.e) (e2 := w.hi.e) d (a := v.hi.l) (b := w.hi.l) (by have := h.2; omega) (by have := h'.2; omega)
  rw [← dy_ext] at h1 h2
  rw [iv_ext]
  cases hq : decide (v.lo = w.lo) <;> rw [hq] at h1
  · rw [vrun_v Tryd.func101 rfl rfl rfl]; simp only [Tryd.f101]
    simp (disch := omega) [go_sem, tab101, h1]
  · cases hr : decide (v.hi = w.hi) <;> rw [hr] at h2
    all_goals
      rw [vrun_v Tryd.func101 rfl rfl rfl]; simp only [Tryd.f101]
      simp (disch := omega) [go_sem, tab101, h1, h2]
end
/- All of some intervals are valid; inclusion. No conditions. -/
section
open Go.Proofs
set_option maxRecDepth 100000
set_option linter.unusedSimpArgs false
attribute [local go_sem] r_seq r_skip r_retC r_exitC r_label r_block r_region r_regionW r_xWt r_xW r_cond r_Bt r_Bf r_Ncode r_Nret r_Nexit r_Nblk r_Nblkr r_Nblke r_Nnil r_Es r_Onil r_Oop r_Oif r_Xs r_Gt r_Gf r_wtt r_wtf r_wft r_wff r_wu r_gO r_putS r_putN r_get r_keepN r_keepC r_fr r_fn r_fi r_ff r_fo r_l1 r_l2t r_cun r_cul r_cub r_cui r_cus r_cuis r_cuc r_cusl r_cuti r_cutv r_ven r_vec r_l2f r_l3 r_t1 r_t2 r_t0 r_rt r_rc r_en r_ec r_cM r_oN r_oC r_end r_endt r_endf r_nob0 r_nobN r_nobC r_nobE r_nb0 r_nbi r_nbs r_nbsl r_nbin r_nbce r_nLn r_nLv r_nLc r_nAa r_nAn r_nAk_b r_nAk_i r_nAk_s r_nAk_n r_nAk_is r_nAk_ce r_nAk_fp r_nAk_sl r_nAk_pt r_nAk_fn r_nsn r_nsv r_nsc r_m0 r_mi r_ms r_msl r_min r_mce r_mLn r_mLv r_mLc r_mAa r_mAn r_mAk_b r_mAk_i r_mAk_s r_mAk_n r_mAk_is r_mAk_ce r_mAk_fp r_mAk_sl r_mAk_pt r_mAk_fn r_msn r_msv r_msc r_atb r_ati r_ats r_atn r_atis r_atc r_atf r_atl r_atp r_atfn r_gcn r_gcc r_gLn r_gLc r_gIt r_ndn r_ndc r_gcB r_gLB r_two r_rea r_rea0 r_re1n r_re1c r_ori r_orv r_ord r_orn r_adn r_adc r_ad1 r_ern r_ers r_er0 r_rsl r_rptr r_rb r_ri r_rs r_rn r_ris r_rce r_rfp r_ra4 r_ra3 r_rt4 r_rf4 r_rf3 r_idS r_idc r_nS r_nP r_nF r_nT r_vsl r_vptr r_vb r_vi r_vs r_vn r_vis r_vce r_vfp r_va4 r_va3 r_vt4 r_vf4 r_vf3 r_rV r_Oi r_Ov r_Od r_rE r_rE0 r_En r_Ec r_E0 r_pO r_pk r_agL r_cO r_fO r_fSi r_fSv r_fPv r_fsl r_fptr r_ffn r_fag r_fb r_fint r_fstr r_fnil r_fis r_fce r_ffp r_res r_move r_assign r_pick r_pickt r_pickf r_alloc r_box r_al r_build r_bslice r_load r_store r_nlc r_nl1 r_nl2 r_bin r_un r_conv r_mkf r_mks r_slc r_fad r_fld r_iad r_idx r_ext r_ex1 r_callf r_callt r_callen r_calapp r_calmax r_calmin r_vt r_vcb r_vci r_vcs r_vcnp r_vcn r_vca r_vcf r_vcg r_ofb r_ofi r_ofs r_ofn r_evs r_pn r_prt r_pc r_one_a r_one_b r_one_i r_one_s r_one_n r_one_is r_one_ce r_one_fp r_one_sl r_one_pt r_one_fn r_cs_a r_cs_b r_cs_i r_cs_s r_cs_n r_cs_is r_cs_ce r_cs_fp r_cs_sl r_cs_pt r_cs_fn r_tov r_tovA r_toc r_toa r_tb r_ti r_ts r_tn r_bd r_bd2 r_filn r_fp1 r_filc r_fsn r_fsc r_san r_sac r_bs2 r_bs1 r_newO r_mkq r_mkI r_mkOi r_mkOv r_tIn r_tIc r_repz r_repn r_ldp r_ldf r_l1t r_l1f r_lFt r_lFf r_aggO r_obj r_at r_ati' r_atv r_celli r_cellv r_subi r_subv r_sto r_sto1 r_sto2 r_sets r_setR r_setn r_setc r_s1i r_s1v r_bin1 r_bin2 r_tv1 r_cb r_ci r_cst r_cn r_csl r_cis r_cce r_uni r_unb r_cv r_cvO r_cvN r_cv0 r_cvS r_wB r_cvi r_cvs r_cvb r_cvl r_sO r_rdn r_rdi r_rdl r_rdO r_vsub r_vfn r_mk r_mk1 r_mk2 r_zoi r_zov r_leni r_lenv r_bn r_bndV r_bo r_sl0 r_sl1 r_vsz r_ct1 r_cts r_cti r_ctc r_ctn r_lnl r_lni r_lnc r_lnn r_fa r_fap r_faf r_fi1 r_fit r_fif r_ixi r_ixs r_ixc r_ixf r_ixF r_ixF2 r_ix1 r_ixsl r_ixin r_ixce r_len1 r_lenA r_lTs r_lTn r_lTl r_lTi r_lTc r_app0 r_app r_app1 r_app2 r_app3 r_catO r_cati r_catv r_newt r_newf r_pair r_pairK r_trip r_kis r_kiv r_srn r_srl r_sri r_src r_srs r_oln r_oll r_vw r_wi r_wv r_mm r_max r_min' r_str r_cF r_c2t r_c3f r_c3t r_ab r_c2f r_cV r_p1 r_la r_la2t r_la2f r_la3 r_sh r_z_is r_z_ce r_z_fp r_z_b r_z_i r_z_s r_z_n r_z_l r_z_p r_z_a4 r_z_a3 r_z_t4 r_zoI r_zoV r_roN r_roC r_roi r_rod r_zod r_rov r_aR r_trOi r_trOv r_trPv r_trl r_trp r_trf r_tra r_trb r_tri r_trs r_trn r_tris r_trce r_trfp r_vJ r_vJs r_vJn
attribute [local go_sem] b_add b_sub b_mul b_quo b_rem b_shl b_shr b_eql b_neq b_lss b_leq b_gtr b_geq eqB_s b_eqB b_neB u_neg u_not b_nn b_nn' eqS_s zerosT_s zerosT_n zt_i zt_sl zt_st dstOf_z dstOf_n iltT iltF ileT ileF ieqT ieqF nltT nltF nleT nleF neqT neqF tdiv_pos tmod_pos w64 idx0 List.take_of_length_le
open Num
theorem IvT.len (x : IvT) : x.v.length = 6 := rfl
section
variable {ds : List IvT} {g : Nat} {caps : List V} {p : IvT → Bool} {call : CallV}
def ixIvS (ds : List IvT) (g : Nat) (caps : List V) (j : Nat) : VE × VH := ([(0, some (.cells 6 ds.length (flat IvT.v ds))), (1, some (.fn (.func g) [] caps)), (7, some (.int .i64 ds.length)), (8, some (.int .i64 j))], [])
def IvT.sz (x : IvT) : Prop := x.lo.sz ∧ x.hi.sz
end
section
variable {v w : IvT}
end
end
/- Sizes and equality of lists of intervals. No conditions. -/
section
open Go.Proofs
set_option maxRecDepth 100000
set_option linter.unusedSimpArgs false
attribute [local go_sem] r_seq r_skip r_retC r_exitC r_label r_block r_region r_regionW r_xWt r_xW r_cond r_Bt r_Bf r_Ncode r_Nret r_Nexit r_Nblk r_Nblkr r_Nblke r_Nnil r_Es r_Onil r_Oop r_Oif r_Xs r_Gt r_Gf r_wtt r_wtf r_wft r_wff r_wu r_gO r_putS r_putN r_get r_keepN r_keepC r_fr r_fn r_fi r_ff r_fo r_l1 r_l2t r_cun r_cul r_cub r_cui r_cus r_cuis r_cuc r_cusl r_cuti r_cutv r_ven r_vec r_l2f r_l3 r_t1 r_t2 r_t0 r_rt r_rc r_en r_ec r_cM r_oN r_oC r_end r_endt r_endf r_nob0 r_nobN r_nobC r_nobE r_nb0 r_nbi r_nbs r_nbsl r_nbin r_nbce r_nLn r_nLv r_nLc r_nAa r_nAn r_nAk_b r_nAk_i r_nAk_s r_nAk_n r_nAk_is r_nAk_ce r_nAk_fp r_nAk_sl r_nAk_pt r_nAk_fn r_nsn r_nsv r_nsc r_m0 r_mi r_ms r_msl r_min r_mce r_mLn r_mLv r_mLc r_mAa r_mAn r_mAk_b r_mAk_i r_mAk_s r_mAk_n r_mAk_is r_mAk_ce r_mAk_fp r_mAk_sl r_mAk_pt r_mAk_fn r_msn r_msv r_msc r_atb r_ati r_ats r_atn r_atis r_atc r_atf r_atl r_atp r_atfn r_gcn r_gcc r_gLn r_gLc r_gIt r_ndn r_ndc r_gcB r_gLB r_two r_rea r_rea0 r_re1n r_re1c r_ori r_orv r_ord r_orn r_adn r_adc r_ad1 r_ern r_ers r_er0 r_rsl r_rptr r_rb r_ri r_rs r_rn r_ris r_rce r_rfp r_ra4 r_ra3 r_rt4 r_rf4 r_rf3 r_idS r_idc r_nS r_nP r_nF r_nT r_vsl r_vptr r_vb r_vi r_vs r_vn r_vis r_vce r_vfp r_va4 r_va3 r_vt4 r_vf4 r_vf3 r_rV r_Oi r_Ov r_Od r_rE r_rE0 r_En r_Ec r_E0 r_pO r_pk r_agL r_cO r_fO r_fSi r_fSv r_fPv r_fsl r_fptr r_ffn r_fag r_fb r_fint r_fstr r_fnil r_fis r_fce r_ffp r_res r_move r_assign r_pick r_pickt r_pickf r_alloc r_box r_al r_build r_bslice r_load r_store r_nlc r_nl1 r_nl2 r_bin r_un r_conv r_mkf r_mks r_slc r_fad r_fld r_iad r_idx r_ext r_ex1 r_callf r_callt r_callen r_calapp r_calmax r_calmin r_vt r_vcb r_vci r_vcs r_vcnp r_vcn r_vca r_vcf r_vcg r_ofb r_ofi r_ofs r_ofn r_evs r_pn r_prt r_pc r_one_a r_one_b r_one_i r_one_s r_one_n r_one_is r_one_ce r_one_fp r_one_sl r_one_pt r_one_fn r_cs_a r_cs_b r_cs_i r_cs_s r_cs_n r_cs_is r_cs_ce r_cs_fp r_cs_sl r_cs_pt r_cs_fn r_tov r_tovA r_toc r_toa r_tb r_ti r_ts r_tn r_bd r_bd2 r_filn r_fp1 r_filc r_fsn r_fsc r_san r_sac r_bs2 r_bs1 r_newO r_mkq r_mkI r_mkOi r_mkOv r_tIn r_tIc r_repz r_repn r_ldp r_ldf r_l1t r_l1f r_lFt r_lFf r_aggO r_obj r_at r_ati' r_atv r_celli r_cellv r_subi r_subv r_sto r_sto1 r_sto2 r_sets r_setR r_setn r_setc r_s1i r_s1v r_bin1 r_bin2 r_tv1 r_cb r_ci r_cst r_cn r_csl r_cis r_cce r_uni r_unb r_cv r_cvO r_cvN r_cv0 r_cvS r_wB r_cvi r_cvs r_cvb r_cvl r_sO r_rdn r_rdi r_rdl r_rdO r_vsub r_vfn r_mk r_mk1 r_mk2 r_zoi r_zov r_leni r_lenv r_bn r_bndV r_bo r_sl0 r_sl1 r_vsz r_ct1 r_cts r_cti r_ctc r_ctn r_lnl r_lni r_lnc r_lnn r_fa r_fap r_faf r_fi1 r_fit r_fif r_ixi r_ixs r_ixc r_ixf r_ixF r_ixF2 r_ix1 r_ixsl r_ixin r_ixce r_len1 r_lenA r_lTs r_lTn r_lTl r_lTi r_lTc r_app0 r_app r_app1 r_app2 r_app3 r_catO r_cati r_catv r_newt r_newf r_pair r_pairK r_trip r_kis r_kiv r_srn r_srl r_sri r_src r_srs r_oln r_oll r_vw r_wi r_wv r_mm r_max r_min' r_str r_cF r_c2t r_c3f r_c3t r_ab r_c2f r_cV r_p1 r_la r_la2t r_la2f r_la3 r_sh r_z_is r_z_ce r_z_fp r_z_b r_z_i r_z_s r_z_n r_z_l r_z_p r_z_a4 r_z_a3 r_z_t4 r_zoI r_zoV r_roN r_roC r_roi r_rod r_zod r_rov r_aR r_trOi r_trOv r_trPv r_trl r_trp r_trf r_tra r_trb r_tri r_trs r_trn r_tris r_trce r_trfp r_vJ r_vJs r_vJn
attribute [local go_sem] b_add b_sub b_mul b_quo b_rem b_shl b_shr b_eql b_neq b_lss b_leq b_gtr b_geq eqB_s b_eqB b_neB u_neg u_not b_nn b_nn' eqS_s zerosT_s zerosT_n zt_i zt_sl zt_st dstOf_z dstOf_n iltT iltF ileT ileF ieqT ieqF nltT nltF nleT nleF neqT neqF tdiv_pos tmod_pos w64 idx0 List.take_of_length_le
open Num
section
variable {ds es : List IvT} {left : Int}
def szISS (ds : List IvT) (r : Int) (j : Nat) : VE × VH := ([(0, some (.cells 6 ds.length (flat IvT.v ds))), (1, some (.int .i64 r)), (5, some (.int .i64 j))], [])
def eqISS (ds es : List IvT) (j : Nat) : VE × VH := ([(0, some (.cells 6 ds.length (flat IvT.v ds))), (1, some (.cells 6 es.length (flat IvT.v es))), (5, some (.int .i64 j))], [])
theorem eqIvS_v (d : Nat) (hd : ds.length < 1000000000) (he : es.length < 1000000000) (hsd : ∀ x ∈ ds, x.small) (hse : ∀ x ∈ es, x.small) : vrun Tryd.prog kn (d + 6) 71 [.cells 6 ds.length (flat IvT.v ds), .cells 6 es.length (flat IvT.v es)] [] = some (.bool (decide (ds = es)), []) := by
  by_cases hl : ¬ ds.length = es.length
  · have : ¬ ds = es := fun h => hl (by rw [h])
    have h' : ¬ (ds.length : Int) = es.length := by omega
    rw [vrun_v Tryd.func71 rfl rfl rfl]; simp only [Tryd.f71]
    simp (disch := omega) [go_sem, tab71, h', this, hl]
  rw [Decidable.not_not] at hl
  have key := vi_inv (n := kn.cf.rounds) (body := vCode Tryd.prog kn (vrun Tryd.prog kn (d + 5)) 71 (loopAt Tryd.f71 0)) (fun j s => s = eqISS ds es j ∧ ds.take j = es.take j)
    (fun r => (r = some (.exit 0, (eqISS ds es ds.length).1 ++ [(14, some (.bool false))], []) ∧ ds = es) ∨ (r = some (.ret, [(4, some (.bool false))], []) ∧ ¬ ds = es)) ds.length (by rw [k_cf, c_rounds]; omega)
    (fun j s hj hI => by
      obtain ⟨rfl, hI⟩ := hI
      have hj' : j < es.length := by omega
      have hget : ds[j]? = some ds[j] := List.getElem?_eq_getElem hj
      have hget2 : es[j]? = some es[j] := List.getElem?_eq_getElem hj'
      have hlen := hsd _ (List.getElem_mem hj)
      have hlen2 := hse _ (List.getElem_mem hj')
      have hsub : ((flat IvT.v ds).drop (j * 6)).take 6 = [.bool ds[j].lo.neg, .ints .i64 ds[j].lo.l, .int .i64 ds[j].lo.e, .bool ds[j].hi.neg, .ints .i64 ds[j].hi.l, .int .i64 ds[j].hi.e] := flat_sub IvT.len ds j _ hget
      have hsub2 : ((flat IvT.v es).drop (j * 6)).take 6 = [.bool es[j].lo.neg, .ints .i64 es[j].lo.l, .int .i64 es[j].lo.e, .bool es[j].hi.neg, .ints .i64 es[j].hi.l, .int .i64 es[j].hi.e] := flat_sub IvT.len es j _ hget2
      have hne : ds[j] ≠ es[j] → ¬ ds = es := fun hq h => hq (by subst h; rfl)
      generalize ds[j] = x at *
      generalize es[j] = y at *
      have h1 := eqIv2_v d hlen hlen2
      by_cases hq : x = y
      · left
        refine ⟨eqISS ds es (j + 1), ?_, rfl, ?_⟩
        · subst hq
          rw [round_v]; simp only [loopAt, nthC, bodyC, loops, List.nil_append, List.cons_append, List.append_nil, Tryd.f71, eqISS]
          simp only [decide_true, Bool.and_true] at h1
          simp (disch := omega) [go_sem, tab71, hsub, hsub2, h1]
        · rw [List.take_add_one, List.take_add_one, hI, hget, hget2, hq]
      · right; intro m; right
        refine ⟨vi_ret ?_, hne hq⟩
        have hz : decide (x = y) = false := decide_eq_false hq
        rw [hz] at h1
        rw [round_v]; simp only [loopAt, nthC, bodyC, loops, List.nil_append, List.cons_append, List.append_nil, Tryd.f71, eqISS]
        simp (disch := omega) [go_sem, tab71, hsub, hsub2, h1])
    (fun s hI m => by
      obtain ⟨rfl, hI⟩ := hI
      left
      refine ⟨vi_exit ?_, by rwa [List.take_length, hl, List.take_length] at hI⟩
      rw [round_v]; simp only [loopAt, nthC, bodyC, loops, List.nil_append, List.cons_append, List.append_nil, Tryd.f71, eqISS]
      simp (disch := omega) [go_sem, tab71])
    (eqISS ds es 0) ⟨rfl, by simp⟩
  rcases key with ⟨hv, hq⟩ | ⟨hv, hq⟩
  · rw [decide_eq_true hq]
    have hl0 := fun ks => loop_v (P := Tryd.prog) (K := kn) (ks := ks) hv
    simp only [loopAt, nthC, bodyC, loops, List.nil_append, List.cons_append, List.append_nil, Tryd.f71, eqISS, hl, Int.natCast_zero, List.cons_append, List.nil_append] at hl0
    rw [vrun_v Tryd.func71 rfl rfl rfl]; simp only [Tryd.f71]
    simp (disch := omega) [go_sem, tab71, hl, hl0]
  · rw [decide_eq_false hq]
    have hl0 := fun ks => loop_v (P := Tryd.prog) (K := kn) (ks := ks) hv
    simp only [loopAt, nthC, bodyC, loops, List.nil_append, List.cons_append, List.append_nil, Tryd.f71, eqISS, hl, Int.natCast_zero, List.cons_append, List.nil_append] at hl0
    rw [vrun_v Tryd.func71 rfl rfl rfl]; simp only [Tryd.f71]
    simp (disch := omega) [go_sem, tab71, hl, hl0]
theorem eqIvMat_v (d : Nat) {N M : Int} (hd : ds.length < 1000000000) (he : es.length < 1000000000) (hsd : ∀ x ∈ ds, x.small) (hse : ∀ x ∈ es, x.small) : vrun Tryd.prog kn (d + 7) 31 [.agg [.int .i64 N, .cells 6 ds.length (flat IvT.v ds)], .agg [.int .i64 M, .cells 6 es.length (flat IvT.v es)]] [] = some (.bool (decide (N = M) && decide (ds = es)), []) := by
  have h1 := fun d => eqIvS_v d hd he hsd hse
  cases hc : decide (ds = es) <;> rw [hc] at h1 <;> by_cases he : N = M
  all_goals
    rw [vrun_v Tryd.func31 rfl rfl rfl]; simp only [Tryd.f31]
    simp (disch := omega) [go_sem, tab31, h1, he]
end
end
/- The exact laws write marks into lists of intervals that lie in memory of their own, and look whether the marks stand. No conditions. -/
section
open Go.Proofs
set_option maxRecDepth 100000
set_option linter.unusedSimpArgs false
attribute [local go_sem] r_seq r_skip r_retC r_exitC r_label r_block r_region r_regionW r_xWt r_xW r_cond r_Bt r_Bf r_Ncode r_Nret r_Nexit r_Nblk r_Nblkr r_Nblke r_Nnil r_Es r_Onil r_Oop r_Oif r_Xs r_Gt r_Gf r_wtt r_wtf r_wft r_wff r_wu r_gO r_putS r_putN r_get r_keepN r_keepC r_fr r_fn r_fi r_ff r_fo r_l1 r_l2t r_cun r_cul r_cub r_cui r_cus r_cuis r_cuc r_cusl r_cuti r_cutv r_ven r_vec r_l2f r_l3 r_t1 r_t2 r_t0 r_rt r_rc r_en r_ec r_cM r_oN r_oC r_end r_endt r_endf r_nob0 r_nobN r_nobC r_nobE r_nb0 r_nbi r_nbs r_nbsl r_nbin r_nbce r_nLn r_nLv r_nLc r_nAa r_nAn r_nAk_b r_nAk_i r_nAk_s r_nAk_n r_nAk_is r_nAk_ce r_nAk_fp r_nAk_sl r_nAk_pt r_nAk_fn r_nsn r_nsv r_nsc r_m0 r_mi r_ms r_msl r_min r_mce r_mLn r_mLv r_mLc r_mAa r_mAn r_mAk_b r_mAk_i r_mAk_s r_mAk_n r_mAk_is r_mAk_ce r_mAk_fp r_mAk_sl r_mAk_pt r_mAk_fn r_msn r_msv r_msc r_atb r_ati r_ats r_atn r_atis r_atc r_atf r_atl r_atp r_atfn r_gcn r_gcc r_gLn r_gLc r_gIt r_ndn r_ndc r_gcB r_gLB r_two r_rea r_rea0 r_re1n r_re1c r_ori r_orv r_ord r_orn r_adn r_adc r_ad1 r_ern r_ers r_er0 r_rsl r_rptr r_rb r_ri r_rs r_rn r_ris r_rce r_rfp r_ra4 r_ra3 r_rt4 r_rf4 r_rf3 r_idS r_idc r_nS r_nP r_nF r_nT r_vsl r_vptr r_vb r_vi r_vs r_vn r_vis r_vce r_vfp r_va4 r_va3 r_vt4 r_vf4 r_vf3 r_rV r_Oi r_Ov r_Od r_rE r_rE0 r_En r_Ec r_E0 r_pO r_pk r_agL r_cO r_fO r_fSi r_fSv r_fPv r_fsl r_fptr r_ffn r_fag r_fb r_fint r_fstr r_fnil r_fis r_fce r_ffp r_res r_move r_assign r_pick r_pickt r_pickf r_alloc r_box r_al r_build r_bslice r_load r_store r_nlc r_nl1 r_nl2 r_bin r_un r_conv r_mkf r_mks r_slc r_fad r_fld r_iad r_idx r_ext r_ex1 r_callf r_callt r_callen r_calapp r_calmax r_calmin r_vt r_vcb r_vci r_vcs r_vcnp r_vcn r_vca r_vcf r_vcg r_ofb r_ofi r_ofs r_ofn r_evs r_pn r_prt r_pc r_one_a r_one_b r_one_i r_one_s r_one_n r_one_is r_one_ce r_one_fp r_one_sl r_one_pt r_one_fn r_cs_a r_cs_b r_cs_i r_cs_s r_cs_n r_cs_is r_cs_ce r_cs_fp r_cs_sl r_cs_pt r_cs_fn r_tov r_tovA r_toc r_toa r_tb r_ti r_ts r_tn r_bd r_bd2 r_filn r_fp1 r_filc r_fsn r_fsc r_san r_sac r_bs2 r_bs1 r_newO r_mkq r_mkI r_mkOi r_mkOv r_tIn r_tIc r_repz r_repn r_ldp r_ldf r_l1t r_l1f r_lFt r_lFf r_aggO r_obj r_at r_ati' r_atv r_celli r_cellv r_subi r_subv r_sto r_sto1 r_sto2 r_sets r_setR r_setn r_setc r_s1i r_s1v r_bin1 r_bin2 r_tv1 r_cb r_ci r_cst r_cn r_csl r_cis r_cce r_uni r_unb r_cv r_cvO r_cvN r_cv0 r_cvS r_wB r_cvi r_cvs r_cvb r_cvl r_sO r_rdn r_rdi r_rdl r_rdO r_vsub r_vfn r_mk r_mk1 r_mk2 r_zoi r_zov r_leni r_lenv r_bn r_bndV r_bo r_sl0 r_sl1 r_vsz r_ct1 r_cts r_cti r_ctc r_ctn r_lnl r_lni r_lnc r_lnn r_fa r_fap r_faf r_fi1 r_fit r_fif r_ixi r_ixs r_ixc r_ixf r_ixF r_ixF2 r_ix1 r_ixsl r_ixin r_ixce r_len1 r_lenA r_lTs r_lTn r_lTl r_lTi r_lTc r_app0 r_app r_app1 r_app2 r_app3 r_catO r_cati r_catv r_newt r_newf r_pair r_pairK r_trip r_kis r_kiv r_srn r_srl r_sri r_src r_srs r_oln r_oll r_vw r_wi r_wv r_mm r_max r_min' r_str r_cF r_c2t r_c3f r_c3t r_ab r_c2f r_cV r_p1 r_la r_la2t r_la2f r_la3 r_sh r_z_is r_z_ce r_z_fp r_z_b r_z_i r_z_s r_z_n r_z_l r_z_p r_z_a4 r_z_a3 r_z_t4 r_zoI r_zoV r_roN r_roC r_roi r_rod r_zod r_rov r_aR r_trOi r_trOv r_trPv r_trl r_trp r_trf r_tra r_trb r_tri r_trs r_trn r_tris r_trce r_trfp r_vJ r_vJs r_vJn
attribute [local go_sem] b_add b_sub b_mul b_quo b_rem b_shl b_shr b_eql b_neq b_lss b_leq b_gtr b_geq eqB_s b_eqB b_neB u_neg u_not b_nn b_nn' eqS_s zerosT_s zerosT_n zt_i zt_sl zt_st dstOf_z dstOf_n iltT iltF ileT ileF ieqT ieqF nltT nltF nleT nleF neqT neqF tdiv_pos tmod_pos w64 idx0 List.take_of_length_le
open Num
section
variable {h : VH} {i lo hi n : Nat} {p : Nat → Nat} {ds : List DyT} {k : Int}
def mkIS (i n : Nat) (kj : Int) (j : Nat) : VE := [(0, some (.sl i 0 n 6)), (1, some (.int .i64 kj)), (5, some (.int .i64 j))]
set_option maxHeartbeats 2000000 in
theorem markIvS_r (d : Nat) {g : VH} {A R : List DyT} {x y : DyT} {kj : Int} {j : Nat} (b : HM lo hi g i p (A ++ x :: y :: R)) (hA : A.length = 2 * j) (hj : j < n) (hn : n < 10000000) (hx : x.l.length < 10000000) (hy : y.l.length < 10000000) (hk : 0 ≤ kj) (hk2 : kj < 100000000) :
    vCode Tryd.prog kn (vrun Tryd.prog kn (d + 1)) 72 (loopAt Tryd.f72 0) (mkIS i n kj j) g = some (.norm, mkIS i n (kj + 1 + x.l.length + 1 + 1 + y.l.length + 1) (j + 1), stp (stp g i p A x (mkO1 x kj) (y :: R)) i p (A ++ [mkO1 x kj]) y (mkO1 y (kj + 1 + x.l.length + 1)) R) := by
  have hc := b.c
  rw [cellsP_app, cellsP, cellsP, Nat.zero_add, hA] at hc
  have hp1 := b.e (2 * j) x (by rw [List.getElem?_append_right (by omega), hA, Nat.sub_self]; rfl)
  have hp2 := b.e (2 * j + 1) y (by rw [List.getElem?_append_right (by omega), hA, show 2 * j + 1 - 2 * j = 1 by omega]; rfl)
  have hn1 : p (2 * j) ≠ i := b.ne (by simp; omega)
  have hn2 : p (2 * j + 1) ≠ i := b.ne (by simp; omega)
  have hn3 : p (2 * j + 1) ≠ p (2 * j) := fun e => by have := b.inj _ _ (by simp; omega) (by simp; omega) e; omega
  have hil := (List.getElem?_eq_some_iff.1 hc).1
  have hl1 := (List.getElem?_eq_some_iff.1 hp1).1
  have hl2 := (List.getElem?_eq_some_iff.1 hp2).1
  have hCA : (cellsP p 0 A).length = j * 6 := by rw [cellsP_len, hA]; omega
  unfold stp mkO1
  simp only [cellsP_app, cellsP, Nat.zero_add, List.length_append, List.length_cons, List.length_nil, hA, List.append_assoc, List.cons_append, List.nil_append, iota_len]
  generalize cellsP p 0 A = C at *
  generalize cellsP p (2 * j + 1 + 1) R = Z at *
  generalize p (2 * j) = P1 at *
  generalize p (2 * j + 1) = P2 at *
  clear b
  have s0 : ∀ (u v : V) (r : List V), (C ++ u :: r).set (j * 6) v = C ++ v :: r := fun u v r => by rw [List.set_append_right _ _ (by omega), hCA, Nat.sub_self]; rfl
  have s2 : ∀ (a b u v : V) (r : List V), (C ++ a :: b :: u :: r).set (j * 6 + 2) v = C ++ a :: b :: v :: r := fun a b u v r => by rw [List.set_append_right _ _ (by omega), hCA, show j * 6 + 2 - j * 6 = 2 by omega]; rfl
  have s3 : ∀ (a b c u v : V) (r : List V), (C ++ a :: b :: c :: u :: r).set (j * 6 + 3) v = C ++ a :: b :: c :: v :: r := fun a b c u v r => by rw [List.set_append_right _ _ (by omega), hCA, show j * 6 + 3 - j * 6 = 3 by omega]; rfl
  have s5 : ∀ (a b c e f u v : V) (r : List V), (C ++ a :: b :: c :: e :: f :: u :: r).set (j * 6 + 5) v = C ++ a :: b :: c :: e :: f :: v :: r := fun a b c e f u v r => by rw [List.set_append_right _ _ (by omega), hCA, show j * 6 + 5 - j * 6 = 5 by omega]; rfl
  have g1 : ∀ (u w : V) (r : List V), (C ++ u :: w :: r)[j * 6 + 1]? = some w := fun u w r => by rw [List.getElem?_append_right (by omega), hCA, show j * 6 + 1 - j * 6 = 1 by omega]; rfl
  have g4 : ∀ (a b c u w : V) (r : List V), (C ++ a :: b :: c :: u :: w :: r)[j * 6 + 4]? = some w := fun a b c u w r => by rw [List.getElem?_append_right (by omega), hCA, show j * 6 + 4 - j * 6 = 4 by omega]; rfl
  have gx1 : ∀ X, (g.set i X)[i]? = some X := fun X => by simp [hil]
  have gx2 : ∀ X Y Z, (((g.set i X).set P1 Y).set i Z)[i]? = some Z := fun X Y Z => by simp [hil]
  have gx3 : ∀ X Y Z W V, (((((g.set i X).set P1 Y).set i Z).set P2 W).set i V)[i]? = some V := fun X Y Z W V => by simp [hil]
  have gn1 : ∀ (h' : VH) X, (h'.set i X)[P1]? = h'[P1]? := fun h' X => List.getElem?_set_ne (Ne.symm hn1)
  have gn2 : ∀ (h' : VH) X, (h'.set i X)[P2]? = h'[P2]? := fun h' X => List.getElem?_set_ne (Ne.symm hn2)
  have gi1 : ∀ (h' : VH) X, (h'.set P1 X)[i]? = h'[i]? := fun h' X => List.getElem?_set_ne hn1
  have gi2 : ∀ (h' : VH) X, (h'.set P2 X)[i]? = h'[i]? := fun h' X => List.getElem?_set_ne hn2
  have gi3 : ∀ (h' : VH) X, (h'.set P1 X)[P2]? = h'[P2]? := fun h' X => List.getElem?_set_ne (Ne.symm hn3)
  clear hil hl1 hl2
  rw [round_v]; simp only [loopAt, nthC, bodyC, loops, List.nil_append, List.cons_append, List.append_nil, Tryd.f72, mkIS]
  simp (implicitDefEqProofs := false) (disch := omega) [go_sem, tab72, hc, hp1, hp2, markIntS_s, mkStep_i, s0, s2, s3, s5, g1, g4, gx1, gx2, gx3, gn1, gn2, gi1, gi2, gi3, hCA, iota_len]
end
end
/- Marks in lists of intervals, as calls. No conditions. -/
section
open Go.Proofs
set_option maxRecDepth 100000
set_option linter.unusedSimpArgs false
attribute [local go_sem] r_seq r_skip r_retC r_exitC r_label r_block r_region r_regionW r_xWt r_xW r_cond r_Bt r_Bf r_Ncode r_Nret r_Nexit r_Nblk r_Nblkr r_Nblke r_Nnil r_Es r_Onil r_Oop r_Oif r_Xs r_Gt r_Gf r_wtt r_wtf r_wft r_wff r_wu r_gO r_putS r_putN r_get r_keepN r_keepC r_fr r_fn r_fi r_ff r_fo r_l1 r_l2t r_cun r_cul r_cub r_cui r_cus r_cuis r_cuc r_cusl r_cuti r_cutv r_ven r_vec r_l2f r_l3 r_t1 r_t2 r_t0 r_rt r_rc r_en r_ec r_cM r_oN r_oC r_end r_endt r_endf r_nob0 r_nobN r_nobC r_nobE r_nb0 r_nbi r_nbs r_nbsl r_nbin r_nbce r_nLn r_nLv r_nLc r_nAa r_nAn r_nAk_b r_nAk_i r_nAk_s r_nAk_n r_nAk_is r_nAk_ce r_nAk_fp r_nAk_sl r_nAk_pt r_nAk_fn r_nsn r_nsv r_nsc r_m0 r_mi r_ms r_msl r_min r_mce r_mLn r_mLv r_mLc r_mAa r_mAn r_mAk_b r_mAk_i r_mAk_s r_mAk_n r_mAk_is r_mAk_ce r_mAk_fp r_mAk_sl r_mAk_pt r_mAk_fn r_msn r_msv r_msc r_atb r_ati r_ats r_atn r_atis r_atc r_atf r_atl r_atp r_atfn r_gcn r_gcc r_gLn r_gLc r_gIt r_ndn r_ndc r_gcB r_gLB r_two r_rea r_rea0 r_re1n r_re1c r_ori r_orv r_ord r_orn r_adn r_adc r_ad1 r_ern r_ers r_er0 r_rsl r_rptr r_rb r_ri r_rs r_rn r_ris r_rce r_rfp r_ra4 r_ra3 r_rt4 r_rf4 r_rf3 r_idS r_idc r_nS r_nP r_nF r_nT r_vsl r_vptr r_vb r_vi r_vs r_vn r_vis r_vce r_vfp r_va4 r_va3 r_vt4 r_vf4 r_vf3 r_rV r_Oi r_Ov r_Od r_rE r_rE0 r_En r_Ec r_E0 r_pO r_pk r_agL r_cO r_fO r_fSi r_fSv r_fPv r_fsl r_fptr r_ffn r_fag r_fb r_fint r_fstr r_fnil r_fis r_fce r_ffp r_res r_move r_assign r_pick r_pickt r_pickf r_alloc r_box r_al r_build r_bslice r_load r_store r_nlc r_nl1 r_nl2 r_bin r_un r_conv r_mkf r_mks r_slc r_fad r_fld r_iad r_idx r_ext r_ex1 r_callf r_callt r_callen r_calapp r_calmax r_calmin r_vt r_vcb r_vci r_vcs r_vcnp r_vcn r_vca r_vcf r_vcg r_ofb r_ofi r_ofs r_ofn r_evs r_pn r_prt r_pc r_one_a r_one_b r_one_i r_one_s r_one_n r_one_is r_one_ce r_one_fp r_one_sl r_one_pt r_one_fn r_cs_a r_cs_b r_cs_i r_cs_s r_cs_n r_cs_is r_cs_ce r_cs_fp r_cs_sl r_cs_pt r_cs_fn r_tov r_tovA r_toc r_toa r_tb r_ti r_ts r_tn r_bd r_bd2 r_filn r_fp1 r_filc r_fsn r_fsc r_san r_sac r_bs2 r_bs1 r_newO r_mkq r_mkI r_mkOi r_mkOv r_tIn r_tIc r_repz r_repn r_ldp r_ldf r_l1t r_l1f r_lFt r_lFf r_aggO r_obj r_at r_ati' r_atv r_celli r_cellv r_subi r_subv r_sto r_sto1 r_sto2 r_sets r_setR r_setn r_setc r_s1i r_s1v r_bin1 r_bin2 r_tv1 r_cb r_ci r_cst r_cn r_csl r_cis r_cce r_uni r_unb r_cv r_cvO r_cvN r_cv0 r_cvS r_wB r_cvi r_cvs r_cvb r_cvl r_sO r_rdn r_rdi r_rdl r_rdO r_vsub r_vfn r_mk r_mk1 r_mk2 r_zoi r_zov r_leni r_lenv r_bn r_bndV r_bo r_sl0 r_sl1 r_vsz r_ct1 r_cts r_cti r_ctc r_ctn r_lnl r_lni r_lnc r_lnn r_fa r_fap r_faf r_fi1 r_fit r_fif r_ixi r_ixs r_ixc r_ixf r_ixF r_ixF2 r_ix1 r_ixsl r_ixin r_ixce r_len1 r_lenA r_lTs r_lTn r_lTl r_lTi r_lTc r_app0 r_app r_app1 r_app2 r_app3 r_catO r_cati r_catv r_newt r_newf r_pair r_pairK r_trip r_kis r_kiv r_srn r_srl r_sri r_src r_srs r_oln r_oll r_vw r_wi r_wv r_mm r_max r_min' r_str r_cF r_c2t r_c3f r_c3t r_ab r_c2f r_cV r_p1 r_la r_la2t r_la2f r_la3 r_sh r_z_is r_z_ce r_z_fp r_z_b r_z_i r_z_s r_z_n r_z_l r_z_p r_z_a4 r_z_a3 r_z_t4 r_zoI r_zoV r_roN r_roC r_roi r_rod r_zod r_rov r_aR r_trOi r_trOv r_trPv r_trl r_trp r_trf r_tra r_trb r_tri r_trs r_trn r_tris r_trce r_trfp r_vJ r_vJs r_vJn
attribute [local go_sem] b_add b_sub b_mul b_quo b_rem b_shl b_shr b_eql b_neq b_lss b_leq b_gtr b_geq eqB_s b_eqB b_neB u_neg u_not b_nn b_nn' eqS_s zerosT_s zerosT_n zt_i zt_sl zt_st dstOf_z dstOf_n iltT iltF ileT ileF ieqT ieqF nltT nltF nleT nleF neqT neqF tdiv_pos tmod_pos w64 idx0 List.take_of_length_le
open Num
theorem sub6 {L : List DyT} {j : Nat} {x y : DyT} (hx : L[2 * j]? = some x) (hy : L[2 * j + 1]? = some y) : ((flat DyT.v L).drop (j * 6)).take 6 = [.bool x.neg, .ints .i64 x.l, .int .i64 x.e, .bool y.neg, .ints .i64 y.l, .int .i64 y.e] := by
  have h1 := flat_sub DyT.len L _ _ hx
  have h2 := flat_sub DyT.len L _ _ hy
  rw [show 6 = 3 + 3 from rfl, List.take_add, List.drop_drop, show j * (3 + 3) = 2 * j * 3 by omega, show 2 * j * 3 + 3 = (2 * j + 1) * 3 by omega, h1, h2]; rfl
section
variable {h : VH} {i lo hi n : Nat} {p : Nat → Nat} {ds : List DyT} {k N : Int}
theorem two {j : Nat} (hl : ds.length = 2 * n) (hj : j < n) : ∃ x y, ds[2 * j]? = some x ∧ ds[2 * j + 1]? = some y ∧ x ∈ ds ∧ y ∈ ds ∧ ds.drop (2 * j) = x :: y :: ds.drop (2 * j + 2) ∧ ds.take (2 * (j + 1)) = ds.take (2 * j) ++ [x, y] := by
  have h1 : 2 * j < ds.length := by omega
  have h2 : 2 * j + 1 < ds.length := by omega
  refine ⟨ds[2 * j], ds[2 * j + 1], List.getElem?_eq_getElem h1, List.getElem?_eq_getElem h2, List.getElem_mem _, List.getElem_mem _, ?_, ?_⟩
  · rw [List.drop_eq_getElem_cons h1, List.drop_eq_getElem_cons h2]
  · rw [show 2 * (j + 1) = 2 * j + 1 + 1 by omega, List.take_add_one, List.take_add_one, List.getElem?_eq_getElem h1, List.getElem?_eq_getElem h2, List.append_assoc]; rfl
theorem markIvS_v (d : Nat) (a : HM lo hi h i p ds) (hl : ds.length = 2 * n) (hn : n < 5000000) (hs : ∀ x ∈ ds, x.l.length < 10000000) (hk : 0 ≤ k) (hw : k + wt ds < 100000000) :
    ∃ g, vrun Tryd.prog kn (d + 2) 72 [.sl i 0 n 6, .int .i64 k] h = some (.int .i64 (mkE ds k), g) ∧ HM lo hi g i p (mkds ds k) ∧ g.length = h.length ∧ ∀ q, q < lo ∨ hi ≤ q → g[q]? = h[q]? := by
  have key := vi_inv (n := kn.cf.rounds) (body := vCode Tryd.prog kn (vrun Tryd.prog kn (d + 1)) 72 (loopAt Tryd.f72 0))
    (fun j s => ∃ g, s = (mkIS i n (mkE (ds.take (2 * j)) k) j, g) ∧ HM lo hi g i p (mkds (ds.take (2 * j)) k ++ ds.drop (2 * j)) ∧ g.length = h.length ∧ ∀ q, q < lo ∨ hi ≤ q → g[q]? = h[q]?)
    (fun r => ∃ g, r = some (.exit 0, mkIS i n (mkE ds k) n ++ [(9, some (.bool false))], g) ∧ HM lo hi g i p (mkds ds k) ∧ g.length = h.length ∧ ∀ q, q < lo ∨ hi ≤ q → g[q]? = h[q]?) n (by rw [k_cf, c_rounds]; omega)
    (fun j s hj hI => by
      obtain ⟨g, rfl, b, hgl, hfr⟩ := hI
      left
      obtain ⟨x, y, hx, hy, mx, my, hd, ht⟩ := two hl hj
      have hwj := wt_take (ds := ds) (2 * (j + 1))
      have hkj := mkE_wt (ds.take (2 * j)) k
      rw [ht, wt_app] at hwj
      simp only [wt] at hwj
      have e1 : mkE (ds.take (2 * (j + 1))) k = mkE (ds.take (2 * j)) k + 1 + x.l.length + 1 + 1 + y.l.length + 1 := by
        rw [ht, mkE_app]; rfl
      have e2 : mkds (ds.take (2 * (j + 1))) k = mkds (ds.take (2 * j)) k ++ [mkO1 x (mkE (ds.take (2 * j)) k), mkO1 y (mkE (ds.take (2 * j)) k + 1 + x.l.length + 1)] := by
        rw [ht, mkds_app]; rfl
      have hA : (mkds (ds.take (2 * j)) k).length = 2 * j := by rw [mkds_len, List.length_take]; omega
      rw [hd] at b
      rw [e1, e2, show 2 * (j + 1) = 2 * j + 2 by omega]
      generalize mkds (ds.take (2 * j)) k = A at *
      generalize mkE (ds.take (2 * j)) k = kj at *
      generalize ds.drop (2 * j + 2) = R at *
      have st := b.step (y := mkO1 x kj) (iota_len _ _)
      rw [show A ++ mkO1 x kj :: y :: R = (A ++ [mkO1 x kj]) ++ y :: R by simp] at st
      have st2 := st.step (y := mkO1 y (kj + 1 + x.l.length + 1)) (iota_len _ _)
      refine ⟨_, markIvS_r d b hA hj (by omega) (hs _ mx) (hs _ my) (by omega) (by omega), _, rfl, by rw [show A ++ [mkO1 x kj, mkO1 y (kj + 1 + x.l.length + 1)] ++ R = (A ++ [mkO1 x kj]) ++ mkO1 y (kj + 1 + x.l.length + 1) :: R by simp]; exact st2, by rw [stp_len, stp_len]; exact hgl, fun q hq => by rw [st.stp_frame hq, b.stp_frame hq]; exact hfr q hq⟩)
    (fun s hI m => by
      obtain ⟨g, rfl, b, hgl, hfr⟩ := hI
      rw [← hl, List.take_length, List.drop_length, List.append_nil] at b
      refine ⟨g, vi_exit ?_, b, hgl, hfr⟩
      rw [← hl, List.take_length]
      clear b hfr
      rw [round_v]; simp only [loopAt, nthC, bodyC, loops, List.nil_append, List.cons_append, List.append_nil, Tryd.f72, mkIS]
      simp (implicitDefEqProofs := false) (disch := omega) [go_sem, tab72])
    (mkIS i n k 0, h) ⟨h, rfl, by simpa [mkds] using a, rfl, fun _ _ => rfl⟩
  obtain ⟨g, hv, b, hgl, hfr⟩ := key
  have hl0 := fun ks => loop_v (P := Tryd.prog) (K := kn) (ks := ks) hv
  simp only [loopAt, nthC, bodyC, loops, List.nil_append, List.cons_append, List.append_nil, Tryd.f72, mkIS, Int.natCast_zero, List.cons_append, List.nil_append] at hl0
  refine ⟨g, ?_, b, hgl, hfr⟩
  clear hv b hfr a
  rw [vrun_v Tryd.func72 rfl rfl rfl]; simp only [Tryd.f72]
  simp (implicitDefEqProofs := false) (disch := omega) [go_sem, tab72, hl0]
theorem markIvMat_c (d : Nat) (a : HM lo hi h i p ds) (hl : ds.length = 2 * n) (hn : n < 5000000) (hs : ∀ x ∈ ds, x.l.length < 10000000) (hk : 0 ≤ k) (hw : k + wt ds < 100000000) (hh : hi ≤ h.length) :
    ∃ g, vcallF kn (vrun Tryd.prog kn (d + 3)) h 32 (some [.agg [.int .i64 N, .sl i 0 n 6], .int .i64 k]) = some (.int .i64 (mkE ds k), g) ∧ HM lo hi g i p (mkds ds k) ∧ h.length ≤ g.length ∧ ∀ (q : Nat) (o : VO), q < lo ∨ hi ≤ q → h[q]? = some o → g[q]? = some o := by
  obtain ⟨g, hg, b, hgl, hfr⟩ := markIvS_v (h := h ++ [.vals true [.int .i64 N, .sl i 0 n 6]]) (d + 0) (a.app _) hl hn hs hk hw
  refine ⟨g, ?_, b, by rw [hgl]; simp, fun q o hq ho => by rw [hfr q hq]; exact (Sub.app _ _).2 _ _ ho⟩
  have h1 : vrun Tryd.prog kn (d + 3) 32 [.agg [.int .i64 N, .sl i 0 n 6], .int .i64 k] h = some (.int .i64 (mkE ds k), g) := by
    clear a b hfr hs
    rw [vrun_v Tryd.func32 rfl rfl rfl]; simp only [Tryd.f32]
    simp (implicitDefEqProofs := false) (disch := omega) [go_sem, tab32, hg, List.getElem?_concat_length]
  rw [r_cF]
  simpa [go_sem] using h1
def hdIS (ds : List DyT) (n : Nat) (k : Int) (j : Nat) : VE × VH := ([(0, some (.cells 6 n (flat DyT.v (mkds ds k)))), (1, some (.int .i64 (mkE (ds.take (2 * j)) k))), (5, some (.int .i64 j))], [])
set_option maxHeartbeats 2000000 in
theorem heldIvS_v (d : Nat) (hl : ds.length = 2 * n) (hn : n < 5000000) (hs : ∀ x ∈ ds, x.l.length < 10000000) (hk : 0 ≤ k) (hw : k + wt ds < 100000000) : vrun Tryd.prog kn (d + 2) 73 [.cells 6 n (flat DyT.v (mkds ds k)), .int .i64 k] [] = some (.int .i64 (mkE ds k), []) := by
  have hr : ∀ j, j < n → vCode Tryd.prog kn (vrun Tryd.prog kn (d + 1)) 73 (loopAt Tryd.f73 0) (hdIS ds n k j).1 (hdIS ds n k j).2 = some (.norm, hdIS ds n k (j + 1)) := fun j hj => by
    obtain ⟨x, y, hx, hy, mx, my, hd, ht⟩ := two hl hj
    have lx := hs _ mx
    have ly := hs _ my
    have hwj := wt_take (ds := ds) (2 * (j + 1))
    have hkj := mkE_wt (ds.take (2 * j)) k
    rw [ht, wt_app] at hwj
    simp only [wt] at hwj
    have e1 : mkE (ds.take (2 * (j + 1))) k = mkE (ds.take (2 * j)) k + 1 + x.l.length + 1 + 1 + y.l.length + 1 := by
      rw [ht, mkE_app]; rfl
    have ey : mkE (ds.take (2 * j + 1)) k = mkE (ds.take (2 * j)) k + 1 + x.l.length + 1 := by
      rw [List.take_add_one, hx, mkE_app]; rfl
    have hsub := sub6 (mkds_at hx) (mkds_at (k := k) hy)
    rw [ey] at hsub
    unfold hdIS
    rw [e1]
    generalize flat DyT.v (mkds ds k) = F at *
    generalize mkE (ds.take (2 * j)) k = kj at *
    unfold mkO1 at hsub
    simp only at hsub
    have h1 := heldIntS_v (k := kj + 1) (n := x.l.length) d (by omega) (by omega) (by omega)
    have h2 := heldIntS_v (k := kj + 1 + x.l.length + 1 + 1) (n := y.l.length) d (by omega) (by omega) (by omega)
    have hl6 : (([.bool (decide (kj % 3 = 0)), .ints .i64 (iota (kj + 1) x.l.length), .int .i64 (kj + 1 + x.l.length), .bool (decide ((kj + 1 + x.l.length + 1) % 3 = 0)), .ints .i64 (iota (kj + 1 + x.l.length + 1 + 1) y.l.length), .int .i64 (kj + 1 + x.l.length + 1 + 1 + y.l.length)] : List V).length = 6) := rfl
    rw [round_v]; simp only [loopAt, nthC, bodyC, loops, List.nil_append, List.cons_append, List.append_nil, Tryd.f73]
    by_cases hz : kj % 3 = 0 <;> by_cases hz2 : (kj + 1 + x.l.length + 1) % 3 = 0
    all_goals
      simp only [hz, hz2, decide_true, decide_false] at hsub
      simp (implicitDefEqProofs := false) (disch := omega) [go_sem, tab73, hsub, h1, h2, hz, hz2]
  have hx : ∀ call, vCode Tryd.prog kn call 73 (loopAt Tryd.f73 0) (hdIS ds n k n).1 (hdIS ds n k n).2 = some (.exit 0, (hdIS ds n k n).1 ++ [(9, some (.bool false))], (hdIS ds n k n).2) := fun call => by
    rw [round_v]; simp only [loopAt, nthC, bodyC, loops, List.nil_append, List.cons_append, List.append_nil, Tryd.f73, hdIS]
    simp (implicitDefEqProofs := false) (disch := omega) [go_sem, tab73]
  have hl0 := fun ks => loop_v (P := Tryd.prog) (K := kn) (ks := ks) (vi_for (hdIS ds n k) n (n := kn.cf.rounds) (by rw [k_cf, c_rounds]; omega) hr fun m => vi_exit (hx _))
  have et : ds.take (2 * n) = ds := by rw [← hl, List.take_length]
  simp only [loopAt, nthC, bodyC, loops, List.nil_append, List.cons_append, List.append_nil, Tryd.f73, hdIS, Int.natCast_zero, List.cons_append, List.nil_append, Nat.mul_zero, List.take_zero, et, mkE] at hl0
  generalize flat DyT.v (mkds ds k) = F at *
  rw [vrun_v Tryd.func73 rfl rfl rfl]; simp only [Tryd.f73]
  simp (implicitDefEqProofs := false) (disch := omega) [go_sem, tab73, hl0]
theorem heldIvMat_v (d : Nat) (hl : ds.length = 2 * n) (hn : n < 5000000) (hs : ∀ x ∈ ds, x.l.length < 10000000) (hk : 0 ≤ k) (hw : k + wt ds < 100000000) : vrun Tryd.prog kn (d + 3) 33 [.agg [.int .i64 N, .cells 6 n (flat DyT.v (mkds ds k))], .int .i64 k] [] = some (.int .i64 (mkE ds k), []) := by
  have h1 := fun d => heldIvS_v d hl hn hs hk hw
  have h2 := mkE_wt ds k
  generalize flat DyT.v (mkds ds k) = F at *
  rw [vrun_v Tryd.func33 rfl rfl rfl]; simp only [Tryd.f33]
  simp (implicitDefEqProofs := false) (disch := omega) [go_sem, tab33, h1]
theorem HM.frzI (a : HM lo hi h i p ds) (hl : ds.length = 2 * n) (m : Nat) : vfrz h (m + 3) (.agg [.int .i64 N, .sl i 0 n 6]) = some (.agg [.int .i64 N, .cells 6 n (flat DyT.v ds)]) := by
  have h1 := a.frz (n := n) (sz := 6) (m := m) (by omega)
  rw [r_fag, r_oC, r_fint, r_oC, h1]; rfl
theorem heldIvMat_c (d : Nat) (m : HM lo hi h i p (mkds ds k)) (hl : ds.length = 2 * n) (hn : n < 5000000) (hs : ∀ x ∈ ds, x.l.length < 10000000) (hk : 0 ≤ k) (hw : k + wt ds < 100000000) :
    vcallF kn (vrun Tryd.prog kn (d + 3)) h 33 (some [.agg [.int .i64 N, .sl i 0 n 6], .int .i64 k]) = some (.int .i64 (mkE ds k), h) := by
  have h1 := heldIvMat_v d (N := N) hl hn hs hk hw
  have hf := m.frzI (N := N) (n := n) (by rw [mkds_len]; exact hl) 3
  refine callF_frz (fa := [.agg [.int .i64 N, .cells 6 n (flat DyT.v (mkds ds k))], .int .i64 k]) (r := .int .i64 (mkE ds k)) c_pure33 rfl ?_ ?_ ?_ ?_
  · rw [r_oC, hf]; simp [go_sem]
  · simpa [go_sem] using h1
  · simp [go_sem]
  · simp [go_sem]
end
end
/- MatTurn, program. No conditions. -/
section
open Go.Proofs
set_option maxRecDepth 100000
set_option linter.unusedSimpArgs false
attribute [local go_sem] r_seq r_skip r_retC r_exitC r_label r_block r_region r_regionW r_xWt r_xW r_cond r_Bt r_Bf r_Ncode r_Nret r_Nexit r_Nblk r_Nblkr r_Nblke r_Nnil r_Es r_Onil r_Oop r_Oif r_Xs r_Gt r_Gf r_wtt r_wtf r_wft r_wff r_wu r_gO r_putS r_putN r_get r_keepN r_keepC r_fr r_fn r_fi r_ff r_fo r_l1 r_l2t r_cun r_cul r_cub r_cui r_cus r_cuis r_cuc r_cusl r_cuti r_cutv r_ven r_vec r_l2f r_l3 r_t1 r_t2 r_t0 r_rt r_rc r_en r_ec r_cM r_oN r_oC r_end r_endt r_endf r_nob0 r_nobN r_nobC r_nobE r_nb0 r_nbi r_nbs r_nbsl r_nbin r_nbce r_nLn r_nLv r_nLc r_nAa r_nAn r_nAk_b r_nAk_i r_nAk_s r_nAk_n r_nAk_is r_nAk_ce r_nAk_fp r_nAk_sl r_nAk_pt r_nAk_fn r_nsn r_nsv r_nsc r_m0 r_mi r_ms r_msl r_min r_mce r_mLn r_mLv r_mLc r_mAa r_mAn r_mAk_b r_mAk_i r_mAk_s r_mAk_n r_mAk_is r_mAk_ce r_mAk_fp r_mAk_sl r_mAk_pt r_mAk_fn r_msn r_msv r_msc r_atb r_ati r_ats r_atn r_atis r_atc r_atf r_atl r_atp r_atfn r_gcn r_gcc r_gLn r_gLc r_gIt r_ndn r_ndc r_gcB r_gLB r_two r_rea r_rea0 r_re1n r_re1c r_ori r_orv r_ord r_orn r_adn r_adc r_ad1 r_ern r_ers r_er0 r_rsl r_rptr r_rb r_ri r_rs r_rn r_ris r_rce r_rfp r_ra4 r_ra3 r_rt4 r_rf4 r_rf3 r_idS r_idc r_nS r_nP r_nF r_nT r_vsl r_vptr r_vb r_vi r_vs r_vn r_vis r_vce r_vfp r_va4 r_va3 r_vt4 r_vf4 r_vf3 r_rV r_Oi r_Ov r_Od r_rE r_rE0 r_En r_Ec r_E0 r_pO r_pk r_agL r_cO r_fO r_fSi r_fSv r_fPv r_fsl r_fptr r_ffn r_fag r_fb r_fint r_fstr r_fnil r_fis r_fce r_ffp r_res r_move r_assign r_pick r_pickt r_pickf r_alloc r_box r_al r_build r_bslice r_load r_store r_nlc r_nl1 r_nl2 r_bin r_un r_conv r_mkf r_mks r_slc r_fad r_fld r_iad r_idx r_ext r_ex1 r_callf r_callt r_callen r_calapp r_calmax r_calmin r_vt r_vcb r_vci r_vcs r_vcnp r_vcn r_vca r_vcf r_vcg r_ofb r_ofi r_ofs r_ofn r_evs r_pn r_prt r_pc r_one_a r_one_b r_one_i r_one_s r_one_n r_one_is r_one_ce r_one_fp r_one_sl r_one_pt r_one_fn r_cs_a r_cs_b r_cs_i r_cs_s r_cs_n r_cs_is r_cs_ce r_cs_fp r_cs_sl r_cs_pt r_cs_fn r_tov r_tovA r_toc r_toa r_tb r_ti r_ts r_tn r_bd r_bd2 r_filn r_fp1 r_filc r_fsn r_fsc r_san r_sac r_bs2 r_bs1 r_newO r_mkq r_mkI r_mkOi r_mkOv r_tIn r_tIc r_repz r_repn r_ldp r_ldf r_l1t r_l1f r_lFt r_lFf r_aggO r_obj r_at r_ati' r_atv r_celli r_cellv r_subi r_subv r_sto r_sto1 r_sto2 r_sets r_setR r_setn r_setc r_s1i r_s1v r_bin1 r_bin2 r_tv1 r_cb r_ci r_cst r_cn r_csl r_cis r_cce r_uni r_unb r_cv r_cvO r_cvN r_cv0 r_cvS r_wB r_cvi r_cvs r_cvb r_cvl r_sO r_rdn r_rdi r_rdl r_rdO r_vsub r_vfn r_mk r_mk1 r_mk2 r_zoi r_zov r_leni r_lenv r_bn r_bndV r_bo r_sl0 r_sl1 r_vsz r_ct1 r_cts r_cti r_ctc r_ctn r_lnl r_lni r_lnc r_lnn r_fa r_fap r_faf r_fi1 r_fit r_fif r_ixi r_ixs r_ixc r_ixf r_ixF r_ixF2 r_ix1 r_ixsl r_ixin r_ixce r_len1 r_lenA r_lTs r_lTn r_lTl r_lTi r_lTc r_app0 r_app r_app1 r_app2 r_app3 r_catO r_cati r_catv r_newt r_newf r_pair r_pairK r_trip r_kis r_kiv r_srn r_srl r_sri r_src r_srs r_oln r_oll r_vw r_wi r_wv r_mm r_max r_min' r_str r_cF r_c2t r_c3f r_c3t r_ab r_c2f r_cV r_p1 r_la r_la2t r_la2f r_la3 r_sh r_z_is r_z_ce r_z_fp r_z_b r_z_i r_z_s r_z_n r_z_l r_z_p r_z_a4 r_z_a3 r_z_t4 r_zoI r_zoV r_roN r_roC r_roi r_rod r_zod r_rov r_aR r_trOi r_trOv r_trPv r_trl r_trp r_trf r_tra r_trb r_tri r_trs r_trn r_tris r_trce r_trfp r_vJ r_vJs r_vJn
attribute [local go_sem] b_add b_sub b_mul b_quo b_rem b_shl b_shr b_eql b_neq b_lss b_leq b_gtr b_geq eqB_s b_eqB b_neB u_neg u_not b_nn b_nn' eqS_s zerosT_s zerosT_n zt_i zt_sl zt_st dstOf_z dstOf_n iltT iltF ileT ileF ieqT ieqF nltT nltF nleT nleF neqT neqF tdiv_pos tmod_pos w64 idx0 List.take_of_length_le
open Num
section
variable {ds : List DyT} {N : Int} {n : Nat}
theorem mat_h (d : Nat) (hl : ds.length < 1000000) (hx : ∀ x ∈ ds, XOk x) : ∃ (o : VH) (i : Nat) (p : Nat → Nat), Own o i p (xR ds) ∧ ∀ (h : VH), vcallF kn (vrun Tryd.prog kn (d + 7)) h 50 (some [.agg [.int .i64 N, .cells 3 ds.length (flat DyT.v ds)]]) = some (.tup [.agg [.int .i64 (xNm N ds), .sl (h.length + i) 0 (xR ds).length 3], .bool (ds.all xft)], h ++ o.map (shO h.length)) := by
  obtain ⟨o, i, p, h1, w⟩ := mat_v d (N := N) hl hx
  refine ⟨o, i, p, w, fun h => ?_⟩
  refine callF_land (fa := [.agg [.int .i64 N, .cells 3 ds.length (flat DyT.v ds)]]) (r := .tup [.agg [.int .i64 (xNm N ds), .sl i 0 (xR ds).length 3], .bool (ds.all xft)]) c_pure50 rfl (by simp [go_sem]) ?_ (by simp [go_sem]) w.pl (by simp [go_sem])
  clear w
  generalize xR ds = R at *
  generalize xNm N ds = M at *
  generalize ds.all xft = f at *
  simpa [go_sem] using h1
theorem turn1_v (d : Nat) (hn : n ≤ 4) (hl : ds.length = n * n) {i j : Nat} (hi : i < n) (hj : j < n) {x : DyT} (hx : ds[j * n + i]? = some x) : vrun Tryd.prog kn (d + 2) 56 [.int .i64 i, .int .i64 j, .fptr [.int .i64 n, .cells 3 ds.length (flat DyT.v ds)]] [] = some (.agg x.v, []) := by
  have h1 := fun d => at_v (N := (n : Int)) d rfl hn hj hi hl hx
  show _ = some (V.agg [V.bool x.neg, V.ints .i64 x.l, V.int .i64 x.e], [])
  generalize flat DyT.v ds = F at *
  rw [vrun_v Tryd.func56 rfl rfl rfl]; simp only [Tryd.f56]
  simp (implicitDefEqProofs := false) (disch := omega) [go_sem, tab56, h1]
def turnT (N : Int) (ds : List DyT) : List DyT := if matOkB N ds then turnL ds N.toNat else []
def okN0 (N : Int) (ds : List DyT) : Int := if matOkB N ds then N else 0
end
end
section
open Go.Proofs
set_option maxRecDepth 100000
set_option linter.unusedSimpArgs false
attribute [local go_sem] r_seq r_skip r_retC r_exitC r_label r_block r_region r_regionW r_xWt r_xW r_cond r_Bt r_Bf r_Ncode r_Nret r_Nexit r_Nblk r_Nblkr r_Nblke r_Nnil r_Es r_Onil r_Oop r_Oif r_Xs r_Gt r_Gf r_wtt r_wtf r_wft r_wff r_wu r_gO r_putS r_putN r_get r_keepN r_keepC r_fr r_fn r_fi r_ff r_fo r_l1 r_l2t r_cun r_cul r_cub r_cui r_cus r_cuis r_cuc r_cusl r_cuti r_cutv r_ven r_vec r_l2f r_l3 r_t1 r_t2 r_t0 r_rt r_rc r_en r_ec r_cM r_oN r_oC r_end r_endt r_endf r_nob0 r_nobN r_nobC r_nobE r_nb0 r_nbi r_nbs r_nbsl r_nbin r_nbce r_nLn r_nLv r_nLc r_nAa r_nAn r_nAk_b r_nAk_i r_nAk_s r_nAk_n r_nAk_is r_nAk_ce r_nAk_fp r_nAk_sl r_nAk_pt r_nAk_fn r_nsn r_nsv r_nsc r_m0 r_mi r_ms r_msl r_min r_mce r_mLn r_mLv r_mLc r_mAa r_mAn r_mAk_b r_mAk_i r_mAk_s r_mAk_n r_mAk_is r_mAk_ce r_mAk_fp r_mAk_sl r_mAk_pt r_mAk_fn r_msn r_msv r_msc r_atb r_ati r_ats r_atn r_atis r_atc r_atf r_atl r_atp r_atfn r_gcn r_gLn r_gIt r_ndn r_ndc r_gcB r_gLB r_two r_rea r_rea0 r_re1n r_re1c r_ori r_orv r_ord r_orn r_adn r_adc r_ad1 r_ern r_ers r_er0 r_rsl r_rptr r_rb r_ri r_rs r_rn r_ris r_rce r_rfp r_ra4 r_ra3 r_rt4 r_rf4 r_rf3 r_idS r_idc r_nS r_nP r_nF r_nT r_vsl r_vptr r_vb r_vi r_vs r_vn r_vis r_vce r_vfp r_va4 r_va3 r_vt4 r_vf4 r_vf3 r_rV r_Oi r_Ov r_Od r_rE r_rE0 r_En r_Ec r_E0 r_pO r_pk r_agL r_cO r_fO r_fSi r_fSv r_fPv r_fsl r_fptr r_ffn r_fag r_fb r_fint r_fstr r_fnil r_fis r_fce r_ffp r_res r_move r_assign r_pick r_pickt r_pickf r_alloc r_box r_al r_build r_bslice r_load r_store r_nlc r_nl1 r_nl2 r_bin r_un r_conv r_mkf r_mks r_slc r_fad r_fld r_iad r_idx r_ext r_ex1 r_callf r_callt r_callen r_calapp r_calmax r_calmin r_vt r_vcb r_vci r_vcs r_vcnp r_vcn r_vca r_vcf r_vcg r_ofb r_ofi r_ofs r_ofn r_evs r_pn r_prt r_pc r_one_a r_one_b r_one_i r_one_s r_one_n r_one_is r_one_ce r_one_fp r_one_sl r_one_pt r_one_fn r_cs_a r_cs_b r_cs_i r_cs_s r_cs_n r_cs_is r_cs_ce r_cs_fp r_cs_sl r_cs_pt r_cs_fn r_tov r_tovA r_toc r_toa r_tb r_ti r_ts r_tn r_bd r_bd2 r_filn r_fp1 r_filc r_fsn r_fsc r_san r_sac r_bs2 r_bs1 r_newO r_mkq r_mkI r_mkOi r_mkOv r_tIn r_tIc r_repz r_repn r_ldp r_ldf r_l1t r_l1f r_lFt r_lFf r_aggO r_obj r_at r_ati' r_atv r_celli r_cellv r_subi r_subv r_sto r_sto1 r_sto2 r_sets r_setR r_setn r_setc r_s1i r_s1v r_bin1 r_bin2 r_tv1 r_cb r_ci r_cst r_cn r_csl r_cis r_cce r_uni r_unb r_cv r_cvO r_cvN r_cv0 r_cvS r_wB r_cvi r_cvs r_cvb r_cvl r_sO r_rdn r_rdi r_rdl r_rdO r_vsub r_vfn r_mk r_mk1 r_mk2 r_zoi r_zov r_leni r_lenv r_bn r_bndV r_bo r_sl0 r_sl1 r_vsz r_ct1 r_cts r_cti r_ctc r_ctn r_lnl r_lni r_lnc r_lnn r_fa r_fap r_faf r_fi1 r_fit r_fif r_ixi r_ixs r_ixc r_ixf r_ixF r_ixF2 r_ix1 r_ixsl r_ixin r_ixce r_len1 r_lenA r_lTs r_lTn r_lTl r_lTi r_lTc r_app0 r_app r_app1 r_app2 r_app3 r_catO r_cati r_catv r_newt r_newf r_pair r_pairK r_trip r_kis r_kiv r_srn r_srl r_sri r_src r_srs r_oln r_oll r_vw r_wi r_wv r_mm r_max r_min' r_str r_c2t r_c3f r_c3t r_ab r_c2f r_cV r_p1 r_la r_la2t r_la2f r_la3 r_sh r_z_is r_z_ce r_z_fp r_z_b r_z_i r_z_s r_z_n r_z_l r_z_p r_z_a4 r_z_a3 r_z_t4 r_zoI r_zoV r_roN r_roC r_roi r_rod r_zod r_rov r_aR r_trOi r_trOv r_trPv r_trl r_trp r_trf r_tra r_trb r_tri r_trs r_trn r_tris r_trce r_trfp r_vJ r_vJs r_vJn
attribute [local go_sem] b_add b_sub b_mul b_quo b_rem b_shl b_shr b_eql b_neq b_lss b_leq b_gtr b_geq eqB_s b_eqB b_neB u_neg u_not b_nn b_nn' eqS_s zerosT_s zerosT_n zt_i zt_sl zt_st dstOf_z dstOf_n iltT iltF ileT ileF ieqT ieqF nltT nltF nleT nleF neqT neqF tdiv_pos tmod_pos w64 idx0 List.take_of_length_le
open Num
section
variable {ds : List DyT} {N : Int}
theorem MatTurn_v (d : Nat) (hl : ds.length < 100000000) (hs : ∀ x ∈ ds, x.sz) : vrun Tryd.prog kn (d + 18) 22 [.agg [.int .i64 N, .cells 3 ds.length (flat DyT.v ds)]] [] = some (.tup [.agg [.int .i64 (okN0 N ds), .sl 0 0 (turnT N ds).length 3], .bool (matOkB N ds)], mblk 0 (turnT N ds)) := by
  have h1 := fun d => MatOk_v (N := N) d hl hs
  have c1 : ∀ call h args, vcallF kn call h 54 (some args) = vcall2 kn call 54 args h (kn.cf.pure 54) := fun _ _ _ => rfl
  have c2 : ∀ call h args, vcallF kn call h 39 (some args) = vcall2 kn call 39 args h (kn.cf.pure 39) := fun _ _ _ => rfl
  have c3 : ∀ call h args, vcallF kn call h 55 (some args) = vcall2 kn call 55 args h (kn.cf.pure 55) := fun _ _ _ => rfl
  have gc1 : ∀ e a, vgc e [a] = vgcBy (reach [a] 3 (addNs [] (erefs e))) e [a] := fun _ _ => rfl
  have gc2 : ∀ e a b, vgc e [a, b] = vgcBy (reach [a, b] 3 (addNs [] (erefs e))) e [a, b] := fun _ _ _ => rfl
  have gc3 : ∀ e a b c, vgc e [a, b, c] = vgcBy (reach [a, b, c] 3 (addNs [] (erefs e))) e [a, b, c] := fun _ _ _ _ => rfl
  have gl2 : ∀ e a b, vgcL e [a, b] = vgcLBy (reach [a, b] 3 (addNs [] (e.flatMap (vrefs 4)))) e [a, b] := fun _ _ _ => rfl
  unfold turnT okN0
  cases hq : matOkB N ds with
  | false =>
    rw [hq] at h1
    simp only [Bool.false_eq_true, if_false]
    unfold mblk
    simp only [cellsP, List.map_nil]
    rw [vrun_v Tryd.func22 rfl rfl rfl]; simp only [Tryd.f22]
    simp (implicitDefEqProofs := false) (disch := omega) [go_sem, tab22, c1, gc1, gc2, gc3, gl2, h1]
  | true =>
    obtain ⟨n, rfl, n1, n2, hlen, ho⟩ := matOk_t hq
    rw [hq] at h1
    have hnn : n * n ≤ 16 := Nat.mul_le_mul n2 n2
    have h2 := fun d => grid_v (N := (n : Int)) d (ds := ds) (by omega) (by have := Nat.mul_pos n1 n1; omega) (fun y hy => by obtain ⟨e1, x1, _⟩ := okD (ho y hy); rw [e1]; omega)
    have ho' := turnL_all (P := fun x => dyOkB x = true) hlen n1 ho
    obtain ⟨ea, eb⟩ := mkall_ok ho'
    have eR : xR (turnL ds n) = turnL ds n := by unfold xR; rw [eb, ea]; rfl
    have eN : xNm (n : Int) (turnL ds n) = n := by unfold xNm; rw [eb]; rfl
    have tl := turnL_len (ds := ds) (n := n)
    have h3 := fun d => gridOf_v (G := turnL ds n) (g := 56) (caps := [.fptr [.int .i64 n, .cells 3 ds.length (flat DyT.v ds)]]) (d := d + 2) c_pure56 rfl (caps1 _) n1 n2 tl (fun i j x hi hj hx => by
      rw [turnL_at hi hj hlen] at hx
      simpa [go_sem] using turn1_v d n2 hlen hi hj hx)
    obtain ⟨o, i, p, w, h4⟩ := mat_h (N := (n : Int)) (d + 10) (ds := turnL ds n) (by omega) (fun x hx => (XOk_ok (ho' x hx)).1)
    rw [eR, eN, eb] at h4
    rw [eR] at w
    have hm := w.land [.vals true [.int .i64 n, .cells 3 ds.length (flat DyT.v ds)], .vals true [.int .i64 n, .sl (3 + i) 0 (turnL ds n).length 3], .vals false [.int .i64 n, .cells 3 ds.length (flat DyT.v ds)]]
    simp only [List.length_cons, List.length_nil, Nat.zero_add, List.cons_append, List.nil_append, Nat.reduceAdd] at hm
    have g1 := fun s t b => gcE_own hm (N := (n : Int)) (m := (turnL ds n).length) (sz := 3) (c := 1) (s := s) (t := t) (b := b) rfl
    have hm2 := (own_mblk (turnL ds n)).land [.vals true [.int .i64 n, .sl 1 0 (turnL ds n).length 3]]
    simp only [List.length_cons, List.length_nil, Nat.zero_add, List.cons_append, List.nil_append, Nat.reduceAdd, sh_mblk, Nat.add_zero] at hm2
    have g2 := gcL_own hm2 (N := (n : Int)) (m := (turnL ds n).length) (sz := 3) (b := true)
    simp only [if_true, Int.toNat_natCast]
    clear hm hm2 w ho ho' ea eb eR eN hq hs hl
    generalize turnL ds n = T at *
    generalize flat DyT.v ds = F at *
    generalize flat DyT.v T = F' at *
    rw [vrun_v Tryd.func22 rfl rfl rfl]; simp only [Tryd.f22]
    simp (implicitDefEqProofs := false) (disch := omega) [go_sem, tab22, c1, c2, c3, gc1, gc2, gc3, h1, h2, h3, h4, g1, g2]
end
end
/- Numbers as intervals, program: a list of its own. No conditions. -/
section
open Go.Proofs
set_option maxRecDepth 100000
set_option linter.unusedSimpArgs false
attribute [local go_sem] r_seq r_skip r_retC r_exitC r_label r_block r_region r_regionW r_xWt r_xW r_cond r_Bt r_Bf r_Ncode r_Nret r_Nexit r_Nblk r_Nblkr r_Nblke r_Nnil r_Es r_Onil r_Oop r_Oif r_Xs r_Gt r_Gf r_wtt r_wtf r_wft r_wff r_wu r_gO r_putS r_putN r_get r_keepN r_keepC r_fr r_fn r_fi r_ff r_fo r_l1 r_l2t r_cun r_cul r_cub r_cui r_cus r_cuis r_cuc r_cusl r_cuti r_cutv r_ven r_vec r_l2f r_l3 r_t1 r_t2 r_t0 r_rt r_rc r_en r_ec r_cM r_oN r_oC r_end r_endt r_endf r_nob0 r_nobN r_nobC r_nobE r_nb0 r_nbi r_nbs r_nbsl r_nbin r_nbce r_nLn r_nLv r_nLc r_nAa r_nAn r_nAk_b r_nAk_i r_nAk_s r_nAk_n r_nAk_is r_nAk_ce r_nAk_fp r_nAk_sl r_nAk_pt r_nAk_fn r_nsn r_nsv r_nsc r_m0 r_mi r_ms r_msl r_min r_mce r_mLn r_mLv r_mLc r_mAa r_mAn r_mAk_b r_mAk_i r_mAk_s r_mAk_n r_mAk_is r_mAk_ce r_mAk_fp r_mAk_sl r_mAk_pt r_mAk_fn r_msn r_msv r_msc r_atb r_ati r_ats r_atn r_atis r_atc r_atf r_atl r_atp r_atfn r_gcn r_gcc r_gLn r_gLc r_gIt r_ndn r_ndc r_gcB r_gLB r_two r_rea r_rea0 r_re1n r_re1c r_ori r_orv r_ord r_orn r_adn r_adc r_ad1 r_ern r_ers r_er0 r_rsl r_rptr r_rb r_ri r_rs r_rn r_ris r_rce r_rfp r_ra4 r_ra3 r_rt4 r_rf4 r_rf3 r_idS r_idc r_nS r_nP r_nF r_nT r_vsl r_vptr r_vb r_vi r_vs r_vn r_vis r_vce r_vfp r_va4 r_va3 r_vt4 r_vf4 r_vf3 r_rV r_Oi r_Ov r_Od r_rE r_rE0 r_En r_Ec r_E0 r_pO r_pk r_agL r_cO r_fO r_fSi r_fSv r_fPv r_fsl r_fptr r_ffn r_fag r_fb r_fint r_fstr r_fnil r_fis r_fce r_ffp r_res r_move r_assign r_pick r_pickt r_pickf r_alloc r_box r_al r_build r_bslice r_load r_store r_nlc r_nl1 r_nl2 r_bin r_un r_conv r_mkf r_mks r_slc r_fad r_fld r_iad r_idx r_ext r_ex1 r_callf r_callt r_callen r_calapp r_calmax r_calmin r_vt r_vcb r_vci r_vcs r_vcnp r_vcn r_vca r_vcf r_vcg r_ofb r_ofi r_ofs r_ofn r_evs r_pn r_prt r_pc r_one_a r_one_b r_one_i r_one_s r_one_n r_one_is r_one_ce r_one_fp r_one_sl r_one_pt r_one_fn r_cs_a r_cs_b r_cs_i r_cs_s r_cs_n r_cs_is r_cs_ce r_cs_fp r_cs_sl r_cs_pt r_cs_fn r_tov r_tovA r_toc r_toa r_tb r_ti r_ts r_tn r_bd r_bd2 r_filn r_fp1 r_filc r_fsn r_fsc r_san r_sac r_bs2 r_bs1 r_newO r_mkq r_mkI r_mkOi r_mkOv r_tIn r_tIc r_repz r_repn r_ldp r_ldf r_l1t r_l1f r_lFt r_lFf r_aggO r_obj r_at r_ati' r_atv r_celli r_cellv r_subi r_subv r_sto r_sto1 r_sto2 r_sets r_setR r_setn r_setc r_s1i r_s1v r_bin1 r_bin2 r_tv1 r_cb r_ci r_cst r_cn r_csl r_cis r_cce r_uni r_unb r_cv r_cvO r_cvN r_cv0 r_cvS r_wB r_cvi r_cvs r_cvb r_cvl r_sO r_rdn r_rdi r_rdl r_rdO r_vsub r_vfn r_mk r_mk1 r_mk2 r_zoi r_zov r_leni r_lenv r_bn r_bndV r_bo r_sl0 r_sl1 r_vsz r_ct1 r_cts r_cti r_ctc r_ctn r_lnl r_lni r_lnc r_lnn r_fa r_fap r_faf r_fi1 r_fit r_fif r_ixi r_ixs r_ixc r_ixf r_ixF r_ixF2 r_ix1 r_ixsl r_ixin r_ixce r_len1 r_lenA r_lTs r_lTn r_lTl r_lTi r_lTc r_app0 r_app r_app1 r_app2 r_app3 r_catO r_cati r_catv r_newt r_newf r_pair r_pairK r_trip r_kis r_kiv r_srn r_srl r_sri r_src r_srs r_oln r_oll r_vw r_wi r_wv r_mm r_max r_min' r_str r_cF r_c2t r_c3f r_c3t r_ab r_c2f r_cV r_p1 r_la r_la2t r_la2f r_la3 r_sh r_z_is r_z_ce r_z_fp r_z_b r_z_i r_z_s r_z_n r_z_l r_z_p r_z_a4 r_z_a3 r_z_t4 r_zoI r_zoV r_roN r_roC r_roi r_rod r_zod r_rov r_aR r_trOi r_trOv r_trPv r_trl r_trp r_trf r_tra r_trb r_tri r_trs r_trn r_tris r_trce r_trfp r_vJ r_vJs r_vJn
attribute [local go_sem] b_add b_sub b_mul b_quo b_rem b_shl b_shr b_eql b_neq b_lss b_leq b_gtr b_geq eqB_s b_eqB b_neB u_neg u_not b_nn b_nn' eqS_s zerosT_s zerosT_n zt_i zt_sl zt_st dstOf_z dstOf_n iltT iltF ileT ileF ieqT ieqF nltT nltF nleT nleF neqT neqF tdiv_pos tmod_pos w64 idx0 List.take_of_length_le
open Num
def dup (ds : List DyT) : List DyT := ds.flatMap fun x => [x, x]
section
variable {ds : List DyT} {N : Int}
theorem dup_len : (dup ds).length = 2 * ds.length := by
  unfold dup
  induction ds with
  | nil => rfl
  | cons x r ih => rw [List.flatMap_cons, List.length_append, ih]; simp; omega
theorem dup_snoc {j : Nat} {x : DyT} (hx : ds[j]? = some x) : dup (ds.take (j + 1)) = dup (ds.take j) ++ [x, x] := by
  unfold dup
  rw [List.take_add_one, hx, List.flatMap_append]; rfl
theorem flat_appD (a b : List DyT) : flat DyT.v (a ++ b) = flat DyT.v a ++ flat DyT.v b := by
  induction a with
  | nil => rfl
  | cons y a ih => rw [List.cons_append, flat, flat, ih, List.append_assoc]
theorem dup_flat {j : Nat} {x : DyT} (hx : ds[j]? = some x) : flat DyT.v (dup (ds.take (j + 1))) = flat DyT.v (dup (ds.take j)) ++ [.bool x.neg, .ints .i64 x.l, .int .i64 x.e, .bool x.neg, .ints .i64 x.l, .int .i64 x.e] := by
  rw [dup_snoc hx, flat_appD]; simp [flat, DyT.v]
theorem dup_get : ∀ {ds : List DyT} {j : Nat} {x : DyT}, ds[j]? = some x → (dup ds)[2 * j]? = some x ∧ (dup ds)[2 * j + 1]? = some x
  | y :: r, 0, x, h => by
    simp only [List.getElem?_cons_zero, Option.some.injEq] at h
    subst h; exact ⟨rfl, rfl⟩
  | y :: r, j + 1, x, h => by
    rw [List.getElem?_cons_succ] at h
    obtain ⟨h1, h2⟩ := dup_get h
    have e : dup (y :: r) = y :: y :: dup r := rfl
    rw [e, show 2 * (j + 1) = 2 * j + 1 + 1 by omega, show 2 * j + 1 + 1 + 1 = (2 * j + 1) + 1 + 1 by omega]
    exact ⟨h1, h2⟩
theorem dup_sub {j : Nat} {x : DyT} (hx : ds[j]? = some x) : ((flat DyT.v (dup ds)).drop (j * 6)).take 6 = [.bool x.neg, .ints .i64 x.l, .int .i64 x.e, .bool x.neg, .ints .i64 x.l, .int .i64 x.e] := by
  obtain ⟨h1, h2⟩ := dup_get hx
  have f1 := flat_sub DyT.len (dup ds) _ _ h1
  have f2 := flat_sub DyT.len (dup ds) _ _ h2
  rw [show 6 = 3 + 3 from rfl, List.take_add, List.drop_drop, show j * (3 + 3) = 2 * j * 3 by omega, show 2 * j * 3 + 3 = (2 * j + 1) * 3 by omega, f1, f2]; rfl
theorem dup_all {P : DyT → Prop} (h : ∀ x ∈ ds, P x) : ∀ x ∈ dup ds, P x := by
  intro x hx
  unfold dup at hx
  obtain ⟨y, hy, hx⟩ := List.mem_flatMap.1 hx
  have hx' : x = y := by simpa using hx
  rw [hx']; exact h y hy
/-! ### the field -/
def fiH (N : Int) (ds : List DyT) (j : Nat) : VH := if j = 0 then [.vals true [.int .i64 0, .nil], .vals true [.int .i64 N, .nil]] else [.vals true [.int .i64 0, .nil], .vals true [.int .i64 N, .sl 2 0 j 6], .vals true (flat DyT.v (dup (ds.take j)))]
def fiS (N : Int) (ds : List DyT) (j : Nat) : VE × VH := ([(2, some (.ptr 0 0)), (3, some (.ptr 1 0)), (10, some (.cells 3 ds.length (flat DyT.v ds))), (11, some (.int .i64 ds.length)), (12, some (.int .i64 j))], fiH N ds j)
theorem fi_r (call : CallV) (hl : ds.length < 1000000) {j : Nat} (hj : j < ds.length) : vCode Tryd.prog kn call 69 (loopAt Tryd.f69 0) (fiS N ds j).1 (fiS N ds j).2 = some (.norm, fiS N ds (j + 1)) := by
  have hget : ds[j]? = some ds[j] := List.getElem?_eq_getElem hj
  have hsub : ((flat DyT.v ds).drop (j * 3)).take 3 = [.bool ds[j].neg, .ints .i64 ds[j].l, .int .i64 ds[j].e] := flat_sub DyT.len ds j _ hget
  have hsn := dup_flat hget
  have hln := flat_len3 (dup (ds.take j))
  rw [dup_len, List.length_take, Nat.min_eq_left (by omega)] at hln
  rw [round_v]; simp only [loopAt, nthC, bodyC, loops, List.nil_append, List.cons_append, List.append_nil, Tryd.f69, fiS, fiH]
  rw [if_neg (show ¬ j + 1 = 0 by omega), hsn]
  by_cases h0 : j = 0
  · subst h0
    have e0 : flat DyT.v (dup (ds.take 0)) = [] := by simp [dup, flat]
    rw [e0]
    simp only [List.nil_append]
    rw [Nat.zero_mul, List.drop_zero] at hsub
    have hFl := flat_len3 ds
    generalize ds[0] = x at *
    generalize flat DyT.v ds = F at *
    have hm : 3 ≤ min 3 F.length := by omega
    simp (implicitDefEqProofs := false) (disch := omega) [go_sem, tab69, hsub, hFl, hm]
  · rw [if_neg h0]
    have hG1 := fun n => fl_refs n (dup (ds.take j))
    have hG2 := fun ρ n => fl_ren ρ n (dup (ds.take j))
    have hA1 := fun n => fl_refs n (dup (ds.take (j + 1)))
    have hA2 := fun ρ n => fl_ren ρ n (dup (ds.take (j + 1)))
    rw [hsn] at hA1 hA2
    generalize ds[j] = x at *
    generalize flat DyT.v (dup (ds.take j)) = G at *
    generalize flat DyT.v ds = F at *
    have ht : G.take (j * 6) = G := List.take_of_length_le (by omega)
    simp (implicitDefEqProofs := false) (disch := omega) [go_sem, tab69, hsub, hln, ht, hG1, hG2, hA1, hA2]
theorem fi_x (call : CallV) (hl : ds.length < 1000000) : vCode Tryd.prog kn call 69 (loopAt Tryd.f69 0) (fiS N ds ds.length).1 (fiS N ds ds.length).2 = some (.exit 0, (fiS N ds ds.length).1 ++ [(13, some (.bool false))], (fiS N ds ds.length).2) := by
  rw [round_v]; simp only [loopAt, nthC, bodyC, loops, List.nil_append, List.cons_append, List.append_nil, Tryd.f69, fiS, fiH, List.take_length]
  have hln := flat_len3 (dup ds)
  rw [dup_len] at hln
  have ht : (flat DyT.v (dup ds)).take (ds.length * 6) = flat DyT.v (dup ds) := List.take_of_length_le (by omega)
  have hG1 := fun n => fl_refs n (dup ds)
  have hG2 := fun ρ n => fl_ren ρ n (dup ds)
  generalize flat DyT.v (dup ds) = G at *
  generalize flat DyT.v ds = F at *
  by_cases h0 : ds.length = 0
  · rw [if_pos h0, h0]
    simp (implicitDefEqProofs := false) (disch := omega) [go_sem, tab69]
  · rw [if_neg h0]
    simp (implicitDefEqProofs := false) (disch := omega) [go_sem, tab69, hln, ht, hG1, hG2]
theorem fieldOf_v (d : Nat) (hl : ds.length < 1000000) (h0 : 0 < ds.length) : vrun Tryd.prog kn (d + 1) 69 [.agg [.int .i64 N, .cells 3 ds.length (flat DyT.v ds)]] [] = some (.agg [.int .i64 N, .cells 6 ds.length (flat DyT.v (dup ds))], []) := by
  have hl0 := fun ks => loop_v (P := Tryd.prog) (K := kn) (ks := ks) (vi_for (fiS N ds) ds.length (n := kn.cf.rounds) (by rw [k_cf, c_rounds]; omega) (fun j hj => fi_r (vrun Tryd.prog kn d) hl hj) fun m => vi_exit (fi_x _ hl))
  have ef : fiH N ds ds.length = [.vals true [.int .i64 0, .nil], .vals true [.int .i64 N, .sl 2 0 ds.length 6], .vals true (flat DyT.v (dup ds))] := by
    unfold fiH; rw [if_neg (by omega), List.take_length]
  have e0 : fiH N ds 0 = [.vals true [.int .i64 0, .nil], .vals true [.int .i64 N, .nil]] := rfl
  simp only [loopAt, nthC, bodyC, loops, List.nil_append, List.cons_append, List.append_nil, Tryd.f69, fiS, Int.natCast_zero, List.cons_append, List.nil_append, ef, e0] at hl0
  have hln := flat_len3 (dup ds)
  rw [dup_len] at hln
  have ht : (flat DyT.v (dup ds)).take (ds.length * 6) = flat DyT.v (dup ds) := List.take_of_length_le (by omega)
  have hfz := fun h n => fl_frz h n (dup ds)
  have hG1 := fun n => fl_refs n (dup ds)
  have hG2 := fun ρ n => fl_ren ρ n (dup ds)
  generalize flat DyT.v (dup ds) = G at *
  generalize flat DyT.v ds = F at *
  rw [vrun_v Tryd.func69 rfl rfl rfl]; simp only [Tryd.f69]
  simp (implicitDefEqProofs := false) (disch := omega) [go_sem, tab69, hl0, hln, ht, hfz, hG1, hG2]
end
/-! ### a list of intervals of its own -/
section
variable {ds : List DyT} {N : Int}
theorem HM.mk2 {g : VH} {b i' m1 m2 : Nat} {p : Nat → Nat} {x y : DyT} (he : ∀ j z, ds[j]? = some z → g[p j]? = some (.ints true .i64 z.l)) (hinj : ∀ j k, j < ds.length → k < ds.length → p j = p k → j = k) (hb : ∀ j, j < ds.length → p j < b) (hm1 : b ≤ m1) (hm2 : m1 < m2) (h1 : g[m1]? = some (.ints true .i64 x.l)) (h2 : g[m2]? = some (.ints true .i64 y.l)) (hc : g[i']? = some (.vals true (cellsP p 0 ds ++ [.bool x.neg, .sl m1 0 x.l.length 1, .int .i64 x.e, .bool y.neg, .sl m2 0 y.l.length 1, .int .i64 y.e]))) :
    HM 0 g.length g i' (fun q => if q < ds.length then p q else if q = ds.length then m1 else m2) (ds ++ [x, y]) := by
  have hlen : (ds ++ [x, y]).length = ds.length + 2 := by simp
  refine ⟨?_, fun j z hz => ?_, fun j k hj hk e => ?_, ⟨Nat.zero_le _, (List.getElem?_eq_some_iff.1 hc).1⟩, fun j hj => ⟨Nat.zero_le _, ?_⟩⟩
  · rw [hc, cellsP_app, cellsP_congr (p := fun q => if q < ds.length then p q else if q = ds.length then m1 else m2) (q := p) ds 0 fun j _ h2 => by simp; intro h3; omega]
    simp [cellsP]
    intro h3; omega
  · by_cases hj : j < ds.length
    · rw [if_pos hj]
      rw [List.getElem?_append_left hj] at hz
      exact he j z hz
    · rw [if_neg hj]
      rw [List.getElem?_append_right (by omega)] at hz
      by_cases hj2 : j = ds.length
      · subst hj2
        rw [if_pos rfl]
        rw [Nat.sub_self] at hz
        simp only [List.getElem?_cons_zero, Option.some.injEq] at hz
        subst hz; exact h1
      · rw [if_neg hj2]
        have hj3 : j - ds.length = 1 := by have := (List.getElem?_eq_some_iff.1 hz).1; simp at this; omega
        rw [hj3] at hz
        simp only [List.getElem?_cons_succ, List.getElem?_cons_zero, Option.some.injEq] at hz
        subst hz; exact h2
  · rw [hlen] at hj hk
    by_cases a1 : j < ds.length <;> by_cases a2 : k < ds.length
    · rw [if_pos a1, if_pos a2] at e; exact hinj j k a1 a2 e
    · rw [if_pos a1, if_neg a2] at e
      have := hb j a1
      split at e <;> omega
    · rw [if_neg a1, if_pos a2] at e
      have := hb k a2
      split at e <;> omega
    · rw [if_neg a1, if_neg a2] at e
      by_cases a3 : j = ds.length <;> by_cases a4 : k = ds.length
      · omega
      · rw [if_pos a3, if_neg a4] at e; omega
      · rw [if_neg a3, if_pos a4] at e; omega
      · omega
  · by_cases a1 : j < ds.length
    · rw [if_pos a1]
      exact (List.getElem?_eq_some_iff.1 (he j _ (List.getElem?_eq_getElem a1))).1
    · rw [if_neg a1]
      split
      · exact (List.getElem?_eq_some_iff.1 h1).1
      · exact (List.getElem?_eq_some_iff.1 h2).1
end
end
/- Numbers as intervals, program: the matrix. No conditions. -/
section
open Go.Proofs
set_option maxRecDepth 100000
set_option linter.unusedSimpArgs false
attribute [local go_sem] r_seq r_skip r_retC r_exitC r_label r_block r_region r_regionW r_xWt r_xW r_cond r_Bt r_Bf r_Ncode r_Nret r_Nexit r_Nblk r_Nblkr r_Nblke r_Nnil r_Es r_Onil r_Oop r_Oif r_Xs r_Gt r_Gf r_wtt r_wtf r_wft r_wff r_wu r_gO r_putS r_putN r_get r_keepN r_keepC r_fr r_fn r_fi r_ff r_fo r_l1 r_l2t r_cun r_cul r_cub r_cui r_cus r_cuis r_cuc r_cusl r_cuti r_cutv r_ven r_vec r_l2f r_l3 r_t1 r_t2 r_t0 r_rt r_rc r_en r_ec r_cM r_oN r_oC r_end r_endt r_endf r_nob0 r_nobN r_nobC r_nobE r_nb0 r_nbi r_nbs r_nbsl r_nbin r_nbce r_nLn r_nLv r_nLc r_nAa r_nAn r_nAk_b r_nAk_i r_nAk_s r_nAk_n r_nAk_is r_nAk_ce r_nAk_fp r_nAk_sl r_nAk_pt r_nAk_fn r_nsn r_nsv r_nsc r_m0 r_mi r_ms r_msl r_min r_mce r_mLn r_mLv r_mLc r_mAa r_mAn r_mAk_b r_mAk_i r_mAk_s r_mAk_n r_mAk_is r_mAk_ce r_mAk_fp r_mAk_sl r_mAk_pt r_mAk_fn r_msn r_msv r_msc r_atb r_ati r_ats r_atn r_atis r_atc r_atf r_atl r_atp r_atfn r_gcn r_gcc r_gLn r_gLc r_gIt r_ndn r_ndc r_gcB r_gLB r_two r_rea r_rea0 r_re1n r_re1c r_ori r_orv r_ord r_orn r_adn r_adc r_ad1 r_ern r_ers r_er0 r_rsl r_rptr r_rb r_ri r_rs r_rn r_ris r_rce r_rfp r_ra4 r_ra3 r_rt4 r_rf4 r_rf3 r_idS r_idc r_nS r_nP r_nF r_nT r_vsl r_vptr r_vb r_vi r_vs r_vn r_vis r_vce r_vfp r_va4 r_va3 r_vt4 r_vf4 r_vf3 r_rV r_Oi r_Ov r_Od r_rE r_rE0 r_En r_Ec r_E0 r_pO r_pk r_agL r_cO r_fO r_fSi r_fSv r_fPv r_fsl r_fptr r_ffn r_fag r_fb r_fint r_fstr r_fnil r_fis r_fce r_ffp r_res r_move r_assign r_pick r_pickt r_pickf r_alloc r_box r_al r_build r_bslice r_load r_store r_nlc r_nl1 r_nl2 r_bin r_un r_conv r_mkf r_mks r_slc r_fad r_fld r_iad r_idx r_ext r_ex1 r_callf r_callt r_callen r_calapp r_calmax r_calmin r_vt r_vcb r_vci r_vcs r_vcnp r_vcn r_vca r_vcf r_vcg r_ofb r_ofi r_ofs r_ofn r_evs r_pn r_prt r_pc r_one_a r_one_b r_one_i r_one_s r_one_n r_one_is r_one_ce r_one_fp r_one_sl r_one_pt r_one_fn r_cs_a r_cs_b r_cs_i r_cs_s r_cs_n r_cs_is r_cs_ce r_cs_fp r_cs_sl r_cs_pt r_cs_fn r_tov r_tovA r_toc r_toa r_tb r_ti r_ts r_tn r_bd r_bd2 r_filn r_fp1 r_filc r_fsn r_fsc r_san r_sac r_bs2 r_bs1 r_newO r_mkq r_mkI r_mkOi r_mkOv r_tIn r_tIc r_repz r_repn r_ldp r_ldf r_l1t r_l1f r_lFt r_lFf r_aggO r_obj r_at r_ati' r_atv r_celli r_cellv r_subi r_subv r_sto r_sto1 r_sto2 r_sets r_setR r_setn r_setc r_s1i r_s1v r_bin1 r_bin2 r_tv1 r_cb r_ci r_cst r_cn r_csl r_cis r_cce r_uni r_unb r_cv r_cvO r_cvN r_cv0 r_cvS r_wB r_cvi r_cvs r_cvb r_cvl r_sO r_rdn r_rdi r_rdl r_rdO r_vsub r_vfn r_mk r_mk1 r_mk2 r_zoi r_zov r_leni r_lenv r_bn r_bndV r_bo r_sl0 r_sl1 r_vsz r_ct1 r_cts r_cti r_ctc r_ctn r_lnl r_lni r_lnc r_lnn r_fa r_fap r_faf r_fi1 r_fit r_fif r_ixi r_ixs r_ixc r_ixf r_ixF r_ixF2 r_ix1 r_ixsl r_ixin r_ixce r_len1 r_lenA r_lTs r_lTn r_lTl r_lTi r_lTc r_app0 r_app r_app1 r_app2 r_app3 r_catO r_cati r_catv r_newt r_newf r_pair r_pairK r_trip r_kis r_kiv r_srn r_srl r_sri r_src r_srs r_oln r_oll r_vw r_wi r_wv r_mm r_max r_min' r_str r_cF r_c2t r_c3f r_c3t r_ab r_c2f r_cV r_p1 r_la r_la2t r_la2f r_la3 r_sh r_z_is r_z_ce r_z_fp r_z_b r_z_i r_z_s r_z_n r_z_l r_z_p r_z_a4 r_z_a3 r_z_t4 r_zoI r_zoV r_roN r_roC r_roi r_rod r_zod r_rov r_aR r_trOi r_trOv r_trPv r_trl r_trp r_trf r_tra r_trb r_tri r_trs r_trn r_tris r_trce r_trfp r_vJ r_vJs r_vJn
attribute [local go_sem] b_add b_sub b_mul b_quo b_rem b_shl b_shr b_eql b_neq b_lss b_leq b_gtr b_geq eqB_s b_eqB b_neB u_neg u_not b_nn b_nn' eqS_s zerosT_s zerosT_n zt_i zt_sl zt_st dstOf_z dstOf_n iltT iltF ileT ileF ieqT ieqF nltT nltF nleT nleF neqT neqF tdiv_pos tmod_pos w64 idx0 List.take_of_length_le
open Num
section
variable {ds : List DyT} {N : Int}
def imE (ds : List DyT) (j : Nat) : VE := [(2, some (.ptr 1 0)), (4, some (.ptr 2 0)), (13, some (.cells 6 ds.length (flat DyT.v (dup ds)))), (14, some (.int .i64 ds.length)), (15, some (.int .i64 j))]
/-- What holds after some rounds. -/
structure ImI (N : Int) (ds : List DyT) (j : Nat) (h : VH) (i : Nat) (p : Nat → Nat) : Prop where
  r : h[1]? = some (.vals true [.int .i64 0, .nil])
  o : h[2]? = some (.vals true [.int .i64 N, if j = 0 then .nil else .sl i 0 j 6])
  m : 0 < j → HM 0 h.length h i p (dup (ds.take j))
  pl : h.all plO = true
theorem nx5 (G : VH) (x y z w v u : VO) (t : VH) : (G ++ x :: y :: z :: w :: v :: u :: t)[G.length + 5]? = some u := by rw [List.getElem?_append_right (by omega), show G.length + 5 - G.length = 5 by omega]; rfl
theorem nxe1 {G : VH} {x y : VO} {t : VH} {m : Nat} (hm : m = G.length + 1) : (G ++ x :: y :: t)[m]? = some y := by rw [hm]; exact nx1 _ _ _ _
theorem nxe2 {G : VH} {x y z : VO} {t : VH} {m : Nat} (hm : m = G.length + 2) : (G ++ x :: y :: z :: t)[m]? = some z := by rw [hm]; exact nx2 _ _ _ _ _
theorem nxe5 {G : VH} {x y z w v u : VO} {t : VH} {m : Nat} (hm : m = G.length + 5) : (G ++ x :: y :: z :: w :: v :: u :: t)[m]? = some u := by rw [hm]; exact nx5 _ _ _ _ _ _ _ _
theorem pl_set {h : VH} {i : Nat} {o : VO} (hh : h.all plO = true) (ho : plO o = true) : (h.set i o).all plO = true := set_all hh ho
theorem im_0 (d : Nat) (hl : ds.length < 1000000) (ho : ∀ x ∈ ds, dyOkB x = true) {h : VH} {i : Nat} {p : Nat → Nat} (I : ImI N ds 0 h i p) (hj : 0 < ds.length) : ∃ (g : VH) (i' : Nat) (p' : Nat → Nat), vCode Tryd.prog kn (vrun Tryd.prog kn (d + 6)) 70 (loopAt Tryd.f70 0) (imE ds 0) h = some (.norm, imE ds 1, g) ∧ ImI N ds 1 g i' p' := by
  have hget : ds[0]? = some ds[0] := List.getElem?_eq_getElem hj
  have hsub := dup_sub hget
  rw [Nat.zero_mul, List.drop_zero] at hsub
  have hx := ho _ (List.getElem_mem hj)
  have h1 := fun d => ivOk_iv (v := ⟨ds[0], ds[0]⟩) d hx hx
  simp only at h1
  have hFl := flat_len3 (dup ds)
  rw [dup_len] at hFl
  have r := I.r
  have o := I.o
  rw [if_pos rfl] at o
  have gr := fun t => gapM r t
  have go := fun t => gapM o t
  have h2 : 2 < h.length := (List.getElem?_eq_some_iff.1 o).1
  have sA : ∀ (t : VH) X, (h ++ t).set 2 X = h.set 2 X ++ t := fun t X => List.set_append_left _ _ h2
  have pl := I.pl
  have ht : dup (ds.take 1) = [ds[0], ds[0]] := by rw [show (1 : Nat) = 0 + 1 from rfl, dup_snoc hget]; rfl
  generalize ds[0] = x at *
  refine ⟨h.set 2 (.vals true [.int .i64 N, .sl (h.length + 5) 0 1 6]) ++ [.vals true [.bool x.neg, .ints .i64 x.l, .int .i64 x.e, .bool x.neg, .ints .i64 x.l, .int .i64 x.e], .ints true .i64 x.l, .ints true .i64 x.l, .vals true [.bool x.neg, .sl (h.length + 1) 0 x.l.length 1, .int .i64 x.e, .bool x.neg, .sl (h.length + 2) 0 x.l.length 1, .int .i64 x.e], .vals true [.bool x.neg, .sl (h.length + 1) 0 x.l.length 1, .int .i64 x.e, .bool x.neg, .sl (h.length + 2) 0 x.l.length 1, .int .i64 x.e], .vals true [.bool x.neg, .sl (h.length + 1) 0 x.l.length 1, .int .i64 x.e, .bool x.neg, .sl (h.length + 2) 0 x.l.length 1, .int .i64 x.e]], h.length + 5, fun q => if q < ([] : List DyT).length then p q else if q = ([] : List DyT).length then h.length + 1 else h.length + 2, ?_, ?_⟩
  · have hm : 6 ≤ min 6 (flat DyT.v (dup ds)).length := by omega
    clear I pl ht hx
    rw [round_v]; simp only [loopAt, nthC, bodyC, loops, List.nil_append, List.cons_append, List.append_nil, Tryd.f70, imE]
    generalize flat DyT.v (dup ds) = F at *
    clear h2
    simp (implicitDefEqProofs := false) (disch := omega) [go_sem, tab70, hsub, hm, h1, r, o, gr, go, sA, nx0, nx1, nx2, nx3, nx4, ns0, ns1, ns2]
  · have hsl : ∀ X, (h.set 2 X).length = h.length := fun X => by simp
    refine ⟨gapM (by rw [List.getElem?_set_ne (by omega)]; exact r) _, gapM (by rw [List.getElem?_set_self h2]; rfl) _, fun _ => ?_, ?_⟩
    · rw [ht]
      refine HM.mk2 (ds := []) (b := 0) (p := p) (fun j z hz => by simp at hz) (fun j k hj => by simp at hj) (fun j hj => by simp at hj) (Nat.zero_le _) (by omega) ?_ ?_ ?_
      · exact nxe1 (by rw [hsl])
      · exact nxe2 (by rw [hsl])
      · exact nxe5 (by rw [hsl])
    · rw [List.all_append, set_all pl (by simp [plO, plV])]
      simp [plO, plV]
theorem im_s (d : Nat) (hl : ds.length < 1000000) (ho : ∀ x ∈ ds, dyOkB x = true) {h : VH} {i : Nat} {p : Nat → Nat} {j : Nat} (I : ImI N ds j h i p) (h0 : 0 < j) (hj : j < ds.length) : ∃ (g : VH) (i' : Nat) (p' : Nat → Nat), vCode Tryd.prog kn (vrun Tryd.prog kn (d + 6)) 70 (loopAt Tryd.f70 0) (imE ds j) h = some (.norm, imE ds (j + 1), g) ∧ ImI N ds (j + 1) g i' p' := by
  have hget : ds[j]? = some ds[j] := List.getElem?_eq_getElem hj
  have hsub := dup_sub hget
  have hx := ho _ (List.getElem_mem hj)
  have h1 := fun d => ivOk_iv (v := ⟨ds[j], ds[j]⟩) d hx hx
  simp only at h1
  have r := I.r
  have o := I.o
  rw [if_neg (by omega)] at o
  have a := I.m h0
  have hi := a.c
  have hrl : (dup (ds.take j)).length = 2 * j := by rw [dup_len, List.length_take]; omega
  have hCl := cellsP_len p (dup (ds.take j)) 0
  rw [hrl] at hCl
  have gr := fun t => gapM r t
  have go := fun t => gapM o t
  have gi := fun t => gapM hi t
  have h2 : 2 < h.length := (List.getElem?_eq_some_iff.1 o).1
  have hi2 : i ≠ 2 := fun e => by
    rw [e, o] at hi
    have := congrArg List.length (VO.vals.inj (Option.some.inj hi)).2
    rw [cellsP_len, hrl] at this
    simp at this; omega
  have hi1 : i ≠ 1 := fun e => by
    rw [e, r] at hi
    have := congrArg List.length (VO.vals.inj (Option.some.inj hi)).2
    rw [cellsP_len, hrl] at this
    simp at this; omega
  have sA : ∀ (t : VH) X, (h.set i .dead ++ t).set 2 X = (h.set i .dead).set 2 X ++ t := fun t X => List.set_append_left _ _ (by simpa using h2)
  have sI : ∀ (t : VH) X, (h ++ t).set i X = h.set i X ++ t := fun t X => List.set_append_left _ _ (List.getElem?_eq_some_iff.1 hi).1
  have so : ∀ t, (h.set i .dead ++ t)[2]? = some (.vals true [.int .i64 N, .sl i 0 j 6]) := fun t => gapM (by rw [List.getElem?_set_ne hi2]; exact o) t
  have pl := I.pl
  have ht : dup (ds.take (j + 1)) = dup (ds.take j) ++ [ds[j], ds[j]] := dup_snoc hget
  generalize ds[j] = x at *
  have hsl : ∀ X, ((h.set i .dead).set 2 X).length = h.length := fun X => by simp
  refine ⟨(h.set i .dead).set 2 (.vals true [.int .i64 N, .sl (h.length + 5) 0 (j + 1) 6]) ++ [.vals true [.bool x.neg, .ints .i64 x.l, .int .i64 x.e, .bool x.neg, .ints .i64 x.l, .int .i64 x.e], .ints true .i64 x.l, .ints true .i64 x.l, .vals true [.bool x.neg, .sl (h.length + 1) 0 x.l.length 1, .int .i64 x.e, .bool x.neg, .sl (h.length + 2) 0 x.l.length 1, .int .i64 x.e], .vals true [.bool x.neg, .sl (h.length + 1) 0 x.l.length 1, .int .i64 x.e, .bool x.neg, .sl (h.length + 2) 0 x.l.length 1, .int .i64 x.e], .vals true (cellsP p 0 (dup (ds.take j)) ++ [.bool x.neg, .sl (h.length + 1) 0 x.l.length 1, .int .i64 x.e, .bool x.neg, .sl (h.length + 2) 0 x.l.length 1, .int .i64 x.e])], h.length + 5, fun q => if q < (dup (ds.take j)).length then p q else if q = (dup (ds.take j)).length then h.length + 1 else h.length + 2, ?_, ?_⟩
  · clear I pl ht hx a
    generalize cellsP p 0 (dup (ds.take j)) = C at *
    have hC : C.take (j * 6) = C := List.take_of_length_le (by omega)
    have hCl' : C.length = j * 6 := by omega
    rw [round_v]; simp only [loopAt, nthC, bodyC, loops, List.nil_append, List.cons_append, List.append_nil, Tryd.f70, imE]
    generalize flat DyT.v (dup ds) = F at *
    clear h2
    simp (implicitDefEqProofs := false) (disch := omega) [go_sem, tab70, hsub, h1, r, o, gr, go, hi, gi, hC, hCl', sA, sI, so, nx0, nx1, nx2, nx3, nx4, ns0, ns1, ns2]
  · refine ⟨gapM (by rw [List.getElem?_set_ne (by omega), List.getElem?_set_ne hi1]; exact r) _, gapM (by rw [if_neg (by omega), List.getElem?_set_self (by simpa using h2)]) _, fun _ => ?_, ?_⟩
    · rw [ht]
      refine HM.mk2 (b := h.length) (p := p) (fun q z hz => ?_) a.inj (fun q hq => (a.lp q hq).2) (by omega) (by omega) ?_ ?_ ?_
      · have hq := (List.getElem?_eq_some_iff.1 hz).1
        have e2 : p q ≠ 2 := fun e => by have := a.e q z hz; rw [e, o] at this; cases this
        exact gapM (by rw [List.getElem?_set_ne (Ne.symm e2), List.getElem?_set_ne (Ne.symm (a.ne hq))]; exact a.e q z hz) _
      · exact nxe1 (by rw [hsl])
      · exact nxe2 (by rw [hsl])
      · exact nxe5 (by rw [hsl])
    · rw [List.all_append, set_all (set_all pl rfl) (by simp [plO, plV])]
      simp [plO, plV, pl_cellsP]
theorem ivMat_v (d : Nat) (hl : ds.length < 1000000) (h0 : 0 < ds.length) (ho : ∀ x ∈ ds, dyOkB x = true) : ∃ (o : VH) (i : Nat) (p : Nat → Nat), vrun Tryd.prog kn (d + 7) 70 [.agg [.int .i64 N, .cells 6 ds.length (flat DyT.v (dup ds))]] [] = some (.tup [.agg [.int .i64 N, .sl i 0 ds.length 6], .bool true], o) ∧ Own o i p (dup ds) := by
  have key := vi_inv (n := kn.cf.rounds) (body := vCode Tryd.prog kn (vrun Tryd.prog kn (d + 6)) 70 (loopAt Tryd.f70 0))
    (fun j s => ∃ (h : VH) (i : Nat) (p : Nat → Nat), s = (imE ds j, h) ∧ ImI N ds j h i p)
    (fun r => ∃ (h : VH) (i : Nat) (p : Nat → Nat), r = some (.exit 0, imE ds ds.length ++ [(16, some (.bool false))], h) ∧ ImI N ds ds.length h i p) ds.length (by rw [k_cf, c_rounds]; omega)
    (fun j s hj hI => by
      obtain ⟨h, i, p, rfl, I⟩ := hI
      left
      by_cases hj0 : j = 0
      · subst hj0
        obtain ⟨g, i', p', e, I'⟩ := im_0 d hl ho I hj
        exact ⟨(imE ds 1, g), e, g, i', p', rfl, I'⟩
      · obtain ⟨g, i', p', e, I'⟩ := im_s d hl ho I (by omega) hj
        exact ⟨(imE ds (j + 1), g), e, g, i', p', rfl, I'⟩)
    (fun s hI m => by
      obtain ⟨h, i, p, rfl, I⟩ := hI
      refine ⟨h, i, p, vi_exit ?_, I⟩
      clear I
      rw [round_v]; simp only [loopAt, nthC, bodyC, loops, List.nil_append, List.cons_append, List.append_nil, Tryd.f70, imE]
      simp (implicitDefEqProofs := false) (disch := omega) [go_sem, tab70])
    (imE ds 0, [.vals true [.int .i64 N, .cells 6 ds.length (flat DyT.v (dup ds))], .vals true [.int .i64 0, .nil], .vals true [.int .i64 N, .nil]]) ⟨_, 0, fun _ => 0, rfl, rfl, rfl, fun h => by omega, by simp [plO, plV]⟩
  obtain ⟨h, i, p, hv, I⟩ := key
  have hl0 := fun ks => loop_v (P := Tryd.prog) (K := kn) (ks := ks) hv
  simp only [loopAt, nthC, bodyC, loops, List.nil_append, List.cons_append, List.append_nil, Tryd.f70, imE, Int.natCast_zero, List.cons_append, List.nil_append] at hl0
  have r := I.r
  have o := I.o
  rw [if_neg (by omega)] at o
  have a := I.m h0
  rw [List.take_length] at a
  have h1 : 1 < h.length := (List.getElem?_eq_some_iff.1 r).1
  refine ⟨h.set 1 (.vals true [.int .i64 N, .sl i 0 ds.length 6]), i, p, ?_, ⟨?_, set_all I.pl (by simp [plO, plV])⟩⟩
  · have hs : ∀ X, (h.set 1 X)[1]? = some X := fun X => by simp [h1]
    clear I a hv h1
    generalize flat DyT.v (dup ds) = F at *
    rw [vrun_v Tryd.func70 rfl rfl rfl]; simp only [Tryd.f70]
    simp (implicitDefEqProofs := false) (disch := omega) [go_sem, tab70, hl0, r, o, hs]
  · have hi1 : i ≠ 1 := fun e => by
      have hi := a.c
      rw [e, r] at hi
      have := congrArg List.length (VO.vals.inj (Option.some.inj hi)).2
      rw [cellsP_len, dup_len] at this
      simp at this; omega
    rw [List.length_set]
    exact ⟨by rw [List.getElem?_set_ne (Ne.symm hi1)]; exact a.c, fun q z hz => by
      have e1 : p q ≠ 1 := fun e => by have := a.e q z hz; rw [e, r] at this; cases this
      rw [List.getElem?_set_ne (Ne.symm e1)]; exact a.e q z hz, a.inj, a.li, a.lp⟩
end
end
/- IvMatOf, program. No conditions. -/
section
open Go.Proofs
set_option maxRecDepth 100000
set_option linter.unusedSimpArgs false
attribute [local go_sem] r_seq r_skip r_retC r_exitC r_label r_block r_region r_regionW r_xWt r_xW r_cond r_Bt r_Bf r_Ncode r_Nret r_Nexit r_Nblk r_Nblkr r_Nblke r_Nnil r_Es r_Onil r_Oop r_Oif r_Xs r_Gt r_Gf r_wtt r_wtf r_wft r_wff r_wu r_gO r_putS r_putN r_get r_keepN r_keepC r_fr r_fn r_fi r_ff r_fo r_l1 r_l2t r_cun r_cul r_cub r_cui r_cus r_cuis r_cuc r_cusl r_cuti r_cutv r_ven r_vec r_l2f r_l3 r_t1 r_t2 r_t0 r_rt r_rc r_en r_ec r_cM r_oN r_oC r_end r_endt r_endf r_nob0 r_nobN r_nobC r_nobE r_nb0 r_nbi r_nbs r_nbsl r_nbin r_nbce r_nLn r_nLv r_nLc r_nAa r_nAn r_nAk_b r_nAk_i r_nAk_s r_nAk_n r_nAk_is r_nAk_ce r_nAk_fp r_nAk_sl r_nAk_pt r_nAk_fn r_nsn r_nsv r_nsc r_m0 r_mi r_ms r_msl r_min r_mce r_mLn r_mLv r_mLc r_mAa r_mAn r_mAk_b r_mAk_i r_mAk_s r_mAk_n r_mAk_is r_mAk_ce r_mAk_fp r_mAk_sl r_mAk_pt r_mAk_fn r_msn r_msv r_msc r_atb r_ati r_ats r_atn r_atis r_atc r_atf r_atl r_atp r_atfn r_gcn r_gcc r_gLn r_gLc r_gIt r_ndn r_ndc r_gcB r_gLB r_two r_rea r_rea0 r_re1n r_re1c r_ori r_orv r_ord r_orn r_adn r_adc r_ad1 r_ern r_ers r_er0 r_rsl r_rptr r_rb r_ri r_rs r_rn r_ris r_rce r_rfp r_ra4 r_ra3 r_rt4 r_rf4 r_rf3 r_idS r_idc r_nS r_nP r_nF r_nT r_vsl r_vptr r_vb r_vi r_vs r_vn r_vis r_vce r_vfp r_va4 r_va3 r_vt4 r_vf4 r_vf3 r_rV r_Oi r_Ov r_Od r_rE r_rE0 r_En r_Ec r_E0 r_pO r_pk r_agL r_cO r_fO r_fSi r_fSv r_fPv r_fsl r_fptr r_ffn r_fag r_fb r_fint r_fstr r_fnil r_fis r_fce r_ffp r_res r_move r_assign r_pick r_pickt r_pickf r_alloc r_box r_al r_build r_bslice r_load r_store r_nlc r_nl1 r_nl2 r_bin r_un r_conv r_mkf r_mks r_slc r_fad r_fld r_iad r_idx r_ext r_ex1 r_callf r_callt r_callen r_calapp r_calmax r_calmin r_vt r_vcb r_vci r_vcs r_vcnp r_vcn r_vca r_vcf r_vcg r_ofb r_ofi r_ofs r_ofn r_evs r_pn r_prt r_pc r_one_a r_one_b r_one_i r_one_s r_one_n r_one_is r_one_ce r_one_fp r_one_sl r_one_pt r_one_fn r_cs_a r_cs_b r_cs_i r_cs_s r_cs_n r_cs_is r_cs_ce r_cs_fp r_cs_sl r_cs_pt r_cs_fn r_tov r_tovA r_toc r_toa r_tb r_ti r_ts r_tn r_bd r_bd2 r_filn r_fp1 r_filc r_fsn r_fsc r_san r_sac r_bs2 r_bs1 r_newO r_mkq r_mkI r_mkOi r_mkOv r_tIn r_tIc r_repz r_repn r_ldp r_ldf r_l1t r_l1f r_lFt r_lFf r_aggO r_obj r_at r_ati' r_atv r_celli r_cellv r_subi r_subv r_sto r_sto1 r_sto2 r_sets r_setR r_setn r_setc r_s1i r_s1v r_bin1 r_bin2 r_tv1 r_cb r_ci r_cst r_cn r_csl r_cis r_cce r_uni r_unb r_cv r_cvO r_cvN r_cv0 r_cvS r_wB r_cvi r_cvs r_cvb r_cvl r_sO r_rdn r_rdi r_rdl r_rdO r_vsub r_vfn r_mk r_mk1 r_mk2 r_zoi r_zov r_leni r_lenv r_bn r_bndV r_bo r_sl0 r_sl1 r_vsz r_ct1 r_cts r_cti r_ctc r_ctn r_lnl r_lni r_lnc r_lnn r_fa r_fap r_faf r_fi1 r_fit r_fif r_ixi r_ixs r_ixc r_ixf r_ixF r_ixF2 r_ix1 r_ixsl r_ixin r_ixce r_len1 r_lenA r_lTs r_lTn r_lTl r_lTi r_lTc r_app0 r_app r_app1 r_app2 r_app3 r_catO r_cati r_catv r_newt r_newf r_pair r_pairK r_trip r_kis r_kiv r_srn r_srl r_sri r_src r_srs r_oln r_oll r_vw r_wi r_wv r_mm r_max r_min' r_str r_cF r_c2t r_c3f r_c3t r_ab r_c2f r_cV r_p1 r_la r_la2t r_la2f r_la3 r_sh r_z_is r_z_ce r_z_fp r_z_b r_z_i r_z_s r_z_n r_z_l r_z_p r_z_a4 r_z_a3 r_z_t4 r_zoI r_zoV r_roN r_roC r_roi r_rod r_zod r_rov r_aR r_trOi r_trOv r_trPv r_trl r_trp r_trf r_tra r_trb r_tri r_trs r_trn r_tris r_trce r_trfp r_vJ r_vJs r_vJn
attribute [local go_sem] b_add b_sub b_mul b_quo b_rem b_shl b_shr b_eql b_neq b_lss b_leq b_gtr b_geq eqB_s b_eqB b_neB u_neg u_not b_nn b_nn' eqS_s zerosT_s zerosT_n zt_i zt_sl zt_st dstOf_z dstOf_n iltT iltF ileT ileF ieqT ieqF nltT nltF nleT nleF neqT neqF tdiv_pos tmod_pos w64 idx0 List.take_of_length_le
open Num
section
variable {ds : List DyT} {N : Int}
def ioR (N : Int) (ds : List DyT) : List DyT := if matOkB N ds then dup ds else []
def ioN (N : Int) (ds : List DyT) : Nat := if matOkB N ds then ds.length else 0
theorem io_bd : (ioR N ds).length = 2 * ioN N ds ∧ ioN N ds ≤ 16 ∧ (∀ x ∈ ioR N ds, x.l.length ≤ 100) ∧ (ioR N ds).length ≤ 32 := by
  unfold ioR ioN
  cases hq : matOkB N ds with
  | false => simp
  | true =>
    obtain ⟨n, rfl, n1, n2, hlen, ho⟩ := matOk_t hq
    have hnn : n * n ≤ 16 := Nat.mul_le_mul n2 n2
    simp only [if_true]
    refine ⟨dup_len, by omega, fun x hx => ?_, by rw [dup_len]; omega⟩
    obtain ⟨e1, x1, _⟩ := okD (dup_all (P := fun x => dyOkB x = true) ho x hx)
    rw [e1]; exact x1
theorem ivMat_h (d : Nat) (hl : ds.length < 1000000) (h0 : 0 < ds.length) (ho : ∀ x ∈ ds, dyOkB x = true) : ∃ (o : VH) (i : Nat) (p : Nat → Nat), Own o i p (dup ds) ∧ ∀ (h : VH), vcallF kn (vrun Tryd.prog kn (d + 7)) h 70 (some [.agg [.int .i64 N, .cells 6 ds.length (flat DyT.v (dup ds))]]) = some (.tup [.agg [.int .i64 N, .sl (h.length + i) 0 ds.length 6], .bool true], h ++ o.map (shO h.length)) := by
  obtain ⟨o, i, p, h1, w⟩ := ivMat_v d (N := N) hl h0 ho
  refine ⟨o, i, p, w, fun h => ?_⟩
  refine callF_land (fa := [.agg [.int .i64 N, .cells 6 ds.length (flat DyT.v (dup ds))]]) (r := .tup [.agg [.int .i64 N, .sl i 0 ds.length 6], .bool true]) c_pure70 rfl (by simp [go_sem]) ?_ (by simp [go_sem]) w.pl (by simp [go_sem])
  clear w
  simpa [go_sem] using h1
end
end
section
open Go.Proofs
set_option maxRecDepth 100000
set_option linter.unusedSimpArgs false
attribute [local go_sem] r_seq r_skip r_retC r_exitC r_label r_block r_region r_regionW r_xWt r_xW r_cond r_Bt r_Bf r_Ncode r_Nret r_Nexit r_Nblk r_Nblkr r_Nblke r_Nnil r_Es r_Onil r_Oop r_Oif r_Xs r_Gt r_Gf r_wtt r_wtf r_wft r_wff r_wu r_gO r_putS r_putN r_get r_keepN r_keepC r_fr r_fn r_fi r_ff r_fo r_l1 r_l2t r_cun r_cul r_cub r_cui r_cus r_cuis r_cuc r_cusl r_cuti r_cutv r_ven r_vec r_l2f r_l3 r_t1 r_t2 r_t0 r_rt r_rc r_en r_ec r_cM r_oN r_oC r_end r_endt r_endf r_nob0 r_nobN r_nobC r_nobE r_nb0 r_nbi r_nbs r_nbsl r_nbin r_nbce r_nLn r_nLv r_nLc r_nAa r_nAn r_nAk_b r_nAk_i r_nAk_s r_nAk_n r_nAk_is r_nAk_ce r_nAk_fp r_nAk_sl r_nAk_pt r_nAk_fn r_nsn r_nsv r_nsc r_m0 r_mi r_ms r_msl r_min r_mce r_mLn r_mLv r_mLc r_mAa r_mAn r_mAk_b r_mAk_i r_mAk_s r_mAk_n r_mAk_is r_mAk_ce r_mAk_fp r_mAk_sl r_mAk_pt r_mAk_fn r_msn r_msv r_msc r_atb r_ati r_ats r_atn r_atis r_atc r_atf r_atl r_atp r_atfn r_gcn r_gLn r_gIt r_ndn r_ndc r_gcB r_gLB r_two r_rea r_rea0 r_re1n r_re1c r_ori r_orv r_ord r_orn r_adn r_adc r_ad1 r_ern r_ers r_er0 r_rsl r_rptr r_rb r_ri r_rs r_rn r_ris r_rce r_rfp r_ra4 r_ra3 r_rt4 r_rf4 r_rf3 r_idS r_idc r_nS r_nP r_nF r_nT r_vsl r_vptr r_vb r_vi r_vs r_vn r_vis r_vce r_vfp r_va4 r_va3 r_vt4 r_vf4 r_vf3 r_rV r_Oi r_Ov r_Od r_rE r_rE0 r_En r_Ec r_E0 r_pO r_pk r_agL r_cO r_fO r_fSi r_fSv r_fPv r_fsl r_fptr r_ffn r_fag r_fb r_fint r_fstr r_fnil r_fis r_fce r_ffp r_res r_move r_assign r_pick r_pickt r_pickf r_alloc r_box r_al r_build r_bslice r_load r_store r_nlc r_nl1 r_nl2 r_bin r_un r_conv r_mkf r_mks r_slc r_fad r_fld r_iad r_idx r_ext r_ex1 r_callf r_callt r_callen r_calapp r_calmax r_calmin r_vt r_vcb r_vci r_vcs r_vcnp r_vcn r_vca r_vcf r_vcg r_ofb r_ofi r_ofs r_ofn r_evs r_pn r_prt r_pc r_one_a r_one_b r_one_i r_one_s r_one_n r_one_is r_one_ce r_one_fp r_one_sl r_one_pt r_one_fn r_cs_a r_cs_b r_cs_i r_cs_s r_cs_n r_cs_is r_cs_ce r_cs_fp r_cs_sl r_cs_pt r_cs_fn r_tov r_tovA r_toc r_toa r_tb r_ti r_ts r_tn r_bd r_bd2 r_filn r_fp1 r_filc r_fsn r_fsc r_san r_sac r_bs2 r_bs1 r_newO r_mkq r_mkI r_mkOi r_mkOv r_tIn r_tIc r_repz r_repn r_ldp r_ldf r_l1t r_l1f r_lFt r_lFf r_aggO r_obj r_at r_ati' r_atv r_celli r_cellv r_subi r_subv r_sto r_sto1 r_sto2 r_sets r_setR r_setn r_setc r_s1i r_s1v r_bin1 r_bin2 r_tv1 r_cb r_ci r_cst r_cn r_csl r_cis r_cce r_uni r_unb r_cv r_cvO r_cvN r_cv0 r_cvS r_wB r_cvi r_cvs r_cvb r_cvl r_sO r_rdn r_rdi r_rdl r_rdO r_vsub r_vfn r_mk r_mk1 r_mk2 r_zoi r_zov r_leni r_lenv r_bn r_bndV r_bo r_sl0 r_sl1 r_vsz r_ct1 r_cts r_cti r_ctc r_ctn r_lnl r_lni r_lnc r_lnn r_fa r_fap r_faf r_fi1 r_fit r_fif r_ixi r_ixs r_ixc r_ixf r_ixF r_ixF2 r_ix1 r_ixsl r_ixin r_ixce r_len1 r_lenA r_lTs r_lTn r_lTl r_lTi r_lTc r_app0 r_app r_app1 r_app2 r_app3 r_catO r_cati r_catv r_newt r_newf r_pair r_pairK r_trip r_kis r_kiv r_srn r_srl r_sri r_src r_srs r_oln r_oll r_vw r_wi r_wv r_mm r_max r_min' r_str r_c2t r_c3f r_c3t r_ab r_c2f r_cV r_p1 r_la r_la2t r_la2f r_la3 r_sh r_z_is r_z_ce r_z_fp r_z_b r_z_i r_z_s r_z_n r_z_l r_z_p r_z_a4 r_z_a3 r_z_t4 r_zoI r_zoV r_roN r_roC r_roi r_rod r_zod r_rov r_aR r_trOi r_trOv r_trPv r_trl r_trp r_trf r_tra r_trb r_tri r_trs r_trn r_tris r_trce r_trfp r_vJ r_vJs r_vJn
attribute [local go_sem] b_add b_sub b_mul b_quo b_rem b_shl b_shr b_eql b_neq b_lss b_leq b_gtr b_geq eqB_s b_eqB b_neB u_neg u_not b_nn b_nn' eqS_s zerosT_s zerosT_n zt_i zt_sl zt_st dstOf_z dstOf_n iltT iltF ileT ileF ieqT ieqF nltT nltF nleT nleF neqT neqF tdiv_pos tmod_pos w64 idx0 List.take_of_length_le
open Num
section
variable {ds : List DyT} {N : Int}
theorem IvMatOf_v (d : Nat) (hl : ds.length < 100000000) (hs : ∀ x ∈ ds, x.sz) : vrun Tryd.prog kn (d + 16) 30 [.agg [.int .i64 N, .cells 3 ds.length (flat DyT.v ds)]] [] = some (.tup [.agg [.int .i64 (okN0 N ds), .sl 0 0 (ioN N ds) 6], .bool (matOkB N ds)], mblk 0 (ioR N ds)) := by
  have h1 := fun d => MatOk_v (N := N) d hl hs
  have c1 : ∀ call h args, vcallF kn call h 54 (some args) = vcall2 kn call 54 args h (kn.cf.pure 54) := fun _ _ _ => rfl
  have c2 : ∀ call h args, vcallF kn call h 39 (some args) = vcall2 kn call 39 args h (kn.cf.pure 39) := fun _ _ _ => rfl
  have c3 : ∀ call h args, vcallF kn call h 69 (some args) = vcall2 kn call 69 args h (kn.cf.pure 69) := fun _ _ _ => rfl
  have gc1 : ∀ e a, vgc e [a] = vgcBy (reach [a] 3 (addNs [] (erefs e))) e [a] := fun _ _ => rfl
  have gc2 : ∀ e a b, vgc e [a, b] = vgcBy (reach [a, b] 3 (addNs [] (erefs e))) e [a, b] := fun _ _ _ => rfl
  have gl2 : ∀ e a b, vgcL e [a, b] = vgcLBy (reach [a, b] 3 (addNs [] (e.flatMap (vrefs 4)))) e [a, b] := fun _ _ _ => rfl
  unfold ioR okN0 ioN
  cases hq : matOkB N ds with
  | false =>
    rw [hq] at h1
    simp only [Bool.false_eq_true, if_false]
    unfold mblk
    simp only [cellsP, List.map_nil]
    rw [vrun_v Tryd.func30 rfl rfl rfl]; simp only [Tryd.f30]
    simp (implicitDefEqProofs := false) (disch := omega) [go_sem, tab30, c1, gc1, gc2, gl2, h1]
  | true =>
    obtain ⟨n, rfl, n1, n2, hlen, ho⟩ := matOk_t hq
    rw [hq] at h1
    have hnn : n * n ≤ 16 := Nat.mul_le_mul n2 n2
    have hpos : 0 < n * n := Nat.mul_pos n1 n1
    have h2 := fun d => grid_v (N := (n : Int)) d (ds := ds) (by omega) (by omega) (fun y hy => by obtain ⟨e1, x1, _⟩ := okD (ho y hy); rw [e1]; omega)
    have h3 := fun d => fieldOf_v (N := (n : Int)) d (ds := ds) (by omega) (by omega)
    obtain ⟨o, i, p, w, h4⟩ := ivMat_h (N := (n : Int)) (d + 8) (ds := ds) (by omega) (by omega) ho
    have hm := w.land [.vals true [.int .i64 n, .cells 3 ds.length (flat DyT.v ds)], .vals true [.int .i64 n, .sl (2 + i) 0 ds.length 6]]
    simp only [List.length_cons, List.length_nil, Nat.zero_add, List.cons_append, List.nil_append, Nat.reduceAdd] at hm
    have g1 := fun s t b => gcE_own hm (N := (n : Int)) (m := ds.length) (sz := 6) (c := 1) (s := s) (t := t) (b := b) rfl
    have hm2 := (own_mblk (dup ds)).land [.vals true [.int .i64 n, .sl 1 0 ds.length 6]]
    simp only [List.length_cons, List.length_nil, Nat.zero_add, List.cons_append, List.nil_append, Nat.reduceAdd, sh_mblk, Nat.add_zero] at hm2
    have g2 := gcL_own hm2 (N := (n : Int)) (m := ds.length) (sz := 6) (b := true)
    simp only [if_true]
    clear hm hm2 w ho hq hs hl
    generalize dup ds = T at *
    generalize flat DyT.v ds = F at *
    generalize flat DyT.v T = F' at *
    rw [vrun_v Tryd.func30 rfl rfl rfl]; simp only [Tryd.f30]
    simp (implicitDefEqProofs := false) (disch := omega) [go_sem, tab30, c1, c2, c3, gc1, gc2, h1, h2, h3, h4, g1, g2]
end
end
/- IvMatOk: program, reference. No conditions. -/
section
open Go.Proofs
set_option maxRecDepth 100000
set_option linter.unusedSimpArgs false
attribute [local go_sem] r_seq r_skip r_retC r_exitC r_label r_block r_region r_regionW r_xWt r_xW r_cond r_Bt r_Bf r_Ncode r_Nret r_Nexit r_Nblk r_Nblkr r_Nblke r_Nnil r_Es r_Onil r_Oop r_Oif r_Xs r_Gt r_Gf r_wtt r_wtf r_wft r_wff r_wu r_gO r_putS r_putN r_get r_keepN r_keepC r_fr r_fn r_fi r_ff r_fo r_l1 r_l2t r_cun r_cul r_cub r_cui r_cus r_cuis r_cuc r_cusl r_cuti r_cutv r_ven r_vec r_l2f r_l3 r_t1 r_t2 r_t0 r_rt r_rc r_en r_ec r_cM r_oN r_oC r_end r_endt r_endf r_nob0 r_nobN r_nobC r_nobE r_nb0 r_nbi r_nbs r_nbsl r_nbin r_nbce r_nLn r_nLv r_nLc r_nAa r_nAn r_nAk_b r_nAk_i r_nAk_s r_nAk_n r_nAk_is r_nAk_ce r_nAk_fp r_nAk_sl r_nAk_pt r_nAk_fn r_nsn r_nsv r_nsc r_m0 r_mi r_ms r_msl r_min r_mce r_mLn r_mLv r_mLc r_mAa r_mAn r_mAk_b r_mAk_i r_mAk_s r_mAk_n r_mAk_is r_mAk_ce r_mAk_fp r_mAk_sl r_mAk_pt r_mAk_fn r_msn r_msv r_msc r_atb r_ati r_ats r_atn r_atis r_atc r_atf r_atl r_atp r_atfn r_gcn r_gcc r_gLn r_gLc r_gIt r_ndn r_ndc r_gcB r_gLB r_two r_rea r_rea0 r_re1n r_re1c r_ori r_orv r_ord r_orn r_adn r_adc r_ad1 r_ern r_ers r_er0 r_rsl r_rptr r_rb r_ri r_rs r_rn r_ris r_rce r_rfp r_ra4 r_ra3 r_rt4 r_rf4 r_rf3 r_idS r_idc r_nS r_nP r_nF r_nT r_vsl r_vptr r_vb r_vi r_vs r_vn r_vis r_vce r_vfp r_va4 r_va3 r_vt4 r_vf4 r_vf3 r_rV r_Oi r_Ov r_Od r_rE r_rE0 r_En r_Ec r_E0 r_pO r_pk r_agL r_cO r_fO r_fSi r_fSv r_fPv r_fsl r_fptr r_ffn r_fag r_fb r_fint r_fstr r_fnil r_fis r_fce r_ffp r_res r_move r_assign r_pick r_pickt r_pickf r_alloc r_box r_al r_build r_bslice r_load r_store r_nlc r_nl1 r_nl2 r_bin r_un r_conv r_mkf r_mks r_slc r_fad r_fld r_iad r_idx r_ext r_ex1 r_callf r_callt r_callen r_calapp r_calmax r_calmin r_vt r_vcb r_vci r_vcs r_vcnp r_vcn r_vca r_vcf r_vcg r_ofb r_ofi r_ofs r_ofn r_evs r_pn r_prt r_pc r_one_a r_one_b r_one_i r_one_s r_one_n r_one_is r_one_ce r_one_fp r_one_sl r_one_pt r_one_fn r_cs_a r_cs_b r_cs_i r_cs_s r_cs_n r_cs_is r_cs_ce r_cs_fp r_cs_sl r_cs_pt r_cs_fn r_tov r_tovA r_toc r_toa r_tb r_ti r_ts r_tn r_bd r_bd2 r_filn r_fp1 r_filc r_fsn r_fsc r_san r_sac r_bs2 r_bs1 r_newO r_mkq r_mkI r_mkOi r_mkOv r_tIn r_tIc r_repz r_repn r_ldp r_ldf r_l1t r_l1f r_lFt r_lFf r_aggO r_obj r_at r_ati' r_atv r_celli r_cellv r_subi r_subv r_sto r_sto1 r_sto2 r_sets r_setR r_setn r_setc r_s1i r_s1v r_bin1 r_bin2 r_tv1 r_cb r_ci r_cst r_cn r_csl r_cis r_cce r_uni r_unb r_cv r_cvO r_cvN r_cv0 r_cvS r_wB r_cvi r_cvs r_cvb r_cvl r_sO r_rdn r_rdi r_rdl r_rdO r_vsub r_vfn r_mk r_mk1 r_mk2 r_zoi r_zov r_leni r_lenv r_bn r_bndV r_bo r_sl0 r_sl1 r_vsz r_ct1 r_cts r_cti r_ctc r_ctn r_lnl r_lni r_lnc r_lnn r_fa r_fap r_faf r_fi1 r_fit r_fif r_ixi r_ixs r_ixc r_ixf r_ixF r_ixF2 r_ix1 r_ixsl r_ixin r_ixce r_len1 r_lenA r_lTs r_lTn r_lTl r_lTi r_lTc r_app0 r_app r_app1 r_app2 r_app3 r_catO r_cati r_catv r_newt r_newf r_pair r_pairK r_trip r_kis r_kiv r_srn r_srl r_sri r_src r_srs r_oln r_oll r_vw r_wi r_wv r_mm r_max r_min' r_str r_cF r_c2t r_c3f r_c3t r_ab r_c2f r_cV r_p1 r_la r_la2t r_la2f r_la3 r_sh r_z_is r_z_ce r_z_fp r_z_b r_z_i r_z_s r_z_n r_z_l r_z_p r_z_a4 r_z_a3 r_z_t4 r_zoI r_zoV r_roN r_roC r_roi r_rod r_zod r_rov r_aR r_trOi r_trOv r_trPv r_trl r_trp r_trf r_tra r_trb r_tri r_trs r_trn r_tris r_trce r_trfp r_vJ r_vJs r_vJn
attribute [local go_sem] b_add b_sub b_mul b_quo b_rem b_shl b_shr b_eql b_neq b_lss b_leq b_gtr b_geq eqB_s b_eqB b_neB u_neg u_not b_nn b_nn' eqS_s zerosT_s zerosT_n zt_i zt_sl zt_st dstOf_z dstOf_n iltT iltF ileT ileF ieqT ieqF nltT nltF nleT nleF neqT neqF tdiv_pos tmod_pos w64 idx0 List.take_of_length_le
open Num
section
variable {ds : List IvT} {N : Int}
def ivMatOkB (N : Int) (ds : List IvT) : Bool := decide (1 ≤ N) && decide (N ≤ 4) && decide (ds.length = N * N) && ds.all ivOkB
def sIMOS (N : Int) (ds : List IvT) (j : Nat) : VE × VH := ([(1, some (.ptr 0 0)), (3, some (.int .i64 j))], [.vals true [.int .i64 N, .cells 6 ds.length (flat IvT.v ds)]])
theorem sIvMatOk_v (d : Nat) (hl : ds.length < 100000000) (hs : ∀ x ∈ ds, x.sz) : vrun Tryd.prog kn (d + 7) 98 [.agg [.int .i64 N, .cells 6 ds.length (flat IvT.v ds)]] [] = some (.bool (ivMatOkB N ds), []) := by
  unfold ivMatOkB
  by_cases h : ¬ (1 ≤ N ∧ N ≤ 4)
  · have hb : (decide (1 ≤ N) && decide (N ≤ 4)) = false := by simp; omega
    rw [hb]
    by_cases h1 : N < 1
    · rw [vrun_v Tryd.func98 rfl rfl rfl]; simp only [Tryd.f98]
      simp (disch := omega) [go_sem, tab98, h1]
    · rw [vrun_v Tryd.func98 rfl rfl rfl]; simp only [Tryd.f98]
      simp (disch := omega) [go_sem, tab98, h1]
  rw [Decidable.not_not] at h
  have hb : (decide (1 ≤ N) && decide (N ≤ 4)) = true := by simp; omega
  rw [hb]
  have e : N = 1 ∨ N = 2 ∨ N = 3 ∨ N = 4 := by omega
  have key := vi_inv (n := kn.cf.rounds) (body := vCode Tryd.prog kn (vrun Tryd.prog kn (d + 6)) 98 (loopAt Tryd.f98 0)) (fun j s => s = sIMOS N ds j ∧ (ds.take j).all ivOkB = true)
    (fun r => (r = some (.exit 0, (sIMOS N ds ds.length).1 ++ [(27, some (.bool false))], (sIMOS N ds ds.length).2) ∧ ds.all ivOkB = true) ∨ (r = some (.ret, [(2, some (.bool false))], []) ∧ ds.all ivOkB = false)) ds.length (by rw [k_cf, c_rounds]; omega)
    (fun j s hj hI => by
      obtain ⟨rfl, hI⟩ := hI
      have hget : ds[j]? = some ds[j] := List.getElem?_eq_getElem hj
      have hmem : ds[j] ∈ ds := List.getElem_mem hj
      have hsub : ((flat IvT.v ds).drop (j * 6)).take 6 = [.bool ds[j].lo.neg, .ints .i64 ds[j].lo.l, .int .i64 ds[j].lo.e, .bool ds[j].hi.neg, .ints .i64 ds[j].hi.l, .int .i64 ds[j].hi.e] := flat_sub IvT.len ds j _ hget
      have hsz := hs _ hmem
      generalize ds[j] = x at *
      have h1 := sIvOk_v d hsz.1 hsz.2
      cases hq : ivOkB x with
      | true =>
        left
        rw [hq] at h1
        refine ⟨sIMOS N ds (j + 1), ?_, rfl, ?_⟩
        · rw [round_v]; simp only [loopAt, nthC, bodyC, loops, List.nil_append, List.cons_append, List.append_nil, Tryd.f98, sIMOS]
          simp (disch := omega) [go_sem, tab98, hsub, h1]
        · rw [List.take_add_one, hget, List.all_append, hI]; simp [hq]
      | false =>
        right; intro m; right
        rw [hq] at h1
        refine ⟨vi_ret ?_, by
          cases hz : ds.all ivOkB with
          | false => rfl
          | true => rw [List.all_eq_true] at hz; rw [hz _ hmem] at hq; cases hq⟩
        rw [round_v]; simp only [loopAt, nthC, bodyC, loops, List.nil_append, List.cons_append, List.append_nil, Tryd.f98, sIMOS]
        simp (disch := omega) [go_sem, tab98, hsub, h1])
    (fun s hI m => by
      obtain ⟨rfl, hI⟩ := hI
      left
      refine ⟨vi_exit ?_, by rwa [List.take_length] at hI⟩
      rw [round_v]; simp only [loopAt, nthC, bodyC, loops, List.nil_append, List.cons_append, List.append_nil, Tryd.f98, sIMOS]
      simp (disch := omega) [go_sem, tab98])
    (sIMOS N ds 0) ⟨rfl, by simp⟩
  by_cases hq : (ds.length : Int) = N * N
  · rcases key with ⟨hv, ha⟩ | ⟨hv, ha⟩ <;> rw [ha]
    all_goals
      have hl0 := fun ks => loop_v (P := Tryd.prog) (K := kn) (ks := ks) hv
      clear hv
      simp only [loopAt, nthC, bodyC, loops, List.nil_append, List.cons_append, List.append_nil, Tryd.f98, sIMOS, Int.natCast_zero, List.cons_append, List.nil_append] at hl0
      rcases e with rfl | rfl | rfl | rfl <;> simp at hq
      all_goals
        simp only [hq] at hl0 ⊢
        rw [vrun_v Tryd.func98 rfl rfl rfl]; simp only [Tryd.f98]
        simp (disch := omega) [go_sem, tab98, hl0]
  · clear key
    rcases e with rfl | rfl | rfl | rfl <;> simp at hq
    all_goals
      rw [vrun_v Tryd.func98 rfl rfl rfl]; simp only [Tryd.f98]
      simp (disch := omega) [go_sem, tab98, hq]
end
end
/- IvMatOf, reference. No conditions. -/
section
open Go.Proofs
set_option maxRecDepth 100000
set_option linter.unusedSimpArgs false
attribute [local go_sem] r_seq r_skip r_retC r_exitC r_label r_block r_region r_regionW r_xWt r_xW r_cond r_Bt r_Bf r_Ncode r_Nret r_Nexit r_Nblk r_Nblkr r_Nblke r_Nnil r_Es r_Onil r_Oop r_Oif r_Xs r_Gt r_Gf r_wtt r_wtf r_wft r_wff r_wu r_gO r_putS r_putN r_get r_keepN r_keepC r_fr r_fn r_fi r_ff r_fo r_l1 r_l2t r_cun r_cul r_cub r_cui r_cus r_cuis r_cuc r_cusl r_cuti r_cutv r_ven r_vec r_l2f r_l3 r_t1 r_t2 r_t0 r_rt r_rc r_en r_ec r_cM r_oN r_oC r_end r_endt r_endf r_nob0 r_nobN r_nobC r_nobE r_nb0 r_nbi r_nbs r_nbsl r_nbin r_nbce r_nLn r_nLv r_nLc r_nAa r_nAn r_nAk_b r_nAk_i r_nAk_s r_nAk_n r_nAk_is r_nAk_ce r_nAk_fp r_nAk_sl r_nAk_pt r_nAk_fn r_nsn r_nsv r_nsc r_m0 r_mi r_ms r_msl r_min r_mce r_mLn r_mLv r_mLc r_mAa r_mAn r_mAk_b r_mAk_i r_mAk_s r_mAk_n r_mAk_is r_mAk_ce r_mAk_fp r_mAk_sl r_mAk_pt r_mAk_fn r_msn r_msv r_msc r_atb r_ati r_ats r_atn r_atis r_atc r_atf r_atl r_atp r_atfn r_gcn r_gcc r_gLn r_gLc r_gIt r_ndn r_ndc r_gcB r_gLB r_two r_rea r_rea0 r_re1n r_re1c r_ori r_orv r_ord r_orn r_adn r_adc r_ad1 r_ern r_ers r_er0 r_rsl r_rptr r_rb r_ri r_rs r_rn r_ris r_rce r_rfp r_ra4 r_ra3 r_rt4 r_rf4 r_rf3 r_idS r_idc r_nS r_nP r_nF r_nT r_vsl r_vptr r_vb r_vi r_vs r_vn r_vis r_vce r_vfp r_va4 r_va3 r_vt4 r_vf4 r_vf3 r_rV r_Oi r_Ov r_Od r_rE r_rE0 r_En r_Ec r_E0 r_pO r_pk r_agL r_cO r_fO r_fSi r_fSv r_fPv r_fsl r_fptr r_ffn r_fag r_fb r_fint r_fstr r_fnil r_fis r_fce r_ffp r_res r_move r_assign r_pick r_pickt r_pickf r_alloc r_box r_al r_build r_bslice r_load r_store r_nlc r_nl1 r_nl2 r_bin r_un r_conv r_mkf r_mks r_slc r_fad r_fld r_iad r_idx r_ext r_ex1 r_callf r_callt r_callen r_calapp r_calmax r_calmin r_vt r_vcb r_vci r_vcs r_vcnp r_vcn r_vca r_vcf r_vcg r_ofb r_ofi r_ofs r_ofn r_evs r_pn r_prt r_pc r_one_a r_one_b r_one_i r_one_s r_one_n r_one_is r_one_ce r_one_fp r_one_sl r_one_pt r_one_fn r_cs_a r_cs_b r_cs_i r_cs_s r_cs_n r_cs_is r_cs_ce r_cs_fp r_cs_sl r_cs_pt r_cs_fn r_tov r_tovA r_toc r_toa r_tb r_ti r_ts r_tn r_bd r_bd2 r_filn r_fp1 r_filc r_fsn r_fsc r_san r_sac r_bs2 r_bs1 r_newO r_mkq r_mkI r_mkOi r_mkOv r_tIn r_tIc r_repz r_repn r_ldp r_ldf r_l1t r_l1f r_lFt r_lFf r_aggO r_obj r_at r_ati' r_atv r_celli r_cellv r_subi r_subv r_sto r_sto1 r_sto2 r_sets r_setR r_setn r_setc r_s1i r_s1v r_bin1 r_bin2 r_tv1 r_cb r_ci r_cst r_cn r_csl r_cis r_cce r_uni r_unb r_cv r_cvO r_cvN r_cv0 r_cvS r_wB r_cvi r_cvs r_cvb r_cvl r_sO r_rdn r_rdi r_rdl r_rdO r_vsub r_vfn r_mk r_mk1 r_mk2 r_zoi r_zov r_leni r_lenv r_bn r_bndV r_bo r_sl0 r_sl1 r_vsz r_ct1 r_cts r_cti r_ctc r_ctn r_lnl r_lni r_lnc r_lnn r_fa r_fap r_faf r_fi1 r_fit r_fif r_ixi r_ixs r_ixc r_ixf r_ixF r_ixF2 r_ix1 r_ixsl r_ixin r_ixce r_len1 r_lenA r_lTs r_lTn r_lTl r_lTi r_lTc r_app0 r_app r_app1 r_app2 r_app3 r_catO r_cati r_catv r_newt r_newf r_pair r_pairK r_trip r_kis r_kiv r_srn r_srl r_sri r_src r_srs r_oln r_oll r_vw r_wi r_wv r_mm r_max r_min' r_str r_cF r_c2t r_c3f r_c3t r_ab r_c2f r_cV r_p1 r_la r_la2t r_la2f r_la3 r_sh r_z_is r_z_ce r_z_fp r_z_b r_z_i r_z_s r_z_n r_z_l r_z_p r_z_a4 r_z_a3 r_z_t4 r_zoI r_zoV r_roN r_roC r_roi r_rod r_zod r_rov r_aR r_trOi r_trOv r_trPv r_trl r_trp r_trf r_tra r_trb r_tri r_trs r_trn r_tris r_trce r_trfp r_vJ r_vJs r_vJn
attribute [local go_sem] b_add b_sub b_mul b_quo b_rem b_shl b_shr b_eql b_neq b_lss b_leq b_gtr b_geq eqB_s b_eqB b_neB u_neg u_not b_nn b_nn' eqS_s zerosT_s zerosT_n zt_i zt_sl zt_st dstOf_z dstOf_n iltT iltF ileT ileF ieqT ieqF nltT nltF nleT nleF neqT neqF tdiv_pos tmod_pos w64 idx0 List.take_of_length_le
open Num
def vsI (ds : List DyT) : List IvT := ds.map fun x => ⟨x, x⟩
section
variable {ds : List DyT} {N : Int} {n i : Nat} {x : DyT}
theorem vsI_flat : flat IvT.v (vsI ds) = flat DyT.v (dup ds) := by
  unfold vsI
  induction ds with
  | nil => rfl
  | cons y r ih => rw [List.map_cons, flat, ih]; rfl
theorem vsI_len : (vsI ds).length = ds.length := by unfold vsI; simp
theorem dcmp_self : dcmp x x = 0 := by
  have h : alA x.n x.e x.n x.e = alB x.n x.e x.n x.e := rfl
  unfold dcmp
  rw [h]
  generalize alB x.n x.e x.n x.e = a
  unfold scmp cmpI
  cases x.neg <;> simp
theorem vsI_ok (h : matOkB N ds = true) : ivMatOkB N (vsI ds) = true := by
  obtain ⟨n, rfl, n1, n2, hlen, ho⟩ := matOk_t h
  unfold ivMatOkB
  have k1 : (1 : Int) ≤ n := by omega
  have k2 : (n : Int) ≤ 4 := by omega
  have k3 : (((vsI ds).length : Nat) : Int) = (n : Int) * n := by rw [vsI_len, hlen]; simp
  rw [decide_eq_true k1, decide_eq_true k2, decide_eq_true k3]
  simp only [Bool.true_and]
  refine List.all_eq_true.2 fun v hv => ?_
  unfold vsI at hv
  obtain ⟨x, hx, rfl⟩ := List.mem_map.1 hv
  unfold ivOkB
  rw [ho x hx, dcmp_self]; rfl
theorem vreps6 (q : Nat) : vreps q [.bool false, .nil, .int .i64 0, .bool false, .nil, .int .i64 0] = flat cz (List.replicate (2 * q) none) := by
  induction q with
  | zero => rfl
  | succ q ih => rw [r_repn, ih, show 2 * (q + 1) = 2 * q + 1 + 1 by omega, List.replicate_succ, List.replicate_succ]; rfl
theorem l10new_v (d : Nat) {n : Nat} (hn : n ≤ 4) : vrun Tryd.prog kn (d + 1) 99 [.int .i64 n] [] = some (.agg [.int .i64 n, .sl 0 0 (n * n) 6], [.vals true (flat cz (List.replicate (2 * (n * n)) none))]) := by
  have hnn : n * n ≤ 16 := Nat.mul_le_mul hn hn
  have hI : (n : Int) * n = ((n * n : Nat) : Int) := by simp
  have hlen := cz_len3 (List.replicate (2 * (n * n)) (none : Option DyT))
  have hG1 := fun m => cz_refs m (List.replicate (2 * (n * n)) (none : Option DyT))
  have hG2 := fun ρ m => cz_ren ρ m (List.replicate (2 * (n * n)) (none : Option DyT))
  rw [List.length_replicate] at hlen
  rw [← vreps6] at hlen hG1 hG2 ⊢
  generalize n * n = q at *
  rw [vrun_v Tryd.func99 rfl rfl rfl]; simp only [Tryd.f99]
  simp (implicitDefEqProofs := false) (disch := omega) [go_sem, tab99, hI, hlen, hG1, hG2]
def ziL (ds : List DyT) (i : Nat) : List (Option DyT) := ((dup ds).take (2 * i)).map some ++ List.replicate (2 * ds.length - 2 * i) none
theorem ziL_len (hi : i ≤ ds.length) : (ziL ds i).length = 2 * ds.length := by
  have := dup_len (ds := ds)
  unfold ziL; simp; omega
theorem ziL_set (hx : ds[i]? = some x) : (((((((flat cz (ziL ds i)).set (i * 6) (.bool x.neg)).set (i * 6 + 1) (.ints .i64 x.l)).set (i * 6 + 2) (.int .i64 x.e)).set (i * 6 + 3) (.bool x.neg)).set (i * 6 + 4) (.ints .i64 x.l)).set (i * 6 + 5) (.int .i64 x.e)) = flat cz (ziL ds (i + 1)) := by
  have hi := (List.getElem?_eq_some_iff.1 hx).1
  obtain ⟨d1, d2⟩ := dup_get hx
  have hdl := dup_len (ds := ds)
  have h1 := cz_set (ziL ds i) (2 * i) x (by rw [ziL_len (by omega)]; omega)
  have h2 := cz_set ((ziL ds i).set (2 * i) (some x)) (2 * i + 1) x (by rw [List.length_set, ziL_len (by omega)]; omega)
  rw [← h1, show 2 * i * 3 = i * 6 by omega, show (2 * i + 1) * 3 = i * 6 + 3 by omega] at h2
  rw [show i * 6 + 3 + 1 = i * 6 + 4 by omega, show i * 6 + 3 + 2 = i * 6 + 5 by omega] at h2
  rw [h2]
  congr 1
  have hA : (((dup ds).take (2 * i)).map some).length = 2 * i := by simp; omega
  unfold ziL
  rw [show 2 * (i + 1) = 2 * i + 1 + 1 by omega, List.take_add_one, List.take_add_one, d1, d2, show 2 * ds.length - 2 * i = (2 * ds.length - (2 * i + 1 + 1)) + 1 + 1 by omega, List.replicate_succ, List.replicate_succ]
  rw [List.set_append_right _ _ (by omega), hA, Nat.sub_self, List.set_cons_zero, List.set_append_right _ _ (by omega), hA, show 2 * i + 1 - 2 * i = 1 by omega, List.set_cons_succ, List.set_cons_zero]
  simp
def ioH (b : VO) (ds : List DyT) (n i : Nat) : VH := [b, .vals true [.int .i64 0, .nil], .vals true [.int .i64 n, .sl 3 0 ds.length 6], .vals true (flat cz (ziL ds i))]
theorem zi_fin (hi : i ≤ ds.length) : (flat cz (ziL ds i)).length = ds.length * 6 ∧ (∀ m, (flat cz (ziL ds i)).flatMap (vrefs m) = []) ∧ ∀ ρ m, omap (vren ρ m) (flat cz (ziL ds i)) = some (flat cz (ziL ds i)) :=
  ⟨by rw [cz_len3, ziL_len hi]; omega, fun m => cz_refs m _, fun ρ m => cz_ren ρ m _⟩
def iofS (ds : List DyT) (n i : Nat) : VE × VH := ([(1, some (.ptr 0 0)), (2, some (.ptr 1 0)), (3, some (.ptr 2 0)), (4, some (.int .i64 i))], ioH (.vals true [.int .i64 n, .cells 3 ds.length (flat DyT.v ds)]) ds n i)
def ifiS (ds : List DyT) (n i : Nat) : VE × VH := ([(1, some (.ptr 0 0)), (2, some (.ptr 1 0)), (4, some (.ptr 2 0)), (5, some (.int .i64 i))], ioH (.vals true [.int .i64 n, .cells 6 ds.length (flat DyT.v (dup ds))]) ds n i)
theorem iof_r (call : CallV) (hl : ds.length ≤ 16) (hi : i < ds.length) : vCode Tryd.prog kn call 68 (loopAt Tryd.f68 0) (iofS ds n i).1 (iofS ds n i).2 = some (.norm, iofS ds n (i + 1)) := by
  have hget : ds[i]? = some ds[i] := List.getElem?_eq_getElem hi
  have hsub : ((flat DyT.v ds).drop (i * 3)).take 3 = [.bool ds[i].neg, .ints .i64 ds[i].l, .int .i64 ds[i].e] := flat_sub DyT.len ds i _ hget
  obtain ⟨hcl, hG1, hG2⟩ := zi_fin (ds := ds) (i := i) (by omega)
  obtain ⟨_, hA1, hA2⟩ := zi_fin (ds := ds) (i := i + 1) (by omega)
  have hz := ziL_set hget
  rw [← hz] at hA1 hA2
  rw [round_v]; simp only [loopAt, nthC, bodyC, loops, List.nil_append, List.cons_append, List.append_nil, Tryd.f68, iofS, ioH]
  rw [← hz]
  clear hz
  generalize ds[i] = x at *
  generalize flat cz (ziL ds i) = C at *
  generalize flat DyT.v ds = F at *
  have ht : C.take (ds.length * 6) = C := List.take_of_length_le (by omega)
  simp (implicitDefEqProofs := false) (disch := omega) [go_sem, tab68, hsub, hcl, hG1, hG2, hA1, hA2, ht]
theorem iof_x (call : CallV) (hl : ds.length ≤ 16) : vCode Tryd.prog kn call 68 (loopAt Tryd.f68 0) (iofS ds n ds.length).1 (iofS ds n ds.length).2 = some (.exit 0, (iofS ds n ds.length).1 ++ [(12, some (.bool false))], (iofS ds n ds.length).2) := by
  obtain ⟨hcl, hG1, hG2⟩ := zi_fin (ds := ds) (i := ds.length) (Nat.le_refl _)
  rw [round_v]; simp only [loopAt, nthC, bodyC, loops, List.nil_append, List.cons_append, List.append_nil, Tryd.f68, iofS, ioH]
  generalize flat cz (ziL ds ds.length) = C at *
  generalize flat DyT.v ds = F at *
  have ht : C.take (ds.length * 6) = C := List.take_of_length_le (by omega)
  simp (implicitDefEqProofs := false) (disch := omega) [go_sem, tab68, hcl, hG1, hG2, ht]
theorem ifi_r (d : Nat) (hl : ds.length ≤ 16) (ho : ∀ x ∈ ds, dyOkB x = true) (hi : i < ds.length) : vCode Tryd.prog kn (vrun Tryd.prog kn (d + 7)) 67 (loopAt Tryd.f67 0) (ifiS ds n i).1 (ifiS ds n i).2 = some (.norm, ifiS ds n (i + 1)) := by
  have hget : ds[i]? = some ds[i] := List.getElem?_eq_getElem hi
  have hsub := dup_sub hget
  have e1 := fun d => l7own_v (x := ds[i]) d (ho _ (List.getElem_mem hi))
  obtain ⟨hcl, hG1, hG2⟩ := zi_fin (ds := ds) (i := i) (by omega)
  obtain ⟨_, hA1, hA2⟩ := zi_fin (ds := ds) (i := i + 1) (by omega)
  have hz := ziL_set hget
  rw [← hz] at hA1 hA2
  rw [round_v]; simp only [loopAt, nthC, bodyC, loops, List.nil_append, List.cons_append, List.append_nil, Tryd.f67, ifiS, ioH]
  rw [← hz]
  clear hz
  generalize ds[i] = x at *
  generalize flat cz (ziL ds i) = C at *
  generalize flat DyT.v (dup ds) = F at *
  have ht : C.take (ds.length * 6) = C := List.take_of_length_le (by omega)
  simp (implicitDefEqProofs := false) (disch := omega) [go_sem, tab67, hsub, e1, hcl, hG1, hG2, hA1, hA2, ht]
theorem ifi_x (call : CallV) (hl : ds.length ≤ 16) : vCode Tryd.prog kn call 67 (loopAt Tryd.f67 0) (ifiS ds n ds.length).1 (ifiS ds n ds.length).2 = some (.exit 0, (ifiS ds n ds.length).1 ++ [(17, some (.bool false))], (ifiS ds n ds.length).2) := by
  obtain ⟨hcl, hG1, hG2⟩ := zi_fin (ds := ds) (i := ds.length) (Nat.le_refl _)
  rw [round_v]; simp only [loopAt, nthC, bodyC, loops, List.nil_append, List.cons_append, List.append_nil, Tryd.f67, ifiS, ioH]
  generalize flat cz (ziL ds ds.length) = C at *
  generalize flat DyT.v (dup ds) = F at *
  have ht : C.take (ds.length * 6) = C := List.take_of_length_le (by omega)
  simp (implicitDefEqProofs := false) (disch := omega) [go_sem, tab67, hcl, hG1, hG2, ht]
theorem zi_0 : ziL ds 0 = List.replicate (2 * ds.length) none := by unfold ziL; simp
theorem zi_end : flat cz (ziL ds ds.length) = flat DyT.v (dup ds) := by
  have := dup_len (ds := ds)
  unfold ziL
  rw [List.take_of_length_le (by omega), Nat.sub_self, List.replicate_zero, List.append_nil, cz_some]
theorem z_all (M : Nat) : (flat cz (List.replicate M (none : Option DyT))).all (V.noFz 4) = true := by
  rw [cz_none]
  induction M with
  | zero => rfl
  | succ M ih => rw [r_repn, List.all_append, ih]; rfl
theorem l10of_v (d : Nat) (hn1 : 1 ≤ n) (hn : n ≤ 4) (hl : ds.length = n * n) : vrun Tryd.prog kn (d + 2) 68 [.agg [.int .i64 n, .cells 3 ds.length (flat DyT.v ds)]] [] = some (.agg [.int .i64 n, .cells 6 ds.length (flat DyT.v (dup ds))], []) := by
  have h1 := fun d => l10new_v (n := n) d hn
  have hnn : n * n ≤ 16 := Nat.mul_le_mul hn hn
  have hl0 := fun ks => loop_v (P := Tryd.prog) (K := kn) (ks := ks) (vi_for (iofS ds n) ds.length (n := kn.cf.rounds) (by rw [k_cf, c_rounds]; omega) (fun i hi => iof_r (vrun Tryd.prog kn (d + 1)) (by omega) hi) fun m => vi_exit (iof_x _ (by omega)))
  simp only [loopAt, nthC, bodyC, loops, List.nil_append, List.cons_append, List.append_nil, Tryd.f68, iofS, ioH, Int.natCast_zero, List.cons_append, List.nil_append, zi_0, zi_end] at hl0
  have hln := flat_len3 (dup ds)
  rw [dup_len] at hln
  have hfz := fun h m => fl_frz h m (dup ds)
  have hG1 := fun m => fl_refs m (dup ds)
  have hG2 := fun ρ m => fl_ren ρ m (dup ds)
  have zl := cz_len3 (List.replicate (2 * ds.length) (none : Option DyT))
  rw [List.length_replicate] at zl
  have zG1 := fun m => cz_refs m (List.replicate (2 * ds.length) (none : Option DyT))
  have zG2 := fun ρ m => cz_ren ρ m (List.replicate (2 * ds.length) (none : Option DyT))
  have zf := z_all (2 * ds.length)
  rw [← hl] at h1
  have hL : ds.length ≤ 16 := by omega
  clear hl
  generalize flat cz (List.replicate (2 * ds.length) none) = Z at *
  generalize flat DyT.v (dup ds) = T at *
  generalize flat DyT.v ds = F at *
  generalize ds.length = M at *
  have ht : T.take (M * 6) = T := List.take_of_length_le (by omega)
  have hz : Z.take (M * 6) = Z := List.take_of_length_le (by omega)
  rw [vrun_v Tryd.func68 rfl rfl rfl]; simp only [Tryd.f68]
  simp (implicitDefEqProofs := false) (disch := omega) [go_sem, tab68, h1, hl0, hln, hfz, hG1, hG2, ht, zl, zG1, zG2, zf, hz]
theorem l10fits_v (d : Nat) (hm : matOkB (n : Int) ds = true) : vrun Tryd.prog kn (d + 8) 67 [.agg [.int .i64 n, .cells 6 ds.length (flat DyT.v (dup ds))]] [] = some (.tup [.agg [.int .i64 n, .cells 6 ds.length (flat DyT.v (dup ds))], .bool true], []) := by
  obtain ⟨n', e, hn1, hn, hl, ho⟩ := matOk_t hm
  obtain rfl : n = n' := by omega
  have h1 := fun d => l10new_v (n := n) d hn
  have hnn : n * n ≤ 16 := Nat.mul_le_mul hn hn
  have h2 := fun d => sIvMatOk_v (N := (n : Int)) d (ds := vsI ds) (by rw [vsI_len]; omega) (fun v hv => by
    unfold vsI at hv
    obtain ⟨x, hx, rfl⟩ := List.mem_map.1 hv
    obtain ⟨e1, x1, _⟩ := okD (ho x hx)
    unfold IvT.sz DyT.sz
    simp only
    rw [e1]; omega)
  rw [vsI_ok hm, vsI_flat, vsI_len] at h2
  have hl0 := fun ks => loop_v (P := Tryd.prog) (K := kn) (ks := ks) (vi_for (ifiS ds n) ds.length (n := kn.cf.rounds) (by rw [k_cf, c_rounds]; omega) (fun i hi => ifi_r d (by omega) ho hi) fun m => vi_exit (ifi_x _ (by omega)))
  simp only [loopAt, nthC, bodyC, loops, List.nil_append, List.cons_append, List.append_nil, Tryd.f67, ifiS, ioH, Int.natCast_zero, List.cons_append, List.nil_append, zi_0, zi_end] at hl0
  have hln := flat_len3 (dup ds)
  rw [dup_len] at hln
  have hfz := fun h m => fl_frz h m (dup ds)
  have hG1 := fun m => fl_refs m (dup ds)
  have hG2 := fun ρ m => fl_ren ρ m (dup ds)
  have zl := cz_len3 (List.replicate (2 * ds.length) (none : Option DyT))
  rw [List.length_replicate] at zl
  have zG1 := fun m => cz_refs m (List.replicate (2 * ds.length) (none : Option DyT))
  have zG2 := fun ρ m => cz_ren ρ m (List.replicate (2 * ds.length) (none : Option DyT))
  have zf := z_all (2 * ds.length)
  rw [← hl] at h1
  have hL : ds.length ≤ 16 := by omega
  clear hl hm ho e
  generalize flat cz (List.replicate (2 * ds.length) none) = Z at *
  generalize flat DyT.v (dup ds) = T at *
  generalize ds.length = M at *
  have ht : T.take (M * 6) = T := List.take_of_length_le (by omega)
  have hz : Z.take (M * 6) = Z := List.take_of_length_le (by omega)
  rw [vrun_v Tryd.func67 rfl rfl rfl]; simp only [Tryd.f67]
  simp (implicitDefEqProofs := false) (disch := omega) [go_sem, tab67, h1, h2, hl0, hln, hfz, hG1, hG2, ht, zl, zG1, zG2, zf, hz]
theorem sIvMatOf_v (d : Nat) (hl : ds.length < 100000000) (hs : ∀ x ∈ ds, x.sz) : vrun Tryd.prog kn (d + 9) 29 [.agg [.int .i64 N, .cells 3 ds.length (flat DyT.v ds)]] [] = some (.tup [.agg [.int .i64 (okN0 N ds), .cells 6 (ioN N ds) (flat DyT.v (ioR N ds))], .bool (matOkB N ds)], []) := by
  have h1 := fun d => sMatOk_v (N := N) d hl hs
  unfold ioR okN0 ioN
  cases hq : matOkB N ds with
  | false =>
    rw [hq] at h1
    simp only [Bool.false_eq_true, if_false, flat]
    rw [vrun_v Tryd.func29 rfl rfl rfl]; simp only [Tryd.f29]
    simp (implicitDefEqProofs := false) (disch := omega) [go_sem, tab29, h1]
  | true =>
    obtain ⟨n, rfl, n1, n2, hlen, ho⟩ := matOk_t hq
    rw [hq] at h1
    have h2 := fun d => l10of_v (ds := ds) (n := n) d n1 n2 hlen
    have h3 := fun d => l10fits_v (ds := ds) (n := n) d hq
    simp only [if_true]
    clear ho hq hs
    generalize flat DyT.v (dup ds) = F' at *
    generalize flat DyT.v ds = F at *
    rw [vrun_v Tryd.func29 rfl rfl rfl]; simp only [Tryd.f29]
    simp (implicitDefEqProofs := false) (disch := omega) [go_sem, tab29, h1, h2, h3]
end
end
/- Calls whose results are matrices of intervals, over heaps of which parts are known. No conditions. -/
section
open Go.Proofs
set_option maxRecDepth 100000
set_option linter.unusedSimpArgs false
attribute [local go_sem] r_seq r_skip r_retC r_exitC r_label r_block r_region r_regionW r_xWt r_xW r_cond r_Bt r_Bf r_Ncode r_Nret r_Nexit r_Nblk r_Nblkr r_Nblke r_Nnil r_Es r_Onil r_Oop r_Oif r_Xs r_Gt r_Gf r_wtt r_wtf r_wft r_wff r_wu r_gO r_putS r_putN r_get r_keepN r_keepC r_fr r_fn r_fi r_ff r_fo r_l1 r_l2t r_cun r_cul r_cub r_cui r_cus r_cuis r_cuc r_cusl r_cuti r_cutv r_ven r_vec r_l2f r_l3 r_t1 r_t2 r_t0 r_rt r_rc r_en r_ec r_cM r_oN r_oC r_end r_endt r_endf r_nob0 r_nobN r_nobC r_nobE r_nb0 r_nbi r_nbs r_nbsl r_nbin r_nbce r_nLn r_nLv r_nLc r_nAa r_nAn r_nAk_b r_nAk_i r_nAk_s r_nAk_n r_nAk_is r_nAk_ce r_nAk_fp r_nAk_sl r_nAk_pt r_nAk_fn r_nsn r_nsv r_nsc r_m0 r_mi r_ms r_msl r_min r_mce r_mLn r_mLv r_mLc r_mAa r_mAn r_mAk_b r_mAk_i r_mAk_s r_mAk_n r_mAk_is r_mAk_ce r_mAk_fp r_mAk_sl r_mAk_pt r_mAk_fn r_msn r_msv r_msc r_atb r_ati r_ats r_atn r_atis r_atc r_atf r_atl r_atp r_atfn r_gcn r_gcc r_gLn r_gLc r_gIt r_ndn r_ndc r_gcB r_gLB r_two r_rea r_rea0 r_re1n r_re1c r_ori r_orv r_ord r_orn r_adn r_adc r_ad1 r_ern r_ers r_er0 r_rsl r_rptr r_rb r_ri r_rs r_rn r_ris r_rce r_rfp r_ra4 r_ra3 r_rt4 r_rf4 r_rf3 r_idS r_idc r_nS r_nP r_nF r_nT r_vsl r_vptr r_vb r_vi r_vs r_vn r_vis r_vce r_vfp r_va4 r_va3 r_vt4 r_vf4 r_vf3 r_rV r_Oi r_Ov r_Od r_rE r_rE0 r_En r_Ec r_E0 r_pO r_pk r_agL r_cO r_fO r_fSi r_fSv r_fPv r_fsl r_fptr r_ffn r_fag r_fb r_fint r_fstr r_fnil r_fis r_fce r_ffp r_res r_move r_assign r_pick r_pickt r_pickf r_alloc r_box r_al r_build r_bslice r_load r_store r_nlc r_nl1 r_nl2 r_bin r_un r_conv r_mkf r_mks r_slc r_fad r_fld r_iad r_idx r_ext r_ex1 r_callf r_callt r_callen r_calapp r_calmax r_calmin r_vt r_vcb r_vci r_vcs r_vcnp r_vcn r_vca r_vcf r_vcg r_ofb r_ofi r_ofs r_ofn r_evs r_pn r_prt r_pc r_one_a r_one_b r_one_i r_one_s r_one_n r_one_is r_one_ce r_one_fp r_one_sl r_one_pt r_one_fn r_cs_a r_cs_b r_cs_i r_cs_s r_cs_n r_cs_is r_cs_ce r_cs_fp r_cs_sl r_cs_pt r_cs_fn r_tov r_tovA r_toc r_toa r_tb r_ti r_ts r_tn r_bd r_bd2 r_filn r_fp1 r_filc r_fsn r_fsc r_san r_sac r_bs2 r_bs1 r_newO r_mkq r_mkI r_mkOi r_mkOv r_tIn r_tIc r_repz r_repn r_ldp r_ldf r_l1t r_l1f r_lFt r_lFf r_aggO r_obj r_at r_ati' r_atv r_celli r_cellv r_subi r_subv r_sto r_sto1 r_sto2 r_sets r_setR r_setn r_setc r_s1i r_s1v r_bin1 r_bin2 r_tv1 r_cb r_ci r_cst r_cn r_csl r_cis r_cce r_uni r_unb r_cv r_cvO r_cvN r_cv0 r_cvS r_wB r_cvi r_cvs r_cvb r_cvl r_sO r_rdn r_rdi r_rdl r_rdO r_vsub r_vfn r_mk r_mk1 r_mk2 r_zoi r_zov r_leni r_lenv r_bn r_bndV r_bo r_sl0 r_sl1 r_vsz r_ct1 r_cts r_cti r_ctc r_ctn r_lnl r_lni r_lnc r_lnn r_fa r_fap r_faf r_fi1 r_fit r_fif r_ixi r_ixs r_ixc r_ixf r_ixF r_ixF2 r_ix1 r_ixsl r_ixin r_ixce r_len1 r_lenA r_lTs r_lTn r_lTl r_lTi r_lTc r_app0 r_app r_app1 r_app2 r_app3 r_catO r_cati r_catv r_newt r_newf r_pair r_pairK r_trip r_kis r_kiv r_srn r_srl r_sri r_src r_srs r_oln r_oll r_vw r_wi r_wv r_mm r_max r_min' r_str r_cF r_c2t r_c3f r_c3t r_ab r_c2f r_cV r_p1 r_la r_la2t r_la2f r_la3 r_sh r_z_is r_z_ce r_z_fp r_z_b r_z_i r_z_s r_z_n r_z_l r_z_p r_z_a4 r_z_a3 r_z_t4 r_zoI r_zoV r_roN r_roC r_roi r_rod r_zod r_rov r_aR r_trOi r_trOv r_trPv r_trl r_trp r_trf r_tra r_trb r_tri r_trs r_trn r_tris r_trce r_trfp r_vJ r_vJs r_vJn
attribute [local go_sem] b_add b_sub b_mul b_quo b_rem b_shl b_shr b_eql b_neq b_lss b_leq b_gtr b_geq eqB_s b_eqB b_neB u_neg u_not b_nn b_nn' eqS_s zerosT_s zerosT_n zt_i zt_sl zt_st dstOf_z dstOf_n iltT iltF ileT ileF ieqT ieqF nltT nltF nleT nleF neqT neqF tdiv_pos tmod_pos w64 idx0 List.take_of_length_le
open Num
section
variable {ds R : List DyT} {N M k : Int} {f : Bool} {h g : VH} {i lo hi n : Nat} {p : Nat → Nat} {call : CallV} {q : FuncId} {args fa : List V}
theorem own6_c (hp : kn.cf.pure q = true) (ha : kn.ali q = false) (hf : omap (vfrz h 6) args = some fa) (hc : call q (vnrmAs (kn.args q) fa) [] = some (.tup [.agg [.int .i64 N, .sl 0 0 n 6], .bool f], mblk 0 R)) :
    ∃ (G : VH) (i : Nat) (p : Nat → Nat), vcallF kn call h q (some args) = some (.tup [.agg [.int .i64 N, .sl i 0 n 6], .bool f], G) ∧ HM h.length G.length G i p R ∧ Sub h G := by
  have hz : (V.noFz 4 (.tup [.agg [.int .i64 N, .sl 0 0 n 6], .bool f]) && (mblk 0 R).all VO.noFz) = true := by rw [nf_mblk]; simp [go_sem]
  exact ⟨_, _, _, callF_own hp ha hf hc hz (pl_mblk 0 R) (by simp [go_sem]), (own_mblk R).land h, Sub.app _ _⟩
theorem frz6_c {P : Nat → Prop} (hp : kn.cf.pure q = true) (ha : kn.ali q = false) (hf : omap (vfrz h 6) args = some fa) (hc : call q (vnrmAs (kn.args q) fa) [] = some (.tup [.agg [.int .i64 N, .cells 6 n (flat DyT.v R)], .bool f], [])) (ht : ∀ x, x ∈ argRefs h args → P x) :
    ∃ G, vcallF kn call h q (some args) = some (.tup [.agg [.int .i64 N, .cells 6 n (flat DyT.v R)], .bool f], G) ∧ G.length = h.length ∧ ∀ x, ¬ P x → G[x]? = h[x]? :=
  callF_ro hp ha hf hc (by simp [go_sem]) (by simp [go_sem]) ht
/-- A list of numbers as one of intervals. -/
def IvL (R : List DyT) (n : Nat) : Prop := R.length = 2 * n ∧ ∃ W : List IvT, flat DyT.v R = flat IvT.v W ∧ W.length = n ∧ ∀ v ∈ W, v.small
theorem io_IvL : IvL (ioR N ds) (ioN N ds) := by
  refine ⟨(io_bd (N := N) (ds := ds)).1, ?_⟩
  have hb := (io_bd (N := N) (ds := ds)).2.2.1
  unfold ioR ioN at *
  cases hq : matOkB N ds with
  | false => exact ⟨[], rfl, rfl, fun v hv => by simp at hv⟩
  | true =>
    rw [hq] at hb
    simp only [if_true] at hb ⊢
    refine ⟨vsI ds, vsI_flat.symm, vsI_len, fun v hv => ?_⟩
    unfold vsI at hv
    obtain ⟨x, hx, rfl⟩ := List.mem_map.1 hv
    have : x ∈ dup ds := by unfold dup; exact List.mem_flatMap.2 ⟨x, hx, by simp⟩
    have := hb x this
    unfold IvT.small
    simp only
    omega
theorem eqIvMatF_c (d : Nat) (m : HM lo hi h i p R) (hn : n < 1000000000) (hv : IvL R n) :
    vcallF kn (vrun Tryd.prog kn (d + 7)) h 31 (some [.agg [.int .i64 N, .sl i 0 n 6], .agg [.int .i64 N, .cells 6 n (flat DyT.v R)]]) = some (.bool true, h) := by
  obtain ⟨hl, W, e, hW, hs⟩ := hv
  have h1 := eqIvMat_v d (N := N) (M := N) (ds := W) (es := W) (by omega) (by omega) hs hs
  simp only [decide_true, Bool.and_true] at h1
  rw [← e, hW] at h1
  have hf := m.frzI (N := N) (n := n) hl 3
  refine callF_frz (fa := [.agg [.int .i64 N, .cells 6 n (flat DyT.v R)], .agg [.int .i64 N, .cells 6 n (flat DyT.v R)]]) (r := .bool true) c_pure31 rfl ?_ ?_ ?_ ?_
  · rw [r_oC, hf]; simp [go_sem]
  · simpa [go_sem] using h1
  · simp [go_sem]
  · simp [go_sem]
end
end
end Go.Eng
