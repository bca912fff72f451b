/- What the functions of this seat do, one after another, told by plain values. No conditions. -/
import Derived.Test.YtlejlpooblffbaaDoorSeat
import Derived.Test.YtlejlpooblffbaaDoorVb
import Derived.Test.YtlejlpooblffbaaDoorVc
import Derived.Test.YtlejlpooblffbaaDoorT4
set_option linter.unusedVariables false
set_option linter.unusedSimpArgs false
namespace Go.Eng
/- MatTurn, program. No conditions. -/
section
open Go.Proofs
set_option maxRecDepth 100000
set_option linter.unusedSimpArgs false
attribute [local go_sem] r_seq r_skip r_retC r_exitC r_label r_block r_region r_regionW r_xWt r_xW r_cond r_Bt r_Bf r_Ncode r_Nret r_Nexit r_Nblk r_Nblkr r_Nblke r_Nnil r_Es r_Onil r_Oop r_Oif r_Xs r_Gt r_Gf r_wtt r_wtf r_wft r_wff r_wu r_gO r_putS r_putN r_get r_keepN r_keepC r_fr r_fn r_fi r_ff r_fo r_l1 r_l2t r_cun r_cul r_cub r_cui r_cus r_cuis r_cuc r_cusl r_cuti r_cutv r_ven r_vec r_l2f r_l3 r_t1 r_t2 r_t0 r_rt r_rc r_en r_ec r_cM r_oN r_oC r_end r_endt r_endf r_nob0 r_nobN r_nobC r_nobE r_nb0 r_nbi r_nbs r_nbsl r_nbin r_nbce r_nLn r_nLv r_nLc r_nAa r_nAn r_nAk_b r_nAk_i r_nAk_s r_nAk_n r_nAk_is r_nAk_ce r_nAk_fp r_nAk_sl r_nAk_pt r_nAk_fn r_nsn r_nsv r_nsc r_m0 r_mi r_ms r_msl r_min r_mce r_mLn r_mLv r_mLc r_mAa r_mAn r_mAk_b r_mAk_i r_mAk_s r_mAk_n r_mAk_is r_mAk_ce r_mAk_fp r_mAk_sl r_mAk_pt r_mAk_fn r_msn r_msv r_msc r_atb r_ati r_ats r_atn r_atis r_atc r_atf r_atl r_atp r_atfn r_gcn r_gcc r_gLn r_gLc r_gIt r_ndn r_ndc r_gcB r_gLB r_two r_rea r_rea0 r_re1n r_re1c r_ori r_orv r_ord r_orn r_adn r_adc r_ad1 r_ern r_ers r_er0 r_rsl r_rptr r_rb r_ri r_rs r_rn r_ris r_rce r_rfp r_ra4 r_ra3 r_rt4 r_rf4 r_rf3 r_idS r_idc r_nS r_nP r_nF r_nT r_vsl r_vptr r_vb r_vi r_vs r_vn r_vis r_vce r_vfp r_va4 r_va3 r_vt4 r_vf4 r_vf3 r_rV r_Oi r_Ov r_Od r_rE r_rE0 r_En r_Ec r_E0 r_pO r_pk r_agL r_cO r_fO r_fSi r_fSv r_fPv r_fsl r_fptr r_ffn r_fag r_fb r_fint r_fstr r_fnil r_fis r_fce r_ffp r_res r_move r_assign r_pick r_pickt r_pickf r_alloc r_box r_al r_build r_bslice r_load r_store r_nlc r_nl1 r_nl2 r_bin r_un r_conv r_mkf r_mks r_slc r_fad r_fld r_iad r_idx r_ext r_ex1 r_callf r_callt r_callen r_calapp r_calmax r_calmin r_vt r_vcb r_vci r_vcs r_vcnp r_vcn r_vca r_vcf r_vcg r_ofb r_ofi r_ofs r_ofn r_evs r_pn r_prt r_pc r_one_a r_one_b r_one_i r_one_s r_one_n r_one_is r_one_ce r_one_fp r_one_sl r_one_pt r_one_fn r_cs_a r_cs_b r_cs_i r_cs_s r_cs_n r_cs_is r_cs_ce r_cs_fp r_cs_sl r_cs_pt r_cs_fn r_tov r_tovA r_toc r_toa r_tb r_ti r_ts r_tn r_bd r_bd2 r_filn r_fp1 r_filc r_fsn r_fsc r_san r_sac r_bs2 r_bs1 r_newO r_mkq r_mkI r_mkOi r_mkOv r_tIn r_tIc r_repz r_repn r_ldp r_ldf r_l1t r_l1f r_lFt r_lFf r_aggO r_obj r_at r_ati' r_atv r_celli r_cellv r_subi r_subv r_sto r_sto1 r_sto2 r_sets r_setR r_setn r_setc r_s1i r_s1v r_bin1 r_bin2 r_tv1 r_cb r_ci r_cst r_cn r_csl r_cis r_cce r_uni r_unb r_cv r_cvO r_cvN r_cv0 r_cvS r_wB r_cvi r_cvs r_cvb r_cvl r_sO r_rdn r_rdi r_rdl r_rdO r_vsub r_vfn r_mk r_mk1 r_mk2 r_zoi r_zov r_leni r_lenv r_bn r_bndV r_bo r_sl0 r_sl1 r_vsz r_ct1 r_cts r_cti r_ctc r_ctn r_lnl r_lni r_lnc r_lnn r_fa r_fap r_faf r_fi1 r_fit r_fif r_ixi r_ixs r_ixc r_ixf r_ixF r_ixF2 r_ix1 r_ixsl r_ixin r_ixce r_len1 r_lenA r_lTs r_lTn r_lTl r_lTi r_lTc r_app0 r_app r_app1 r_app2 r_app3 r_catO r_cati r_catv r_newt r_newf r_pair r_pairK r_trip r_kis r_kiv r_srn r_srl r_sri r_src r_srs r_oln r_oll r_vw r_wi r_wv r_mm r_max r_min' r_str r_cF r_c2t r_c3f r_c3t r_ab r_c2f r_cV r_p1 r_la r_la2t r_la2f r_la3 r_sh r_z_is r_z_ce r_z_fp r_z_b r_z_i r_z_s r_z_n r_z_l r_z_p r_z_a4 r_z_a3 r_z_t4 r_zoI r_zoV r_roN r_roC r_roi r_rod r_zod r_rov r_aR r_trOi r_trOv r_trPv r_trl r_trp r_trf r_tra r_trb r_tri r_trs r_trn r_tris r_trce r_trfp r_vJ r_vJs r_vJn
attribute [local go_sem] b_add b_sub b_mul b_quo b_rem b_shl b_shr b_eql b_neq b_lss b_leq b_gtr b_geq eqB_s b_eqB b_neB u_neg u_not b_nn b_nn' eqS_s zerosT_s zerosT_n zt_i zt_sl zt_st dstOf_z dstOf_n iltT iltF ileT ileF ieqT ieqF nltT nltF nleT nleF neqT neqF tdiv_pos tmod_pos w64 idx0 List.take_of_length_le
open Num
section
variable {ds : List DyT} {N : Int} {n : Nat}
theorem mat_h (d : Nat) (hl : ds.length < 1000000) (hx : ∀ x ∈ ds, XOk x) : ∃ (o : VH) (i : Nat) (p : Nat → Nat), Own o i p (xR ds) ∧ ∀ (h : VH), vcallF kn (vrun Tryd.prog kn (d + 7)) h 50 (some [.agg [.int .i64 N, .cells 3 ds.length (flat DyT.v ds)]]) = some (.tup [.agg [.int .i64 (xNm N ds), .sl (h.length + i) 0 (xR ds).length 3], .bool (ds.all xft)], h ++ o.map (shO h.length)) := by
  obtain ⟨o, i, p, h1, w⟩ := mat_v d (N := N) hl hx
  refine ⟨o, i, p, w, fun h => ?_⟩
  refine callF_land (fa := [.agg [.int .i64 N, .cells 3 ds.length (flat DyT.v ds)]]) (r := .tup [.agg [.int .i64 (xNm N ds), .sl i 0 (xR ds).length 3], .bool (ds.all xft)]) c_pure50 rfl (by simp [go_sem]) ?_ (by simp [go_sem]) w.pl (by simp [go_sem])
  clear w
  generalize xR ds = R at *
  generalize xNm N ds = M at *
  generalize ds.all xft = f at *
  simpa [go_sem] using h1
theorem turn1_v (d : Nat) (hn : n ≤ 4) (hl : ds.length = n * n) {i j : Nat} (hi : i < n) (hj : j < n) {x : DyT} (hx : ds[j * n + i]? = some x) : vrun Tryd.prog kn (d + 2) 56 [.int .i64 i, .int .i64 j, .fptr [.int .i64 n, .cells 3 ds.length (flat DyT.v ds)]] [] = some (.agg x.v, []) := by
  have h1 := fun d => at_v (N := (n : Int)) d rfl hn hj hi hl hx
  show _ = some (V.agg [V.bool x.neg, V.ints .i64 x.l, V.int .i64 x.e], [])
  generalize flat DyT.v ds = F at *
  rw [vrun_v Tryd.func56 rfl rfl rfl]; simp only [Tryd.f56]
  simp (implicitDefEqProofs := false) (disch := omega) [go_sem, tab56, h1]
def turnT (N : Int) (ds : List DyT) : List DyT := if matOkB N ds then turnL ds N.toNat else []
def okN0 (N : Int) (ds : List DyT) : Int := if matOkB N ds then N else 0
end
end
section
open Go.Proofs
set_option maxRecDepth 100000
set_option linter.unusedSimpArgs false
attribute [local go_sem] r_seq r_skip r_retC r_exitC r_label r_block r_region r_regionW r_xWt r_xW r_cond r_Bt r_Bf r_Ncode r_Nret r_Nexit r_Nblk r_Nblkr r_Nblke r_Nnil r_Es r_Onil r_Oop r_Oif r_Xs r_Gt r_Gf r_wtt r_wtf r_wft r_wff r_wu r_gO r_putS r_putN r_get r_keepN r_keepC r_fr r_fn r_fi r_ff r_fo r_l1 r_l2t r_cun r_cul r_cub r_cui r_cus r_cuis r_cuc r_cusl r_cuti r_cutv r_ven r_vec r_l2f r_l3 r_t1 r_t2 r_t0 r_rt r_rc r_en r_ec r_cM r_oN r_oC r_end r_endt r_endf r_nob0 r_nobN r_nobC r_nobE r_nb0 r_nbi r_nbs r_nbsl r_nbin r_nbce r_nLn r_nLv r_nLc r_nAa r_nAn r_nAk_b r_nAk_i r_nAk_s r_nAk_n r_nAk_is r_nAk_ce r_nAk_fp r_nAk_sl r_nAk_pt r_nAk_fn r_nsn r_nsv r_nsc r_m0 r_mi r_ms r_msl r_min r_mce r_mLn r_mLv r_mLc r_mAa r_mAn r_mAk_b r_mAk_i r_mAk_s r_mAk_n r_mAk_is r_mAk_ce r_mAk_fp r_mAk_sl r_mAk_pt r_mAk_fn r_msn r_msv r_msc r_atb r_ati r_ats r_atn r_atis r_atc r_atf r_atl r_atp r_atfn r_gcn r_gLn r_gIt r_ndn r_ndc r_gcB r_gLB r_two r_rea r_rea0 r_re1n r_re1c r_ori r_orv r_ord r_orn r_adn r_adc r_ad1 r_ern r_ers r_er0 r_rsl r_rptr r_rb r_ri r_rs r_rn r_ris r_rce r_rfp r_ra4 r_ra3 r_rt4 r_rf4 r_rf3 r_idS r_idc r_nS r_nP r_nF r_nT r_vsl r_vptr r_vb r_vi r_vs r_vn r_vis r_vce r_vfp r_va4 r_va3 r_vt4 r_vf4 r_vf3 r_rV r_Oi r_Ov r_Od r_rE r_rE0 r_En r_Ec r_E0 r_pO r_pk r_agL r_cO r_fO r_fSi r_fSv r_fPv r_fsl r_fptr r_ffn r_fag r_fb r_fint r_fstr r_fnil r_fis r_fce r_ffp r_res r_move r_assign r_pick r_pickt r_pickf r_alloc r_box r_al r_build r_bslice r_load r_store r_nlc r_nl1 r_nl2 r_bin r_un r_conv r_mkf r_mks r_slc r_fad r_fld r_iad r_idx r_ext r_ex1 r_callf r_callt r_callen r_calapp r_calmax r_calmin r_vt r_vcb r_vci r_vcs r_vcnp r_vcn r_vca r_vcf r_vcg r_ofb r_ofi r_ofs r_ofn r_evs r_pn r_prt r_pc r_one_a r_one_b r_one_i r_one_s r_one_n r_one_is r_one_ce r_one_fp r_one_sl r_one_pt r_one_fn r_cs_a r_cs_b r_cs_i r_cs_s r_cs_n r_cs_is r_cs_ce r_cs_fp r_cs_sl r_cs_pt r_cs_fn r_tov r_tovA r_toc r_toa r_tb r_ti r_ts r_tn r_bd r_bd2 r_filn r_fp1 r_filc r_fsn r_fsc r_san r_sac r_bs2 r_bs1 r_newO r_mkq r_mkI r_mkOi r_mkOv r_tIn r_tIc r_repz r_repn r_ldp r_ldf r_l1t r_l1f r_lFt r_lFf r_aggO r_obj r_at r_ati' r_atv r_celli r_cellv r_subi r_subv r_sto r_sto1 r_sto2 r_sets r_setR r_setn r_setc r_s1i r_s1v r_bin1 r_bin2 r_tv1 r_cb r_ci r_cst r_cn r_csl r_cis r_cce r_uni r_unb r_cv r_cvO r_cvN r_cv0 r_cvS r_wB r_cvi r_cvs r_cvb r_cvl r_sO r_rdn r_rdi r_rdl r_rdO r_vsub r_vfn r_mk r_mk1 r_mk2 r_zoi r_zov r_leni r_lenv r_bn r_bndV r_bo r_sl0 r_sl1 r_vsz r_ct1 r_cts r_cti r_ctc r_ctn r_lnl r_lni r_lnc r_lnn r_fa r_fap r_faf r_fi1 r_fit r_fif r_ixi r_ixs r_ixc r_ixf r_ixF r_ixF2 r_ix1 r_ixsl r_ixin r_ixce r_len1 r_lenA r_lTs r_lTn r_lTl r_lTi r_lTc r_app0 r_app r_app1 r_app2 r_app3 r_catO r_cati r_catv r_newt r_newf r_pair r_pairK r_trip r_kis r_kiv r_srn r_srl r_sri r_src r_srs r_oln r_oll r_vw r_wi r_wv r_mm r_max r_min' r_str r_c2t r_c3f r_c3t r_ab r_c2f r_cV r_p1 r_la r_la2t r_la2f r_la3 r_sh r_z_is r_z_ce r_z_fp r_z_b r_z_i r_z_s r_z_n r_z_l r_z_p r_z_a4 r_z_a3 r_z_t4 r_zoI r_zoV r_roN r_roC r_roi r_rod r_zod r_rov r_aR r_trOi r_trOv r_trPv r_trl r_trp r_trf r_tra r_trb r_tri r_trs r_trn r_tris r_trce r_trfp r_vJ r_vJs r_vJn
attribute [local go_sem] b_add b_sub b_mul b_quo b_rem b_shl b_shr b_eql b_neq b_lss b_leq b_gtr b_geq eqB_s b_eqB b_neB u_neg u_not b_nn b_nn' eqS_s zerosT_s zerosT_n zt_i zt_sl zt_st dstOf_z dstOf_n iltT iltF ileT ileF ieqT ieqF nltT nltF nleT nleF neqT neqF tdiv_pos tmod_pos w64 idx0 List.take_of_length_le
open Num
section
variable {ds : List DyT} {N : Int}
theorem MatTurn_v (d : Nat) (hl : ds.length < 100000000) (hs : ∀ x ∈ ds, x.sz) : vrun Tryd.prog kn (d + 18) 22 [.agg [.int .i64 N, .cells 3 ds.length (flat DyT.v ds)]] [] = some (.tup [.agg [.int .i64 (okN0 N ds), .sl 0 0 (turnT N ds).length 3], .bool (matOkB N ds)], mblk 0 (turnT N ds)) := by
  have h1 := fun d => MatOk_v (N := N) d hl hs
  have c1 : ∀ call h args, vcallF kn call h 54 (some args) = vcall2 kn call 54 args h (kn.cf.pure 54) := fun _ _ _ => rfl
  have c2 : ∀ call h args, vcallF kn call h 39 (some args) = vcall2 kn call 39 args h (kn.cf.pure 39) := fun _ _ _ => rfl
  have c3 : ∀ call h args, vcallF kn call h 55 (some args) = vcall2 kn call 55 args h (kn.cf.pure 55) := fun _ _ _ => rfl
  have gc1 : ∀ e a, vgc e [a] = vgcBy (reach [a] 3 (addNs [] (erefs e))) e [a] := fun _ _ => rfl
  have gc2 : ∀ e a b, vgc e [a, b] = vgcBy (reach [a, b] 3 (addNs [] (erefs e))) e [a, b] := fun _ _ _ => rfl
  have gc3 : ∀ e a b c, vgc e [a, b, c] = vgcBy (reach [a, b, c] 3 (addNs [] (erefs e))) e [a, b, c] := fun _ _ _ _ => rfl
  have gl2 : ∀ e a b, vgcL e [a, b] = vgcLBy (reach [a, b] 3 (addNs [] (e.flatMap (vrefs 4)))) e [a, b] := fun _ _ _ => rfl
  unfold turnT okN0
  cases hq : matOkB N ds with
  | false =>
    rw [hq] at h1
    simp only [Bool.false_eq_true, if_false]
    unfold mblk
    simp only [cellsP, List.map_nil]
    rw [vrun_v Tryd.func22 rfl rfl rfl]; simp only [Tryd.f22]
    simp (implicitDefEqProofs := false) (disch := omega) [go_sem, tab22, c1, gc1, gc2, gc3, gl2, h1]
  | true =>
    obtain ⟨n, rfl, n1, n2, hlen, ho⟩ := matOk_t hq
    rw [hq] at h1
    have hnn : n * n ≤ 16 := Nat.mul_le_mul n2 n2
    have h2 := fun d => grid_v (N := (n : Int)) d (ds := ds) (by omega) (by have := Nat.mul_pos n1 n1; omega) (fun y hy => by obtain ⟨e1, x1, _⟩ := okD (ho y hy); rw [e1]; omega)
    have ho' := turnL_all (P := fun x => dyOkB x = true) hlen n1 ho
    obtain ⟨ea, eb⟩ := mkall_ok ho'
    have eR : xR (turnL ds n) = turnL ds n := by unfold xR; rw [eb, ea]; rfl
    have eN : xNm (n : Int) (turnL ds n) = n := by unfold xNm; rw [eb]; rfl
    have tl := turnL_len (ds := ds) (n := n)
    have h3 := fun d => gridOf_v (G := turnL ds n) (g := 56) (caps := [.fptr [.int .i64 n, .cells 3 ds.length (flat DyT.v ds)]]) (d := d + 2) c_pure56 rfl (caps1 _) n1 n2 tl (fun i j x hi hj hx => by
      rw [turnL_at hi hj hlen] at hx
      simpa [go_sem] using turn1_v d n2 hlen hi hj hx)
    obtain ⟨o, i, p, w, h4⟩ := mat_h (N := (n : Int)) (d + 10) (ds := turnL ds n) (by omega) (fun x hx => (XOk_ok (ho' x hx)).1)
    rw [eR, eN, eb] at h4
    rw [eR] at w
    have hm := w.land [.vals true [.int .i64 n, .cells 3 ds.length (flat DyT.v ds)], .vals true [.int .i64 n, .sl (3 + i) 0 (turnL ds n).length 3], .vals false [.int .i64 n, .cells 3 ds.length (flat DyT.v ds)]]
    simp only [List.length_cons, List.length_nil, Nat.zero_add, List.cons_append, List.nil_append, Nat.reduceAdd] at hm
    have g1 := fun s t b => gcE_own hm (N := (n : Int)) (m := (turnL ds n).length) (sz := 3) (c := 1) (s := s) (t := t) (b := b) rfl
    have hm2 := (own_mblk (turnL ds n)).land [.vals true [.int .i64 n, .sl 1 0 (turnL ds n).length 3]]
    simp only [List.length_cons, List.length_nil, Nat.zero_add, List.cons_append, List.nil_append, Nat.reduceAdd, sh_mblk, Nat.add_zero] at hm2
    have g2 := gcL_own hm2 (N := (n : Int)) (m := (turnL ds n).length) (sz := 3) (b := true)
    simp only [if_true, Int.toNat_natCast]
    clear hm hm2 w ho ho' ea eb eR eN hq hs hl
    generalize turnL ds n = T at *
    generalize flat DyT.v ds = F at *
    generalize flat DyT.v T = F' at *
    rw [vrun_v Tryd.func22 rfl rfl rfl]; simp only [Tryd.f22]
    simp (implicitDefEqProofs := false) (disch := omega) [go_sem, tab22, c1, c2, c3, gc1, gc2, gc3, h1, h2, h3, h4, g1, g2]
end
end
/- MatScale, program and reference. No conditions. -/
section
open Go.Proofs
set_option maxRecDepth 100000
set_option linter.unusedSimpArgs false
attribute [local go_sem] r_seq r_skip r_retC r_exitC r_label r_block r_region r_regionW r_xWt r_xW r_cond r_Bt r_Bf r_Ncode r_Nret r_Nexit r_Nblk r_Nblkr r_Nblke r_Nnil r_Es r_Onil r_Oop r_Oif r_Xs r_Gt r_Gf r_wtt r_wtf r_wft r_wff r_wu r_gO r_putS r_putN r_get r_keepN r_keepC r_fr r_fn r_fi r_ff r_fo r_l1 r_l2t r_cun r_cul r_cub r_cui r_cus r_cuis r_cuc r_cusl r_cuti r_cutv r_ven r_vec r_l2f r_l3 r_t1 r_t2 r_t0 r_rt r_rc r_en r_ec r_cM r_oN r_oC r_end r_endt r_endf r_nob0 r_nobN r_nobC r_nobE r_nb0 r_nbi r_nbs r_nbsl r_nbin r_nbce r_nLn r_nLv r_nLc r_nAa r_nAn r_nAk_b r_nAk_i r_nAk_s r_nAk_n r_nAk_is r_nAk_ce r_nAk_fp r_nAk_sl r_nAk_pt r_nAk_fn r_nsn r_nsv r_nsc r_m0 r_mi r_ms r_msl r_min r_mce r_mLn r_mLv r_mLc r_mAa r_mAn r_mAk_b r_mAk_i r_mAk_s r_mAk_n r_mAk_is r_mAk_ce r_mAk_fp r_mAk_sl r_mAk_pt r_mAk_fn r_msn r_msv r_msc r_atb r_ati r_ats r_atn r_atis r_atc r_atf r_atl r_atp r_atfn r_gcn r_gcc r_gLn r_gLc r_gIt r_ndn r_ndc r_gcB r_gLB r_two r_rea r_rea0 r_re1n r_re1c r_ori r_orv r_ord r_orn r_adn r_adc r_ad1 r_ern r_ers r_er0 r_rsl r_rptr r_rb r_ri r_rs r_rn r_ris r_rce r_rfp r_ra4 r_ra3 r_rt4 r_rf4 r_rf3 r_idS r_idc r_nS r_nP r_nF r_nT r_vsl r_vptr r_vb r_vi r_vs r_vn r_vis r_vce r_vfp r_va4 r_va3 r_vt4 r_vf4 r_vf3 r_rV r_Oi r_Ov r_Od r_rE r_rE0 r_En r_Ec r_E0 r_pO r_pk r_agL r_cO r_fO r_fSi r_fSv r_fPv r_fsl r_fptr r_ffn r_fag r_fb r_fint r_fstr r_fnil r_fis r_fce r_ffp r_res r_move r_assign r_pick r_pickt r_pickf r_alloc r_box r_al r_build r_bslice r_load r_store r_nlc r_nl1 r_nl2 r_bin r_un r_conv r_mkf r_mks r_slc r_fad r_fld r_iad r_idx r_ext r_ex1 r_callf r_callt r_callen r_calapp r_calmax r_calmin r_vt r_vcb r_vci r_vcs r_vcnp r_vcn r_vca r_vcf r_vcg r_ofb r_ofi r_ofs r_ofn r_evs r_pn r_prt r_pc r_one_a r_one_b r_one_i r_one_s r_one_n r_one_is r_one_ce r_one_fp r_one_sl r_one_pt r_one_fn r_cs_a r_cs_b r_cs_i r_cs_s r_cs_n r_cs_is r_cs_ce r_cs_fp r_cs_sl r_cs_pt r_cs_fn r_tov r_tovA r_toc r_toa r_tb r_ti r_ts r_tn r_bd r_bd2 r_filn r_fp1 r_filc r_fsn r_fsc r_san r_sac r_bs2 r_bs1 r_newO r_mkq r_mkI r_mkOi r_mkOv r_tIn r_tIc r_repz r_repn r_ldp r_ldf r_l1t r_l1f r_lFt r_lFf r_aggO r_obj r_at r_ati' r_atv r_celli r_cellv r_subi r_subv r_sto r_sto1 r_sto2 r_sets r_setR r_setn r_setc r_s1i r_s1v r_bin1 r_bin2 r_tv1 r_cb r_ci r_cst r_cn r_csl r_cis r_cce r_uni r_unb r_cv r_cvO r_cvN r_cv0 r_cvS r_wB r_cvi r_cvs r_cvb r_cvl r_sO r_rdn r_rdi r_rdl r_rdO r_vsub r_vfn r_mk r_mk1 r_mk2 r_zoi r_zov r_leni r_lenv r_bn r_bndV r_bo r_sl0 r_sl1 r_vsz r_ct1 r_cts r_cti r_ctc r_ctn r_lnl r_lni r_lnc r_lnn r_fa r_fap r_faf r_fi1 r_fit r_fif r_ixi r_ixs r_ixc r_ixf r_ixF r_ixF2 r_ix1 r_ixsl r_ixin r_ixce r_len1 r_lenA r_lTs r_lTn r_lTl r_lTi r_lTc r_app0 r_app r_app1 r_app2 r_app3 r_catO r_cati r_catv r_newt r_newf r_pair r_pairK r_trip r_kis r_kiv r_srn r_srl r_sri r_src r_srs r_oln r_oll r_vw r_wi r_wv r_mm r_max r_min' r_str r_cF r_c2t r_c3f r_c3t r_ab r_c2f r_cV r_p1 r_la r_la2t r_la2f r_la3 r_sh r_z_is r_z_ce r_z_fp r_z_b r_z_i r_z_s r_z_n r_z_l r_z_p r_z_a4 r_z_a3 r_z_t4 r_zoI r_zoV r_roN r_roC r_roi r_rod r_zod r_rov r_aR r_trOi r_trOv r_trPv r_trl r_trp r_trf r_tra r_trb r_tri r_trs r_trn r_tris r_trce r_trfp r_vJ r_vJs r_vJn
attribute [local go_sem] b_add b_sub b_mul b_quo b_rem b_shl b_shr b_eql b_neq b_lss b_leq b_gtr b_geq eqB_s b_eqB b_neB u_neg u_not b_nn b_nn' eqS_s zerosT_s zerosT_n zt_i zt_sl zt_st dstOf_z dstOf_n iltT iltF ileT ileF ieqT ieqF nltT nltF nleT nleF neqT neqF tdiv_pos tmod_pos w64 idx0 List.take_of_length_le
open Num
def sx (x y : DyT) : DyT := ⟨(x.neg != y.neg) && decide (x.n * y.n ≠ 0), D (x.n * y.n), x.e + y.e⟩
def scL (ds : List DyT) (y : DyT) : List DyT := ds.map fun x => sx x y
def scQ (ds : List DyT) (y : DyT) : List DyT := ds.map fun x => mulR x y
section
variable {ds : List DyT} {x y : DyT} {N : Int} {n i j : Nat}
theorem sx_n : (sx x y).n = x.n * y.n := by unfold DyT.n sx; simp only; rw [val_D]; rfl
theorem sx_ok (hx : dyOkB x = true) (hy : dyOkB y = true) : XOk (sx x y) ∧ xmk (sx x y) = mulR x y ∧ xft (sx x y) = dyFit (mulR x y) := by
  obtain ⟨e1, x1, x2, x3, x4⟩ := okD hx
  obtain ⟨f1, y1, y2, y3, y4⟩ := okD hy
  have hl := len_mul x.n y.n
  have hm : xmk (sx x y) = mulR x y := by
    unfold xmk mulR
    rw [sx_n]
    exact mkD_and
  refine ⟨⟨by rw [sx_n]; rfl, by rw [sx_n]; omega, ?_, ?_⟩, hm, ?_⟩
  · show -1000000000 ≤ x.e + y.e; omega
  · show x.e + y.e ≤ 1000000000; omega
  · unfold xft; rw [hm]
theorem sc_all (ho : ∀ x ∈ ds, dyOkB x = true) (hy : dyOkB y = true) : (∀ x ∈ scL ds y, XOk x) ∧ (scL ds y).map xmk = scQ ds y ∧ (scL ds y).all xft = (scQ ds y).all dyOkB ∧ ∀ q ∈ scQ ds y, q.l.length < 60000 ∧ dyOkB q = dyFit q := by
  unfold scL scQ
  induction ds with
  | nil => simp
  | cons z r ih =>
    obtain ⟨a1, a2, a3, a4⟩ := ih fun x hx => ho x (List.mem_cons_of_mem _ hx)
    obtain ⟨b1, b2, b3⟩ := sx_ok (ho z List.mem_cons_self) hy
    obtain ⟨e1, x1, x2, x3, x4⟩ := okD (ho z List.mem_cons_self)
    obtain ⟨f1, y1, y2, y3, y4⟩ := okD hy
    have hl := len_mul z.n y.n
    have hq : dyOkB (mulR z y) = dyFit (mulR z y) := by unfold mulR; exact dyOkB_mkD
    have hq2 : (mulR z y).l.length < 60000 := by
      have := mkD_len (n := z.neg != y.neg) (a := z.n * y.n) (e := z.e + y.e)
      unfold mulR; omega
    refine ⟨fun x hx => ?_, ?_, ?_, fun q hqm => ?_⟩
    · rcases List.mem_cons.1 hx with rfl | hx
      · exact b1
      · exact a1 x hx
    · rw [List.map_cons, List.map_cons, List.map_cons, b2, a2]
    · rw [List.map_cons, List.map_cons, List.all_cons, List.all_cons, b3, a3, hq]
    · rcases List.mem_cons.1 hqm with rfl | hqm
      · exact ⟨hq2, hq⟩
      · exact a4 q hqm
theorem sc1_v (d : Nat) (hn : n ≤ 4) (hl : ds.length = n * n) (hi : i < n) (hj : j < n) (hx : ds[i * n + j]? = some x) (ox : dyOkB x = true) (oy : dyOkB y = true) : vrun Tryd.prog kn (d + 4) 96 [.int .i64 i, .int .i64 j, .fptr [.int .i64 n, .cells 3 ds.length (flat DyT.v ds)], .fptr [.bool y.neg, .ints .i64 y.l, .int .i64 y.e]] [] = some (.agg (sx x y).v, []) := by
  have h1 := fun d => at_v (N := (n : Int)) d rfl hn hi hj hl hx
  obtain ⟨e1, x1, x2, x3, x4⟩ := okD ox
  obtain ⟨f1, y1, y2, y3, y4⟩ := okD oy
  have h2 := fun d => times_e d (n := x.neg) (a := x.n) (ex := x.e) (m := y.neg) (b := y.n) (ey := y.e) (by omega) (by omega) (by omega) (by omega) (by omega) (by omega)
  rw [← e1, ← f1] at h2
  show _ = some (V.agg [V.bool ((x.neg != y.neg) && decide (x.n * y.n ≠ 0)), V.ints .i64 (D (x.n * y.n)), V.int .i64 (x.e + y.e)], [])
  generalize ((x.neg != y.neg) && decide (x.n * y.n ≠ 0)) = s at *
  generalize D (x.n * y.n) = P at *
  generalize flat DyT.v ds = F at *
  rw [vrun_v Tryd.func96 rfl rfl rfl]; simp only [Tryd.f96]
  simp (implicitDefEqProofs := false) (disch := omega) [go_sem, tab96, h1, h2]
theorem scL_at (hx : ds[i]? = some x) : (scL ds y)[i]? = some (sx x y) := by unfold scL; rw [List.getElem?_map, hx]; rfl
theorem scaled_v (d : Nat) (hn1 : 1 ≤ n) (hn : n ≤ 4) (hl : ds.length = n * n) (ho : ∀ x ∈ ds, dyOkB x = true) (oy : dyOkB y = true) : vrun Tryd.prog kn (d + 6) 65 [.agg [.int .i64 n, .cells 3 ds.length (flat DyT.v ds)], .agg [.bool y.neg, .ints .i64 y.l, .int .i64 y.e]] [] = some (.agg [.int .i64 n, .cells 3 (scL ds y).length (flat DyT.v (scL ds y))], []) := by
  have tl : (scL ds y).length = n * n := by unfold scL; simp [hl]
  have h3 := fun d => gridOf_v (G := scL ds y) (g := 96) (caps := [.fptr [.int .i64 n, .cells 3 ds.length (flat DyT.v ds)], .fptr [.bool y.neg, .ints .i64 y.l, .int .i64 y.e]]) (d := d + 4) c_pure96 rfl (caps2 _ _) hn1 hn tl (fun i j x hi hj hx => by
    have hlt : i * n + j < ds.length := by rw [hl]; exact place_lt hi hj
    have hget : ds[i * n + j]? = some ds[i * n + j] := List.getElem?_eq_getElem hlt
    rw [scL_at hget] at hx
    obtain rfl := Option.some.inj hx
    simpa [go_sem] using sc1_v d hn hl hi hj hget (ho _ (List.getElem_mem _)) oy)
  have hnn : n * n ≤ 16 := Nat.mul_le_mul hn hn
  generalize scL ds y = T at *
  generalize flat DyT.v ds = F at *
  generalize flat DyT.v T = F' at *
  clear hl ho
  rw [vrun_v Tryd.func65 rfl rfl rfl]; simp only [Tryd.f65]
  simp (implicitDefEqProofs := false) (disch := omega) [go_sem, tab65, h3]
/-! ### reference -/
def szL (ds : List DyT) (y : DyT) (i : Nat) : List (Option DyT) := ((scQ ds y).take i).map some ++ List.replicate (ds.length - i) none
theorem szL_len (hi : i ≤ ds.length) : (szL ds y i).length = ds.length := by unfold szL scQ; simp; omega
theorem szL_set (hx : ds[i]? = some x) : (szL ds y i).set i (some (mulR x y)) = szL ds y (i + 1) := by
  have hi := (List.getElem?_eq_some_iff.1 hx).1
  have hq : (scQ ds y)[i]? = some (mulR x y) := by unfold scQ; rw [List.getElem?_map, hx]; rfl
  have hql : (scQ ds y).length = ds.length := by unfold scQ; simp
  unfold szL
  rw [List.take_add_one, hq, List.map_append, show ds.length - i = (ds.length - (i + 1)) + 1 by omega, List.replicate_succ, List.set_append_right _ _ (by simp; omega)]
  have : i - (((scQ ds y).take i).map some).length = 0 := by simp; omega
  rw [this]; simp
def ssS (n : Nat) (ds : List DyT) (y : DyT) (i : Nat) : VE × VH := ([(2, some (.ptr 0 0)), (3, some (.ptr 1 0)), (4, some (.ptr 2 0)), (5, some (.ptr 3 0)), (6, some (.int .i64 i))], [.vals true [.int .i64 n, .cells 3 ds.length (flat DyT.v ds)], .vals true [.bool y.neg, .ints .i64 y.l, .int .i64 y.e], .vals true [.int .i64 0, .nil], .vals true [.int .i64 n, .sl 4 0 ds.length 3], .vals true (flat cz (szL ds y i))])
theorem sz_fin (hi : i ≤ ds.length) : (flat cz (szL ds y i)).length = ds.length * 3 ∧ (∀ m, (flat cz (szL ds y i)).flatMap (vrefs m) = []) ∧ ∀ ρ m, omap (vren ρ m) (flat cz (szL ds y i)) = some (flat cz (szL ds y i)) :=
  ⟨by rw [cz_len3, szL_len hi], fun m => cz_refs m _, fun ρ m => cz_ren ρ m _⟩
theorem ss_r (d : Nat) (hl : ds.length ≤ 16) (ho : ∀ x ∈ ds, dyOkB x = true) (oy : dyOkB y = true) (hi : i < ds.length) : vCode Tryd.prog kn (vrun Tryd.prog kn (d + 5)) 62 (loopAt Tryd.f62 0) (ssS n ds y i).1 (ssS n ds y i).2 = some (.norm, ssS n ds y (i + 1)) := by
  have hget : ds[i]? = some ds[i] := List.getElem?_eq_getElem hi
  have hsub : ((flat DyT.v ds).drop (i * 3)).take 3 = [.bool ds[i].neg, .ints .i64 ds[i].l, .int .i64 ds[i].e] := flat_sub DyT.len ds i _ hget
  obtain ⟨e1, x1, x2, x3, x4⟩ := okD (ho _ (List.getElem_mem hi))
  obtain ⟨f1, y1, y2, y3, y4⟩ := okD oy
  have h2 := fun d => l4mul_v d (n := ds[i].neg) (a := ds[i].n) (ex := ds[i].e) (m := y.neg) (b := y.n) (ey := y.e) (by omega) (by omega) (by omega) (by omega) (by omega) (by omega)
  rw [← e1, ← f1] at h2
  change ∀ d, _ = some (V.agg [V.bool (mulR ds[i] y).neg, V.ints .i64 (mulR ds[i] y).l, V.int .i64 (mulR ds[i] y).e], []) at h2
  obtain ⟨hcl, hG1, hG2⟩ := sz_fin (ds := ds) (y := y) (i := i) (by omega)
  obtain ⟨_, hA1, hA2⟩ := sz_fin (ds := ds) (y := y) (i := i + 1) (by omega)
  have hz := cz_set (szL ds y i) i (mulR ds[i] y) (by rw [szL_len (by omega)]; exact hi)
  rw [szL_set hget] at hz
  rw [← hz] at hA1 hA2
  rw [round_v]; simp only [loopAt, nthC, bodyC, loops, List.nil_append, List.cons_append, List.append_nil, Tryd.f62, ssS]
  rw [← hz]
  clear hz e1 f1 x1 x2 x3 x4 y1 y2 y3 y4
  generalize mulR ds[i] y = w at *
  generalize ds[i] = x at *
  generalize flat cz (szL ds y i) = C at *
  generalize flat DyT.v ds = F at *
  have ht : C.take (ds.length * 3) = C := List.take_of_length_le (by omega)
  simp (implicitDefEqProofs := false) (disch := omega) [go_sem, tab62, hsub, h2, hcl, hG1, hG2, hA1, hA2, ht]
theorem ss_x (call : CallV) (hl : ds.length ≤ 16) : vCode Tryd.prog kn call 62 (loopAt Tryd.f62 0) (ssS n ds y ds.length).1 (ssS n ds y ds.length).2 = some (.exit 0, (ssS n ds y ds.length).1 ++ [(14, some (.bool false))], (ssS n ds y ds.length).2) := by
  obtain ⟨hcl, hG1, hG2⟩ := sz_fin (ds := ds) (y := y) (i := ds.length) (Nat.le_refl _)
  rw [round_v]; simp only [loopAt, nthC, bodyC, loops, List.nil_append, List.cons_append, List.append_nil, Tryd.f62, ssS]
  generalize flat cz (szL ds y ds.length) = C at *
  generalize flat DyT.v ds = F at *
  have ht : C.take (ds.length * 3) = C := List.take_of_length_le (by omega)
  simp (implicitDefEqProofs := false) (disch := omega) [go_sem, tab62, hcl, hG1, hG2, ht]
theorem l8scale_v (d : Nat) (hn1 : 1 ≤ n) (hn : n ≤ 4) (hl : ds.length = n * n) (ho : ∀ x ∈ ds, dyOkB x = true) (oy : dyOkB y = true) : vrun Tryd.prog kn (d + 6) 62 [.agg [.int .i64 n, .cells 3 ds.length (flat DyT.v ds)], .agg [.bool y.neg, .ints .i64 y.l, .int .i64 y.e]] [] = some (.agg [.int .i64 n, .cells 3 (scQ ds y).length (flat DyT.v (scQ ds y))], []) := by
  have h1 := fun d => l8new_v (n := n) d hn
  have hnn : n * n ≤ 16 := Nat.mul_le_mul hn hn
  have hl0 := fun ks => loop_v (P := Tryd.prog) (K := kn) (ks := ks) (vi_for (ssS n ds y) ds.length (n := kn.cf.rounds) (by rw [k_cf, c_rounds]; omega) (fun i hi => ss_r d (by omega) ho oy hi) fun m => vi_exit (ss_x _ (by omega)))
  have ez : szL ds y 0 = List.replicate (n * n) none := by unfold szL; simp [hl]
  have ql : (scQ ds y).length = ds.length := by unfold scQ; simp
  have ee : szL ds y ds.length = (scQ ds y).map some := by unfold szL; rw [List.take_of_length_le (by omega), Nat.sub_self]; simp
  simp only [loopAt, nthC, bodyC, loops, List.nil_append, List.cons_append, List.append_nil, Tryd.f62, ssS, Int.natCast_zero, List.cons_append, List.nil_append, ez, ee] at hl0
  rw [cz_some] at hl0
  have tl : (scQ ds y).length = n * n := by unfold scQ; simp [hl]
  have hln := flat_len3 (scQ ds y)
  have hfz := fun h m => fl_frz h m (scQ ds y)
  have hG1 := fun m => fl_refs m (scQ ds y)
  have hG2 := fun ρ m => fl_ren ρ m (scQ ds y)
  have zl := cz_len3 (List.replicate (n * n) (none : Option DyT))
  rw [List.length_replicate] at zl
  have zG1 := fun m => cz_refs m (List.replicate (n * n) (none : Option DyT))
  have zG2 := fun ρ m => cz_ren ρ m (List.replicate (n * n) (none : Option DyT))
  have zf : (flat cz (List.replicate (n * n) (none : Option DyT))).all (V.noFz 4) = true := by
    rw [cz_none]
    generalize n * n = M
    induction M with
    | zero => rfl
    | succ M ih => rw [r_repn, List.all_append, ih]; rfl
  rw [tl] at hln ⊢
  rw [hl] at hl0 ⊢
  clear ez ee ho oy hl ql
  generalize n * n = M at *
  generalize flat cz (List.replicate M none) = Z at *
  generalize flat DyT.v (scQ ds y) = T at *
  generalize flat DyT.v ds = F at *
  have ht : T.take (M * 3) = T := List.take_of_length_le (by omega)
  have hz : Z.take (M * 3) = Z := List.take_of_length_le (by omega)
  rw [vrun_v Tryd.func62 rfl rfl rfl]; simp only [Tryd.f62]
  simp (implicitDefEqProofs := false) (disch := omega) [go_sem, tab62, h1, hl0, hln, hfz, hG1, hG2, ht, zl, zG1, zG2, zf, hz]
theorem l8fits_v (d : Nat) {Q : List DyT} (hl : Q.length < 1000000) (h0 : 0 < Q.length) (hs : ∀ x ∈ Q, x.sz) : vrun Tryd.prog kn (d + 5) 61 [.agg [.int .i64 N, .cells 3 Q.length (flat DyT.v Q)]] [] = some (.tup [.agg [.int .i64 (if matOkB N Q then N else 0), .cells 3 (if matOkB N Q then Q else []).length (flat DyT.v (if matOkB N Q then Q else []))], .bool (matOkB N Q)], []) := by
  have h1 := fun d => sMatOk_v (N := N) d (ds := Q) (by omega) hs
  cases hq : matOkB N Q with
  | false =>
    rw [hq] at h1
    simp only [Bool.false_eq_true, if_false, flat, List.length_nil]
    rw [vrun_v Tryd.func61 rfl rfl rfl]; simp only [Tryd.f61]
    simp (implicitDefEqProofs := false) (disch := omega) [go_sem, tab61, h1]
  | true =>
    rw [hq] at h1
    obtain ⟨n, rfl, n1, n2, hlen, ho⟩ := matOk_t hq
    have h2 := fun d => l8own_v (ds := Q) (N := (n : Int)) d hl h0 ho
    simp only [if_true]
    generalize flat DyT.v Q = F at *
    rw [vrun_v Tryd.func61 rfl rfl rfl]; simp only [Tryd.f61]
    simp (implicitDefEqProofs := false) (disch := omega) [go_sem, tab61, h1, h2]
end
end
/- MatScale, the two are told. No conditions. -/
section
open Num
def scB (N : Int) (ds : List DyT) (y : DyT) : Bool := matOkB N ds && dyOkB y && (scQ ds y).all dyOkB
def scR (N : Int) (ds : List DyT) (y : DyT) : List DyT := if scB N ds y then scQ ds y else []
def scM (N : Int) (ds : List DyT) (y : DyT) : Int := if scB N ds y then N else 0
theorem sc_bd {N : Int} {ds : List DyT} {y : DyT} : (scR N ds y).length ≤ 16 ∧ ∀ x ∈ scR N ds y, x.l.length ≤ 100 := by
  unfold scR
  cases hq : scB N ds y with
  | false => simp
  | true =>
    unfold scB at hq
    rw [Bool.and_eq_true, Bool.and_eq_true] at hq
    obtain ⟨⟨h1, h2⟩, h3⟩ := hq
    obtain ⟨n, rfl, n1, n2, hlen, ho⟩ := matOk_t h1
    have hnn : n * n ≤ 16 := Nat.mul_le_mul n2 n2
    simp only [if_true]
    refine ⟨by unfold scQ; simp; omega, fun x hx => ?_⟩
    obtain ⟨e1, x1, _⟩ := okD (List.all_eq_true.1 h3 x hx)
    rw [e1]; exact x1
end
section
open Go.Proofs
set_option maxRecDepth 100000
set_option linter.unusedSimpArgs false
attribute [local go_sem] r_seq r_skip r_retC r_exitC r_label r_block r_region r_regionW r_xWt r_xW r_cond r_Bt r_Bf r_Ncode r_Nret r_Nexit r_Nblk r_Nblkr r_Nblke r_Nnil r_Es r_Onil r_Oop r_Oif r_Xs r_Gt r_Gf r_wtt r_wtf r_wft r_wff r_wu r_gO r_putS r_putN r_get r_keepN r_keepC r_fr r_fn r_fi r_ff r_fo r_l1 r_l2t r_cun r_cul r_cub r_cui r_cus r_cuis r_cuc r_cusl r_cuti r_cutv r_ven r_vec r_l2f r_l3 r_t1 r_t2 r_t0 r_rt r_rc r_en r_ec r_cM r_oN r_oC r_end r_endt r_endf r_nob0 r_nobN r_nobC r_nobE r_nb0 r_nbi r_nbs r_nbsl r_nbin r_nbce r_nLn r_nLv r_nLc r_nAa r_nAn r_nAk_b r_nAk_i r_nAk_s r_nAk_n r_nAk_is r_nAk_ce r_nAk_fp r_nAk_sl r_nAk_pt r_nAk_fn r_nsn r_nsv r_nsc r_m0 r_mi r_ms r_msl r_min r_mce r_mLn r_mLv r_mLc r_mAa r_mAn r_mAk_b r_mAk_i r_mAk_s r_mAk_n r_mAk_is r_mAk_ce r_mAk_fp r_mAk_sl r_mAk_pt r_mAk_fn r_msn r_msv r_msc r_atb r_ati r_ats r_atn r_atis r_atc r_atf r_atl r_atp r_atfn r_gcn r_gcc r_gLn r_gLc r_gIt r_ndn r_ndc r_gcB r_gLB r_two r_rea r_rea0 r_re1n r_re1c r_ori r_orv r_ord r_orn r_adn r_adc r_ad1 r_ern r_ers r_er0 r_rsl r_rptr r_rb r_ri r_rs r_rn r_ris r_rce r_rfp r_ra4 r_ra3 r_rt4 r_rf4 r_rf3 r_idS r_idc r_nS r_nP r_nF r_nT r_vsl r_vptr r_vb r_vi r_vs r_vn r_vis r_vce r_vfp r_va4 r_va3 r_vt4 r_vf4 r_vf3 r_rV r_Oi r_Ov r_Od r_rE r_rE0 r_En r_Ec r_E0 r_pO r_pk r_agL r_cO r_fO r_fSi r_fSv r_fPv r_fsl r_fptr r_ffn r_fag r_fb r_fint r_fstr r_fnil r_fis r_fce r_ffp r_res r_move r_assign r_pick r_pickt r_pickf r_alloc r_box r_al r_build r_bslice r_load r_store r_nlc r_nl1 r_nl2 r_bin r_un r_conv r_mkf r_mks r_slc r_fad r_fld r_iad r_idx r_ext r_ex1 r_callf r_callt r_callen r_calapp r_calmax r_calmin r_vt r_vcb r_vci r_vcs r_vcnp r_vcn r_vca r_vcf r_vcg r_ofb r_ofi r_ofs r_ofn r_evs r_pn r_prt r_pc r_one_a r_one_b r_one_i r_one_s r_one_n r_one_is r_one_ce r_one_fp r_one_sl r_one_pt r_one_fn r_cs_a r_cs_b r_cs_i r_cs_s r_cs_n r_cs_is r_cs_ce r_cs_fp r_cs_sl r_cs_pt r_cs_fn r_tov r_tovA r_toc r_toa r_tb r_ti r_ts r_tn r_bd r_bd2 r_filn r_fp1 r_filc r_fsn r_fsc r_san r_sac r_bs2 r_bs1 r_newO r_mkq r_mkI r_mkOi r_mkOv r_tIn r_tIc r_repz r_repn r_ldp r_ldf r_l1t r_l1f r_lFt r_lFf r_aggO r_obj r_at r_ati' r_atv r_celli r_cellv r_subi r_subv r_sto r_sto1 r_sto2 r_sets r_setR r_setn r_setc r_s1i r_s1v r_bin1 r_bin2 r_tv1 r_cb r_ci r_cst r_cn r_csl r_cis r_cce r_uni r_unb r_cv r_cvO r_cvN r_cv0 r_cvS r_wB r_cvi r_cvs r_cvb r_cvl r_sO r_rdn r_rdi r_rdl r_rdO r_vsub r_vfn r_mk r_mk1 r_mk2 r_zoi r_zov r_leni r_lenv r_bn r_bndV r_bo r_sl0 r_sl1 r_vsz r_ct1 r_cts r_cti r_ctc r_ctn r_lnl r_lni r_lnc r_lnn r_fa r_fap r_faf r_fi1 r_fit r_fif r_ixi r_ixs r_ixc r_ixf r_ixF r_ixF2 r_ix1 r_ixsl r_ixin r_ixce r_len1 r_lenA r_lTs r_lTn r_lTl r_lTi r_lTc r_app0 r_app r_app1 r_app2 r_app3 r_catO r_cati r_catv r_newt r_newf r_pair r_pairK r_trip r_kis r_kiv r_srn r_srl r_sri r_src r_srs r_oln r_oll r_vw r_wi r_wv r_mm r_max r_min' r_str r_cF r_c2t r_c3f r_c3t r_ab r_c2f r_cV r_p1 r_la r_la2t r_la2f r_la3 r_sh r_z_is r_z_ce r_z_fp r_z_b r_z_i r_z_s r_z_n r_z_l r_z_p r_z_a4 r_z_a3 r_z_t4 r_zoI r_zoV r_roN r_roC r_roi r_rod r_zod r_rov r_aR r_trOi r_trOv r_trPv r_trl r_trp r_trf r_tra r_trb r_tri r_trs r_trn r_tris r_trce r_trfp r_vJ r_vJs r_vJn
attribute [local go_sem] b_add b_sub b_mul b_quo b_rem b_shl b_shr b_eql b_neq b_lss b_leq b_gtr b_geq eqB_s b_eqB b_neB u_neg u_not b_nn b_nn' eqS_s zerosT_s zerosT_n zt_i zt_sl zt_st dstOf_z dstOf_n iltT iltF ileT ileF ieqT ieqF nltT nltF nleT nleF neqT neqF tdiv_pos tmod_pos w64 idx0 List.take_of_length_le
open Num
section
variable {ds : List DyT} {N : Int} {y : DyT}
set_option maxHeartbeats 1000000 in
theorem MatScale_v (d : Nat) (hl : ds.length < 100000000) (hs : ∀ x ∈ ds, x.sz) (hy : y.sz) : vrun Tryd.prog kn (d + 16) 28 [.agg [.int .i64 N, .cells 3 ds.length (flat DyT.v ds)], .agg [.bool y.neg, .ints .i64 y.l, .int .i64 y.e]] [] = some (.tup [.agg [.int .i64 (scM N ds y), .sl 0 0 (scR N ds y).length 3], .bool (scB N ds y)], mblk 0 (scR N ds y)) := by
  have h1 := fun d => MatOk_v (N := N) d hl hs
  have h0 := fun d => DyOk_v d y.neg (l := y.l) y.e (by unfold DyT.sz at hy; omega)
  change ∀ d, _ = some (V.bool (dyOkB y), []) at h0
  have c0 : ∀ call h args, vcallF kn call h 64 (some args) = vcall2 kn call 64 args h (kn.cf.pure 64) := fun _ _ _ => rfl
  have c1 : ∀ call h args, vcallF kn call h 54 (some args) = vcall2 kn call 54 args h (kn.cf.pure 54) := fun _ _ _ => rfl
  have c2 : ∀ call h args, vcallF kn call h 39 (some args) = vcall2 kn call 39 args h (kn.cf.pure 39) := fun _ _ _ => rfl
  have c3 : ∀ call h args, vcallF kn call h 65 (some args) = vcall2 kn call 65 args h (kn.cf.pure 65) := fun _ _ _ => rfl
  have c4 : ∀ call h args, vcallF kn call h 66 (some args) = vcall2 kn call 66 args h (kn.cf.pure 66) := fun _ _ _ => rfl
  have gc1 : ∀ e a, vgc e [a] = vgcBy (reach [a] 3 (addNs [] (erefs e))) e [a] := fun _ _ => rfl
  have gc2 : ∀ e a b, vgc e [a, b] = vgcBy (reach [a, b] 3 (addNs [] (erefs e))) e [a, b] := fun _ _ _ => rfl
  have gc3 : ∀ e a b c, vgc e [a, b, c] = vgcBy (reach [a, b, c] 3 (addNs [] (erefs e))) e [a, b, c] := fun _ _ _ _ => rfl
  have gl2 : ∀ e a b, vgcL e [a, b] = vgcLBy (reach [a, b] 3 (addNs [] (e.flatMap (vrefs 4)))) e [a, b] := fun _ _ _ => rfl
  cases hm : matOkB N ds with
  | false =>
    have hq : scB N ds y = false := by unfold scB; rw [hm]; rfl
    have e1 : scR N ds y = [] := by unfold scR; rw [hq]; rfl
    have e2 : scM N ds y = 0 := by unfold scM; rw [hq]; rfl
    rw [hq, e1, e2]
    rw [hm] at h1
    unfold mblk
    simp only [cellsP, List.map_nil]
    rw [vrun_v Tryd.func28 rfl rfl rfl]; simp only [Tryd.f28]
    simp (implicitDefEqProofs := false) (disch := omega) [go_sem, tab28, c0, c1, gc1, gc2, gc3, gl2, h1]
  | true =>
  rw [hm] at h1
  cases ho2 : dyOkB y with
  | false =>
    have hq : scB N ds y = false := by unfold scB; rw [hm, ho2]; rfl
    have e1 : scR N ds y = [] := by unfold scR; rw [hq]; rfl
    have e2 : scM N ds y = 0 := by unfold scM; rw [hq]; rfl
    rw [hq, e1, e2]
    rw [ho2] at h0
    unfold mblk
    simp only [cellsP, List.map_nil]
    rw [vrun_v Tryd.func28 rfl rfl rfl]; simp only [Tryd.f28]
    simp (implicitDefEqProofs := false) (disch := omega) [go_sem, tab28, c0, c1, gc1, gc2, gc3, gl2, h0, h1]
  | true =>
    rw [ho2] at h0
    obtain ⟨n, rfl, n1, n2, hlen, ho⟩ := matOk_t hm
    obtain ⟨a1, a2, a3, a4⟩ := sc_all ho ho2
    have hnn : n * n ≤ 16 := Nat.mul_le_mul n2 n2
    have hpos : 0 < n * n := Nat.mul_pos (by omega) (by omega)
    have eB : scB (n : Int) ds y = (scL ds y).all xft := by unfold scB; rw [hm, ho2, a3]; rfl
    have eR : scR (n : Int) ds y = xR (scL ds y) := by unfold scR xR; rw [eB, a2]
    have eM : scM (n : Int) ds y = xNm (n : Int) (scL ds y) := by unfold scM xNm; rw [eB]
    rw [eB, eR, eM]
    have h2 := fun d => grid_v (N := (n : Int)) d (ds := ds) (by omega) (by omega) (fun z hz => by obtain ⟨e1, x1, _⟩ := okD (ho z hz); rw [e1]; omega)
    have h3 := fun d => scaled_v (ds := ds) (n := n) (y := y) d n1 n2 hlen ho ho2
    have h5 := fun d => exactOf_v (n := y.neg) (ex := y.e) d y.l
    have tl : (scL ds y).length = n * n := by unfold scL; simp [hlen]
    obtain ⟨o, k, p, w, h4⟩ := mat_h (N := (n : Int)) (d + 8) (ds := scL ds y) (by omega) a1
    generalize xR (scL ds y) = R at *
    generalize xNm (n : Int) (scL ds y) = M at *
    generalize (scL ds y).all xft = f at *
    have hm := w.land [.vals true [.int .i64 n, .cells 3 ds.length (flat DyT.v ds)], .vals true [.bool y.neg, .ints .i64 y.l, .int .i64 y.e], .vals true [.int .i64 M, .sl (3 + k) 0 R.length 3]]
    simp only [List.length_cons, List.length_nil, Nat.zero_add, List.cons_append, List.nil_append, Nat.reduceAdd] at hm
    have g1 := fun s t b => gcE_own hm (N := M) (m := R.length) (sz := 3) (c := 2) (s := s) (t := t) (b := b) rfl
    have hm2 := (own_mblk R).land [.vals true [.int .i64 M, .sl 1 0 R.length 3]]
    simp only [List.length_cons, List.length_nil, Nat.zero_add, List.cons_append, List.nil_append, Nat.reduceAdd, sh_mblk, Nat.add_zero] at hm2
    have g2 := fun b => gcL_own hm2 (N := M) (m := R.length) (sz := 3) (b := b)
    clear hm hm2 w ho ho2 a1 a2 a3 a4 eB eR eM hs hl hy
    generalize scL ds y = T at *
    generalize flat DyT.v ds = F at *
    generalize flat DyT.v T = F' at *
    rw [vrun_v Tryd.func28 rfl rfl rfl]; simp only [Tryd.f28]
    simp (implicitDefEqProofs := false) (disch := omega) [go_sem, tab28, c0, c1, c2, c3, c4, gc1, gc2, gc3, h0, h1, h2, h3, h4, h5, g1, g2]
end
end
section
open Go.Proofs
set_option maxRecDepth 100000
set_option linter.unusedSimpArgs false
attribute [local go_sem] r_seq r_skip r_retC r_exitC r_label r_block r_region r_regionW r_xWt r_xW r_cond r_Bt r_Bf r_Ncode r_Nret r_Nexit r_Nblk r_Nblkr r_Nblke r_Nnil r_Es r_Onil r_Oop r_Oif r_Xs r_Gt r_Gf r_wtt r_wtf r_wft r_wff r_wu r_gO r_putS r_putN r_get r_keepN r_keepC r_fr r_fn r_fi r_ff r_fo r_l1 r_l2t r_cun r_cul r_cub r_cui r_cus r_cuis r_cuc r_cusl r_cuti r_cutv r_ven r_vec r_l2f r_l3 r_t1 r_t2 r_t0 r_rt r_rc r_en r_ec r_cM r_oN r_oC r_end r_endt r_endf r_nob0 r_nobN r_nobC r_nobE r_nb0 r_nbi r_nbs r_nbsl r_nbin r_nbce r_nLn r_nLv r_nLc r_nAa r_nAn r_nAk_b r_nAk_i r_nAk_s r_nAk_n r_nAk_is r_nAk_ce r_nAk_fp r_nAk_sl r_nAk_pt r_nAk_fn r_nsn r_nsv r_nsc r_m0 r_mi r_ms r_msl r_min r_mce r_mLn r_mLv r_mLc r_mAa r_mAn r_mAk_b r_mAk_i r_mAk_s r_mAk_n r_mAk_is r_mAk_ce r_mAk_fp r_mAk_sl r_mAk_pt r_mAk_fn r_msn r_msv r_msc r_atb r_ati r_ats r_atn r_atis r_atc r_atf r_atl r_atp r_atfn r_gcn r_gcc r_gLn r_gLc r_gIt r_ndn r_ndc r_gcB r_gLB r_two r_rea r_rea0 r_re1n r_re1c r_ori r_orv r_ord r_orn r_adn r_adc r_ad1 r_ern r_ers r_er0 r_rsl r_rptr r_rb r_ri r_rs r_rn r_ris r_rce r_rfp r_ra4 r_ra3 r_rt4 r_rf4 r_rf3 r_idS r_idc r_nS r_nP r_nF r_nT r_vsl r_vptr r_vb r_vi r_vs r_vn r_vis r_vce r_vfp r_va4 r_va3 r_vt4 r_vf4 r_vf3 r_rV r_Oi r_Ov r_Od r_rE r_rE0 r_En r_Ec r_E0 r_pO r_pk r_agL r_cO r_fO r_fSi r_fSv r_fPv r_fsl r_fptr r_ffn r_fag r_fb r_fint r_fstr r_fnil r_fis r_fce r_ffp r_res r_move r_assign r_pick r_pickt r_pickf r_alloc r_box r_al r_build r_bslice r_load r_store r_nlc r_nl1 r_nl2 r_bin r_un r_conv r_mkf r_mks r_slc r_fad r_fld r_iad r_idx r_ext r_ex1 r_callf r_callt r_callen r_calapp r_calmax r_calmin r_vt r_vcb r_vci r_vcs r_vcnp r_vcn r_vca r_vcf r_vcg r_ofb r_ofi r_ofs r_ofn r_evs r_pn r_prt r_pc r_one_a r_one_b r_one_i r_one_s r_one_n r_one_is r_one_ce r_one_fp r_one_sl r_one_pt r_one_fn r_cs_a r_cs_b r_cs_i r_cs_s r_cs_n r_cs_is r_cs_ce r_cs_fp r_cs_sl r_cs_pt r_cs_fn r_tov r_tovA r_toc r_toa r_tb r_ti r_ts r_tn r_bd r_bd2 r_filn r_fp1 r_filc r_fsn r_fsc r_san r_sac r_bs2 r_bs1 r_newO r_mkq r_mkI r_mkOi r_mkOv r_tIn r_tIc r_repz r_repn r_ldp r_ldf r_l1t r_l1f r_lFt r_lFf r_aggO r_obj r_at r_ati' r_atv r_celli r_cellv r_subi r_subv r_sto r_sto1 r_sto2 r_sets r_setR r_setn r_setc r_s1i r_s1v r_bin1 r_bin2 r_tv1 r_cb r_ci r_cst r_cn r_csl r_cis r_cce r_uni r_unb r_cv r_cvO r_cvN r_cv0 r_cvS r_wB r_cvi r_cvs r_cvb r_cvl r_sO r_rdn r_rdi r_rdl r_rdO r_vsub r_vfn r_mk r_mk1 r_mk2 r_zoi r_zov r_leni r_lenv r_bn r_bndV r_bo r_sl0 r_sl1 r_vsz r_ct1 r_cts r_cti r_ctc r_ctn r_lnl r_lni r_lnc r_lnn r_fa r_fap r_faf r_fi1 r_fit r_fif r_ixi r_ixs r_ixc r_ixf r_ixF r_ixF2 r_ix1 r_ixsl r_ixin r_ixce r_len1 r_lenA r_lTs r_lTn r_lTl r_lTi r_lTc r_app0 r_app r_app1 r_app2 r_app3 r_catO r_cati r_catv r_newt r_newf r_pair r_pairK r_trip r_kis r_kiv r_srn r_srl r_sri r_src r_srs r_oln r_oll r_vw r_wi r_wv r_mm r_max r_min' r_str r_cF r_c2t r_c3f r_c3t r_ab r_c2f r_cV r_p1 r_la r_la2t r_la2f r_la3 r_sh r_z_is r_z_ce r_z_fp r_z_b r_z_i r_z_s r_z_n r_z_l r_z_p r_z_a4 r_z_a3 r_z_t4 r_zoI r_zoV r_roN r_roC r_roi r_rod r_zod r_rov r_aR r_trOi r_trOv r_trPv r_trl r_trp r_trf r_tra r_trb r_tri r_trs r_trn r_tris r_trce r_trfp r_vJ r_vJs r_vJn
attribute [local go_sem] b_add b_sub b_mul b_quo b_rem b_shl b_shr b_eql b_neq b_lss b_leq b_gtr b_geq eqB_s b_eqB b_neB u_neg u_not b_nn b_nn' eqS_s zerosT_s zerosT_n zt_i zt_sl zt_st dstOf_z dstOf_n iltT iltF ileT ileF ieqT ieqF nltT nltF nleT nleF neqT neqF tdiv_pos tmod_pos w64 idx0 List.take_of_length_le
open Num
section
variable {ds : List DyT} {N : Int} {y : DyT}
theorem sMatScale_v (d : Nat) (hl : ds.length < 100000000) (hs : ∀ x ∈ ds, x.sz) (hy : y.sz) : vrun Tryd.prog kn (d + 7) 26 [.agg [.int .i64 N, .cells 3 ds.length (flat DyT.v ds)], .agg [.bool y.neg, .ints .i64 y.l, .int .i64 y.e]] [] = some (.tup [.agg [.int .i64 (scM N ds y), .cells 3 (scR N ds y).length (flat DyT.v (scR N ds y))], .bool (scB N ds y)], []) := by
  have h1 := fun d => sMatOk_v (N := N) d hl hs
  have h0 := fun d => sDyOk_v d y.neg (l := y.l) y.e (by unfold DyT.sz at hy; omega)
  change ∀ d, _ = some (V.bool (dyOkB y), []) at h0
  cases hm : matOkB N ds with
  | false =>
    have hq : scB N ds y = false := by unfold scB; rw [hm]; rfl
    have e1 : scR N ds y = [] := by unfold scR; rw [hq]; rfl
    have e2 : scM N ds y = 0 := by unfold scM; rw [hq]; rfl
    rw [hq, e1, e2]
    rw [hm] at h1
    simp only [flat, List.length_nil]
    rw [vrun_v Tryd.func26 rfl rfl rfl]; simp only [Tryd.f26]
    simp (implicitDefEqProofs := false) (disch := omega) [go_sem, tab26, h1]
  | true =>
  rw [hm] at h1
  cases ho2 : dyOkB y with
  | false =>
    have hq : scB N ds y = false := by unfold scB; rw [hm, ho2]; rfl
    have e1 : scR N ds y = [] := by unfold scR; rw [hq]; rfl
    have e2 : scM N ds y = 0 := by unfold scM; rw [hq]; rfl
    rw [hq, e1, e2]
    rw [ho2] at h0
    simp only [flat, List.length_nil]
    rw [vrun_v Tryd.func26 rfl rfl rfl]; simp only [Tryd.f26]
    simp (implicitDefEqProofs := false) (disch := omega) [go_sem, tab26, h0, h1]
  | true =>
    rw [ho2] at h0
    obtain ⟨n, rfl, n1, n2, hlen, ho⟩ := matOk_t hm
    obtain ⟨a1, a2, a3, a4⟩ := sc_all ho ho2
    have hnn : n * n ≤ 16 := Nat.mul_le_mul n2 n2
    have hpos : 0 < n * n := Nat.mul_pos (by omega) (by omega)
    have tl : (scQ ds y).length = n * n := by unfold scQ; simp [hlen]
    have eB : scB (n : Int) ds y = matOkB (n : Int) (scQ ds y) := by
      unfold scB
      rw [hm, ho2]
      unfold matOkB
      have k1 : (1 : Int) ≤ n := by omega
      have k2 : (n : Int) ≤ 4 := by omega
      have k3 : (((scQ ds y).length : Nat) : Int) = (n : Int) * n := by rw [tl]; simp
      rw [decide_eq_true k1, decide_eq_true k2, decide_eq_true k3]; rfl
    have eR : scR (n : Int) ds y = if matOkB (n : Int) (scQ ds y) then scQ ds y else [] := by unfold scR; rw [eB]
    have eM : scM (n : Int) ds y = if matOkB (n : Int) (scQ ds y) then (n : Int) else 0 := by unfold scM; rw [eB]
    rw [eB, eR, eM]
    have h2 := fun d => l8scale_v (ds := ds) (n := n) (y := y) d n1 n2 hlen ho ho2
    have h3 := fun d => l8fits_v (N := (n : Int)) d (Q := scQ ds y) (by omega) (by omega) (fun x hx => by have := (a4 x hx).1; unfold DyT.sz; omega)
    generalize (if matOkB (n : Int) (scQ ds y) then scQ ds y else []) = R at *
    generalize (if matOkB (n : Int) (scQ ds y) then (n : Int) else 0) = M at *
    generalize matOkB (n : Int) (scQ ds y) = f at *
    clear a1 a2 a3 a4 ho ho2 hs hy eB eR eM hm
    generalize scQ ds y = Q at *
    generalize flat DyT.v Q = F' at *
    generalize flat DyT.v R = F'' at *
    generalize flat DyT.v ds = F at *
    rw [vrun_v Tryd.func26 rfl rfl rfl]; simp only [Tryd.f26]
    simp (implicitDefEqProofs := false) (disch := omega) [go_sem, tab26, h0, h1, h2, h3]
end
end
/- The laws' types as values. No conditions. -/
section
open Go.Proofs Num
def DyT.row (x : DyT) : Prop := x.l.length ≤ 9223372036854775807 ∧ (∀ y ∈ x.l, (Lit.int .i64 y).wf = true) ∧ (Lit.int .i64 x.e).wf = true
def TInt (vs : List V) : Prop := ∃ x : Int, vs = [.int .i64 x] ∧ (Lit.int .i64 x).wf = true
def TBool (vs : List V) : Prop := ∃ x : Bool, vs = [.bool x]
def TInts (vs : List V) : Prop := ∃ l : List Int, vs = [.ints .i64 l] ∧ l.length ≤ 9223372036854775807 ∧ ∀ x ∈ l, (Lit.int .i64 x).wf = true
def TDys (vs : List V) : Prop := ∃ ds : List DyT, vs = [.cells 3 ds.length (flat DyT.v ds)] ∧ ds.length ≤ 9223372036854775807 ∧ ∀ x ∈ ds, x.row
theorem opInt : OpV Tryd.prog 3 1 TInt := OpV.int Tryd.underlying3 (by kernel_rfl)
theorem opBool : OpV Tryd.prog 4 1 TBool := OpV.bool Tryd.underlying4 (by kernel_rfl)
theorem opInts : OpV Tryd.prog 26 1 TInts := OpV.ints Tryd.underlying26 (by kernel_rfl) Tryd.underlying3 (by kernel_rfl)
theorem opNat : OpV Tryd.prog 50 1 TInts := OpV.struct1 Tryd.underlying50 (by kernel_rfl) rfl opInts
theorem opWhole : OpV Tryd.prog 52 2 (fun vs => ∃ (n : Bool) (l : List Int), vs = [.bool n, .ints .i64 l] ∧ l.length ≤ 9223372036854775807 ∧ ∀ x ∈ l, (Lit.int .i64 x).wf = true) :=
  (OpV.struct2 Tryd.underlying52 (by kernel_rfl) rfl rfl opBool opNat).imp fun vs ⟨_, _, e, ⟨n, e1⟩, ⟨l, e2, h1, h2⟩⟩ => ⟨n, l, by rw [e, e1, e2]; rfl, h1, h2⟩
theorem opDy : OpV Tryd.prog 54 3 (fun vs => ∃ x : DyT, vs = x.v ∧ x.row) :=
  (OpV.struct2 Tryd.underlying54 (by kernel_rfl) rfl rfl opWhole opInt).imp fun vs ⟨_, _, e, ⟨n, l, e1, h1, h2⟩, ⟨x, e2, h3⟩⟩ => ⟨⟨n, l, x⟩, by rw [e, e1, e2]; rfl, h1, h2, h3⟩
theorem opDys : OpV Tryd.prog 22 1 TDys := OpV.cells Tryd.underlying22 (by kernel_rfl) opDy (by omega)
theorem opMat : OpV Tryd.prog 24 2 (fun vs => ∃ (N : Int) (ds : List DyT), vs = [.int .i64 N, .cells 3 ds.length (flat DyT.v ds)] ∧ (Lit.int .i64 N).wf = true ∧ ds.length ≤ 9223372036854775807 ∧ ∀ x ∈ ds, x.row) :=
  (OpV.struct2 Tryd.underlying24 (by kernel_rfl) rfl rfl opInt opDys).imp fun vs ⟨_, _, e, ⟨n, e1, h1⟩, ⟨ds, e2, h2, h3⟩⟩ => ⟨n, ds, by rw [e, e1, e2]; rfl, h1, h2, h3⟩
end
end Go.Eng
