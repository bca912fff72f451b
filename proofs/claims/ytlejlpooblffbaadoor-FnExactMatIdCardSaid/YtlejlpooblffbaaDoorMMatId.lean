/- What the functions of this seat do, one after another, told by plain values. No conditions. -/
import Derived.Test.YtlejlpooblffbaaDoorSeat
import Derived.Test.YtlejlpooblffbaaDoorVb
import Derived.Test.YtlejlpooblffbaaDoorVc
import Derived.Test.YtlejlpooblffbaaDoorT4
set_option linter.unusedVariables false
set_option linter.unusedSimpArgs false
namespace Go.Eng
/- MatTurn, program. No conditions. -/
section
open Go.Proofs
set_option maxRecDepth 100000
set_option linter.unusedSimpArgs false
attribute [local go_sem] r_seq r_skip r_retC r_exitC r_label r_block r_region r_regionW r_xWt r_xW r_cond r_Bt r_Bf r_Ncode r_Nret r_Nexit r_Nblk r_Nblkr r_Nblke r_Nnil r_Es r_Onil r_Oop r_Oif r_Xs r_Gt r_Gf r_wtt r_wtf r_wft r_wff r_wu r_gO r_putS r_putN r_get r_keepN r_keepC r_fr r_fn r_fi r_ff r_fo r_l1 r_l2t r_cun r_cul r_cub r_cui r_cus r_cuis r_cuc r_cusl r_cuti r_cutv r_ven r_vec r_l2f r_l3 r_t1 r_t2 r_t0 r_rt r_rc r_en r_ec r_cM r_oN r_oC r_end r_endt r_endf r_nob0 r_nobN r_nobC r_nobE r_nb0 r_nbi r_nbs r_nbsl r_nbin r_nbce r_nLn r_nLv r_nLc r_nAa r_nAn r_nAk_b r_nAk_i r_nAk_s r_nAk_n r_nAk_is r_nAk_ce r_nAk_fp r_nAk_sl r_nAk_pt r_nAk_fn r_nsn r_nsv r_nsc r_m0 r_mi r_ms r_msl r_min r_mce r_mLn r_mLv r_mLc r_mAa r_mAn r_mAk_b r_mAk_i r_mAk_s r_mAk_n r_mAk_is r_mAk_ce r_mAk_fp r_mAk_sl r_mAk_pt r_mAk_fn r_msn r_msv r_msc r_atb r_ati r_ats r_atn r_atis r_atc r_atf r_atl r_atp r_atfn r_gcn r_gcc r_gLn r_gLc r_gIt r_ndn r_ndc r_gcB r_gLB r_two r_rea r_rea0 r_re1n r_re1c r_ori r_orv r_ord r_orn r_adn r_adc r_ad1 r_ern r_ers r_er0 r_rsl r_rptr r_rb r_ri r_rs r_rn r_ris r_rce r_rfp r_ra4 r_ra3 r_rt4 r_rf4 r_rf3 r_idS r_idc r_nS r_nP r_nF r_nT r_vsl r_vptr r_vb r_vi r_vs r_vn r_vis r_vce r_vfp r_va4 r_va3 r_vt4 r_vf4 r_vf3 r_rV r_Oi r_Ov r_Od r_rE r_rE0 r_En r_Ec r_E0 r_pO r_pk r_agL r_cO r_fO r_fSi r_fSv r_fPv r_fsl r_fptr r_ffn r_fag r_fb r_fint r_fstr r_fnil r_fis r_fce r_ffp r_res r_move r_assign r_pick r_pickt r_pickf r_alloc r_box r_al r_build r_bslice r_load r_store r_nlc r_nl1 r_nl2 r_bin r_un r_conv r_mkf r_mks r_slc r_fad r_fld r_iad r_idx r_ext r_ex1 r_callf r_callt r_callen r_calapp r_calmax r_calmin r_vt r_vcb r_vci r_vcs r_vcnp r_vcn r_vca r_vcf r_vcg r_ofb r_ofi r_ofs r_ofn r_evs r_pn r_prt r_pc r_one_a r_one_b r_one_i r_one_s r_one_n r_one_is r_one_ce r_one_fp r_one_sl r_one_pt r_one_fn r_cs_a r_cs_b r_cs_i r_cs_s r_cs_n r_cs_is r_cs_ce r_cs_fp r_cs_sl r_cs_pt r_cs_fn r_tov r_tovA r_toc r_toa r_tb r_ti r_ts r_tn r_bd r_bd2 r_filn r_fp1 r_filc r_fsn r_fsc r_san r_sac r_bs2 r_bs1 r_newO r_mkq r_mkI r_mkOi r_mkOv r_tIn r_tIc r_repz r_repn r_ldp r_ldf r_l1t r_l1f r_lFt r_lFf r_aggO r_obj r_at r_ati' r_atv r_celli r_cellv r_subi r_subv r_sto r_sto1 r_sto2 r_sets r_setR r_setn r_setc r_s1i r_s1v r_bin1 r_bin2 r_tv1 r_cb r_ci r_cst r_cn r_csl r_cis r_cce r_uni r_unb r_cv r_cvO r_cvN r_cv0 r_cvS r_wB r_cvi r_cvs r_cvb r_cvl r_sO r_rdn r_rdi r_rdl r_rdO r_vsub r_vfn r_mk r_mk1 r_mk2 r_zoi r_zov r_leni r_lenv r_bn r_bndV r_bo r_sl0 r_sl1 r_vsz r_ct1 r_cts r_cti r_ctc r_ctn r_lnl r_lni r_lnc r_lnn r_fa r_fap r_faf r_fi1 r_fit r_fif r_ixi r_ixs r_ixc r_ixf r_ixF r_ixF2 r_ix1 r_ixsl r_ixin r_ixce r_len1 r_lenA r_lTs r_lTn r_lTl r_lTi r_lTc r_app0 r_app r_app1 r_app2 r_app3 r_catO r_cati r_catv r_newt r_newf r_pair r_pairK r_trip r_kis r_kiv r_srn r_srl r_sri r_src r_srs r_oln r_oll r_vw r_wi r_wv r_mm r_max r_min' r_str r_cF r_c2t r_c3f r_c3t r_ab r_c2f r_cV r_p1 r_la r_la2t r_la2f r_la3 r_sh r_z_is r_z_ce r_z_fp r_z_b r_z_i r_z_s r_z_n r_z_l r_z_p r_z_a4 r_z_a3 r_z_t4 r_zoI r_zoV r_roN r_roC r_roi r_rod r_zod r_rov r_aR r_trOi r_trOv r_trPv r_trl r_trp r_trf r_tra r_trb r_tri r_trs r_trn r_tris r_trce r_trfp r_vJ r_vJs r_vJn
attribute [local go_sem] b_add b_sub b_mul b_quo b_rem b_shl b_shr b_eql b_neq b_lss b_leq b_gtr b_geq eqB_s b_eqB b_neB u_neg u_not b_nn b_nn' eqS_s zerosT_s zerosT_n zt_i zt_sl zt_st dstOf_z dstOf_n iltT iltF ileT ileF ieqT ieqF nltT nltF nleT nleF neqT neqF tdiv_pos tmod_pos w64 idx0 List.take_of_length_le
open Num
section
variable {ds : List DyT} {N : Int} {n : Nat}
theorem mat_h (d : Nat) (hl : ds.length < 1000000) (hx : ∀ x ∈ ds, XOk x) : ∃ (o : VH) (i : Nat) (p : Nat → Nat), Own o i p (xR ds) ∧ ∀ (h : VH), vcallF kn (vrun Tryd.prog kn (d + 7)) h 50 (some [.agg [.int .i64 N, .cells 3 ds.length (flat DyT.v ds)]]) = some (.tup [.agg [.int .i64 (xNm N ds), .sl (h.length + i) 0 (xR ds).length 3], .bool (ds.all xft)], h ++ o.map (shO h.length)) := by
  obtain ⟨o, i, p, h1, w⟩ := mat_v d (N := N) hl hx
  refine ⟨o, i, p, w, fun h => ?_⟩
  refine callF_land (fa := [.agg [.int .i64 N, .cells 3 ds.length (flat DyT.v ds)]]) (r := .tup [.agg [.int .i64 (xNm N ds), .sl i 0 (xR ds).length 3], .bool (ds.all xft)]) c_pure50 rfl (by simp [go_sem]) ?_ (by simp [go_sem]) w.pl (by simp [go_sem])
  clear w
  generalize xR ds = R at *
  generalize xNm N ds = M at *
  generalize ds.all xft = f at *
  simpa [go_sem] using h1
theorem turn1_v (d : Nat) (hn : n ≤ 4) (hl : ds.length = n * n) {i j : Nat} (hi : i < n) (hj : j < n) {x : DyT} (hx : ds[j * n + i]? = some x) : vrun Tryd.prog kn (d + 2) 56 [.int .i64 i, .int .i64 j, .fptr [.int .i64 n, .cells 3 ds.length (flat DyT.v ds)]] [] = some (.agg x.v, []) := by
  have h1 := fun d => at_v (N := (n : Int)) d rfl hn hj hi hl hx
  show _ = some (V.agg [V.bool x.neg, V.ints .i64 x.l, V.int .i64 x.e], [])
  generalize flat DyT.v ds = F at *
  rw [vrun_v Tryd.func56 rfl rfl rfl]; simp only [Tryd.f56]
  simp (implicitDefEqProofs := false) (disch := omega) [go_sem, tab56, h1]
def turnT (N : Int) (ds : List DyT) : List DyT := if matOkB N ds then turnL ds N.toNat else []
def okN0 (N : Int) (ds : List DyT) : Int := if matOkB N ds then N else 0
end
end
section
open Go.Proofs
set_option maxRecDepth 100000
set_option linter.unusedSimpArgs false
attribute [local go_sem] r_seq r_skip r_retC r_exitC r_label r_block r_region r_regionW r_xWt r_xW r_cond r_Bt r_Bf r_Ncode r_Nret r_Nexit r_Nblk r_Nblkr r_Nblke r_Nnil r_Es r_Onil r_Oop r_Oif r_Xs r_Gt r_Gf r_wtt r_wtf r_wft r_wff r_wu r_gO r_putS r_putN r_get r_keepN r_keepC r_fr r_fn r_fi r_ff r_fo r_l1 r_l2t r_cun r_cul r_cub r_cui r_cus r_cuis r_cuc r_cusl r_cuti r_cutv r_ven r_vec r_l2f r_l3 r_t1 r_t2 r_t0 r_rt r_rc r_en r_ec r_cM r_oN r_oC r_end r_endt r_endf r_nob0 r_nobN r_nobC r_nobE r_nb0 r_nbi r_nbs r_nbsl r_nbin r_nbce r_nLn r_nLv r_nLc r_nAa r_nAn r_nAk_b r_nAk_i r_nAk_s r_nAk_n r_nAk_is r_nAk_ce r_nAk_fp r_nAk_sl r_nAk_pt r_nAk_fn r_nsn r_nsv r_nsc r_m0 r_mi r_ms r_msl r_min r_mce r_mLn r_mLv r_mLc r_mAa r_mAn r_mAk_b r_mAk_i r_mAk_s r_mAk_n r_mAk_is r_mAk_ce r_mAk_fp r_mAk_sl r_mAk_pt r_mAk_fn r_msn r_msv r_msc r_atb r_ati r_ats r_atn r_atis r_atc r_atf r_atl r_atp r_atfn r_gcn r_gLn r_gIt r_ndn r_ndc r_gcB r_gLB r_two r_rea r_rea0 r_re1n r_re1c r_ori r_orv r_ord r_orn r_adn r_adc r_ad1 r_ern r_ers r_er0 r_rsl r_rptr r_rb r_ri r_rs r_rn r_ris r_rce r_rfp r_ra4 r_ra3 r_rt4 r_rf4 r_rf3 r_idS r_idc r_nS r_nP r_nF r_nT r_vsl r_vptr r_vb r_vi r_vs r_vn r_vis r_vce r_vfp r_va4 r_va3 r_vt4 r_vf4 r_vf3 r_rV r_Oi r_Ov r_Od r_rE r_rE0 r_En r_Ec r_E0 r_pO r_pk r_agL r_cO r_fO r_fSi r_fSv r_fPv r_fsl r_fptr r_ffn r_fag r_fb r_fint r_fstr r_fnil r_fis r_fce r_ffp r_res r_move r_assign r_pick r_pickt r_pickf r_alloc r_box r_al r_build r_bslice r_load r_store r_nlc r_nl1 r_nl2 r_bin r_un r_conv r_mkf r_mks r_slc r_fad r_fld r_iad r_idx r_ext r_ex1 r_callf r_callt r_callen r_calapp r_calmax r_calmin r_vt r_vcb r_vci r_vcs r_vcnp r_vcn r_vca r_vcf r_vcg r_ofb r_ofi r_ofs r_ofn r_evs r_pn r_prt r_pc r_one_a r_one_b r_one_i r_one_s r_one_n r_one_is r_one_ce r_one_fp r_one_sl r_one_pt r_one_fn r_cs_a r_cs_b r_cs_i r_cs_s r_cs_n r_cs_is r_cs_ce r_cs_fp r_cs_sl r_cs_pt r_cs_fn r_tov r_tovA r_toc r_toa r_tb r_ti r_ts r_tn r_bd r_bd2 r_filn r_fp1 r_filc r_fsn r_fsc r_san r_sac r_bs2 r_bs1 r_newO r_mkq r_mkI r_mkOi r_mkOv r_tIn r_tIc r_repz r_repn r_ldp r_ldf r_l1t r_l1f r_lFt r_lFf r_aggO r_obj r_at r_ati' r_atv r_celli r_cellv r_subi r_subv r_sto r_sto1 r_sto2 r_sets r_setR r_setn r_setc r_s1i r_s1v r_bin1 r_bin2 r_tv1 r_cb r_ci r_cst r_cn r_csl r_cis r_cce r_uni r_unb r_cv r_cvO r_cvN r_cv0 r_cvS r_wB r_cvi r_cvs r_cvb r_cvl r_sO r_rdn r_rdi r_rdl r_rdO r_vsub r_vfn r_mk r_mk1 r_mk2 r_zoi r_zov r_leni r_lenv r_bn r_bndV r_bo r_sl0 r_sl1 r_vsz r_ct1 r_cts r_cti r_ctc r_ctn r_lnl r_lni r_lnc r_lnn r_fa r_fap r_faf r_fi1 r_fit r_fif r_ixi r_ixs r_ixc r_ixf r_ixF r_ixF2 r_ix1 r_ixsl r_ixin r_ixce r_len1 r_lenA r_lTs r_lTn r_lTl r_lTi r_lTc r_app0 r_app r_app1 r_app2 r_app3 r_catO r_cati r_catv r_newt r_newf r_pair r_pairK r_trip r_kis r_kiv r_srn r_srl r_sri r_src r_srs r_oln r_oll r_vw r_wi r_wv r_mm r_max r_min' r_str r_c2t r_c3f r_c3t r_ab r_c2f r_cV r_p1 r_la r_la2t r_la2f r_la3 r_sh r_z_is r_z_ce r_z_fp r_z_b r_z_i r_z_s r_z_n r_z_l r_z_p r_z_a4 r_z_a3 r_z_t4 r_zoI r_zoV r_roN r_roC r_roi r_rod r_zod r_rov r_aR r_trOi r_trOv r_trPv r_trl r_trp r_trf r_tra r_trb r_tri r_trs r_trn r_tris r_trce r_trfp r_vJ r_vJs r_vJn
attribute [local go_sem] b_add b_sub b_mul b_quo b_rem b_shl b_shr b_eql b_neq b_lss b_leq b_gtr b_geq eqB_s b_eqB b_neB u_neg u_not b_nn b_nn' eqS_s zerosT_s zerosT_n zt_i zt_sl zt_st dstOf_z dstOf_n iltT iltF ileT ileF ieqT ieqF nltT nltF nleT nleF neqT neqF tdiv_pos tmod_pos w64 idx0 List.take_of_length_le
open Num
section
variable {ds : List DyT} {N : Int}
theorem MatTurn_v (d : Nat) (hl : ds.length < 100000000) (hs : ∀ x ∈ ds, x.sz) : vrun Tryd.prog kn (d + 18) 22 [.agg [.int .i64 N, .cells 3 ds.length (flat DyT.v ds)]] [] = some (.tup [.agg [.int .i64 (okN0 N ds), .sl 0 0 (turnT N ds).length 3], .bool (matOkB N ds)], mblk 0 (turnT N ds)) := by
  have h1 := fun d => MatOk_v (N := N) d hl hs
  have c1 : ∀ call h args, vcallF kn call h 54 (some args) = vcall2 kn call 54 args h (kn.cf.pure 54) := fun _ _ _ => rfl
  have c2 : ∀ call h args, vcallF kn call h 39 (some args) = vcall2 kn call 39 args h (kn.cf.pure 39) := fun _ _ _ => rfl
  have c3 : ∀ call h args, vcallF kn call h 55 (some args) = vcall2 kn call 55 args h (kn.cf.pure 55) := fun _ _ _ => rfl
  have gc1 : ∀ e a, vgc e [a] = vgcBy (reach [a] 3 (addNs [] (erefs e))) e [a] := fun _ _ => rfl
  have gc2 : ∀ e a b, vgc e [a, b] = vgcBy (reach [a, b] 3 (addNs [] (erefs e))) e [a, b] := fun _ _ _ => rfl
  have gc3 : ∀ e a b c, vgc e [a, b, c] = vgcBy (reach [a, b, c] 3 (addNs [] (erefs e))) e [a, b, c] := fun _ _ _ _ => rfl
  have gl2 : ∀ e a b, vgcL e [a, b] = vgcLBy (reach [a, b] 3 (addNs [] (e.flatMap (vrefs 4)))) e [a, b] := fun _ _ _ => rfl
  unfold turnT okN0
  cases hq : matOkB N ds with
  | false =>
    rw [hq] at h1
    simp only [Bool.false_eq_true, if_false]
    unfold mblk
    simp only [cellsP, List.map_nil]
    rw [vrun_v Tryd.func22 rfl rfl rfl]; simp only [Tryd.f22]
    simp (implicitDefEqProofs := false) (disch := omega) [go_sem, tab22, c1, gc1, gc2, gc3, gl2, h1]
  | true =>
    obtain ⟨n, rfl, n1, n2, hlen, ho⟩ := matOk_t hq
    rw [hq] at h1
    have hnn : n * n ≤ 16 := Nat.mul_le_mul n2 n2
    have h2 := fun d => grid_v (N := (n : Int)) d (ds := ds) (by omega) (by have := Nat.mul_pos n1 n1; omega) (fun y hy => by obtain ⟨e1, x1, _⟩ := okD (ho y hy); rw [e1]; omega)
    have ho' := turnL_all (P := fun x => dyOkB x = true) hlen n1 ho
    obtain ⟨ea, eb⟩ := mkall_ok ho'
    have eR : xR (turnL ds n) = turnL ds n := by unfold xR; rw [eb, ea]; rfl
    have eN : xNm (n : Int) (turnL ds n) = n := by unfold xNm; rw [eb]; rfl
    have tl := turnL_len (ds := ds) (n := n)
    have h3 := fun d => gridOf_v (G := turnL ds n) (g := 56) (caps := [.fptr [.int .i64 n, .cells 3 ds.length (flat DyT.v ds)]]) (d := d + 2) c_pure56 rfl (caps1 _) n1 n2 tl (fun i j x hi hj hx => by
      rw [turnL_at hi hj hlen] at hx
      simpa [go_sem] using turn1_v d n2 hlen hi hj hx)
    obtain ⟨o, i, p, w, h4⟩ := mat_h (N := (n : Int)) (d + 10) (ds := turnL ds n) (by omega) (fun x hx => (XOk_ok (ho' x hx)).1)
    rw [eR, eN, eb] at h4
    rw [eR] at w
    have hm := w.land [.vals true [.int .i64 n, .cells 3 ds.length (flat DyT.v ds)], .vals true [.int .i64 n, .sl (3 + i) 0 (turnL ds n).length 3], .vals false [.int .i64 n, .cells 3 ds.length (flat DyT.v ds)]]
    simp only [List.length_cons, List.length_nil, Nat.zero_add, List.cons_append, List.nil_append, Nat.reduceAdd] at hm
    have g1 := fun s t b => gcE_own hm (N := (n : Int)) (m := (turnL ds n).length) (sz := 3) (c := 1) (s := s) (t := t) (b := b) rfl
    have hm2 := (own_mblk (turnL ds n)).land [.vals true [.int .i64 n, .sl 1 0 (turnL ds n).length 3]]
    simp only [List.length_cons, List.length_nil, Nat.zero_add, List.cons_append, List.nil_append, Nat.reduceAdd, sh_mblk, Nat.add_zero] at hm2
    have g2 := gcL_own hm2 (N := (n : Int)) (m := (turnL ds n).length) (sz := 3) (b := true)
    simp only [if_true, Int.toNat_natCast]
    clear hm hm2 w ho ho' ea eb eR eN hq hs hl
    generalize turnL ds n = T at *
    generalize flat DyT.v ds = F at *
    generalize flat DyT.v T = F' at *
    rw [vrun_v Tryd.func22 rfl rfl rfl]; simp only [Tryd.f22]
    simp (implicitDefEqProofs := false) (disch := omega) [go_sem, tab22, c1, c2, c3, gc1, gc2, gc3, h1, h2, h3, h4, g1, g2]
end
end
/- The identity, program and reference. No conditions. -/
section
open Go.Proofs
set_option maxRecDepth 100000
set_option linter.unusedSimpArgs false
attribute [local go_sem] r_seq r_skip r_retC r_exitC r_label r_block r_region r_regionW r_xWt r_xW r_cond r_Bt r_Bf r_Ncode r_Nret r_Nexit r_Nblk r_Nblkr r_Nblke r_Nnil r_Es r_Onil r_Oop r_Oif r_Xs r_Gt r_Gf r_wtt r_wtf r_wft r_wff r_wu r_gO r_putS r_putN r_get r_keepN r_keepC r_fr r_fn r_fi r_ff r_fo r_l1 r_l2t r_cun r_cul r_cub r_cui r_cus r_cuis r_cuc r_cusl r_cuti r_cutv r_ven r_vec r_l2f r_l3 r_t1 r_t2 r_t0 r_rt r_rc r_en r_ec r_cM r_oN r_oC r_end r_endt r_endf r_nob0 r_nobN r_nobC r_nobE r_nb0 r_nbi r_nbs r_nbsl r_nbin r_nbce r_nLn r_nLv r_nLc r_nAa r_nAn r_nAk_b r_nAk_i r_nAk_s r_nAk_n r_nAk_is r_nAk_ce r_nAk_fp r_nAk_sl r_nAk_pt r_nAk_fn r_nsn r_nsv r_nsc r_m0 r_mi r_ms r_msl r_min r_mce r_mLn r_mLv r_mLc r_mAa r_mAn r_mAk_b r_mAk_i r_mAk_s r_mAk_n r_mAk_is r_mAk_ce r_mAk_fp r_mAk_sl r_mAk_pt r_mAk_fn r_msn r_msv r_msc r_atb r_ati r_ats r_atn r_atis r_atc r_atf r_atl r_atp r_atfn r_gcn r_gcc r_gLn r_gLc r_gIt r_ndn r_ndc r_gcB r_gLB r_two r_rea r_rea0 r_re1n r_re1c r_ori r_orv r_ord r_orn r_adn r_adc r_ad1 r_ern r_ers r_er0 r_rsl r_rptr r_rb r_ri r_rs r_rn r_ris r_rce r_rfp r_ra4 r_ra3 r_rt4 r_rf4 r_rf3 r_idS r_idc r_nS r_nP r_nF r_nT r_vsl r_vptr r_vb r_vi r_vs r_vn r_vis r_vce r_vfp r_va4 r_va3 r_vt4 r_vf4 r_vf3 r_rV r_Oi r_Ov r_Od r_rE r_rE0 r_En r_Ec r_E0 r_pO r_pk r_agL r_cO r_fO r_fSi r_fSv r_fPv r_fsl r_fptr r_ffn r_fag r_fb r_fint r_fstr r_fnil r_fis r_fce r_ffp r_res r_move r_assign r_pick r_pickt r_pickf r_alloc r_box r_al r_build r_bslice r_load r_store r_nlc r_nl1 r_nl2 r_bin r_un r_conv r_mkf r_mks r_slc r_fad r_fld r_iad r_idx r_ext r_ex1 r_callf r_callt r_callen r_calapp r_calmax r_calmin r_vt r_vcb r_vci r_vcs r_vcnp r_vcn r_vca r_vcf r_vcg r_ofb r_ofi r_ofs r_ofn r_evs r_pn r_prt r_pc r_one_a r_one_b r_one_i r_one_s r_one_n r_one_is r_one_ce r_one_fp r_one_sl r_one_pt r_one_fn r_cs_a r_cs_b r_cs_i r_cs_s r_cs_n r_cs_is r_cs_ce r_cs_fp r_cs_sl r_cs_pt r_cs_fn r_tov r_tovA r_toc r_toa r_tb r_ti r_ts r_tn r_bd r_bd2 r_filn r_fp1 r_filc r_fsn r_fsc r_san r_sac r_bs2 r_bs1 r_newO r_mkq r_mkI r_mkOi r_mkOv r_tIn r_tIc r_repz r_repn r_ldp r_ldf r_l1t r_l1f r_lFt r_lFf r_aggO r_obj r_at r_ati' r_atv r_celli r_cellv r_subi r_subv r_sto r_sto1 r_sto2 r_sets r_setR r_setn r_setc r_s1i r_s1v r_bin1 r_bin2 r_tv1 r_cb r_ci r_cst r_cn r_csl r_cis r_cce r_uni r_unb r_cv r_cvO r_cvN r_cv0 r_cvS r_wB r_cvi r_cvs r_cvb r_cvl r_sO r_rdn r_rdi r_rdl r_rdO r_vsub r_vfn r_mk r_mk1 r_mk2 r_zoi r_zov r_leni r_lenv r_bn r_bndV r_bo r_sl0 r_sl1 r_vsz r_ct1 r_cts r_cti r_ctc r_ctn r_lnl r_lni r_lnc r_lnn r_fa r_fap r_faf r_fi1 r_fit r_fif r_ixi r_ixs r_ixc r_ixf r_ixF r_ixF2 r_ix1 r_ixsl r_ixin r_ixce r_len1 r_lenA r_lTs r_lTn r_lTl r_lTi r_lTc r_app0 r_app r_app1 r_app2 r_app3 r_catO r_cati r_catv r_newt r_newf r_pair r_pairK r_trip r_kis r_kiv r_srn r_srl r_sri r_src r_srs r_oln r_oll r_vw r_wi r_wv r_mm r_max r_min' r_str r_cF r_c2t r_c3f r_c3t r_ab r_c2f r_cV r_p1 r_la r_la2t r_la2f r_la3 r_sh r_z_is r_z_ce r_z_fp r_z_b r_z_i r_z_s r_z_n r_z_l r_z_p r_z_a4 r_z_a3 r_z_t4 r_zoI r_zoV r_roN r_roC r_roi r_rod r_zod r_rov r_aR r_trOi r_trOv r_trPv r_trl r_trp r_trf r_tra r_trb r_tri r_trs r_trn r_tris r_trce r_trfp r_vJ r_vJs r_vJn
attribute [local go_sem] b_add b_sub b_mul b_quo b_rem b_shl b_shr b_eql b_neq b_lss b_leq b_gtr b_geq eqB_s b_eqB b_neB u_neg u_not b_nn b_nn' eqS_s zerosT_s zerosT_n zt_i zt_sl zt_st dstOf_z dstOf_n iltT iltF ileT ileF ieqT ieqF nltT nltF nleT nleF neqT neqF tdiv_pos tmod_pos w64 idx0 List.take_of_length_le
open Num
def oneT : DyT := ⟨false, D 1, 0⟩
theorem mkD_one : mkD false 1 0 = oneT := by
  have : tz 1 = 0 := tz_eq (o := 0) rfl
  unfold mkD oneT
  rw [if_neg (by omega), this]; rfl
theorem len_1 : (D 1).length ≤ 4 := len_small (by omega)
theorem one_ok : dyOkB oneT = true := by
  rw [← mkD_one, dyOkB_mkD, mkD_one]
  have := len_1
  unfold dyFit oneT
  simp; omega
theorem zT_ok : dyOkB zT = true := by
  have e : mkD false 0 0 = zT := by unfold mkD zT; simp
  rw [← e, dyOkB_mkD, e]; rfl
def idL (n : Nat) : List DyT := (List.range (n * n)).map fun k => if k / n = k % n then oneT else zT
def izL (n i : Nat) : List (Option DyT) := (List.range (n * n)).map fun k => if k / n = k % n ∧ k % n < i then some oneT else none
section
variable {n i j : Nat}
theorem idL_len : (idL n).length = n * n := by unfold idL; simp
theorem izL_len : (izL n i).length = n * n := by unfold izL; simp
theorem idL_all : ∀ x ∈ idL n, dyOkB x = true := by
  intro x hx
  unfold idL at hx
  obtain ⟨k, _, rfl⟩ := List.mem_map.1 hx
  split
  · exact one_ok
  · exact zT_ok
theorem idL_at (hi : i < n) (hj : j < n) : (idL n)[i * n + j]? = some (if i = j then oneT else zT) := by
  obtain ⟨p1, p2⟩ := place i j n hj
  unfold idL
  rw [List.getElem?_map, List.getElem?_range (place_lt hi hj)]
  simp only [Option.map_some, p1, p2]
theorem izL_set (hi : i < n) : (izL n i).set (i * n + i) (some oneT) = izL n (i + 1) := by
  obtain ⟨p1, p2⟩ := place i i n hi
  have hlt := place_lt hi hi
  refine List.ext_getElem? fun k => ?_
  rw [List.getElem?_set]
  by_cases hk : i * n + i = k
  · subst hk
    rw [if_pos rfl, if_pos (by rw [izL_len]; exact hlt)]
    unfold izL
    rw [List.getElem?_map, List.getElem?_range hlt]
    simp only [Option.map_some, p1, p2]
    simp
  · rw [if_neg hk]
    by_cases hkl : k < n * n
    · unfold izL
      rw [List.getElem?_map, List.getElem?_map, List.getElem?_range hkl]
      simp only [Option.map_some]
      have hdm := Nat.div_add_mod k n
      have hne : ¬ (k / n = k % n ∧ k % n = i) := by
        rintro ⟨h1, h2⟩
        rw [h1, h2, Nat.mul_comm] at hdm
        exact hk hdm
      clear hdm
      generalize k / n = a at *
      generalize k % n = b at *
      by_cases hc : a = b ∧ b < i
      · rw [if_pos hc, if_pos (by omega)]
      · rw [if_neg hc, if_neg (by omega)]
    · rw [List.getElem?_eq_none (by rw [izL_len]; omega), List.getElem?_eq_none (by rw [izL_len]; omega)]
theorem izL_0 : izL n 0 = List.replicate (n * n) none := by
  unfold izL
  refine List.ext_getElem? fun k => ?_
  by_cases hkl : k < n * n
  · rw [List.getElem?_map, List.getElem?_range hkl, List.getElem?_replicate]
    simp [hkl]
  · rw [List.getElem?_eq_none (by simp; omega), List.getElem?_eq_none (by simp; omega)]
/-- A place that is not written holds nought. -/
def Zr (R : List DyT) (L : List (Option DyT)) : Prop := L.length = R.length ∧ ∀ (k : Nat) (x : DyT), R[k]? = some x → L[k]? = some (some x) ∨ (L[k]? = some none ∧ x = zT)
theorem id_Zr (hn : 1 ≤ n) : Zr (idL n) (izL n n) := by
  refine ⟨by rw [izL_len, idL_len], fun k x hx => ?_⟩
  have hk := (List.getElem?_eq_some_iff.1 hx).1
  rw [idL_len] at hk
  unfold idL at hx
  unfold izL
  rw [List.getElem?_map, List.getElem?_range hk] at hx ⊢
  have : k % n < n := Nat.mod_lt k (by omega)
  simp only [Option.map_some, Option.some.injEq] at hx ⊢
  by_cases hc : k / n = k % n
  · rw [if_pos hc] at hx
    left; rw [if_pos ⟨hc, this⟩, hx]
  · rw [if_neg hc] at hx
    right; exact ⟨by rw [if_neg (fun h => hc h.1)], hx.symm⟩
/-! ### program -/
theorem one_v (d : Nat) : vrun Tryd.prog kn (d + 2) 85 [] [] = some (.agg [.bool false, .ints .i64 (D 1), .int .i64 0], []) := by
  have h1 := fun d => small_v (n := 1) d (by omega)
  simp only [show ((1 : Nat) : Int) = 1 from rfl] at h1
  generalize D 1 = U at *
  rw [vrun_v Tryd.func85 rfl rfl rfl]; simp only [Tryd.f85]
  simp (implicitDefEqProofs := false) (disch := omega) [go_sem, tab85, h1]
theorem id1_v (d : Nat) : vrun Tryd.prog kn (d + 3) 84 [.int .i64 i, .int .i64 j] [] = some (.agg (if i = j then oneT else zT).v, []) := by
  have h1 := fun d => one_v d
  by_cases h : i = j
  · rw [if_pos h]
    show _ = some (V.agg [V.bool false, V.ints .i64 (D 1), V.int .i64 0], [])
    generalize D 1 = U at *
    have h' : (i : Int) = j := by omega
    rw [vrun_v Tryd.func84 rfl rfl rfl]; simp only [Tryd.f84]
    simp (implicitDefEqProofs := false) (disch := omega) [go_sem, tab84, h1, h, h']
  · rw [if_neg h]
    show _ = some (V.agg [V.bool false, V.ints .i64 [], V.int .i64 0], [])
    have h' : ¬ (i : Int) = j := by omega
    rw [vrun_v Tryd.func84 rfl rfl rfl]; simp only [Tryd.f84]
    simp (implicitDefEqProofs := false) (disch := omega) [go_sem, tab84, h1, h, h']
theorem identity_v (d : Nat) (hn1 : 1 ≤ n) (hn : n ≤ 4) : vrun Tryd.prog kn (d + 5) 49 [.int .i64 n] [] = some (.agg [.int .i64 n, .cells 3 (idL n).length (flat DyT.v (idL n))], []) := by
  have h3 := fun d => gridOf_v (G := idL n) (g := 84) (caps := []) (d := d + 3) c_pure84 rfl caps0 hn1 hn idL_len (fun i j x hi hj hx => by
    rw [idL_at hi hj] at hx
    obtain rfl := Option.some.inj hx
    simpa [go_sem] using id1_v d (i := i) (j := j))
  have hl : (idL n).length ≤ 16 := by rw [idL_len]; exact Nat.mul_le_mul hn hn
  generalize idL n = T at *
  generalize flat DyT.v T = F at *
  rw [vrun_v Tryd.func49 rfl rfl rfl]; simp only [Tryd.f49]
  simp (implicitDefEqProofs := false) (disch := omega) [go_sem, tab49, h3]
/-! ### reference -/
def l8S (n i : Nat) : VE × VH := ([(0, some (.int .i64 n)), (2, some (.ptr 0 0)), (3, some (.ptr 1 0)), (4, some (.int .i64 i))], [.vals true [.int .i64 0, .nil], .vals true [.int .i64 n, .sl 2 0 (n * n) 3], .vals true (flat cz (izL n i))])
theorem iz_fin : (flat cz (izL n i)).length = n * n * 3 ∧ (∀ m, (flat cz (izL n i)).flatMap (vrefs m) = []) ∧ ∀ ρ m, omap (vren ρ m) (flat cz (izL n i)) = some (flat cz (izL n i)) :=
  ⟨by rw [cz_len3, izL_len], fun m => cz_refs m _, fun ρ m => cz_ren ρ m _⟩
theorem id_r (d : Nat) (hn : n ≤ 4) (hi : i < n) : vCode Tryd.prog kn (vrun Tryd.prog kn (d + 4)) 47 (loopAt Tryd.f47 0) (l8S n i).1 (l8S n i).2 = some (.norm, l8S n (i + 1)) := by
  have h1 := fun d => l3of_v d (n := 1) (by omega) (by omega)
  simp only [show (1 : Int).natAbs = 1 from rfl, show decide ((1 : Int) < 0) = false from rfl] at h1
  have h2 := fun d => l4make_v d (n := false) (a := 1) (e := 0) (by have := len_1; omega) (by omega) (by omega)
  rw [mkD_one] at h2
  change ∀ d, _ = some (V.agg [V.bool false, V.ints .i64 (D 1), V.int .i64 0], []) at h2
  obtain ⟨hcl, hG1, hG2⟩ := iz_fin (n := n) (i := i)
  obtain ⟨_, hA1, hA2⟩ := iz_fin (n := n) (i := i + 1)
  have hz := cz_set (izL n i) (i * n + i) oneT (by rw [izL_len]; exact place_lt hi hi)
  rw [izL_set hi] at hz
  change (((flat cz (izL n i)).set ((i * n + i) * 3) (V.bool false)).set ((i * n + i) * 3 + 1) (V.ints .i64 (D 1))).set ((i * n + i) * 3 + 2) (V.int .i64 0) = _ at hz
  rw [← hz] at hA1 hA2
  have hlt := place_lt hi hi
  have hnn : n * n ≤ 16 := Nat.mul_le_mul hn hn
  have hI : (i : Int) * n = ((i * n : Nat) : Int) := by simp
  rw [round_v]; simp only [loopAt, nthC, bodyC, loops, List.nil_append, List.cons_append, List.append_nil, Tryd.f47, l8S]
  rw [← hz]
  generalize i * n = q at *
  generalize n * n = M at *
  generalize flat cz (izL n i) = C at *
  generalize D 1 = U at *
  clear hz
  have e2 : ((q : Int) + i).toNat = q + i := by omega
  have ht : C.take (M * 3) = C := List.take_of_length_le (by omega)
  simp (implicitDefEqProofs := false) (disch := omega) [go_sem, tab47, h1, h2, hI, e2, hcl, hG1, hG2, hA1, hA2, ht]
theorem id_x (call : CallV) (hn : n ≤ 4) : vCode Tryd.prog kn call 47 (loopAt Tryd.f47 0) (l8S n n).1 (l8S n n).2 = some (.exit 0, (l8S n n).1 ++ [(9, some (.bool false))], (l8S n n).2) := by
  obtain ⟨hcl, hG1, hG2⟩ := iz_fin (n := n) (i := n)
  have hnn : n * n ≤ 16 := Nat.mul_le_mul hn hn
  rw [round_v]; simp only [loopAt, nthC, bodyC, loops, List.nil_append, List.cons_append, List.append_nil, Tryd.f47, l8S]
  generalize n * n = M at *
  generalize flat cz (izL n n) = C at *
  have ht : C.take (M * 3) = C := List.take_of_length_le (by omega)
  simp (implicitDefEqProofs := false) (disch := omega) [go_sem, tab47, hcl, hG1, hG2, ht]
theorem cz_frz (h : VH) (m : Nat) : ∀ L : List (Option DyT), omap (vfrz h (m + 1)) (flat cz L) = some (flat cz L)
  | [] => rfl
  | x :: r => by
    rw [flat]
    exact omap_app _ (by cases x <;> simp [cz, go_sem]) (cz_frz h m r)
theorem l8id_v (d : Nat) (hn1 : 1 ≤ n) (hn : n ≤ 4) : vrun Tryd.prog kn (d + 5) 47 [.int .i64 n] [] = some (.agg [.int .i64 n, .cells 3 (n * n) (flat cz (izL n n))], []) := by
  have h1 := fun d => l8new_v (n := n) d hn
  have hl0 := fun ks => loop_v (P := Tryd.prog) (K := kn) (ks := ks) (vi_for (l8S n) n (n := kn.cf.rounds) (by rw [k_cf, c_rounds]; omega) (fun i hi => id_r d hn hi) fun m => vi_exit (id_x _ hn))
  simp only [loopAt, nthC, bodyC, loops, List.nil_append, List.cons_append, List.append_nil, Tryd.f47, l8S, Int.natCast_zero, List.cons_append, List.nil_append, izL_0] at hl0
  obtain ⟨hcl, hG1, hG2⟩ := iz_fin (n := n) (i := n)
  have hfz := fun h m => cz_frz h m (izL n n)
  have hnn : n * n ≤ 16 := Nat.mul_le_mul hn hn
  have zl := cz_len3 (List.replicate (n * n) (none : Option DyT))
  rw [List.length_replicate] at zl
  have zG1 := fun m => cz_refs m (List.replicate (n * n) (none : Option DyT))
  have zG2 := fun ρ m => cz_ren ρ m (List.replicate (n * n) (none : Option DyT))
  have zf : (flat cz (List.replicate (n * n) (none : Option DyT))).all (V.noFz 4) = true := by
    rw [cz_none]
    generalize n * n = M
    induction M with
    | zero => rfl
    | succ M ih => rw [r_repn, List.all_append, ih]; rfl
  generalize n * n = M at *
  generalize flat cz (List.replicate M none) = Z at *
  generalize flat cz (izL n n) = C at *
  have ht : C.take (M * 3) = C := List.take_of_length_le (by omega)
  have hz : Z.take (M * 3) = Z := List.take_of_length_le (by omega)
  rw [vrun_v Tryd.func47 rfl rfl rfl]; simp only [Tryd.f47]
  simp (implicitDefEqProofs := false) (disch := omega) [go_sem, tab47, h1, hl0, hcl, hfz, hG1, hG2, ht, zl, zG1, zG2, zf, hz]
end
end
/- The laws' types as values. No conditions. -/
section
open Go.Proofs Num
def DyT.row (x : DyT) : Prop := x.l.length ≤ 9223372036854775807 ∧ (∀ y ∈ x.l, (Lit.int .i64 y).wf = true) ∧ (Lit.int .i64 x.e).wf = true
def TInt (vs : List V) : Prop := ∃ x : Int, vs = [.int .i64 x] ∧ (Lit.int .i64 x).wf = true
def TBool (vs : List V) : Prop := ∃ x : Bool, vs = [.bool x]
def TInts (vs : List V) : Prop := ∃ l : List Int, vs = [.ints .i64 l] ∧ l.length ≤ 9223372036854775807 ∧ ∀ x ∈ l, (Lit.int .i64 x).wf = true
def TDys (vs : List V) : Prop := ∃ ds : List DyT, vs = [.cells 3 ds.length (flat DyT.v ds)] ∧ ds.length ≤ 9223372036854775807 ∧ ∀ x ∈ ds, x.row
theorem opInt : OpV Tryd.prog 3 1 TInt := OpV.int Tryd.underlying3 (by kernel_rfl)
theorem opBool : OpV Tryd.prog 4 1 TBool := OpV.bool Tryd.underlying4 (by kernel_rfl)
theorem opInts : OpV Tryd.prog 26 1 TInts := OpV.ints Tryd.underlying26 (by kernel_rfl) Tryd.underlying3 (by kernel_rfl)
theorem opNat : OpV Tryd.prog 50 1 TInts := OpV.struct1 Tryd.underlying50 (by kernel_rfl) rfl opInts
theorem opWhole : OpV Tryd.prog 52 2 (fun vs => ∃ (n : Bool) (l : List Int), vs = [.bool n, .ints .i64 l] ∧ l.length ≤ 9223372036854775807 ∧ ∀ x ∈ l, (Lit.int .i64 x).wf = true) :=
  (OpV.struct2 Tryd.underlying52 (by kernel_rfl) rfl rfl opBool opNat).imp fun vs ⟨_, _, e, ⟨n, e1⟩, ⟨l, e2, h1, h2⟩⟩ => ⟨n, l, by rw [e, e1, e2]; rfl, h1, h2⟩
theorem opDy : OpV Tryd.prog 54 3 (fun vs => ∃ x : DyT, vs = x.v ∧ x.row) :=
  (OpV.struct2 Tryd.underlying54 (by kernel_rfl) rfl rfl opWhole opInt).imp fun vs ⟨_, _, e, ⟨n, l, e1, h1, h2⟩, ⟨x, e2, h3⟩⟩ => ⟨⟨n, l, x⟩, by rw [e, e1, e2]; rfl, h1, h2, h3⟩
theorem opDys : OpV Tryd.prog 22 1 TDys := OpV.cells Tryd.underlying22 (by kernel_rfl) opDy (by omega)
theorem opMat : OpV Tryd.prog 24 2 (fun vs => ∃ (N : Int) (ds : List DyT), vs = [.int .i64 N, .cells 3 ds.length (flat DyT.v ds)] ∧ (Lit.int .i64 N).wf = true ∧ ds.length ≤ 9223372036854775807 ∧ ∀ x ∈ ds, x.row) :=
  (OpV.struct2 Tryd.underlying24 (by kernel_rfl) rfl rfl opInt opDys).imp fun vs ⟨_, _, e, ⟨n, e1, h1⟩, ⟨ds, e2, h2, h3⟩⟩ => ⟨n, ds, by rw [e, e1, e2]; rfl, h1, h2, h3⟩
end
end Go.Eng
