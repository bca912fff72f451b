/- What the functions of this seat do, one after another, told by plain values. No conditions. -/
import Derived.Test.YtlejlpooblffbaaDoorSeat
import Derived.Test.YtlejlpooblffbaaDoorVb
import Derived.Test.YtlejlpooblffbaaDoorVc
import Derived.Test.YtlejlpooblffbaaDoorT4
set_option linter.unusedVariables false
set_option linter.unusedSimpArgs false
namespace Go.Eng
/- MatTurn, program. No conditions. -/
section
open Go.Proofs
set_option maxRecDepth 100000
set_option linter.unusedSimpArgs false
attribute [local go_sem] r_seq r_skip r_retC r_exitC r_label r_block r_region r_regionW r_xWt r_xW r_cond r_Bt r_Bf r_Ncode r_Nret r_Nexit r_Nblk r_Nblkr r_Nblke r_Nnil r_Es r_Onil r_Oop r_Oif r_Xs r_Gt r_Gf r_wtt r_wtf r_wft r_wff r_wu r_gO r_putS r_putN r_get r_keepN r_keepC r_fr r_fn r_fi r_ff r_fo r_l1 r_l2t r_cun r_cul r_cub r_cui r_cus r_cuis r_cuc r_cusl r_cuti r_cutv r_ven r_vec r_l2f r_l3 r_t1 r_t2 r_t0 r_rt r_rc r_en r_ec r_cM r_oN r_oC r_end r_endt r_endf r_nob0 r_nobN r_nobC r_nobE r_nb0 r_nbi r_nbs r_nbsl r_nbin r_nbce r_nLn r_nLv r_nLc r_nAa r_nAn r_nAk_b r_nAk_i r_nAk_s r_nAk_n r_nAk_is r_nAk_ce r_nAk_fp r_nAk_sl r_nAk_pt r_nAk_fn r_nsn r_nsv r_nsc r_m0 r_mi r_ms r_msl r_min r_mce r_mLn r_mLv r_mLc r_mAa r_mAn r_mAk_b r_mAk_i r_mAk_s r_mAk_n r_mAk_is r_mAk_ce r_mAk_fp r_mAk_sl r_mAk_pt r_mAk_fn r_msn r_msv r_msc r_atb r_ati r_ats r_atn r_atis r_atc r_atf r_atl r_atp r_atfn r_gcn r_gcc r_gLn r_gLc r_gIt r_ndn r_ndc r_gcB r_gLB r_two r_rea r_rea0 r_re1n r_re1c r_ori r_orv r_ord r_orn r_adn r_adc r_ad1 r_ern r_ers r_er0 r_rsl r_rptr r_rb r_ri r_rs r_rn r_ris r_rce r_rfp r_ra4 r_ra3 r_rt4 r_rf4 r_rf3 r_idS r_idc r_nS r_nP r_nF r_nT r_vsl r_vptr r_vb r_vi r_vs r_vn r_vis r_vce r_vfp r_va4 r_va3 r_vt4 r_vf4 r_vf3 r_rV r_Oi r_Ov r_Od r_rE r_rE0 r_En r_Ec r_E0 r_pO r_pk r_agL r_cO r_fO r_fSi r_fSv r_fPv r_fsl r_fptr r_ffn r_fag r_fb r_fint r_fstr r_fnil r_fis r_fce r_ffp r_res r_move r_assign r_pick r_pickt r_pickf r_alloc r_box r_al r_build r_bslice r_load r_store r_nlc r_nl1 r_nl2 r_bin r_un r_conv r_mkf r_mks r_slc r_fad r_fld r_iad r_idx r_ext r_ex1 r_callf r_callt r_callen r_calapp r_calmax r_calmin r_vt r_vcb r_vci r_vcs r_vcnp r_vcn r_vca r_vcf r_vcg r_ofb r_ofi r_ofs r_ofn r_evs r_pn r_prt r_pc r_one_a r_one_b r_one_i r_one_s r_one_n r_one_is r_one_ce r_one_fp r_one_sl r_one_pt r_one_fn r_cs_a r_cs_b r_cs_i r_cs_s r_cs_n r_cs_is r_cs_ce r_cs_fp r_cs_sl r_cs_pt r_cs_fn r_tov r_tovA r_toc r_toa r_tb r_ti r_ts r_tn r_bd r_bd2 r_filn r_fp1 r_filc r_fsn r_fsc r_san r_sac r_bs2 r_bs1 r_newO r_mkq r_mkI r_mkOi r_mkOv r_tIn r_tIc r_repz r_repn r_ldp r_ldf r_l1t r_l1f r_lFt r_lFf r_aggO r_obj r_at r_ati' r_atv r_celli r_cellv r_subi r_subv r_sto r_sto1 r_sto2 r_sets r_setR r_setn r_setc r_s1i r_s1v r_bin1 r_bin2 r_tv1 r_cb r_ci r_cst r_cn r_csl r_cis r_cce r_uni r_unb r_cv r_cvO r_cvN r_cv0 r_cvS r_wB r_cvi r_cvs r_cvb r_cvl r_sO r_rdn r_rdi r_rdl r_rdO r_vsub r_vfn r_mk r_mk1 r_mk2 r_zoi r_zov r_leni r_lenv r_bn r_bndV r_bo r_sl0 r_sl1 r_vsz r_ct1 r_cts r_cti r_ctc r_ctn r_lnl r_lni r_lnc r_lnn r_fa r_fap r_faf r_fi1 r_fit r_fif r_ixi r_ixs r_ixc r_ixf r_ixF r_ixF2 r_ix1 r_ixsl r_ixin r_ixce r_len1 r_lenA r_lTs r_lTn r_lTl r_lTi r_lTc r_app0 r_app r_app1 r_app2 r_app3 r_catO r_cati r_catv r_newt r_newf r_pair r_pairK r_trip r_kis r_kiv r_srn r_srl r_sri r_src r_srs r_oln r_oll r_vw r_wi r_wv r_mm r_max r_min' r_str r_cF r_c2t r_c3f r_c3t r_ab r_c2f r_cV r_p1 r_la r_la2t r_la2f r_la3 r_sh r_z_is r_z_ce r_z_fp r_z_b r_z_i r_z_s r_z_n r_z_l r_z_p r_z_a4 r_z_a3 r_z_t4 r_zoI r_zoV r_roN r_roC r_roi r_rod r_zod r_rov r_aR r_trOi r_trOv r_trPv r_trl r_trp r_trf r_tra r_trb r_tri r_trs r_trn r_tris r_trce r_trfp r_vJ r_vJs r_vJn
attribute [local go_sem] b_add b_sub b_mul b_quo b_rem b_shl b_shr b_eql b_neq b_lss b_leq b_gtr b_geq eqB_s b_eqB b_neB u_neg u_not b_nn b_nn' eqS_s zerosT_s zerosT_n zt_i zt_sl zt_st dstOf_z dstOf_n iltT iltF ileT ileF ieqT ieqF nltT nltF nleT nleF neqT neqF tdiv_pos tmod_pos w64 idx0 List.take_of_length_le
open Num
section
variable {ds : List DyT} {N : Int} {n : Nat}
theorem mat_h (d : Nat) (hl : ds.length < 1000000) (hx : ∀ x ∈ ds, XOk x) : ∃ (o : VH) (i : Nat) (p : Nat → Nat), Own o i p (xR ds) ∧ ∀ (h : VH), vcallF kn (vrun Tryd.prog kn (d + 7)) h 50 (some [.agg [.int .i64 N, .cells 3 ds.length (flat DyT.v ds)]]) = some (.tup [.agg [.int .i64 (xNm N ds), .sl (h.length + i) 0 (xR ds).length 3], .bool (ds.all xft)], h ++ o.map (shO h.length)) := by
  obtain ⟨o, i, p, h1, w⟩ := mat_v d (N := N) hl hx
  refine ⟨o, i, p, w, fun h => ?_⟩
  refine callF_land (fa := [.agg [.int .i64 N, .cells 3 ds.length (flat DyT.v ds)]]) (r := .tup [.agg [.int .i64 (xNm N ds), .sl i 0 (xR ds).length 3], .bool (ds.all xft)]) c_pure50 rfl (by simp [go_sem]) ?_ (by simp [go_sem]) w.pl (by simp [go_sem])
  clear w
  generalize xR ds = R at *
  generalize xNm N ds = M at *
  generalize ds.all xft = f at *
  simpa [go_sem] using h1
theorem turn1_v (d : Nat) (hn : n ≤ 4) (hl : ds.length = n * n) {i j : Nat} (hi : i < n) (hj : j < n) {x : DyT} (hx : ds[j * n + i]? = some x) : vrun Tryd.prog kn (d + 2) 56 [.int .i64 i, .int .i64 j, .fptr [.int .i64 n, .cells 3 ds.length (flat DyT.v ds)]] [] = some (.agg x.v, []) := by
  have h1 := fun d => at_v (N := (n : Int)) d rfl hn hj hi hl hx
  show _ = some (V.agg [V.bool x.neg, V.ints .i64 x.l, V.int .i64 x.e], [])
  generalize flat DyT.v ds = F at *
  rw [vrun_v Tryd.func56 rfl rfl rfl]; simp only [Tryd.f56]
  simp (implicitDefEqProofs := false) (disch := omega) [go_sem, tab56, h1]
def turnT (N : Int) (ds : List DyT) : List DyT := if matOkB N ds then turnL ds N.toNat else []
def okN0 (N : Int) (ds : List DyT) : Int := if matOkB N ds then N else 0
end
end
section
open Go.Proofs
set_option maxRecDepth 100000
set_option linter.unusedSimpArgs false
attribute [local go_sem] r_seq r_skip r_retC r_exitC r_label r_block r_region r_regionW r_xWt r_xW r_cond r_Bt r_Bf r_Ncode r_Nret r_Nexit r_Nblk r_Nblkr r_Nblke r_Nnil r_Es r_Onil r_Oop r_Oif r_Xs r_Gt r_Gf r_wtt r_wtf r_wft r_wff r_wu r_gO r_putS r_putN r_get r_keepN r_keepC r_fr r_fn r_fi r_ff r_fo r_l1 r_l2t r_cun r_cul r_cub r_cui r_cus r_cuis r_cuc r_cusl r_cuti r_cutv r_ven r_vec r_l2f r_l3 r_t1 r_t2 r_t0 r_rt r_rc r_en r_ec r_cM r_oN r_oC r_end r_endt r_endf r_nob0 r_nobN r_nobC r_nobE r_nb0 r_nbi r_nbs r_nbsl r_nbin r_nbce r_nLn r_nLv r_nLc r_nAa r_nAn r_nAk_b r_nAk_i r_nAk_s r_nAk_n r_nAk_is r_nAk_ce r_nAk_fp r_nAk_sl r_nAk_pt r_nAk_fn r_nsn r_nsv r_nsc r_m0 r_mi r_ms r_msl r_min r_mce r_mLn r_mLv r_mLc r_mAa r_mAn r_mAk_b r_mAk_i r_mAk_s r_mAk_n r_mAk_is r_mAk_ce r_mAk_fp r_mAk_sl r_mAk_pt r_mAk_fn r_msn r_msv r_msc r_atb r_ati r_ats r_atn r_atis r_atc r_atf r_atl r_atp r_atfn r_gcn r_gLn r_gIt r_ndn r_ndc r_gcB r_gLB r_two r_rea r_rea0 r_re1n r_re1c r_ori r_orv r_ord r_orn r_adn r_adc r_ad1 r_ern r_ers r_er0 r_rsl r_rptr r_rb r_ri r_rs r_rn r_ris r_rce r_rfp r_ra4 r_ra3 r_rt4 r_rf4 r_rf3 r_idS r_idc r_nS r_nP r_nF r_nT r_vsl r_vptr r_vb r_vi r_vs r_vn r_vis r_vce r_vfp r_va4 r_va3 r_vt4 r_vf4 r_vf3 r_rV r_Oi r_Ov r_Od r_rE r_rE0 r_En r_Ec r_E0 r_pO r_pk r_agL r_cO r_fO r_fSi r_fSv r_fPv r_fsl r_fptr r_ffn r_fag r_fb r_fint r_fstr r_fnil r_fis r_fce r_ffp r_res r_move r_assign r_pick r_pickt r_pickf r_alloc r_box r_al r_build r_bslice r_load r_store r_nlc r_nl1 r_nl2 r_bin r_un r_conv r_mkf r_mks r_slc r_fad r_fld r_iad r_idx r_ext r_ex1 r_callf r_callt r_callen r_calapp r_calmax r_calmin r_vt r_vcb r_vci r_vcs r_vcnp r_vcn r_vca r_vcf r_vcg r_ofb r_ofi r_ofs r_ofn r_evs r_pn r_prt r_pc r_one_a r_one_b r_one_i r_one_s r_one_n r_one_is r_one_ce r_one_fp r_one_sl r_one_pt r_one_fn r_cs_a r_cs_b r_cs_i r_cs_s r_cs_n r_cs_is r_cs_ce r_cs_fp r_cs_sl r_cs_pt r_cs_fn r_tov r_tovA r_toc r_toa r_tb r_ti r_ts r_tn r_bd r_bd2 r_filn r_fp1 r_filc r_fsn r_fsc r_san r_sac r_bs2 r_bs1 r_newO r_mkq r_mkI r_mkOi r_mkOv r_tIn r_tIc r_repz r_repn r_ldp r_ldf r_l1t r_l1f r_lFt r_lFf r_aggO r_obj r_at r_ati' r_atv r_celli r_cellv r_subi r_subv r_sto r_sto1 r_sto2 r_sets r_setR r_setn r_setc r_s1i r_s1v r_bin1 r_bin2 r_tv1 r_cb r_ci r_cst r_cn r_csl r_cis r_cce r_uni r_unb r_cv r_cvO r_cvN r_cv0 r_cvS r_wB r_cvi r_cvs r_cvb r_cvl r_sO r_rdn r_rdi r_rdl r_rdO r_vsub r_vfn r_mk r_mk1 r_mk2 r_zoi r_zov r_leni r_lenv r_bn r_bndV r_bo r_sl0 r_sl1 r_vsz r_ct1 r_cts r_cti r_ctc r_ctn r_lnl r_lni r_lnc r_lnn r_fa r_fap r_faf r_fi1 r_fit r_fif r_ixi r_ixs r_ixc r_ixf r_ixF r_ixF2 r_ix1 r_ixsl r_ixin r_ixce r_len1 r_lenA r_lTs r_lTn r_lTl r_lTi r_lTc r_app0 r_app r_app1 r_app2 r_app3 r_catO r_cati r_catv r_newt r_newf r_pair r_pairK r_trip r_kis r_kiv r_srn r_srl r_sri r_src r_srs r_oln r_oll r_vw r_wi r_wv r_mm r_max r_min' r_str r_c2t r_c3f r_c3t r_ab r_c2f r_cV r_p1 r_la r_la2t r_la2f r_la3 r_sh r_z_is r_z_ce r_z_fp r_z_b r_z_i r_z_s r_z_n r_z_l r_z_p r_z_a4 r_z_a3 r_z_t4 r_zoI r_zoV r_roN r_roC r_roi r_rod r_zod r_rov r_aR r_trOi r_trOv r_trPv r_trl r_trp r_trf r_tra r_trb r_tri r_trs r_trn r_tris r_trce r_trfp r_vJ r_vJs r_vJn
attribute [local go_sem] b_add b_sub b_mul b_quo b_rem b_shl b_shr b_eql b_neq b_lss b_leq b_gtr b_geq eqB_s b_eqB b_neB u_neg u_not b_nn b_nn' eqS_s zerosT_s zerosT_n zt_i zt_sl zt_st dstOf_z dstOf_n iltT iltF ileT ileF ieqT ieqF nltT nltF nleT nleF neqT neqF tdiv_pos tmod_pos w64 idx0 List.take_of_length_le
open Num
section
variable {ds : List DyT} {N : Int}
theorem MatTurn_v (d : Nat) (hl : ds.length < 100000000) (hs : ∀ x ∈ ds, x.sz) : vrun Tryd.prog kn (d + 18) 22 [.agg [.int .i64 N, .cells 3 ds.length (flat DyT.v ds)]] [] = some (.tup [.agg [.int .i64 (okN0 N ds), .sl 0 0 (turnT N ds).length 3], .bool (matOkB N ds)], mblk 0 (turnT N ds)) := by
  have h1 := fun d => MatOk_v (N := N) d hl hs
  have c1 : ∀ call h args, vcallF kn call h 54 (some args) = vcall2 kn call 54 args h (kn.cf.pure 54) := fun _ _ _ => rfl
  have c2 : ∀ call h args, vcallF kn call h 39 (some args) = vcall2 kn call 39 args h (kn.cf.pure 39) := fun _ _ _ => rfl
  have c3 : ∀ call h args, vcallF kn call h 55 (some args) = vcall2 kn call 55 args h (kn.cf.pure 55) := fun _ _ _ => rfl
  have gc1 : ∀ e a, vgc e [a] = vgcBy (reach [a] 3 (addNs [] (erefs e))) e [a] := fun _ _ => rfl
  have gc2 : ∀ e a b, vgc e [a, b] = vgcBy (reach [a, b] 3 (addNs [] (erefs e))) e [a, b] := fun _ _ _ => rfl
  have gc3 : ∀ e a b c, vgc e [a, b, c] = vgcBy (reach [a, b, c] 3 (addNs [] (erefs e))) e [a, b, c] := fun _ _ _ _ => rfl
  have gl2 : ∀ e a b, vgcL e [a, b] = vgcLBy (reach [a, b] 3 (addNs [] (e.flatMap (vrefs 4)))) e [a, b] := fun _ _ _ => rfl
  unfold turnT okN0
  cases hq : matOkB N ds with
  | false =>
    rw [hq] at h1
    simp only [Bool.false_eq_true, if_false]
    unfold mblk
    simp only [cellsP, List.map_nil]
    rw [vrun_v Tryd.func22 rfl rfl rfl]; simp only [Tryd.f22]
    simp (implicitDefEqProofs := false) (disch := omega) [go_sem, tab22, c1, gc1, gc2, gc3, gl2, h1]
  | true =>
    obtain ⟨n, rfl, n1, n2, hlen, ho⟩ := matOk_t hq
    rw [hq] at h1
    have hnn : n * n ≤ 16 := Nat.mul_le_mul n2 n2
    have h2 := fun d => grid_v (N := (n : Int)) d (ds := ds) (by omega) (by have := Nat.mul_pos n1 n1; omega) (fun y hy => by obtain ⟨e1, x1, _⟩ := okD (ho y hy); rw [e1]; omega)
    have ho' := turnL_all (P := fun x => dyOkB x = true) hlen n1 ho
    obtain ⟨ea, eb⟩ := mkall_ok ho'
    have eR : xR (turnL ds n) = turnL ds n := by unfold xR; rw [eb, ea]; rfl
    have eN : xNm (n : Int) (turnL ds n) = n := by unfold xNm; rw [eb]; rfl
    have tl := turnL_len (ds := ds) (n := n)
    have h3 := fun d => gridOf_v (G := turnL ds n) (g := 56) (caps := [.fptr [.int .i64 n, .cells 3 ds.length (flat DyT.v ds)]]) (d := d + 2) c_pure56 rfl (caps1 _) n1 n2 tl (fun i j x hi hj hx => by
      rw [turnL_at hi hj hlen] at hx
      simpa [go_sem] using turn1_v d n2 hlen hi hj hx)
    obtain ⟨o, i, p, w, h4⟩ := mat_h (N := (n : Int)) (d + 10) (ds := turnL ds n) (by omega) (fun x hx => (XOk_ok (ho' x hx)).1)
    rw [eR, eN, eb] at h4
    rw [eR] at w
    have hm := w.land [.vals true [.int .i64 n, .cells 3 ds.length (flat DyT.v ds)], .vals true [.int .i64 n, .sl (3 + i) 0 (turnL ds n).length 3], .vals false [.int .i64 n, .cells 3 ds.length (flat DyT.v ds)]]
    simp only [List.length_cons, List.length_nil, Nat.zero_add, List.cons_append, List.nil_append, Nat.reduceAdd] at hm
    have g1 := fun s t b => gcE_own hm (N := (n : Int)) (m := (turnL ds n).length) (sz := 3) (c := 1) (s := s) (t := t) (b := b) rfl
    have hm2 := (own_mblk (turnL ds n)).land [.vals true [.int .i64 n, .sl 1 0 (turnL ds n).length 3]]
    simp only [List.length_cons, List.length_nil, Nat.zero_add, List.cons_append, List.nil_append, Nat.reduceAdd, sh_mblk, Nat.add_zero] at hm2
    have g2 := gcL_own hm2 (N := (n : Int)) (m := (turnL ds n).length) (sz := 3) (b := true)
    simp only [if_true, Int.toNat_natCast]
    clear hm hm2 w ho ho' ea eb eR eN hq hs hl
    generalize turnL ds n = T at *
    generalize flat DyT.v ds = F at *
    generalize flat DyT.v T = F' at *
    rw [vrun_v Tryd.func22 rfl rfl rfl]; simp only [Tryd.f22]
    simp (implicitDefEqProofs := false) (disch := omega) [go_sem, tab22, c1, c2, c3, gc1, gc2, gc3, h1, h2, h3, h4, g1, g2]
end
end
/- MatMinor, program and reference. No conditions. -/
section
open Go.Proofs
set_option maxRecDepth 100000
set_option linter.unusedSimpArgs false
attribute [local go_sem] r_seq r_skip r_retC r_exitC r_label r_block r_region r_regionW r_xWt r_xW r_cond r_Bt r_Bf r_Ncode r_Nret r_Nexit r_Nblk r_Nblkr r_Nblke r_Nnil r_Es r_Onil r_Oop r_Oif r_Xs r_Gt r_Gf r_wtt r_wtf r_wft r_wff r_wu r_gO r_putS r_putN r_get r_keepN r_keepC r_fr r_fn r_fi r_ff r_fo r_l1 r_l2t r_cun r_cul r_cub r_cui r_cus r_cuis r_cuc r_cusl r_cuti r_cutv r_ven r_vec r_l2f r_l3 r_t1 r_t2 r_t0 r_rt r_rc r_en r_ec r_cM r_oN r_oC r_end r_endt r_endf r_nob0 r_nobN r_nobC r_nobE r_nb0 r_nbi r_nbs r_nbsl r_nbin r_nbce r_nLn r_nLv r_nLc r_nAa r_nAn r_nAk_b r_nAk_i r_nAk_s r_nAk_n r_nAk_is r_nAk_ce r_nAk_fp r_nAk_sl r_nAk_pt r_nAk_fn r_nsn r_nsv r_nsc r_m0 r_mi r_ms r_msl r_min r_mce r_mLn r_mLv r_mLc r_mAa r_mAn r_mAk_b r_mAk_i r_mAk_s r_mAk_n r_mAk_is r_mAk_ce r_mAk_fp r_mAk_sl r_mAk_pt r_mAk_fn r_msn r_msv r_msc r_atb r_ati r_ats r_atn r_atis r_atc r_atf r_atl r_atp r_atfn r_gcn r_gcc r_gLn r_gLc r_gIt r_ndn r_ndc r_gcB r_gLB r_two r_rea r_rea0 r_re1n r_re1c r_ori r_orv r_ord r_orn r_adn r_adc r_ad1 r_ern r_ers r_er0 r_rsl r_rptr r_rb r_ri r_rs r_rn r_ris r_rce r_rfp r_ra4 r_ra3 r_rt4 r_rf4 r_rf3 r_idS r_idc r_nS r_nP r_nF r_nT r_vsl r_vptr r_vb r_vi r_vs r_vn r_vis r_vce r_vfp r_va4 r_va3 r_vt4 r_vf4 r_vf3 r_rV r_Oi r_Ov r_Od r_rE r_rE0 r_En r_Ec r_E0 r_pO r_pk r_agL r_cO r_fO r_fSi r_fSv r_fPv r_fsl r_fptr r_ffn r_fag r_fb r_fint r_fstr r_fnil r_fis r_fce r_ffp r_res r_move r_assign r_pick r_pickt r_pickf r_alloc r_box r_al r_build r_bslice r_load r_store r_nlc r_nl1 r_nl2 r_bin r_un r_conv r_mkf r_mks r_slc r_fad r_fld r_iad r_idx r_ext r_ex1 r_callf r_callt r_callen r_calapp r_calmax r_calmin r_vt r_vcb r_vci r_vcs r_vcnp r_vcn r_vca r_vcf r_vcg r_ofb r_ofi r_ofs r_ofn r_evs r_pn r_prt r_pc r_one_a r_one_b r_one_i r_one_s r_one_n r_one_is r_one_ce r_one_fp r_one_sl r_one_pt r_one_fn r_cs_a r_cs_b r_cs_i r_cs_s r_cs_n r_cs_is r_cs_ce r_cs_fp r_cs_sl r_cs_pt r_cs_fn r_tov r_tovA r_toc r_toa r_tb r_ti r_ts r_tn r_bd r_bd2 r_filn r_fp1 r_filc r_fsn r_fsc r_san r_sac r_bs2 r_bs1 r_newO r_mkq r_mkI r_mkOi r_mkOv r_tIn r_tIc r_repz r_repn r_ldp r_ldf r_l1t r_l1f r_lFt r_lFf r_aggO r_obj r_at r_ati' r_atv r_celli r_cellv r_subi r_subv r_sto r_sto1 r_sto2 r_sets r_setR r_setn r_setc r_s1i r_s1v r_bin1 r_bin2 r_tv1 r_cb r_ci r_cst r_cn r_csl r_cis r_cce r_uni r_unb r_cv r_cvO r_cvN r_cv0 r_cvS r_wB r_cvi r_cvs r_cvb r_cvl r_sO r_rdn r_rdi r_rdl r_rdO r_vsub r_vfn r_mk r_mk1 r_mk2 r_zoi r_zov r_leni r_lenv r_bn r_bndV r_bo r_sl0 r_sl1 r_vsz r_ct1 r_cts r_cti r_ctc r_ctn r_lnl r_lni r_lnc r_lnn r_fa r_fap r_faf r_fi1 r_fit r_fif r_ixi r_ixs r_ixc r_ixf r_ixF r_ixF2 r_ix1 r_ixsl r_ixin r_ixce r_len1 r_lenA r_lTs r_lTn r_lTl r_lTi r_lTc r_app0 r_app r_app1 r_app2 r_app3 r_catO r_cati r_catv r_newt r_newf r_pair r_pairK r_trip r_kis r_kiv r_srn r_srl r_sri r_src r_srs r_oln r_oll r_vw r_wi r_wv r_mm r_max r_min' r_str r_cF r_c2t r_c3f r_c3t r_ab r_c2f r_cV r_p1 r_la r_la2t r_la2f r_la3 r_sh r_z_is r_z_ce r_z_fp r_z_b r_z_i r_z_s r_z_n r_z_l r_z_p r_z_a4 r_z_a3 r_z_t4 r_zoI r_zoV r_roN r_roC r_roi r_rod r_zod r_rov r_aR r_trOi r_trOv r_trPv r_trl r_trp r_trf r_tra r_trb r_tri r_trs r_trn r_tris r_trce r_trfp r_vJ r_vJs r_vJn
attribute [local go_sem] b_add b_sub b_mul b_quo b_rem b_shl b_shr b_eql b_neq b_lss b_leq b_gtr b_geq eqB_s b_eqB b_neB u_neg u_not b_nn b_nn' eqS_s zerosT_s zerosT_n zt_i zt_sl zt_st dstOf_z dstOf_n iltT iltF ileT ileF ieqT ieqF nltT nltF nleT nleF neqT neqF tdiv_pos tmod_pos w64 idx0 List.take_of_length_le
open Num
/-- What is kept of the numbers so far. -/
def mnP (ds : List DyT) (n a b c : Nat) : List DyT := (List.range c).filterMap fun k => if k / n = a ∨ k % n = b then none else ds[k]?
section
variable {ds T : List DyT} {n a b i j : Nat} {x : DyT}
theorem mnP_no (hj : j < n) (h : i = a ∨ j = b) : mnP ds n a b (i * n + j + 1) = mnP ds n a b (i * n + j) := by
  obtain ⟨p1, p2⟩ := place i j n hj
  unfold mnP
  rw [List.range_succ, List.filterMap_append]
  simp [p1, p2, h]
theorem mnP_yes (hj : j < n) (ha : ¬ i = a) (hb : ¬ j = b) (hx : ds[i * n + j]? = some x) : mnP ds n a b (i * n + j + 1) = mnP ds n a b (i * n + j) ++ [x] := by
  obtain ⟨p1, p2⟩ := place i j n hj
  unfold mnP
  rw [List.range_succ, List.filterMap_append]
  simp [p1, p2, ha, hb, hx]
theorem mnP_all {P : DyT → Prop} {c : Nat} (h : ∀ x ∈ ds, P x) : ∀ x ∈ mnP ds n a b c, P x := by
  intro x hx
  unfold mnP at hx
  obtain ⟨k, hk, e⟩ := List.mem_filterMap.1 hx
  split at e
  · cases e
  · exact h x (List.mem_of_getElem? e)
theorem mnP_len {c : Nat} : (mnP ds n a b c).length ≤ c := by
  unfold mnP
  exact Nat.le_trans (List.length_filterMap_le _ _) (by simp)
theorem mnP_pos (hl : ds.length = n * n) (hn : 2 ≤ n) : 0 < (mnP ds n a b (n * n)).length := by
  obtain ⟨a', ha', ha⟩ : ∃ a', a' < n ∧ ¬ a' = a := by
    by_cases h : a = 0
    · exact ⟨1, by omega, by omega⟩
    · exact ⟨0, by omega, by omega⟩
  obtain ⟨b', hb', hb⟩ : ∃ b', b' < n ∧ ¬ b' = b := by
    by_cases h : b = 0
    · exact ⟨1, by omega, by omega⟩
    · exact ⟨0, by omega, by omega⟩
  have hlt := place_lt ha' hb'
  obtain ⟨p1, p2⟩ := place a' b' n hb'
  have hget : ds[a' * n + b']? = some ds[a' * n + b'] := List.getElem?_eq_getElem (by omega)
  refine List.length_pos_iff.2 fun e => ?_
  have : ds[a' * n + b'] ∈ mnP ds n a b (n * n) := by
    unfold mnP
    refine List.mem_filterMap.2 ⟨a' * n + b', List.mem_range.2 hlt, ?_⟩
    rw [p1, p2, if_neg (by omega)]; exact hget
  rw [e] at this; cases this
def mnH (n : Nat) (ds T : List DyT) : VH := if T = [] then [.vals true [.int .i64 n, .cells 3 ds.length (flat DyT.v ds)], .vals true [.int .i64 0, .nil], .vals true [.int .i64 (n - 1), .nil]] else [.vals true [.int .i64 n, .cells 3 ds.length (flat DyT.v ds)], .vals true [.int .i64 0, .nil], .vals true [.int .i64 (n - 1), .sl 3 0 T.length 3], .vals true (flat DyT.v T)]
theorem flat_app (a b : List DyT) : flat DyT.v (a ++ b) = flat DyT.v a ++ flat DyT.v b := by
  induction a with
  | nil => rfl
  | cons y a ih => rw [List.cons_append, flat, flat, ih, List.append_assoc]
theorem flat_snocT : flat DyT.v (T ++ [x]) = flat DyT.v T ++ [.bool x.neg, .ints .i64 x.l, .int .i64 x.e] := by
  rw [flat_app]; simp [flat, DyT.v]
/-! ### program -/
def miO (ds : List DyT) (n a b i : Nat) : VE × VH := ([(1, some (.int .i64 a)), (2, some (.int .i64 b)), (3, some (.ptr 0 0)), (6, some (.ptr 1 0)), (7, some (.ptr 2 0)), (15, some (.int .i64 n)), (16, some (.int .i64 i))], mnH n ds (mnP ds n a b (i * n)))
def miI (ds : List DyT) (n a b i j : Nat) : VE × VH := ([(1, some (.int .i64 a)), (2, some (.int .i64 b)), (3, some (.ptr 0 0)), (6, some (.ptr 1 0)), (7, some (.ptr 2 0)), (8, some (.int .i64 i)), (15, some (.int .i64 n)), (16, some (.int .i64 i)), (20, some (.int .i64 n)), (21, some (.int .i64 j))], mnH n ds (mnP ds n a b (i * n + j)))
theorem mi_r (d : Nat) (hn1 : 1 ≤ n) (hn : n ≤ 4) (hl : ds.length = n * n) (hi : i < n) (hj : j < n) : vCode Tryd.prog kn (vrun Tryd.prog kn (d + 1)) 58 (loopAt Tryd.f58 1) (miI ds n a b i j).1 (miI ds n a b i j).2 = some (.norm, miI ds n a b i (j + 1)) := by
  have hlt := place_lt hi hj
  have hnn : n * n ≤ 16 := Nat.mul_le_mul hn hn
  have hget : ds[i * n + j]? = some ds[i * n + j] := List.getElem?_eq_getElem (by omega)
  have h1 := fun d => at_v (N := (n : Int)) d rfl hn hi hj hl hget
  have hml := mnP_len (ds := ds) (n := n) (a := a) (b := b) (c := i * n + j)
  have hln := flat_len3 (mnP ds n a b (i * n + j))
  have hG1 := fun m => fl_refs m (mnP ds n a b (i * n + j))
  have hG2 := fun ρ m => fl_ren ρ m (mnP ds n a b (i * n + j))
  rw [round_v]; simp only [loopAt, nthC, bodyC, loops, List.nil_append, List.cons_append, List.append_nil, Tryd.f58, miI, mnH]
  rw [show i * n + (j + 1) = i * n + j + 1 by omega]
  by_cases ha : i = a ∨ j = b
  · rw [mnP_no hj ha]
    generalize mnP ds n a b (i * n + j) = T at *
    generalize flat DyT.v ds = F at *
    have hc : (i : Int) = a ∨ (¬ (i : Int) = a ∧ (j : Int) = b) := by omega
    clear hget h1
    by_cases h0 : T = []
    · rw [if_pos h0]
      rcases hc with hc | ⟨hc, hc'⟩
      · have hk : i = a := by omega
        simp (implicitDefEqProofs := false) (disch := omega) [go_sem, tab58, hc, hk]
      · have hk : ¬ i = a := by omega
        have hk' : j = b := by omega
        simp (implicitDefEqProofs := false) (disch := omega) [go_sem, tab58, hc, hc', hk, hk']
    · rw [if_neg h0]
      have ht : (flat DyT.v T).take (T.length * 3) = flat DyT.v T := List.take_of_length_le (by omega)
      generalize flat DyT.v T = G at *
      rcases hc with hc | ⟨hc, hc'⟩
      · have hk : i = a := by omega
        simp (implicitDefEqProofs := false) (disch := omega) [go_sem, tab58, hc, hk, hln, ht, hG1, hG2]
      · have hk : ¬ i = a := by omega
        have hk' : j = b := by omega
        simp (implicitDefEqProofs := false) (disch := omega) [go_sem, tab58, hc, hc', hk, hk', hln, ht, hG1, hG2]
  · have hk : ¬ i = a := by omega
    have hk' : ¬ j = b := by omega
    have hc : ¬ (i : Int) = a := by omega
    have hc' : ¬ (j : Int) = b := by omega
    have hA1 := fun m => fl_refs m (mnP ds n a b (i * n + j) ++ [ds[i * n + j]])
    have hA2 := fun ρ m => fl_ren ρ m (mnP ds n a b (i * n + j) ++ [ds[i * n + j]])
    rw [flat_snocT] at hA1 hA2
    rw [mnP_yes hj hk hk' hget, flat_snocT]
    generalize mnP ds n a b (i * n + j) = T at *
    generalize ds[i * n + j] = x at *
    generalize flat DyT.v ds = F at *
    clear hget
    rw [if_neg (show ¬ T ++ [x] = [] by simp)]
    by_cases h0 : T = []
    · rw [if_pos h0]
      subst h0
      simp only [flat, List.nil_append]
      simp (implicitDefEqProofs := false) (disch := omega) [go_sem, tab58, hc, hc', hk, hk', h1]
    · rw [if_neg h0]
      have ht : (flat DyT.v T).take (T.length * 3) = flat DyT.v T := List.take_of_length_le (by omega)
      have hlp : 0 < T.length := List.length_pos_iff.2 h0
      generalize flat DyT.v T = G at *
      simp (implicitDefEqProofs := false) (disch := omega) [go_sem, tab58, hc, hc', hk, hk', h1, hln, ht, hG1, hG2, hA1, hA2]
theorem mn_fin (T : List DyT) : (flat DyT.v T).length = T.length * 3 ∧ (∀ m, (flat DyT.v T).flatMap (vrefs m) = []) ∧ ∀ ρ m, omap (vren ρ m) (flat DyT.v T) = some (flat DyT.v T) := ⟨flat_len3 T, fun m => fl_refs m T, fun ρ m => fl_ren ρ m T⟩
theorem mi_x (call : CallV) (hn : n ≤ 4) (hi : i < n) : vCode Tryd.prog kn call 58 (loopAt Tryd.f58 1) (miI ds n a b i n).1 (miI ds n a b i n).2 = some (.exit 2, (miI ds n a b i n).1 ++ [(22, some (.bool false))], (miI ds n a b i n).2) := by
  have hml := mnP_len (ds := ds) (n := n) (a := a) (b := b) (c := i * n + n)
  have hle : i * n + n ≤ n * n := by rw [← Nat.succ_mul]; exact Nat.mul_le_mul_right _ (by omega)
  have hnn : n * n ≤ 16 := Nat.mul_le_mul hn hn
  rw [round_v]; simp only [loopAt, nthC, bodyC, loops, List.nil_append, List.cons_append, List.append_nil, Tryd.f58, miI, mnH]
  generalize mnP ds n a b (i * n + n) = T at *
  obtain ⟨hln, hG1, hG2⟩ := mn_fin T
  generalize flat DyT.v ds = F at *
  by_cases h0 : T = []
  · rw [if_pos h0]
    simp (implicitDefEqProofs := false) (disch := omega) [go_sem, tab58]
  · rw [if_neg h0]
    have ht : (flat DyT.v T).take (T.length * 3) = flat DyT.v T := List.take_of_length_le (by omega)
    generalize flat DyT.v T = G at *
    simp (implicitDefEqProofs := false) (disch := omega) [go_sem, tab58, hln, ht, hG1, hG2]
theorem mi_o (d : Nat) (hn1 : 1 ≤ n) (hn : n ≤ 4) (hl : ds.length = n * n) (hi : i < n) : vCode Tryd.prog kn (vrun Tryd.prog kn (d + 1)) 58 (loopAt Tryd.f58 0) (miO ds n a b i).1 (miO ds n a b i).2 = some (.norm, miO ds n a b (i + 1)) := by
  have hl0 := fun ks => loop_v (P := Tryd.prog) (K := kn) (ks := ks) (vi_for (miI ds n a b i) n (n := kn.cf.rounds) (by rw [k_cf, c_rounds]; omega) (fun j hj => mi_r d hn1 hn hl hi hj) fun m => vi_exit (mi_x _ hn hi))
  simp only [loopAt, nthC, bodyC, loops, List.nil_append, List.cons_append, List.append_nil, Tryd.f58, miI, mnH, Int.natCast_zero, Nat.add_zero, List.cons_append, List.nil_append] at hl0
  have hml := mnP_len (ds := ds) (n := n) (a := a) (b := b) (c := i * n)
  have hml' := mnP_len (ds := ds) (n := n) (a := a) (b := b) (c := i * n + n)
  have hle : i * n + n ≤ n * n := by rw [← Nat.succ_mul]; exact Nat.mul_le_mul_right _ (by omega)
  have hnn : n * n ≤ 16 := Nat.mul_le_mul hn hn
  rw [round_v]; simp only [loopAt, nthC, bodyC, loops, List.nil_append, List.cons_append, List.append_nil, Tryd.f58, miO, mnH]
  rw [show (i + 1) * n = i * n + n by rw [Nat.succ_mul]]
  generalize mnP ds n a b (i * n + n) = T' at *
  generalize mnP ds n a b (i * n) = T at *
  obtain ⟨hln, hG1, hG2⟩ := mn_fin T
  obtain ⟨hln', hG1', hG2'⟩ := mn_fin T'
  generalize flat DyT.v ds = F at *
  have ht : (flat DyT.v T).take (T.length * 3) = flat DyT.v T := List.take_of_length_le (by omega)
  have ht' : (flat DyT.v T').take (T'.length * 3) = flat DyT.v T' := List.take_of_length_le (by omega)
  generalize flat DyT.v T = G at *
  generalize flat DyT.v T' = G' at *
  by_cases h0 : T = [] <;> by_cases h1 : T' = []
  all_goals
    simp only [h0, h1, if_true, if_false] at hl0 ⊢
    simp (implicitDefEqProofs := false) (disch := omega) [go_sem, tab58, hl0, hln, ht, hG1, hG2, hln', ht', hG1', hG2']
theorem mi_ox (call : CallV) (hn : n ≤ 4) : vCode Tryd.prog kn call 58 (loopAt Tryd.f58 0) (miO ds n a b n).1 (miO ds n a b n).2 = some (.exit 0, (miO ds n a b n).1 ++ [(17, some (.bool false))], (miO ds n a b n).2) := by
  have hml := mnP_len (ds := ds) (n := n) (a := a) (b := b) (c := n * n)
  have hnn : n * n ≤ 16 := Nat.mul_le_mul hn hn
  rw [round_v]; simp only [loopAt, nthC, bodyC, loops, List.nil_append, List.cons_append, List.append_nil, Tryd.f58, miO, mnH]
  generalize mnP ds n a b (n * n) = T at *
  obtain ⟨hln, hG1, hG2⟩ := mn_fin T
  generalize flat DyT.v ds = F at *
  by_cases h0 : T = []
  · rw [if_pos h0]
    simp (implicitDefEqProofs := false) (disch := omega) [go_sem, tab58]
  · rw [if_neg h0]
    have ht : (flat DyT.v T).take (T.length * 3) = flat DyT.v T := List.take_of_length_le (by omega)
    generalize flat DyT.v T = G at *
    simp (implicitDefEqProofs := false) (disch := omega) [go_sem, tab58, hln, ht, hG1, hG2]
theorem minor_v (d : Nat) (hn1 : 2 ≤ n) (hn : n ≤ 4) (hl : ds.length = n * n) : vrun Tryd.prog kn (d + 2) 58 [.agg [.int .i64 n, .cells 3 ds.length (flat DyT.v ds)], .int .i64 a, .int .i64 b] [] = some (.agg [.int .i64 (n - 1), .cells 3 (mnP ds n a b (n * n)).length (flat DyT.v (mnP ds n a b (n * n)))], []) := by
  have hl0 := fun ks => loop_v (P := Tryd.prog) (K := kn) (ks := ks) (vi_for (miO ds n a b) n (n := kn.cf.rounds) (by rw [k_cf, c_rounds]; omega) (fun i hi => mi_o d (by omega) hn hl hi) fun m => vi_exit (mi_ox _ hn))
  have e0 : mnP ds n a b 0 = [] := rfl
  have hp := mnP_pos (a := a) (b := b) hl hn1
  have hml := mnP_len (ds := ds) (n := n) (a := a) (b := b) (c := n * n)
  have hnn : n * n ≤ 16 := Nat.mul_le_mul hn hn
  simp only [loopAt, nthC, bodyC, loops, List.nil_append, List.cons_append, List.append_nil, Tryd.f58, miO, mnH, Nat.zero_mul, e0, if_true, Int.natCast_zero, List.cons_append, List.nil_append] at hl0
  generalize mnP ds n a b (n * n) = T at *
  have h0 : ¬ T = [] := fun e => by rw [e] at hp; simp at hp
  simp only [h0, if_false] at hl0
  obtain ⟨hln, hG1, hG2⟩ := mn_fin T
  have hfz := fun h m => fl_frz h m T
  have ht : (flat DyT.v T).take (T.length * 3) = flat DyT.v T := List.take_of_length_le (by omega)
  generalize flat DyT.v ds = F at *
  generalize flat DyT.v T = G at *
  clear hl
  rw [vrun_v Tryd.func58 rfl rfl rfl]; simp only [Tryd.f58]
  simp (implicitDefEqProofs := false) (disch := omega) [go_sem, tab58, hl0, hln, ht, hfz, hG1, hG2]
end
end
/- MatMinor, reference; the two are told. No conditions. -/
section
open Go.Proofs
set_option maxRecDepth 100000
set_option linter.unusedSimpArgs false
attribute [local go_sem] r_seq r_skip r_retC r_exitC r_label r_block r_region r_regionW r_xWt r_xW r_cond r_Bt r_Bf r_Ncode r_Nret r_Nexit r_Nblk r_Nblkr r_Nblke r_Nnil r_Es r_Onil r_Oop r_Oif r_Xs r_Gt r_Gf r_wtt r_wtf r_wft r_wff r_wu r_gO r_putS r_putN r_get r_keepN r_keepC r_fr r_fn r_fi r_ff r_fo r_l1 r_l2t r_cun r_cul r_cub r_cui r_cus r_cuis r_cuc r_cusl r_cuti r_cutv r_ven r_vec r_l2f r_l3 r_t1 r_t2 r_t0 r_rt r_rc r_en r_ec r_cM r_oN r_oC r_end r_endt r_endf r_nob0 r_nobN r_nobC r_nobE r_nb0 r_nbi r_nbs r_nbsl r_nbin r_nbce r_nLn r_nLv r_nLc r_nAa r_nAn r_nAk_b r_nAk_i r_nAk_s r_nAk_n r_nAk_is r_nAk_ce r_nAk_fp r_nAk_sl r_nAk_pt r_nAk_fn r_nsn r_nsv r_nsc r_m0 r_mi r_ms r_msl r_min r_mce r_mLn r_mLv r_mLc r_mAa r_mAn r_mAk_b r_mAk_i r_mAk_s r_mAk_n r_mAk_is r_mAk_ce r_mAk_fp r_mAk_sl r_mAk_pt r_mAk_fn r_msn r_msv r_msc r_atb r_ati r_ats r_atn r_atis r_atc r_atf r_atl r_atp r_atfn r_gcn r_gcc r_gLn r_gLc r_gIt r_ndn r_ndc r_gcB r_gLB r_two r_rea r_rea0 r_re1n r_re1c r_ori r_orv r_ord r_orn r_adn r_adc r_ad1 r_ern r_ers r_er0 r_rsl r_rptr r_rb r_ri r_rs r_rn r_ris r_rce r_rfp r_ra4 r_ra3 r_rt4 r_rf4 r_rf3 r_idS r_idc r_nS r_nP r_nF r_nT r_vsl r_vptr r_vb r_vi r_vs r_vn r_vis r_vce r_vfp r_va4 r_va3 r_vt4 r_vf4 r_vf3 r_rV r_Oi r_Ov r_Od r_rE r_rE0 r_En r_Ec r_E0 r_pO r_pk r_agL r_cO r_fO r_fSi r_fSv r_fPv r_fsl r_fptr r_ffn r_fag r_fb r_fint r_fstr r_fnil r_fis r_fce r_ffp r_res r_move r_assign r_pick r_pickt r_pickf r_alloc r_box r_al r_build r_bslice r_load r_store r_nlc r_nl1 r_nl2 r_bin r_un r_conv r_mkf r_mks r_slc r_fad r_fld r_iad r_idx r_ext r_ex1 r_callf r_callt r_callen r_calapp r_calmax r_calmin r_vt r_vcb r_vci r_vcs r_vcnp r_vcn r_vca r_vcf r_vcg r_ofb r_ofi r_ofs r_ofn r_evs r_pn r_prt r_pc r_one_a r_one_b r_one_i r_one_s r_one_n r_one_is r_one_ce r_one_fp r_one_sl r_one_pt r_one_fn r_cs_a r_cs_b r_cs_i r_cs_s r_cs_n r_cs_is r_cs_ce r_cs_fp r_cs_sl r_cs_pt r_cs_fn r_tov r_tovA r_toc r_toa r_tb r_ti r_ts r_tn r_bd r_bd2 r_filn r_fp1 r_filc r_fsn r_fsc r_san r_sac r_bs2 r_bs1 r_newO r_mkq r_mkI r_mkOi r_mkOv r_tIn r_tIc r_repz r_repn r_ldp r_ldf r_l1t r_l1f r_lFt r_lFf r_aggO r_obj r_at r_ati' r_atv r_celli r_cellv r_subi r_subv r_sto r_sto1 r_sto2 r_sets r_setR r_setn r_setc r_s1i r_s1v r_bin1 r_bin2 r_tv1 r_cb r_ci r_cst r_cn r_csl r_cis r_cce r_uni r_unb r_cv r_cvO r_cvN r_cv0 r_cvS r_wB r_cvi r_cvs r_cvb r_cvl r_sO r_rdn r_rdi r_rdl r_rdO r_vsub r_vfn r_mk r_mk1 r_mk2 r_zoi r_zov r_leni r_lenv r_bn r_bndV r_bo r_sl0 r_sl1 r_vsz r_ct1 r_cts r_cti r_ctc r_ctn r_lnl r_lni r_lnc r_lnn r_fa r_fap r_faf r_fi1 r_fit r_fif r_ixi r_ixs r_ixc r_ixf r_ixF r_ixF2 r_ix1 r_ixsl r_ixin r_ixce r_len1 r_lenA r_lTs r_lTn r_lTl r_lTi r_lTc r_app0 r_app r_app1 r_app2 r_app3 r_catO r_cati r_catv r_newt r_newf r_pair r_pairK r_trip r_kis r_kiv r_srn r_srl r_sri r_src r_srs r_oln r_oll r_vw r_wi r_wv r_mm r_max r_min' r_str r_cF r_c2t r_c3f r_c3t r_ab r_c2f r_cV r_p1 r_la r_la2t r_la2f r_la3 r_sh r_z_is r_z_ce r_z_fp r_z_b r_z_i r_z_s r_z_n r_z_l r_z_p r_z_a4 r_z_a3 r_z_t4 r_zoI r_zoV r_roN r_roC r_roi r_rod r_zod r_rov r_aR r_trOi r_trOv r_trPv r_trl r_trp r_trf r_tra r_trb r_tri r_trs r_trn r_tris r_trce r_trfp r_vJ r_vJs r_vJn
attribute [local go_sem] b_add b_sub b_mul b_quo b_rem b_shl b_shr b_eql b_neq b_lss b_leq b_gtr b_geq eqB_s b_eqB b_neB u_neg u_not b_nn b_nn' eqS_s zerosT_s zerosT_n zt_i zt_sl zt_st dstOf_z dstOf_n iltT iltF ileT ileF ieqT ieqF nltT nltF nleT nleF neqT neqF tdiv_pos tmod_pos w64 idx0 List.take_of_length_le
open Num
section
variable {ds T : List DyT} {n a b i j : Nat} {x : DyT}
/-! ### reference -/
def smO (ds : List DyT) (n a b i : Nat) : VE × VH := ([(1, some (.int .i64 a)), (2, some (.int .i64 b)), (3, some (.ptr 0 0)), (6, some (.ptr 1 0)), (7, some (.ptr 2 0)), (8, some (.int .i64 i))], mnH n ds (mnP ds n a b (i * n)))
def smI (ds : List DyT) (n a b i j : Nat) : VE × VH := ([(1, some (.int .i64 a)), (2, some (.int .i64 b)), (3, some (.ptr 0 0)), (6, some (.ptr 1 0)), (7, some (.ptr 2 0)), (8, some (.int .i64 i)), (9, some (.int .i64 j))], mnH n ds (mnP ds n a b (i * n + j)))
theorem smn_r (call : CallV) (hn1 : 1 ≤ n) (hn : n ≤ 4) (hl : ds.length = n * n) (hi : i < n) (hj : j < n) : vCode Tryd.prog kn call 57 (loopAt Tryd.f57 1) (smI ds n a b i j).1 (smI ds n a b i j).2 = some (.norm, smI ds n a b i (j + 1)) := by
  have hlt := place_lt hi hj
  have hnn : n * n ≤ 16 := Nat.mul_le_mul hn hn
  have hget : ds[i * n + j]? = some ds[i * n + j] := List.getElem?_eq_getElem (by omega)
  have hsub : ((flat DyT.v ds).drop ((i * n + j) * 3)).take 3 = [.bool ds[i * n + j].neg, .ints .i64 ds[i * n + j].l, .int .i64 ds[i * n + j].e] := flat_sub DyT.len ds _ _ hget
  have hI : (i : Int) * n = ((i * n : Nat) : Int) := by simp
  have hml := mnP_len (ds := ds) (n := n) (a := a) (b := b) (c := i * n + j)
  have hln := flat_len3 (mnP ds n a b (i * n + j))
  have hG1 := fun m => fl_refs m (mnP ds n a b (i * n + j))
  have hG2 := fun ρ m => fl_ren ρ m (mnP ds n a b (i * n + j))
  rw [round_v]; simp only [loopAt, nthC, bodyC, loops, List.nil_append, List.cons_append, List.append_nil, Tryd.f57, smI, mnH]
  rw [show i * n + (j + 1) = i * n + j + 1 by omega]
  by_cases ha : i = a ∨ j = b
  · rw [mnP_no hj ha]
    generalize mnP ds n a b (i * n + j) = T at *
    generalize flat DyT.v ds = F at *
    have hc : (i : Int) = a ∨ (¬ (i : Int) = a ∧ (j : Int) = b) := by omega
    clear hget hsub
    by_cases h0 : T = []
    · rw [if_pos h0]
      rcases hc with hc | ⟨hc, hc'⟩
      · have hk : i = a := by omega
        simp (implicitDefEqProofs := false) (disch := omega) [go_sem, tab57, hc, hk]
      · have hk : ¬ i = a := by omega
        have hk' : j = b := by omega
        simp (implicitDefEqProofs := false) (disch := omega) [go_sem, tab57, hc, hc', hk, hk']
    · rw [if_neg h0]
      have ht : (flat DyT.v T).take (T.length * 3) = flat DyT.v T := List.take_of_length_le (by omega)
      generalize flat DyT.v T = G at *
      rcases hc with hc | ⟨hc, hc'⟩
      · have hk : i = a := by omega
        simp (implicitDefEqProofs := false) (disch := omega) [go_sem, tab57, hc, hk, hln, ht, hG1, hG2]
      · have hk : ¬ i = a := by omega
        have hk' : j = b := by omega
        simp (implicitDefEqProofs := false) (disch := omega) [go_sem, tab57, hc, hc', hk, hk', hln, ht, hG1, hG2]
  · have hk : ¬ i = a := by omega
    have hk' : ¬ j = b := by omega
    have hc : ¬ (i : Int) = a := by omega
    have hc' : ¬ (j : Int) = b := by omega
    have hA1 := fun m => fl_refs m (mnP ds n a b (i * n + j) ++ [ds[i * n + j]])
    have hA2 := fun ρ m => fl_ren ρ m (mnP ds n a b (i * n + j) ++ [ds[i * n + j]])
    rw [flat_snocT] at hA1 hA2
    rw [mnP_yes hj hk hk' hget, flat_snocT]
    generalize mnP ds n a b (i * n + j) = T at *
    generalize ds[i * n + j] = x at *
    generalize flat DyT.v ds = F at *
    clear hget
    have hq2 : i * n + j < 20 := by omega
    generalize i * n = q at *
    have e2 : ((q : Int) + j).toNat = q + j := by omega
    rw [if_neg (show ¬ T ++ [x] = [] by simp)]
    by_cases h0 : T = []
    · rw [if_pos h0]
      subst h0
      simp only [flat, List.nil_append]
      simp (implicitDefEqProofs := false) (disch := omega) [go_sem, tab57, hc, hc', hk, hk', hsub, hI, e2]
    · rw [if_neg h0]
      have ht : (flat DyT.v T).take (T.length * 3) = flat DyT.v T := List.take_of_length_le (by omega)
      have hlp : 0 < T.length := List.length_pos_iff.2 h0
      generalize flat DyT.v T = G at *
      simp (implicitDefEqProofs := false) (disch := omega) [go_sem, tab57, hc, hc', hk, hk', hsub, hI, e2, hln, ht, hG1, hG2, hA1, hA2]
theorem smn_x (call : CallV) (hn : n ≤ 4) (hi : i < n) : vCode Tryd.prog kn call 57 (loopAt Tryd.f57 1) (smI ds n a b i n).1 (smI ds n a b i n).2 = some (.exit 2, (smI ds n a b i n).1 ++ [(23, some (.bool false))], (smI ds n a b i n).2) := by
  have hml := mnP_len (ds := ds) (n := n) (a := a) (b := b) (c := i * n + n)
  have hle : i * n + n ≤ n * n := by rw [← Nat.succ_mul]; exact Nat.mul_le_mul_right _ (by omega)
  have hnn : n * n ≤ 16 := Nat.mul_le_mul hn hn
  rw [round_v]; simp only [loopAt, nthC, bodyC, loops, List.nil_append, List.cons_append, List.append_nil, Tryd.f57, smI, mnH]
  generalize mnP ds n a b (i * n + n) = T at *
  obtain ⟨hln, hG1, hG2⟩ := mn_fin T
  generalize flat DyT.v ds = F at *
  by_cases h0 : T = []
  · rw [if_pos h0]
    simp (implicitDefEqProofs := false) (disch := omega) [go_sem, tab57]
  · rw [if_neg h0]
    have ht : (flat DyT.v T).take (T.length * 3) = flat DyT.v T := List.take_of_length_le (by omega)
    generalize flat DyT.v T = G at *
    simp (implicitDefEqProofs := false) (disch := omega) [go_sem, tab57, hln, ht, hG1, hG2]
theorem smn_o (call : CallV) (hn1 : 1 ≤ n) (hn : n ≤ 4) (hl : ds.length = n * n) (hi : i < n) : vCode Tryd.prog kn call 57 (loopAt Tryd.f57 0) (smO ds n a b i).1 (smO ds n a b i).2 = some (.norm, smO ds n a b (i + 1)) := by
  have hl0 := fun ks => loop_v (P := Tryd.prog) (K := kn) (ks := ks) (vi_for (smI ds n a b i) n (n := kn.cf.rounds) (by rw [k_cf, c_rounds]; omega) (fun j hj => smn_r call hn1 hn hl hi hj) fun m => vi_exit (smn_x _ hn hi))
  simp only [loopAt, nthC, bodyC, loops, List.nil_append, List.cons_append, List.append_nil, Tryd.f57, smI, mnH, Int.natCast_zero, Nat.add_zero, List.cons_append, List.nil_append] at hl0
  have hml := mnP_len (ds := ds) (n := n) (a := a) (b := b) (c := i * n)
  have hml' := mnP_len (ds := ds) (n := n) (a := a) (b := b) (c := i * n + n)
  have hle : i * n + n ≤ n * n := by rw [← Nat.succ_mul]; exact Nat.mul_le_mul_right _ (by omega)
  have hnn : n * n ≤ 16 := Nat.mul_le_mul hn hn
  rw [round_v]; simp only [loopAt, nthC, bodyC, loops, List.nil_append, List.cons_append, List.append_nil, Tryd.f57, smO, mnH]
  rw [show (i + 1) * n = i * n + n by rw [Nat.succ_mul]]
  generalize mnP ds n a b (i * n + n) = T' at *
  generalize mnP ds n a b (i * n) = T at *
  obtain ⟨hln, hG1, hG2⟩ := mn_fin T
  obtain ⟨hln', hG1', hG2'⟩ := mn_fin T'
  generalize flat DyT.v ds = F at *
  have ht : (flat DyT.v T).take (T.length * 3) = flat DyT.v T := List.take_of_length_le (by omega)
  have ht' : (flat DyT.v T').take (T'.length * 3) = flat DyT.v T' := List.take_of_length_le (by omega)
  generalize flat DyT.v T = G at *
  generalize flat DyT.v T' = G' at *
  by_cases h0 : T = [] <;> by_cases h1 : T' = []
  all_goals
    simp only [h0, h1, if_true, if_false] at hl0 ⊢
    simp (implicitDefEqProofs := false) (disch := omega) [go_sem, tab57, hl0, hln, ht, hG1, hG2, hln', ht', hG1', hG2']
theorem smn_ox (call : CallV) (hn : n ≤ 4) : vCode Tryd.prog kn call 57 (loopAt Tryd.f57 0) (smO ds n a b n).1 (smO ds n a b n).2 = some (.exit 0, (smO ds n a b n).1 ++ [(17, some (.bool false))], (smO ds n a b n).2) := by
  have hml := mnP_len (ds := ds) (n := n) (a := a) (b := b) (c := n * n)
  have hnn : n * n ≤ 16 := Nat.mul_le_mul hn hn
  rw [round_v]; simp only [loopAt, nthC, bodyC, loops, List.nil_append, List.cons_append, List.append_nil, Tryd.f57, smO, mnH]
  generalize mnP ds n a b (n * n) = T at *
  obtain ⟨hln, hG1, hG2⟩ := mn_fin T
  generalize flat DyT.v ds = F at *
  by_cases h0 : T = []
  · rw [if_pos h0]
    simp (implicitDefEqProofs := false) (disch := omega) [go_sem, tab57]
  · rw [if_neg h0]
    have ht : (flat DyT.v T).take (T.length * 3) = flat DyT.v T := List.take_of_length_le (by omega)
    generalize flat DyT.v T = G at *
    simp (implicitDefEqProofs := false) (disch := omega) [go_sem, tab57, hln, ht, hG1, hG2]
theorem l9minor_v (d : Nat) (hn1 : 2 ≤ n) (hn : n ≤ 4) (hl : ds.length = n * n) : vrun Tryd.prog kn (d + 1) 57 [.agg [.int .i64 n, .cells 3 ds.length (flat DyT.v ds)], .int .i64 a, .int .i64 b] [] = some (.agg [.int .i64 (n - 1), .cells 3 (mnP ds n a b (n * n)).length (flat DyT.v (mnP ds n a b (n * n)))], []) := by
  have hl0 := fun ks => loop_v (P := Tryd.prog) (K := kn) (ks := ks) (vi_for (smO ds n a b) n (n := kn.cf.rounds) (by rw [k_cf, c_rounds]; omega) (fun i hi => smn_o (vrun Tryd.prog kn d) (by omega) hn hl hi) fun m => vi_exit (smn_ox _ hn))
  have e0 : mnP ds n a b 0 = [] := rfl
  have hp := mnP_pos (a := a) (b := b) hl hn1
  have hml := mnP_len (ds := ds) (n := n) (a := a) (b := b) (c := n * n)
  have hnn : n * n ≤ 16 := Nat.mul_le_mul hn hn
  simp only [loopAt, nthC, bodyC, loops, List.nil_append, List.cons_append, List.append_nil, Tryd.f57, smO, mnH, Nat.zero_mul, e0, if_true, Int.natCast_zero, List.cons_append, List.nil_append] at hl0
  generalize mnP ds n a b (n * n) = T at *
  have h0 : ¬ T = [] := fun e => by rw [e] at hp; simp at hp
  simp only [h0, if_false] at hl0
  obtain ⟨hln, hG1, hG2⟩ := mn_fin T
  have hfz := fun h m => fl_frz h m T
  have ht : (flat DyT.v T).take (T.length * 3) = flat DyT.v T := List.take_of_length_le (by omega)
  generalize flat DyT.v ds = F at *
  generalize flat DyT.v T = G at *
  clear hl
  rw [vrun_v Tryd.func57 rfl rfl rfl]; simp only [Tryd.f57]
  simp (implicitDefEqProofs := false) (disch := omega) [go_sem, tab57, hl0, hln, ht, hfz, hG1, hG2]
end
end
section
open Num
def minB (N : Int) (ds : List DyT) (a b : Int) : Bool := atB N ds a b && !decide (N = 1)
def minT (N : Int) (ds : List DyT) (a b : Int) : List DyT := if minB N ds a b then mnP ds N.toNat a.toNat b.toNat (N.toNat * N.toNat) else []
def minN (N : Int) (ds : List DyT) (a b : Int) : Int := if minB N ds a b then N - 1 else 0
theorem minB_t {N a b : Int} {ds : List DyT} (h : minB N ds a b = true) : ∃ n i j : Nat, N = n ∧ a = i ∧ b = j ∧ 2 ≤ n ∧ n ≤ 4 ∧ i < n ∧ j < n ∧ ds.length = n * n ∧ (∀ x ∈ ds, dyOkB x = true) ∧ atB N ds a b = true := by
  unfold minB at h
  rw [Bool.and_eq_true] at h
  obtain ⟨h1, h2⟩ := h
  obtain ⟨n, i, j, rfl, rfl, rfl, n1, n2, hi, hj, hl, ho, _⟩ := atB_t h1
  simp at h2
  exact ⟨n, i, j, rfl, rfl, rfl, by omega, n2, hi, hj, hl, ho, h1⟩
theorem min_bd {N a b : Int} {ds : List DyT} : (minT N ds a b).length ≤ 16 ∧ ∀ x ∈ minT N ds a b, x.l.length ≤ 100 := by
  unfold minT
  cases hq : minB N ds a b with
  | false => simp
  | true =>
    obtain ⟨n, i, j, rfl, rfl, rfl, n1, n2, hi, hj, hl, ho, _⟩ := minB_t hq
    have hnn : n * n ≤ 16 := Nat.mul_le_mul n2 n2
    simp only [if_true, Int.toNat_natCast]
    refine ⟨Nat.le_trans mnP_len hnn, fun x hx => ?_⟩
    obtain ⟨e1, x1, _⟩ := okD (mnP_all (P := fun x => dyOkB x = true) ho x hx)
    rw [e1]; exact x1
end
section
open Go.Proofs
set_option maxRecDepth 100000
set_option linter.unusedSimpArgs false
attribute [local go_sem] r_seq r_skip r_retC r_exitC r_label r_block r_region r_regionW r_xWt r_xW r_cond r_Bt r_Bf r_Ncode r_Nret r_Nexit r_Nblk r_Nblkr r_Nblke r_Nnil r_Es r_Onil r_Oop r_Oif r_Xs r_Gt r_Gf r_wtt r_wtf r_wft r_wff r_wu r_gO r_putS r_putN r_get r_keepN r_keepC r_fr r_fn r_fi r_ff r_fo r_l1 r_l2t r_cun r_cul r_cub r_cui r_cus r_cuis r_cuc r_cusl r_cuti r_cutv r_ven r_vec r_l2f r_l3 r_t1 r_t2 r_t0 r_rt r_rc r_en r_ec r_cM r_oN r_oC r_end r_endt r_endf r_nob0 r_nobN r_nobC r_nobE r_nb0 r_nbi r_nbs r_nbsl r_nbin r_nbce r_nLn r_nLv r_nLc r_nAa r_nAn r_nAk_b r_nAk_i r_nAk_s r_nAk_n r_nAk_is r_nAk_ce r_nAk_fp r_nAk_sl r_nAk_pt r_nAk_fn r_nsn r_nsv r_nsc r_m0 r_mi r_ms r_msl r_min r_mce r_mLn r_mLv r_mLc r_mAa r_mAn r_mAk_b r_mAk_i r_mAk_s r_mAk_n r_mAk_is r_mAk_ce r_mAk_fp r_mAk_sl r_mAk_pt r_mAk_fn r_msn r_msv r_msc r_atb r_ati r_ats r_atn r_atis r_atc r_atf r_atl r_atp r_atfn r_gcn r_gLn r_gIt r_ndn r_ndc r_gcB r_gLB r_two r_rea r_rea0 r_re1n r_re1c r_ori r_orv r_ord r_orn r_adn r_adc r_ad1 r_ern r_ers r_er0 r_rsl r_rptr r_rb r_ri r_rs r_rn r_ris r_rce r_rfp r_ra4 r_ra3 r_rt4 r_rf4 r_rf3 r_idS r_idc r_nS r_nP r_nF r_nT r_vsl r_vptr r_vb r_vi r_vs r_vn r_vis r_vce r_vfp r_va4 r_va3 r_vt4 r_vf4 r_vf3 r_rV r_Oi r_Ov r_Od r_rE r_rE0 r_En r_Ec r_E0 r_pO r_pk r_agL r_cO r_fO r_fSi r_fSv r_fPv r_fsl r_fptr r_ffn r_fag r_fb r_fint r_fstr r_fnil r_fis r_fce r_ffp r_res r_move r_assign r_pick r_pickt r_pickf r_alloc r_box r_al r_build r_bslice r_load r_store r_nlc r_nl1 r_nl2 r_bin r_un r_conv r_mkf r_mks r_slc r_fad r_fld r_iad r_idx r_ext r_ex1 r_callf r_callt r_callen r_calapp r_calmax r_calmin r_vt r_vcb r_vci r_vcs r_vcnp r_vcn r_vca r_vcf r_vcg r_ofb r_ofi r_ofs r_ofn r_evs r_pn r_prt r_pc r_one_a r_one_b r_one_i r_one_s r_one_n r_one_is r_one_ce r_one_fp r_one_sl r_one_pt r_one_fn r_cs_a r_cs_b r_cs_i r_cs_s r_cs_n r_cs_is r_cs_ce r_cs_fp r_cs_sl r_cs_pt r_cs_fn r_tov r_tovA r_toc r_toa r_tb r_ti r_ts r_tn r_bd r_bd2 r_filn r_fp1 r_filc r_fsn r_fsc r_san r_sac r_bs2 r_bs1 r_newO r_mkq r_mkI r_mkOi r_mkOv r_tIn r_tIc r_repz r_repn r_ldp r_ldf r_l1t r_l1f r_lFt r_lFf r_aggO r_obj r_at r_ati' r_atv r_celli r_cellv r_subi r_subv r_sto r_sto1 r_sto2 r_sets r_setR r_setn r_setc r_s1i r_s1v r_bin1 r_bin2 r_tv1 r_cb r_ci r_cst r_cn r_csl r_cis r_cce r_uni r_unb r_cv r_cvO r_cvN r_cv0 r_cvS r_wB r_cvi r_cvs r_cvb r_cvl r_sO r_rdn r_rdi r_rdl r_rdO r_vsub r_vfn r_mk r_mk1 r_mk2 r_zoi r_zov r_leni r_lenv r_bn r_bndV r_bo r_sl0 r_sl1 r_vsz r_ct1 r_cts r_cti r_ctc r_ctn r_lnl r_lni r_lnc r_lnn r_fa r_fap r_faf r_fi1 r_fit r_fif r_ixi r_ixs r_ixc r_ixf r_ixF r_ixF2 r_ix1 r_ixsl r_ixin r_ixce r_len1 r_lenA r_lTs r_lTn r_lTl r_lTi r_lTc r_app0 r_app r_app1 r_app2 r_app3 r_catO r_cati r_catv r_newt r_newf r_pair r_pairK r_trip r_kis r_kiv r_srn r_srl r_sri r_src r_srs r_oln r_oll r_vw r_wi r_wv r_mm r_max r_min' r_str r_c2t r_c3f r_c3t r_ab r_c2f r_cV r_p1 r_la r_la2t r_la2f r_la3 r_sh r_z_is r_z_ce r_z_fp r_z_b r_z_i r_z_s r_z_n r_z_l r_z_p r_z_a4 r_z_a3 r_z_t4 r_zoI r_zoV r_roN r_roC r_roi r_rod r_zod r_rov r_aR r_trOi r_trOv r_trPv r_trl r_trp r_trf r_tra r_trb r_tri r_trs r_trn r_tris r_trce r_trfp r_vJ r_vJs r_vJn
attribute [local go_sem] b_add b_sub b_mul b_quo b_rem b_shl b_shr b_eql b_neq b_lss b_leq b_gtr b_geq eqB_s b_eqB b_neB u_neg u_not b_nn b_nn' eqS_s zerosT_s zerosT_n zt_i zt_sl zt_st dstOf_z dstOf_n iltT iltF ileT ileF ieqT ieqF nltT nltF nleT nleF neqT neqF tdiv_pos tmod_pos w64 idx0 List.take_of_length_le
open Num
section
variable {ds : List DyT} {N i j : Int}
set_option maxHeartbeats 1000000 in
theorem MatMinor_v (d : Nat) (hl : ds.length < 100000000) (hs : ∀ x ∈ ds, x.sz) : vrun Tryd.prog kn (d + 17) 24 [.agg [.int .i64 N, .cells 3 ds.length (flat DyT.v ds)], .int .i64 i, .int .i64 j] [] = some (.tup [.agg [.int .i64 (minN N ds i j), .sl 0 0 (minT N ds i j).length 3], .bool (minB N ds i j)], mblk 0 (minT N ds i j)) := by
  have h1 := fun d => isPlace_v (N := N) (i := i) (j := j) d hl hs
  have c1 : ∀ call h args, vcallF kn call h 38 (some args) = vcall2 kn call 38 args h (kn.cf.pure 38) := fun _ _ _ => rfl
  have c2 : ∀ call h args, vcallF kn call h 39 (some args) = vcall2 kn call 39 args h (kn.cf.pure 39) := fun _ _ _ => rfl
  have c3 : ∀ call h args, vcallF kn call h 58 (some args) = vcall2 kn call 58 args h (kn.cf.pure 58) := fun _ _ _ => rfl
  have gc1 : ∀ e a, vgc e [a] = vgcBy (reach [a] 3 (addNs [] (erefs e))) e [a] := fun _ _ => rfl
  have gc2 : ∀ e a b, vgc e [a, b] = vgcBy (reach [a, b] 3 (addNs [] (erefs e))) e [a, b] := fun _ _ _ => rfl
  have gc3 : ∀ e a b c, vgc e [a, b, c] = vgcBy (reach [a, b, c] 3 (addNs [] (erefs e))) e [a, b, c] := fun _ _ _ _ => rfl
  have gl2 : ∀ e a b, vgcL e [a, b] = vgcLBy (reach [a, b] 3 (addNs [] (e.flatMap (vrefs 4)))) e [a, b] := fun _ _ _ => rfl
  cases hq : minB N ds i j with
  | false =>
    have e1 : minT N ds i j = [] := by unfold minT; rw [hq]; rfl
    have e2 : minN N ds i j = 0 := by unfold minN; rw [hq]; rfl
    rw [e1, e2]
    unfold mblk
    simp only [cellsP, List.map_nil]
    have hc : atB N ds i j = false ∨ (atB N ds i j = true ∧ N = 1) := by
      unfold minB at hq
      cases h : atB N ds i j with
      | false => exact .inl rfl
      | true => rw [h] at hq; simp at hq; exact .inr ⟨rfl, hq⟩
    rcases hc with hc | ⟨hc, rfl⟩
    · rw [hc] at h1
      rw [vrun_v Tryd.func24 rfl rfl rfl]; simp only [Tryd.f24]
      simp (implicitDefEqProofs := false) (disch := omega) [go_sem, tab24, c1, gc1, gc2, gc3, gl2, h1]
    · rw [hc] at h1
      rw [vrun_v Tryd.func24 rfl rfl rfl]; simp only [Tryd.f24]
      simp (implicitDefEqProofs := false) (disch := omega) [go_sem, tab24, c1, gc1, gc2, gc3, gl2, h1]
  | true =>
    obtain ⟨n, a, b, rfl, rfl, rfl, n1, n2, ha, hb, hlen, ho, hat⟩ := minB_t hq
    have e1 : minT (n : Int) ds a b = mnP ds n a b (n * n) := by unfold minT; rw [hq]; rfl
    have e2 : minN (n : Int) ds a b = n - 1 := by unfold minN; rw [hq]; rfl
    rw [e1, e2]
    rw [hat] at h1
    have hnn : n * n ≤ 16 := Nat.mul_le_mul n2 n2
    have h2 := fun d => grid_v (N := (n : Int)) d (ds := ds) (by omega) (by have := Nat.mul_pos (show 0 < n by omega) (show 0 < n by omega); omega) (fun y hy => by obtain ⟨e1, x1, _⟩ := okD (ho y hy); rw [e1]; omega)
    have h3 := fun d => minor_v (ds := ds) (n := n) (a := a) (b := b) d n1 n2 hlen
    have ho' := mnP_all (P := fun x => dyOkB x = true) (n := n) (a := a) (b := b) (c := n * n) ho
    have tl := mnP_len (ds := ds) (n := n) (a := a) (b := b) (c := n * n)
    have hN1 : ¬ (n : Int) = 1 := by omega
    have hN1' : ¬ n = 1 := by omega
    generalize mnP ds n a b (n * n) = T at *
    obtain ⟨ea, eb⟩ := mkall_ok ho'
    have eR : xR T = T := by unfold xR; rw [eb, ea]; rfl
    have eN : xNm ((n : Int) - 1) T = (n : Int) - 1 := by unfold xNm; rw [eb]; rfl
    obtain ⟨o, k, p, w, h4⟩ := mat_h (N := (n : Int) - 1) (d + 9) (ds := T) (by omega) (fun x hx => (XOk_ok (ho' x hx)).1)
    rw [eR, eN, eb] at h4
    rw [eR] at w
    have hm := w.land [.vals true [.int .i64 n, .cells 3 ds.length (flat DyT.v ds)], .vals true [.int .i64 (n - 1), .sl (2 + k) 0 T.length 3]]
    simp only [List.length_cons, List.length_nil, Nat.zero_add, List.cons_append, List.nil_append, Nat.reduceAdd] at hm
    have g1 := fun s t b => gcE_own hm (N := (n : Int) - 1) (m := T.length) (sz := 3) (c := 1) (s := s) (t := t) (b := b) rfl
    have hm2 := (own_mblk T).land [.vals true [.int .i64 (n - 1), .sl 1 0 T.length 3]]
    simp only [List.length_cons, List.length_nil, Nat.zero_add, List.cons_append, List.nil_append, Nat.reduceAdd, sh_mblk, Nat.add_zero] at hm2
    have g2 := gcL_own hm2 (N := (n : Int) - 1) (m := T.length) (sz := 3) (b := true)
    clear hm hm2 w ho ho' ea eb eR eN hq hs hl e1 e2
    generalize flat DyT.v ds = F at *
    generalize flat DyT.v T = F' at *
    rw [vrun_v Tryd.func24 rfl rfl rfl]; simp only [Tryd.f24]
    simp (implicitDefEqProofs := false) (disch := omega) [go_sem, tab24, c1, c2, c3, gc1, gc2, gc3, h1, h2, h3, h4, g1, g2, hN1, hN1']
end
end
section
open Go.Proofs
set_option maxRecDepth 100000
set_option linter.unusedSimpArgs false
attribute [local go_sem] r_seq r_skip r_retC r_exitC r_label r_block r_region r_regionW r_xWt r_xW r_cond r_Bt r_Bf r_Ncode r_Nret r_Nexit r_Nblk r_Nblkr r_Nblke r_Nnil r_Es r_Onil r_Oop r_Oif r_Xs r_Gt r_Gf r_wtt r_wtf r_wft r_wff r_wu r_gO r_putS r_putN r_get r_keepN r_keepC r_fr r_fn r_fi r_ff r_fo r_l1 r_l2t r_cun r_cul r_cub r_cui r_cus r_cuis r_cuc r_cusl r_cuti r_cutv r_ven r_vec r_l2f r_l3 r_t1 r_t2 r_t0 r_rt r_rc r_en r_ec r_cM r_oN r_oC r_end r_endt r_endf r_nob0 r_nobN r_nobC r_nobE r_nb0 r_nbi r_nbs r_nbsl r_nbin r_nbce r_nLn r_nLv r_nLc r_nAa r_nAn r_nAk_b r_nAk_i r_nAk_s r_nAk_n r_nAk_is r_nAk_ce r_nAk_fp r_nAk_sl r_nAk_pt r_nAk_fn r_nsn r_nsv r_nsc r_m0 r_mi r_ms r_msl r_min r_mce r_mLn r_mLv r_mLc r_mAa r_mAn r_mAk_b r_mAk_i r_mAk_s r_mAk_n r_mAk_is r_mAk_ce r_mAk_fp r_mAk_sl r_mAk_pt r_mAk_fn r_msn r_msv r_msc r_atb r_ati r_ats r_atn r_atis r_atc r_atf r_atl r_atp r_atfn r_gcn r_gcc r_gLn r_gLc r_gIt r_ndn r_ndc r_gcB r_gLB r_two r_rea r_rea0 r_re1n r_re1c r_ori r_orv r_ord r_orn r_adn r_adc r_ad1 r_ern r_ers r_er0 r_rsl r_rptr r_rb r_ri r_rs r_rn r_ris r_rce r_rfp r_ra4 r_ra3 r_rt4 r_rf4 r_rf3 r_idS r_idc r_nS r_nP r_nF r_nT r_vsl r_vptr r_vb r_vi r_vs r_vn r_vis r_vce r_vfp r_va4 r_va3 r_vt4 r_vf4 r_vf3 r_rV r_Oi r_Ov r_Od r_rE r_rE0 r_En r_Ec r_E0 r_pO r_pk r_agL r_cO r_fO r_fSi r_fSv r_fPv r_fsl r_fptr r_ffn r_fag r_fb r_fint r_fstr r_fnil r_fis r_fce r_ffp r_res r_move r_assign r_pick r_pickt r_pickf r_alloc r_box r_al r_build r_bslice r_load r_store r_nlc r_nl1 r_nl2 r_bin r_un r_conv r_mkf r_mks r_slc r_fad r_fld r_iad r_idx r_ext r_ex1 r_callf r_callt r_callen r_calapp r_calmax r_calmin r_vt r_vcb r_vci r_vcs r_vcnp r_vcn r_vca r_vcf r_vcg r_ofb r_ofi r_ofs r_ofn r_evs r_pn r_prt r_pc r_one_a r_one_b r_one_i r_one_s r_one_n r_one_is r_one_ce r_one_fp r_one_sl r_one_pt r_one_fn r_cs_a r_cs_b r_cs_i r_cs_s r_cs_n r_cs_is r_cs_ce r_cs_fp r_cs_sl r_cs_pt r_cs_fn r_tov r_tovA r_toc r_toa r_tb r_ti r_ts r_tn r_bd r_bd2 r_filn r_fp1 r_filc r_fsn r_fsc r_san r_sac r_bs2 r_bs1 r_newO r_mkq r_mkI r_mkOi r_mkOv r_tIn r_tIc r_repz r_repn r_ldp r_ldf r_l1t r_l1f r_lFt r_lFf r_aggO r_obj r_at r_ati' r_atv r_celli r_cellv r_subi r_subv r_sto r_sto1 r_sto2 r_sets r_setR r_setn r_setc r_s1i r_s1v r_bin1 r_bin2 r_tv1 r_cb r_ci r_cst r_cn r_csl r_cis r_cce r_uni r_unb r_cv r_cvO r_cvN r_cv0 r_cvS r_wB r_cvi r_cvs r_cvb r_cvl r_sO r_rdn r_rdi r_rdl r_rdO r_vsub r_vfn r_mk r_mk1 r_mk2 r_zoi r_zov r_leni r_lenv r_bn r_bndV r_bo r_sl0 r_sl1 r_vsz r_ct1 r_cts r_cti r_ctc r_ctn r_lnl r_lni r_lnc r_lnn r_fa r_fap r_faf r_fi1 r_fit r_fif r_ixi r_ixs r_ixc r_ixf r_ixF r_ixF2 r_ix1 r_ixsl r_ixin r_ixce r_len1 r_lenA r_lTs r_lTn r_lTl r_lTi r_lTc r_app0 r_app r_app1 r_app2 r_app3 r_catO r_cati r_catv r_newt r_newf r_pair r_pairK r_trip r_kis r_kiv r_srn r_srl r_sri r_src r_srs r_oln r_oll r_vw r_wi r_wv r_mm r_max r_min' r_str r_cF r_c2t r_c3f r_c3t r_ab r_c2f r_cV r_p1 r_la r_la2t r_la2f r_la3 r_sh r_z_is r_z_ce r_z_fp r_z_b r_z_i r_z_s r_z_n r_z_l r_z_p r_z_a4 r_z_a3 r_z_t4 r_zoI r_zoV r_roN r_roC r_roi r_rod r_zod r_rov r_aR r_trOi r_trOv r_trPv r_trl r_trp r_trf r_tra r_trb r_tri r_trs r_trn r_tris r_trce r_trfp r_vJ r_vJs r_vJn
attribute [local go_sem] b_add b_sub b_mul b_quo b_rem b_shl b_shr b_eql b_neq b_lss b_leq b_gtr b_geq eqB_s b_eqB b_neB u_neg u_not b_nn b_nn' eqS_s zerosT_s zerosT_n zt_i zt_sl zt_st dstOf_z dstOf_n iltT iltF ileT ileF ieqT ieqF nltT nltF nleT nleF neqT neqF tdiv_pos tmod_pos w64 idx0 List.take_of_length_le
open Num
section
variable {ds : List DyT} {N i j : Int}
theorem sMatMinor_v (d : Nat) (hi : -9223372036854775808 ≤ i ∧ i ≤ 9223372036854775807) (hj : -9223372036854775808 ≤ j ∧ j ≤ 9223372036854775807) (hl : ds.length < 100000000) (hs : ∀ x ∈ ds, x.sz) : vrun Tryd.prog kn (d + 5) 23 [.agg [.int .i64 N, .cells 3 ds.length (flat DyT.v ds)], .int .i64 i, .int .i64 j] [] = some (.tup [.agg [.int .i64 (minN N ds i j), .cells 3 (minT N ds i j).length (flat DyT.v (minT N ds i j))], .bool (minB N ds i j)], []) := by
  have h1 := fun d => sMatOk_v (N := N) d (by omega) hs
  cases hq : minB N ds i j with
  | false =>
    have e1 : minT N ds i j = [] := by unfold minT; rw [hq]; rfl
    have e2 : minN N ds i j = 0 := by unfold minN; rw [hq]; rfl
    rw [e1, e2]
    simp only [flat, List.length_nil]
    cases hm : matOkB N ds with
    | false =>
      rw [hm] at h1
      rw [vrun_v Tryd.func23 rfl rfl rfl]; simp only [Tryd.f23]
      simp (implicitDefEqProofs := false) (disch := omega) [go_sem, tab23, h1]
    | true =>
      rw [hm] at h1
      obtain ⟨n, rfl, n1, n2, _, _⟩ := matOk_t hm
      unfold minB atB at hq
      rw [hm, Bool.true_and] at hq
      have hq2 : ¬ (((0 ≤ i ∧ i ≤ (n : Int) - 1) ∧ (0 ≤ j ∧ j ≤ (n : Int) - 1)) ∧ ¬ (n : Int) = 1) := fun h => by
        obtain ⟨⟨⟨a1, a2⟩, a3, a4⟩, a5⟩ := h
        rw [decide_eq_true a1, decide_eq_true a2, decide_eq_true a3, decide_eq_true a4, decide_eq_false a5] at hq
        cases hq
      by_cases c0 : (n : Int) < 2
      · rw [vrun_v Tryd.func23 rfl rfl rfl]; simp only [Tryd.f23]
        simp (implicitDefEqProofs := false) (disch := omega) [go_sem, tab23, h1, c0]
      by_cases c1 : i < 0
      · rw [vrun_v Tryd.func23 rfl rfl rfl]; simp only [Tryd.f23]
        simp (implicitDefEqProofs := false) (disch := omega) [go_sem, tab23, h1, c0, c1]
      by_cases c2 : (n : Int) ≤ i
      · rw [vrun_v Tryd.func23 rfl rfl rfl]; simp only [Tryd.f23]
        simp (implicitDefEqProofs := false) (disch := omega) [go_sem, tab23, h1, c0, c1, c2]
      by_cases c3 : j < 0
      · rw [vrun_v Tryd.func23 rfl rfl rfl]; simp only [Tryd.f23]
        simp (implicitDefEqProofs := false) (disch := omega) [go_sem, tab23, h1, c0, c1, c2, c3]
      have c4 : (n : Int) ≤ j := by omega
      rw [vrun_v Tryd.func23 rfl rfl rfl]; simp only [Tryd.f23]
      simp (implicitDefEqProofs := false) (disch := omega) [go_sem, tab23, h1, c0, c1, c2, c3, c4]
  | true =>
    have hm : matOkB N ds = true := by unfold minB atB at hq; simp only [Bool.and_eq_true] at hq; exact hq.1.1.1
    rw [hm] at h1
    obtain ⟨n, a, b, rfl, rfl, rfl, n1, n2, ha, hb, hlen, ho, hat⟩ := minB_t hq
    have e1 : minT (n : Int) ds a b = mnP ds n a b (n * n) := by unfold minT; rw [hq]; rfl
    have e2 : minN (n : Int) ds a b = n - 1 := by unfold minN; rw [hq]; rfl
    rw [e1, e2]
    have hnn : n * n ≤ 16 := Nat.mul_le_mul n2 n2
    have h3 := fun d => l9minor_v (ds := ds) (n := n) (a := a) (b := b) d n1 n2 hlen
    have ho' := mnP_all (P := fun x => dyOkB x = true) (n := n) (a := a) (b := b) (c := n * n) ho
    have tl := mnP_len (ds := ds) (n := n) (a := a) (b := b) (c := n * n)
    have tp := mnP_pos (ds := ds) (n := n) (a := a) (b := b) hlen n1
    generalize mnP ds n a b (n * n) = T at *
    have h4 := fun d => l8own_v (ds := T) (N := (n : Int) - 1) d (by omega) tp ho'
    have k0 : ¬ (n : Int) < 2 := by omega
    have k0' : ¬ n < 2 := by omega
    have k1 : ¬ (n : Int) ≤ a := by omega
    have k2 : ¬ (n : Int) ≤ b := by omega
    clear ho ho' hq hs hl e1 e2 hm hat
    generalize flat DyT.v ds = F at *
    generalize flat DyT.v T = F' at *
    rw [vrun_v Tryd.func23 rfl rfl rfl]; simp only [Tryd.f23]
    simp (implicitDefEqProofs := false) (disch := omega) [go_sem, tab23, h1, h3, h4, k0, k0', k1, k2, ha, hb]
end
end
/- The laws' types as values. No conditions. -/
section
open Go.Proofs Num
def DyT.row (x : DyT) : Prop := x.l.length ≤ 9223372036854775807 ∧ (∀ y ∈ x.l, (Lit.int .i64 y).wf = true) ∧ (Lit.int .i64 x.e).wf = true
def TInt (vs : List V) : Prop := ∃ x : Int, vs = [.int .i64 x] ∧ (Lit.int .i64 x).wf = true
def TBool (vs : List V) : Prop := ∃ x : Bool, vs = [.bool x]
def TInts (vs : List V) : Prop := ∃ l : List Int, vs = [.ints .i64 l] ∧ l.length ≤ 9223372036854775807 ∧ ∀ x ∈ l, (Lit.int .i64 x).wf = true
def TDys (vs : List V) : Prop := ∃ ds : List DyT, vs = [.cells 3 ds.length (flat DyT.v ds)] ∧ ds.length ≤ 9223372036854775807 ∧ ∀ x ∈ ds, x.row
theorem opInt : OpV Tryd.prog 3 1 TInt := OpV.int Tryd.underlying3 (by kernel_rfl)
theorem opBool : OpV Tryd.prog 4 1 TBool := OpV.bool Tryd.underlying4 (by kernel_rfl)
theorem opInts : OpV Tryd.prog 26 1 TInts := OpV.ints Tryd.underlying26 (by kernel_rfl) Tryd.underlying3 (by kernel_rfl)
theorem opNat : OpV Tryd.prog 50 1 TInts := OpV.struct1 Tryd.underlying50 (by kernel_rfl) rfl opInts
theorem opWhole : OpV Tryd.prog 52 2 (fun vs => ∃ (n : Bool) (l : List Int), vs = [.bool n, .ints .i64 l] ∧ l.length ≤ 9223372036854775807 ∧ ∀ x ∈ l, (Lit.int .i64 x).wf = true) :=
  (OpV.struct2 Tryd.underlying52 (by kernel_rfl) rfl rfl opBool opNat).imp fun vs ⟨_, _, e, ⟨n, e1⟩, ⟨l, e2, h1, h2⟩⟩ => ⟨n, l, by rw [e, e1, e2]; rfl, h1, h2⟩
theorem opDy : OpV Tryd.prog 54 3 (fun vs => ∃ x : DyT, vs = x.v ∧ x.row) :=
  (OpV.struct2 Tryd.underlying54 (by kernel_rfl) rfl rfl opWhole opInt).imp fun vs ⟨_, _, e, ⟨n, l, e1, h1, h2⟩, ⟨x, e2, h3⟩⟩ => ⟨⟨n, l, x⟩, by rw [e, e1, e2]; rfl, h1, h2, h3⟩
theorem opDys : OpV Tryd.prog 22 1 TDys := OpV.cells Tryd.underlying22 (by kernel_rfl) opDy (by omega)
theorem opMat : OpV Tryd.prog 24 2 (fun vs => ∃ (N : Int) (ds : List DyT), vs = [.int .i64 N, .cells 3 ds.length (flat DyT.v ds)] ∧ (Lit.int .i64 N).wf = true ∧ ds.length ≤ 9223372036854775807 ∧ ∀ x ∈ ds, x.row) :=
  (OpV.struct2 Tryd.underlying24 (by kernel_rfl) rfl rfl opInt opDys).imp fun vs ⟨_, _, e, ⟨n, e1, h1⟩, ⟨ds, e2, h2, h3⟩⟩ => ⟨n, ds, by rw [e, e1, e2]; rfl, h1, h2, h3⟩
end
end Go.Eng
