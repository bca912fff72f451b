/- What the functions of this seat do, one after another, told by plain values. No conditions. -/
import Derived.Test.YtlejlpooblffbaaDoorSeat
import Derived.Test.YtlejlpooblffbaaDoorVb
import Derived.Test.YtlejlpooblffbaaDoorVc
import Derived.Test.YtlejlpooblffbaaDoorMIvMatOf
set_option linter.unusedVariables false
set_option linter.unusedSimpArgs false
namespace Go.Eng
open Go.Proofs
set_option maxRecDepth 100000
set_option linter.unusedSimpArgs false
attribute [local go_sem] r_seq r_skip r_retC r_exitC r_label r_block r_region r_regionW r_xWt r_xW r_cond r_Bt r_Bf r_Ncode r_Nret r_Nexit r_Nblk r_Nblkr r_Nblke r_Nnil r_Es r_Onil r_Oop r_Oif r_Xs r_Gt r_Gf r_wtt r_wtf r_wft r_wff r_wu r_gO r_putS r_putN r_get r_keepN r_keepC r_fr r_fn r_fi r_ff r_fo r_l1 r_l2t r_cun r_cul r_cub r_cui r_cus r_cuis r_cuc r_cusl r_cuti r_cutv r_ven r_vec r_l2f r_l3 r_t1 r_t2 r_t0 r_rt r_rc r_en r_ec r_cM r_oN r_oC r_end r_endt r_endf r_nob0 r_nobN r_nobC r_nobE r_nb0 r_nbi r_nbs r_nbsl r_nbin r_nbce r_nLn r_nLv r_nLc r_nAa r_nAn r_nAk_b r_nAk_i r_nAk_s r_nAk_n r_nAk_is r_nAk_ce r_nAk_fp r_nAk_sl r_nAk_pt r_nAk_fn r_nsn r_nsv r_nsc r_m0 r_mi r_ms r_msl r_min r_mce r_mLn r_mLv r_mLc r_mAa r_mAn r_mAk_b r_mAk_i r_mAk_s r_mAk_n r_mAk_is r_mAk_ce r_mAk_fp r_mAk_sl r_mAk_pt r_mAk_fn r_msn r_msv r_msc r_atb r_ati r_ats r_atn r_atis r_atc r_atf r_atl r_atp r_atfn r_gcn r_gcc r_gLn r_gLc r_gIt r_ndn r_ndc r_gcB r_gLB r_two r_rea r_rea0 r_re1n r_re1c r_ori r_orv r_ord r_orn r_adn r_adc r_ad1 r_ern r_ers r_er0 r_rsl r_rptr r_rb r_ri r_rs r_rn r_ris r_rce r_rfp r_ra4 r_ra3 r_rt4 r_rf4 r_rf3 r_idS r_idc r_nS r_nP r_nF r_nT r_vsl r_vptr r_vb r_vi r_vs r_vn r_vis r_vce r_vfp r_va4 r_va3 r_vt4 r_vf4 r_vf3 r_rV r_Oi r_Ov r_Od r_rE r_rE0 r_En r_Ec r_E0 r_pO r_pk r_agL r_cO r_fO r_fSi r_fSv r_fPv r_fsl r_fptr r_ffn r_fag r_fb r_fint r_fstr r_fnil r_fis r_fce r_ffp r_res r_move r_assign r_pick r_pickt r_pickf r_alloc r_box r_al r_build r_bslice r_load r_store r_nlc r_nl1 r_nl2 r_bin r_un r_conv r_mkf r_mks r_slc r_fad r_fld r_iad r_idx r_ext r_ex1 r_callf r_callt r_callen r_calapp r_calmax r_calmin r_vt r_vcb r_vci r_vcs r_vcnp r_vcn r_vca r_vcf r_vcg r_ofb r_ofi r_ofs r_ofn r_evs r_pn r_prt r_pc r_one_a r_one_b r_one_i r_one_s r_one_n r_one_is r_one_ce r_one_fp r_one_sl r_one_pt r_one_fn r_cs_a r_cs_b r_cs_i r_cs_s r_cs_n r_cs_is r_cs_ce r_cs_fp r_cs_sl r_cs_pt r_cs_fn r_tov r_tovA r_toc r_toa r_tb r_ti r_ts r_tn r_bd r_bd2 r_filn r_fp1 r_filc r_fsn r_fsc r_san r_sac r_bs2 r_bs1 r_newO r_mkq r_mkI r_mkOi r_mkOv r_tIn r_tIc r_repz r_repn r_ldp r_ldf r_l1t r_l1f r_lFt r_lFf r_aggO r_obj r_at r_ati' r_atv r_celli r_cellv r_subi r_subv r_sto r_sto1 r_sto2 r_sets r_setR r_setn r_setc r_s1i r_s1v r_bin1 r_bin2 r_tv1 r_cb r_ci r_cst r_cn r_csl r_cis r_cce r_uni r_unb r_cv r_cvO r_cvN r_cv0 r_cvS r_wB r_cvi r_cvs r_cvb r_cvl r_sO r_rdn r_rdi r_rdl r_rdO r_vsub r_vfn r_mk r_mk1 r_mk2 r_zoi r_zov r_leni r_lenv r_bn r_bndV r_bo r_sl0 r_sl1 r_vsz r_ct1 r_cts r_cti r_ctc r_ctn r_lnl r_lni r_lnc r_lnn r_fa r_fap r_faf r_fi1 r_fit r_fif r_ixi r_ixs r_ixc r_ixf r_ixF r_ixF2 r_ix1 r_ixsl r_ixin r_ixce r_len1 r_lenA r_lTs r_lTn r_lTl r_lTi r_lTc r_app0 r_app r_app1 r_app2 r_app3 r_catO r_cati r_catv r_newt r_newf r_pair r_pairK r_trip r_kis r_kiv r_srn r_srl r_sri r_src r_srs r_oln r_oll r_vw r_wi r_wv r_mm r_max r_min' r_str r_cF r_c2t r_c3f r_c3t r_ab r_c2f r_cV r_p1 r_la r_la2t r_la2f r_la3 r_sh r_z_is r_z_ce r_z_fp r_z_b r_z_i r_z_s r_z_n r_z_l r_z_p r_z_a4 r_z_a3 r_z_t4 r_zoI r_zoV r_roN r_roC r_roi r_rod r_zod r_rov r_aR r_trOi r_trOv r_trPv r_trl r_trp r_trf r_tra r_trb r_tri r_trs r_trn r_tris r_trce r_trfp r_vJ r_vJs r_vJn
attribute [local go_sem] b_add b_sub b_mul b_quo b_rem b_shl b_shr b_eql b_neq b_lss b_leq b_gtr b_geq eqB_s b_eqB b_neB u_neg u_not b_nn b_nn' eqS_s zerosT_s zerosT_n zt_i zt_sl zt_st dstOf_z dstOf_n iltT iltF ileT ileF ieqT ieqF nltT nltF nleT nleF neqT neqF tdiv_pos tmod_pos w64 idx0 List.take_of_length_le
/- FnExactIvMatOf. No conditions. -/
section
open Num
section
variable {ds : List DyT} {N : Int}
set_option maxHeartbeats 4000000 in
theorem FnExactIvMatOf_w (d : Nat) (hl : ds.length ≤ 9223372036854775807) (hs : ∀ x ∈ ds, x.l.length ≤ 9223372036854775807) : vrun Tryd.prog kn (d + 17) 8 [.agg [.int .i64 N, .cells 3 ds.length (flat DyT.v ds)]] [] = some (.bool true, []) := by
  obtain ⟨r, hr, h2, h3⟩ := szMat_w (N := N) (left := 1048576) (d := d + 10) hl hs (by omega) (by omega)
  have c1 : ∀ call h args, vcallF kn call h 9 (some args) = vcall2 kn call 9 args h (kn.cf.pure 9) := fun _ _ _ => rfl
  by_cases h : r < 0
  · rw [vrun_v Tryd.func8 rfl rfl rfl]; simp only [Tryd.f8]
    simp (implicitDefEqProofs := false) (disch := omega) [go_sem, tab8, c1, hr]
  have hw := h3 (by omega)
  obtain ⟨z1, z2⟩ := wt_facts (ds := ds) (m := 2097152) (by omega)
  have y1 : ∀ x ∈ ds, x.l.length < 10000000 := fun x hx => by have := z2 x hx; omega
  have y2 : ∀ x ∈ ds, x.sz := fun x hx => by have := z2 x hx; unfold DyT.sz; omega
  have rb := io_bd (N := N) (ds := ds)
  have iv := io_IvL (N := N) (ds := ds)
  have vi := fun d => IvMatOf_v (N := N) (ds := ds) d (by omega) y2
  have vs := fun d => sIvMatOf_v (N := N) (ds := ds) d (by omega) y2
  generalize hR : ioR N ds = R at *
  generalize hn : ioN N ds = n at *
  generalize hM : okN0 N ds = M at *
  generalize hF : matOkB N ds = f at *
  clear hR hM hF hn
  obtain ⟨r2n, rn, rx, rl⟩ := rb
  have rw1 := wt_bd rx
  have rw2 : R.length * (100 + 2) ≤ 32 * 102 := Nat.mul_le_mul_right _ rl
  have r1 : ∀ x ∈ R, x.l.length < 10000000 := fun x hx => by have := rx x hx; omega
  have r2 : ∀ x ∈ R, x.l.length < 1000000000 := fun x hx => by have := rx x hx; omega
  -- the reference's answer
  obtain ⟨G1, i1, p1, e1, m1, s1⟩ := toMat_c (d + 10) [.vals true [.int .i64 N, .cells 3 ds.length (flat DyT.v ds)]] N (ds := ds) (by omega) (fun x hx => by have := y1 x hx; omega)
  obtain ⟨G2, e2, l2, f2⟩ := frz6_c (call := vrun Tryd.prog kn (d + 16)) (q := 29) (R := R) (n := n) (N := M) (f := f) c_pure29 rfl (frz1 m1) (by simpa [go_sem] using vs (d + 7)) (ref1 m1)
  have b2 : G2[0]? = some (.vals true [.int .i64 N, .cells 3 ds.length (flat DyT.v ds)]) := by rw [f2 0 (by simp)]; exact s1.2 _ _ rfl
  -- what is worked on
  obtain ⟨G3, i3, p3, e3, m3, s3⟩ := toMat_c (d + 10) (G2 ++ [.vals true [.int .i64 M, .cells 6 n (flat DyT.v R)]]) N (ds := ds) (by omega) (fun x hx => by have := y1 x hx; omega)
  have b3 := s3.2 _ _ ((Sub.app _ _).2 _ _ b2)
  have w3 := s3.2 _ _ (nx0 G2 _ [])
  have l32 := s3.1
  obtain ⟨G4, i4, p4, e4, m4, s4⟩ := own6_c (call := vrun Tryd.prog kn (d + 16)) (h := G3 ++ [.vals true [.int .i64 N, .sl i3 0 ds.length 3]]) (q := 30) (R := R) (n := n) (N := M) (f := f) c_pure30 rfl (frz1 (m3.app _)) (by simpa [go_sem] using vi (d + 0))
  have b4 := s4.2 _ _ ((Sub.app _ _).2 _ _ b3)
  have w4 := s4.2 _ _ ((Sub.app _ _).2 _ _ w3)
  have x4 := s4.2 _ _ (nx0 G3 _ [])
  have n4 := (m3.app _).sub s4
  have l43 := s4.1
  simp only [List.length_append, List.length_cons, List.length_nil, Nat.zero_add] at l32 l43 m3 m4 n4
  have e5 := fun t => eqIvMatF_c (N := M) (d + 9) (m4.app t) (by omega) iv
  -- it is compared
  obtain ⟨G5, i5, p5, e6, m5, s5⟩ := toMat_c (d + 10) (G4 ++ [.vals true [.int .i64 M, .sl i4 0 n 6]]) N (ds := ds) (by omega) (fun x hx => by have := y1 x hx; omega)
  have b5 := s5.2 _ _ ((Sub.app _ _).2 _ _ b4)
  have w5 := s5.2 _ _ ((Sub.app _ _).2 _ _ w4)
  have x5 := s5.2 _ _ ((Sub.app _ _).2 _ _ x4)
  have g5 := s5.2 _ _ (nx0 G4 _ [])
  have n5 := (n4.app _).sub s5
  have q5 := (m4.app _).sub s5
  have e7 := eqMat_c (N := N) (d + 10) n5 m5 (by omega) (fun x hx => by have := y1 x hx; omega)
  have l54 := s5.1
  simp only [List.length_append, List.length_cons, List.length_nil, Nat.zero_add] at l54
  -- it is marked
  obtain ⟨G6, e8, m6, l6, f6⟩ := markMat_c (N := N) (k := 1) (d + 13) n5 (by omega) y1 (by omega) (by omega) (by omega)
  have b6 := f6 _ _ (.inl (by omega)) b5
  have w6 := f6 _ _ (.inl (by omega)) w5
  have g6 := f6 _ _ (.inr (by omega)) g5
  have q6 := q5.keep fun q o h1 h2 ho => f6 q o (.inr (by omega)) ho
  have e9 := eqIvMatF_c (N := M) (d + 9) q6 (by omega) iv
  -- the answer is marked
  obtain ⟨G7, e10, m7, l7, f7⟩ := markIvMat_c (N := M) (k := 1) (d + 13) q6 r2n (by omega) r1 (by omega) (by omega) (by omega)
  have b7 := f7 _ _ (.inl (by omega)) b6
  have w7 := f7 _ _ (.inl (by omega)) w6
  have g7 := f7 _ _ (.inr (by omega)) g6
  have e11 := heldIvMat_c (N := M) (d + 13) m7 r2n (by omega) r1 (by omega) (by omega)
  -- again
  obtain ⟨G8, i8, p8, e12, m8, s8⟩ := toMat_c (d + 10) G7 N (ds := ds) (by omega) (fun x hx => by have := y1 x hx; omega)
  have b8 := s8.2 _ _ b7
  have w8 := s8.2 _ _ w7
  have g8 := s8.2 _ _ g7
  have q8 := m7.sub s8
  obtain ⟨G9, i9, p9, e13, m9, s9⟩ := own6_c (call := vrun Tryd.prog kn (d + 16)) (h := G8) (q := 30) (R := R) (n := n) (N := M) (f := f) c_pure30 rfl (frz1 m8) (by simpa [go_sem] using vi (d + 0))
  have b9 := gapM (s9.2 _ _ b8)
  have w9 := gapM (s9.2 _ _ w8)
  have g9 := gapM (s9.2 _ _ g8)
  have e14 := fun t => eqIvMatF_c (N := M) (d + 9) (m9.app t) (by omega) iv
  have e15 := fun t => heldIvMat_c (N := M) (d + 13) ((q8.sub s9).app t) r2n (by omega) r1 (by omega) (by omega)
  have gb2 := fun t => gapM b2 t
  have gb3 := fun t => gapM b3 t
  have gb4 := fun t => gapM b4 t
  have gw3 := fun t => gapM w3 t
  have gw4 := fun t => gapM w4 t
  have gx4 := fun t => gapM x4 t
  have hmk : ¬ mkE ds 1 < 0 := by have := mkE_wt ds 1; omega
  have hmr : ¬ mkE R 1 < 0 := by have := mkE_wt R 1; omega
  clear iv r2n l32 l43 l54 l6 l7 l2 s1 s3 s4 s5 s8 s9 f2 f6 f7 m1 m3 m4 m5 m6 m7 m8 m9 n4 n5 q5 q6 q8 z2 y1 y2 h3 hs r1 r2 rx rw1 rw2 vi vs
  generalize flat DyT.v ds = F at *
  generalize flat DyT.v R = F' at *
  rw [vrun_v Tryd.func8 rfl rfl rfl]; simp only [Tryd.f8]
  cases f
  all_goals
    simp (implicitDefEqProofs := false) (disch := omega) [go_sem, tab8, c1, hmk, hmr, hr, h, e1, e2, e3, e4, e5, e6, e7, e8, e9, e10, e11, e12, e13, e14, e15, b2, b3, b4, b5, b6, b7, b8, b9, w3, w4, w5, w6, w7, w8, w9, x4, x5, g5, g6, g7, g8, g9, gb2, gb3, gb4, gw3, gw4, gx4, nx0, nx1, nx2, ns0, ns1, ns2]
theorem FnExactIvMatOf_v (d : Nat) (_ : (Lit.int .i64 N).wf = true) (hl : ds.length ≤ 9223372036854775807) (hrow : ∀ x ∈ ds, x.row) : vrun Tryd.prog kn (d + 17) 8 [.agg [.int .i64 N, .cells 3 ds.length (flat DyT.v ds)]] [] = some (.bool true, []) := by
  exact FnExactIvMatOf_w d hl (fun x hx => (hrow x hx).1)
end
end
end Go.Eng
