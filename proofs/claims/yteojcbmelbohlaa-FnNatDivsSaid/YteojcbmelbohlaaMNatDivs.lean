/- What the functions of this seat do, one after another, told by plain values. No conditions. -/
import Derived.Test.YteojcbmelbohlaaSeat
import Derived.Test.YteojcbmelbohlaaVb
import Derived.Test.YteojcbmelbohlaaT3
set_option linter.unusedVariables false
set_option linter.unusedSimpArgs false
namespace Go.Eng
open Go.Proofs
set_option maxRecDepth 100000
set_option linter.unusedSimpArgs false
attribute [local go_sem] r_seq r_skip r_retC r_exitC r_label r_block r_region r_regionW r_xWt r_xW r_cond r_Bt r_Bf r_Ncode r_Nret r_Nexit r_Nblk r_Nblkr r_Nblke r_Nnil r_Es r_Onil r_Oop r_Oif r_Xs r_Gt r_Gf r_wtt r_wtf r_wft r_wff r_wu r_gO r_putS r_putN r_get r_keepN r_keepC r_fr r_fn r_fi r_ff r_fo r_l1 r_l2t r_cun r_cul r_cub r_cui r_cus r_cuis r_cuc r_cusl r_cuti r_cutv r_ven r_vec r_l2f r_l3 r_t1 r_t2 r_t0 r_rt r_rc r_en r_ec r_cM r_oN r_oC r_end r_endt r_endf r_nob0 r_nobN r_nobC r_nobE r_nb0 r_nbi r_nbs r_nbsl r_nbin r_nbce r_nLn r_nLv r_nLc r_nAa r_nAn r_nAk_b r_nAk_i r_nAk_s r_nAk_n r_nAk_is r_nAk_ce r_nAk_fp r_nAk_sl r_nAk_pt r_nAk_fn r_nsn r_nsv r_nsc r_m0 r_mi r_ms r_msl r_min r_mce r_mLn r_mLv r_mLc r_mAa r_mAn r_mAk_b r_mAk_i r_mAk_s r_mAk_n r_mAk_is r_mAk_ce r_mAk_fp r_mAk_sl r_mAk_pt r_mAk_fn r_msn r_msv r_msc r_atb r_ati r_ats r_atn r_atis r_atc r_atf r_atl r_atp r_atfn r_gcn r_gcc r_gLn r_gLc r_gIt r_ndn r_ndc r_gcB r_gLB r_two r_rea r_rea0 r_re1n r_re1c r_ori r_orv r_ord r_orn r_adn r_adc r_ad1 r_ern r_ers r_er0 r_rsl r_rptr r_rb r_ri r_rs r_rn r_ris r_rce r_rfp r_ra4 r_ra3 r_rt4 r_rf4 r_rf3 r_idS r_idc r_nS r_nP r_nF r_nT r_vsl r_vptr r_vb r_vi r_vs r_vn r_vis r_vce r_vfp r_va4 r_va3 r_vt4 r_vf4 r_vf3 r_rV r_Oi r_Ov r_Od r_rE r_rE0 r_En r_Ec r_E0 r_pO r_pk r_agL r_cO r_fO r_fSi r_fSv r_fPv r_fsl r_fptr r_ffn r_fag r_fb r_fint r_fstr r_fnil r_fis r_fce r_ffp r_res r_move r_assign r_pick r_pickt r_pickf r_alloc r_box r_al r_build r_bslice r_load r_store r_nlc r_nl1 r_nl2 r_bin r_un r_conv r_mkf r_mks r_slc r_fad r_fld r_iad r_idx r_ext r_ex1 r_callf r_callt r_callen r_calapp r_calmax r_calmin r_vt r_vcb r_vci r_vcs r_vcnp r_vcn r_vca r_vcf r_vcg r_ofb r_ofi r_ofs r_ofn r_evs r_pn r_prt r_pc r_one_a r_one_b r_one_i r_one_s r_one_n r_one_is r_one_ce r_one_fp r_one_sl r_one_pt r_one_fn r_cs_a r_cs_b r_cs_i r_cs_s r_cs_n r_cs_is r_cs_ce r_cs_fp r_cs_sl r_cs_pt r_cs_fn r_tov r_tovA r_toc r_toa r_tb r_ti r_ts r_tn r_bd r_bd2 r_filn r_fp1 r_filc r_fsn r_fsc r_san r_sac r_bs2 r_bs1 r_newO r_mkq r_mkI r_mkOi r_mkOv r_tIn r_tIc r_repz r_repn r_ldp r_ldf r_l1t r_l1f r_lFt r_lFf r_aggO r_obj r_at r_ati' r_atv r_celli r_cellv r_subi r_subv r_sto r_sto1 r_sto2 r_sets r_setR r_setn r_setc r_s1i r_s1v r_bin1 r_bin2 r_tv1 r_cb r_ci r_cst r_cn r_csl r_cis r_cce r_uni r_unb r_cv r_cvO r_cvN r_cv0 r_cvS r_wB r_cvi r_cvs r_cvb r_cvl r_sO r_rdn r_rdi r_rdl r_rdO r_vsub r_vfn r_mk r_mk1 r_mk2 r_zoi r_zov r_leni r_lenv r_bn r_bndV r_bo r_sl0 r_sl1 r_vsz r_ct1 r_cts r_cti r_ctc r_ctn r_lnl r_lni r_lnc r_lnn r_fa r_fap r_faf r_fi1 r_fit r_fif r_ixi r_ixs r_ixc r_ixf r_ixF r_ixF2 r_ix1 r_ixsl r_ixin r_ixce r_len1 r_lenA r_lTs r_lTn r_lTl r_lTi r_lTc r_app0 r_app r_app1 r_app2 r_app3 r_catO r_cati r_catv r_newt r_newf r_pair r_pairK r_trip r_kis r_kiv r_srn r_srl r_sri r_src r_srs r_oln r_oll r_vw r_wi r_wv r_mm r_max r_min' r_str r_cF r_c2t r_c3f r_c3t r_ab r_c2f r_cV r_p1 r_la r_la2t r_la2f r_la3 r_sh r_z_is r_z_ce r_z_fp r_z_b r_z_i r_z_s r_z_n r_z_l r_z_p r_z_a4 r_z_a3 r_z_t4 r_zoI r_zoV r_roN r_roC r_roi r_rod r_zod r_rov r_aR r_trOi r_trOv r_trPv r_trl r_trp r_trf r_tra r_trb r_tri r_trs r_trn r_tris r_trce r_trfp r_vJ r_vJs r_vJn
attribute [local go_sem] b_add b_sub b_mul b_quo b_rem b_shl b_shr b_eql b_neq b_lss b_leq b_gtr b_geq eqB_s b_eqB b_neB u_neg u_not b_nn b_nn' eqS_s zerosT_s zerosT_n zt_i zt_sl zt_st dstOf_z dstOf_n iltT iltF ileT ileF ieqT ieqF nltT nltF nleT nleF neqT neqF tdiv_pos tmod_pos w64 idx0 List.take_of_length_le
/- A number and a divisor drawn off a code. No conditions. -/
section
open Num
section
variable {b : List Int}
set_option maxHeartbeats 8000000 in
theorem DrawNatDiv_v (d : Nat) (hb : Cod b) : ∃ x y : List Int, vrun Try.prog kn (d + 7) 48 [.ints .u8 b] [] = some (.tup [.agg [.ints .i64 x], .agg [.ints .i64 y]], []) ∧ x.length ≤ 5000 ∧ y.length ≤ 5000 := by
  obtain ⟨s, e0⟩ := l1New_v (h := [.vals true [.nil], .vals true [.nil]]) (d + 5) hb
  simp only [List.length_cons, List.length_nil, List.cons_append, List.nil_append] at e0
  have c0 : Cu b 2 [.vals true [.nil], .vals true [.nil], cur b 0 s] := ⟨0, s, rfl, by omega, by omega⟩
  obtain ⟨x, k, g0, eb, hl, q0, f0, hk, hk0, -⟩ := l2bent_v (d + 0) hb c0
  have h30 := f0.1
  simp only [List.length_cons, List.length_nil] at h30 hk
  have z0 : g0[0]? = some (.vals true [.nil]) := f0.at rfl (by omega)
  have z1 : g0[1]? = some (.vals true [.nil]) := f0.at rfl (by omega)
  obtain ⟨y, m, g1, ec, hm, q1, f1, hmk, hm0, -⟩ := l2bent_v (d + 0) hb (q0.app [.vals true [.sl k 0 x.length 1]])
  simp only [List.length_append, List.length_cons, List.length_nil] at hmk
  have h0 := f1.at (gap z0 _) (by omega)
  have h1 := f1.at (gap z1 _) (by omega)
  have hp : g1[g0.length]? = some (.vals true [.sl k 0 x.length 1]) := f1.at (last_at _ _) (by omega)
  have hk1 : g1[k]? = some (.ints true .i64 x) := f1.at (gap hk0 _) (by omega)
  have hkl0 := (List.getElem?_eq_some_iff.1 hk0).1
  have hml := (List.getElem?_eq_some_iff.1 hm0).1
  have hset : ∀ (g : VH) (X Y : VO), (g ++ [X]).set g.length Y = g ++ [Y] := fun g X Y => by rw [List.set_append_right _ _ (Nat.le_refl _)]; simp
  have w1 : ¬ (0 = g1.length) := by omega
  have w2 : ¬ (1 = g1.length) := by omega
  have w3 : ¬ (0 = g0.length) := by omega
  have w4 : ¬ (1 = g0.length) := by omega
  have n1 := fun d => sNatOk_v (l := x) d (by omega)
  have n2 := fun d => sNatOk_v (l := y) d (by omega)
  obtain ⟨x1, g2, e1, q2, f2, l2⟩ := l1Once_v (d + 3) hb (q1.app [.vals true [.sl m 0 y.length 1]]) (n := 3) (by omega) (by omega)
  have p0 : ∀ M : VH, (g1 ++ M)[g0.length]? = some (.vals true [.sl k 0 x.length 1]) := gap hp
  have p1 : ∀ M : VH, (g1 ++ M)[k]? = some (.ints true .i64 x) := gap hk1
  have p2 : ∀ M : VH, (g1 ++ M)[m]? = some (.ints true .i64 y) := gap hm0
  have p3 : ∀ M : VH, (g1 ++ M)[0]? = some (.vals true [.nil]) := gap h0
  have p4 : ∀ M : VH, (g1 ++ M)[1]? = some (.vals true [.nil]) := gap h1
  have g20 := f2.at (p3 _) (by omega)
  have g21 := f2.at (p4 _) (by omega)
  have g2p := f2.at (p0 _) (by omega)
  have g2k := f2.at (p1 _) (by omega)
  have g2m := f2.at (p2 _) (by omega)
  have g2q : g2[g1.length]? = some (.vals true [.sl m 0 y.length 1]) := f2.at (last_at _ _) (by omega)
  -- the end, on a heap like g1's
  have fin : ∀ {G : VH}, G[0]? = some (VO.vals true [.nil]) → G[1]? = some (.vals true [.nil]) → (∀ A, (G.set 0 A)[1]? = some (.vals true [.nil])) ∧ (∀ A B, ((G.set 0 A).set 1 B)[0]? = some A) ∧ (∀ A B, ((G.set 0 A).set 1 B)[1]? = some B) ∧ (∀ A B k, 1 < k → ((G.set 0 A).set 1 B)[k]? = G[k]?) := fun h0 h1 => two h0 h1
  by_cases hx : natOkB x = true ∧ natOkB y = true
  · obtain ⟨o1, o2⟩ := hx
    rw [o1] at n1
    rw [o2] at n2
    cases x1
    · obtain ⟨t1, t2, t3, t4⟩ := fin g20 g21
      have t5 : ∀ A B, ((g2.set 0 A).set 1 B)[k]? = some (.ints true .i64 x) := fun A B => (t4 A B k (by omega)).trans g2k
      have t6 : ∀ A B, ((g2.set 0 A).set 1 B)[m]? = some (.ints true .i64 y) := fun A B => (t4 A B m (by omega)).trans g2m
      refine ⟨x, y, ?_, by omega, by omega⟩
      clear hkl0 hml
      rw [vrun_v Try.func48 rfl rfl rfl]; simp only [Try.f48]
      simp (implicitDefEqProofs := false) (disch := omega) [go_sem, tab48, w1, w2, w3, w4, e0, eb, ec, e1, n1, n2, hp, hk1, hm0, h0, h1, last_at, hset, p0, p1, p2, g20, g21, g2p, g2k, g2m, g2q, t1, t2, t3, t5, t6, w_nil, w_op, w_if, w_Gt, w_Gf, w_Xs, w_V, r_xWt, vmodI, vldI, vmodS, vldS, vmodA, vmodB, vldOK, V.self, vimp, w_safe, w_safe0, w_safeC]
    · have a1 := fun d => sNatMul_v (a := x) (b := y) d (by omega) (by omega)
      have hres := nres_len (op := (· * ·)) (a := x) (b := y)
      generalize nres (· * ·) x y = P at *
      have hgl := f2.1
      simp only [List.length_append, List.length_cons, List.length_nil] at hgl
      have hgq := (List.getElem?_eq_some_iff.1 g2q).1
      have w5 : ¬ (0 = g2.length) := by omega
      have w6 : ¬ (1 = g2.length) := by omega
      have m0 : ((g2.modify k VO.ro).modify m VO.ro)[0]? = some (.vals true [.nil]) := (mod_ne (by omega)).trans ((mod_ne (by omega)).trans g20)
      have m1 : ((g2.modify k VO.ro).modify m VO.ro)[1]? = some (.vals true [.nil]) := (mod_ne (by omega)).trans ((mod_ne (by omega)).trans g21)
      have mp : ((g2.modify k VO.ro).modify m VO.ro)[g0.length]? = some (.vals true [.sl k 0 x.length 1]) := (mod_ne (by omega)).trans ((mod_ne (by omega)).trans g2p)
      have mq : ((g2.modify k VO.ro).modify m VO.ro)[g1.length]? = some (.vals true [.sl m 0 y.length 1]) := (mod_ne (by omega)).trans ((mod_ne (by omega)).trans g2q)
      have mk : ((g2.modify k VO.ro).modify m VO.ro)[k]? = some (.ints false .i64 x) := (mod_ne (by omega)).trans (by rw [List.getElem?_modify, g2k]; simp [VO.ro])
      have mm : ((g2.modify k VO.ro).modify m VO.ro)[m]? = some (.ints false .i64 y) := by rw [List.getElem?_modify, mod_ne (by omega), g2m]; simp [VO.ro]
      have vz : ∀ X : VO, (((g2.modify k VO.ro).modify m VO.ro) ++ [X])[g2.length]? = some X := fun X => by rw [List.getElem?_append_right (by simp)]; simp
      have vs : ∀ X Y : VO, (((g2.modify k VO.ro).modify m VO.ro) ++ [X]).set g2.length Y = ((g2.modify k VO.ro).modify m VO.ro) ++ [Y] := fun X Y => by rw [List.set_append_right _ _ (by simp)]; simp
      have v0 : ∀ M : VH, (((g2.modify k VO.ro).modify m VO.ro) ++ M)[0]? = some (.vals true [.nil]) := gap m0
      have v1 : ∀ M : VH, (((g2.modify k VO.ro).modify m VO.ro) ++ M)[1]? = some (.vals true [.nil]) := gap m1
      have vp : ∀ M : VH, (((g2.modify k VO.ro).modify m VO.ro) ++ M)[g0.length]? = some (.vals true [.sl k 0 x.length 1]) := gap mp
      have vq : ∀ M : VH, (((g2.modify k VO.ro).modify m VO.ro) ++ M)[g1.length]? = some (.vals true [.sl m 0 y.length 1]) := gap mq
      obtain ⟨t1, t2, t3, t4⟩ := fin (v0 [.vals true [.ints .i64 P]]) (v1 [.vals true [.ints .i64 P]])
      have t5 : ∀ A B, (((((g2.modify k VO.ro).modify m VO.ro) ++ [VO.vals true [.ints .i64 P]]).set 0 A).set 1 B)[k]? = some (.ints false .i64 x) := fun A B => (t4 A B k (by omega)).trans (gap mk _)
      have t6 : ∀ A B, (((((g2.modify k VO.ro).modify m VO.ro) ++ [VO.vals true [.ints .i64 P]]).set 0 A).set 1 B)[m]? = some (.ints false .i64 y) := fun A B => (t4 A B m (by omega)).trans (gap mm _)
      cases hf : nok (· * ·) x y with
      | true =>
        rw [hf] at a1
        refine ⟨P, y, ?_, by omega, by omega⟩
        clear hkl0 hml hgq hgl
        rw [vrun_v Try.func48 rfl rfl rfl]; simp only [Try.f48]
        simp (implicitDefEqProofs := false) (disch := omega) [go_sem, tab48, w1, w2, w3, w4, e0, eb, ec, e1, n1, n2, a1, hp, hk1, hm0, h0, h1, last_at, hset, p0, p1, p2, g20, g21, g2p, g2k, g2m, g2q, w5, w6, vp, vq, v0, v1, vz, vs, t1, t2, t3, t5, t6, w_nil, w_op, w_if, w_Gt, w_Gf, w_Xs, w_V, r_xWt, vmodI, vldI, vmodS, vldS, vmodA, vmodB, vldOK, V.self, vimp, w_safe, w_safe0, w_safeC]
      | false =>
        rw [hf] at a1
        refine ⟨x, y, ?_, by omega, by omega⟩
        clear hkl0 hml hgq hgl
        rw [vrun_v Try.func48 rfl rfl rfl]; simp only [Try.f48]
        simp (implicitDefEqProofs := false) (disch := omega) [go_sem, tab48, w1, w2, w3, w4, e0, eb, ec, e1, n1, n2, a1, hp, hk1, hm0, h0, h1, last_at, hset, p0, p1, p2, g20, g21, g2p, g2k, g2m, g2q, w5, w6, vp, vq, v0, v1, vz, vs, t1, t2, t3, t5, t6, w_nil, w_op, w_if, w_Gt, w_Gf, w_Xs, w_V, r_xWt, vmodI, vldI, vmodS, vldS, vmodA, vmodB, vldOK, V.self, vimp, w_safe, w_safe0, w_safeC]
  · -- not both are valid
    obtain ⟨t1, t2, t3, t4⟩ := fin h0 h1
    have u1 : ∀ A (M : VH), (g1.set 0 A ++ M)[1]? = some (.vals true [.nil]) := fun A M => gap (t1 A) M
    have u2 : ∀ A B (M : VH), ((g1.set 0 A).set 1 B ++ M)[0]? = some A := fun A B M => gap (t2 A B) M
    have u3 : ∀ A B (M : VH), ((g1.set 0 A).set 1 B ++ M)[1]? = some B := fun A B M => gap (t3 A B) M
    have t5 : ∀ A B (M : VH), ((g1.set 0 A).set 1 B ++ M)[k]? = some (.ints true .i64 x) := fun A B M => gap ((t4 A B k (by omega)).trans hk1) M
    have t6 : ∀ A B (M : VH), ((g1.set 0 A).set 1 B ++ M)[m]? = some (.ints true .i64 y) := fun A B M => gap ((t4 A B m (by omega)).trans hm0) M
    have u4 : ∀ A (M : VH), (g1 ++ M).set 0 A = g1.set 0 A ++ M := fun A M => List.set_append_left _ _ (by omega)
    have u5 : ∀ A B (M : VH), (g1.set 0 A ++ M).set 1 B = (g1.set 0 A).set 1 B ++ M := fun A B M => List.set_append_left _ _ (by simp; omega)
    refine ⟨x, y, ?_, by omega, by omega⟩
    have hxy : natOkB x = false ∨ (natOkB x = true ∧ natOkB y = false) := by
      cases h : natOkB x
      · exact .inl rfl
      · refine .inr ⟨rfl, ?_⟩
        cases h' : natOkB y
        · rfl
        · exact absurd ⟨h, h'⟩ hx
    clear hkl0 hml hx
    rcases hxy with h | ⟨h, h'⟩
    · rw [h] at n1
      rw [vrun_v Try.func48 rfl rfl rfl]; simp only [Try.f48]
      simp (implicitDefEqProofs := false) (disch := omega) [go_sem, tab48, w1, w2, w3, w4, e0, eb, ec, n1, hp, hk1, hm0, h0, h1, last_at, hset, p0, p1, p2, p3, p4, t1, t2, t3, t5, t6, u1, u2, u3, u4, u5, w_nil, w_op, w_if, w_Gt, w_Gf, w_Xs, w_V, r_xWt, vmodI, vldI, vmodS, vldS, vmodA, vmodB, vldOK, V.self, vimp, w_safe, w_safe0, w_safeC]
    · rw [h] at n1
      rw [h'] at n2
      rw [vrun_v Try.func48 rfl rfl rfl]; simp only [Try.f48]
      simp (implicitDefEqProofs := false) (disch := omega) [go_sem, tab48, w1, w2, w3, w4, e0, eb, ec, n1, n2, hp, hk1, hm0, h0, h1, last_at, hset, p0, p1, p2, p3, p4, t1, t2, t3, t5, t6, u1, u2, u3, u4, u5, w_nil, w_op, w_if, w_Gt, w_Gf, w_Xs, w_V, r_xWt, vmodI, vldI, vmodS, vldS, vmodA, vmodB, vldOK, V.self, vimp, w_safe, w_safe0, w_safeC]
end
end
/- The laws' types as values. No conditions. -/
section
open Go.Proofs Num
def DyT.row (x : DyT) : Prop := x.l.length ≤ 9223372036854775807 ∧ (∀ y ∈ x.l, (Lit.int .i64 y).wf = true) ∧ (Lit.int .i64 x.e).wf = true
def TInt (vs : List V) : Prop := ∃ x : Int, vs = [.int .i64 x] ∧ (Lit.int .i64 x).wf = true
def TBool (vs : List V) : Prop := ∃ x : Bool, vs = [.bool x]
def TInts (vs : List V) : Prop := ∃ l : List Int, vs = [.ints .i64 l] ∧ l.length ≤ 9223372036854775807 ∧ ∀ x ∈ l, (Lit.int .i64 x).wf = true
def TDys (vs : List V) : Prop := ∃ ds : List DyT, vs = [.cells 3 ds.length (flat DyT.v ds)] ∧ ds.length ≤ 9223372036854775807 ∧ ∀ x ∈ ds, x.row
theorem opInt : OpV Try.prog 3 1 TInt := OpV.int Try.underlying3 (by kernel_rfl)
theorem opBool : OpV Try.prog 4 1 TBool := OpV.bool Try.underlying4 (by kernel_rfl)
theorem opInts : OpV Try.prog 24 1 TInts := OpV.ints Try.underlying24 (by kernel_rfl) Try.underlying3 (by kernel_rfl)
theorem opBytes : OpV Try.prog 22 1 (fun vs => ∃ l : List Int, vs = [.ints .u8 l] ∧ l.length ≤ 9223372036854775807 ∧ ∀ x ∈ l, (Lit.int .u8 x).wf = true) := OpV.ints Try.underlying22 (by kernel_rfl) Try.underlying5 (by kernel_rfl)
theorem opNat : OpV Try.prog 52 1 TInts := OpV.struct1 Try.underlying52 (by kernel_rfl) rfl opInts
theorem opWhole : OpV Try.prog 64 2 (fun vs => ∃ (n : Bool) (l : List Int), vs = [.bool n, .ints .i64 l] ∧ l.length ≤ 9223372036854775807 ∧ ∀ x ∈ l, (Lit.int .i64 x).wf = true) :=
  (OpV.struct2 Try.underlying64 (by kernel_rfl) rfl rfl opBool opNat).imp fun vs ⟨_, _, e, ⟨n, e1⟩, ⟨l, e2, h1, h2⟩⟩ => ⟨n, l, by rw [e, e1, e2]; rfl, h1, h2⟩
end
end Go.Eng
