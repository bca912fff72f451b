/- What the functions of this seat do, one after another, told by plain values. No conditions. -/
import Derived.Test.YtkfeofjgdijbeaaSeat
import Derived.Test.YtkfeofjgdijbeaaVb
import Derived.Test.YtkfeofjgdijbeaaT3
set_option linter.unusedVariables false
set_option linter.unusedSimpArgs false
namespace Go.Eng
open Go.Proofs
set_option maxRecDepth 100000
set_option linter.unusedSimpArgs false
attribute [local go_sem] r_seq r_skip r_retC r_exitC r_label r_block r_region r_regionW r_xWt r_xW r_cond r_Bt r_Bf r_Ncode r_Nret r_Nexit r_Nblk r_Nblkr r_Nblke r_Nnil r_Es r_Onil r_Oop r_Oif r_Xs r_Gt r_Gf r_wtt r_wtf r_wft r_wff r_wu r_gO r_putS r_putN r_get r_keepN r_keepC r_fr r_fn r_fi r_ff r_fo r_l1 r_l2t r_cun r_cul r_cub r_cui r_cus r_cuis r_cuc r_cusl r_cuti r_cutv r_ven r_vec r_l2f r_l3 r_t1 r_t2 r_t0 r_rt r_rc r_en r_ec r_cM r_oN r_oC r_end r_endt r_endf r_nob0 r_nobN r_nobC r_nobE r_nb0 r_nbi r_nbs r_nbsl r_nbin r_nbce r_nLn r_nLv r_nLc r_nAa r_nAn r_nAk_b r_nAk_i r_nAk_s r_nAk_n r_nAk_is r_nAk_ce r_nAk_fp r_nAk_sl r_nAk_pt r_nAk_fn r_nsn r_nsv r_nsc r_m0 r_mi r_ms r_msl r_min r_mce r_mLn r_mLv r_mLc r_mAa r_mAn r_mAk_b r_mAk_i r_mAk_s r_mAk_n r_mAk_is r_mAk_ce r_mAk_fp r_mAk_sl r_mAk_pt r_mAk_fn r_msn r_msv r_msc r_atb r_ati r_ats r_atn r_atis r_atc r_atf r_atl r_atp r_atfn r_gcn r_gcc r_gLn r_gLc r_gIt r_ndn r_ndc r_gcB r_gLB r_two r_rea r_rea0 r_re1n r_re1c r_ori r_orv r_ord r_orn r_adn r_adc r_ad1 r_ern r_ers r_er0 r_rsl r_rptr r_rb r_ri r_rs r_rn r_ris r_rce r_rfp r_ra4 r_ra3 r_rt4 r_rf4 r_rf3 r_idS r_idc r_nS r_nP r_nF r_nT r_vsl r_vptr r_vb r_vi r_vs r_vn r_vis r_vce r_vfp r_va4 r_va3 r_vt4 r_vf4 r_vf3 r_rV r_Oi r_Ov r_Od r_rE r_rE0 r_En r_Ec r_E0 r_pO r_pk r_agL r_cO r_fO r_fSi r_fSv r_fPv r_fsl r_fptr r_ffn r_fag r_fb r_fint r_fstr r_fnil r_fis r_fce r_ffp r_res r_move r_assign r_pick r_pickt r_pickf r_alloc r_box r_al r_build r_bslice r_load r_store r_nlc r_nl1 r_nl2 r_bin r_un r_conv r_mkf r_mks r_slc r_fad r_fld r_iad r_idx r_ext r_ex1 r_callf r_callt r_callen r_calapp r_calmax r_calmin r_vt r_vcb r_vci r_vcs r_vcnp r_vcn r_vca r_vcf r_vcg r_ofb r_ofi r_ofs r_ofn r_evs r_pn r_prt r_pc r_one_a r_one_b r_one_i r_one_s r_one_n r_one_is r_one_ce r_one_fp r_one_sl r_one_pt r_one_fn r_cs_a r_cs_b r_cs_i r_cs_s r_cs_n r_cs_is r_cs_ce r_cs_fp r_cs_sl r_cs_pt r_cs_fn r_tov r_tovA r_toc r_toa r_tb r_ti r_ts r_tn r_bd r_bd2 r_filn r_fp1 r_filc r_fsn r_fsc r_san r_sac r_bs2 r_bs1 r_nE r_newO r_mkq r_mkI r_mkOi r_mkOv r_tIn r_tIc r_repz r_repn r_ldp r_ldf r_l1t r_l1f r_lFt r_lFf r_aggO r_obj r_at r_ati' r_atv r_celli r_cellv r_subi r_subv r_sto r_sto1 r_sto2 r_sets r_setR r_setn r_setc r_s1i r_s1v r_bin1 r_bin2 r_tv1 r_cb r_ci r_cst r_cn r_csl r_cis r_cce r_uni r_unb r_cv r_cvO r_cvN r_cv0 r_cvS r_wB r_cvi r_cvs r_cvb r_cvl r_sO r_rdn r_rdi r_rdl r_rdO r_vsub r_vfn r_mk r_mk1 r_mk2 r_zoi r_zov r_leni r_lenv r_bn r_bndV r_bo r_sl0 r_sl1 r_vsz r_ct1 r_cts r_cti r_ctc r_ctn r_lnl r_lni r_lnc r_lnn r_fa r_fap r_faf r_fi1 r_fit r_fif r_ixi r_ixs r_ixc r_ixf r_ixF r_ixF2 r_ix1 r_ixsl r_ixin r_ixce r_len1 r_lenA r_lTs r_lTn r_lTl r_lTi r_lTc r_app0 r_app9 r_paf r_pat r_frn r_fre r_tt1 r_tt2 r_tt3 r_app r_app1 r_app2 r_app3 r_catO r_cati r_catv r_newt r_newf r_pair r_pairK r_trip r_kis r_kiv r_srn r_srl r_sri r_src r_srs r_oln r_ole r_oll r_vw r_wi r_wv r_mm r_max r_min' r_str r_cF r_c2t r_c3f r_c3t r_ab r_c2f r_cV r_p1 r_la r_la2t r_la2f r_la3 r_sh r_z_is r_z_ce r_z_fp r_z_b r_z_i r_z_s r_z_n r_z_l r_z_p r_z_a4 r_z_a3 r_z_t4 r_zoI r_zoV r_roN r_roC r_roi r_rod r_zod r_rov r_aR r_trOi r_trOv r_trPv r_trl r_trp r_trf r_tra r_trb r_tri r_trs r_trn r_tris r_trce r_trfp r_vJ r_vJs r_vJn
attribute [local go_sem] b_add b_sub b_mul b_quo b_rem b_shl b_shr b_eql b_neq b_lss b_leq b_gtr b_geq eqB_s b_eqB b_neB u_neg u_not b_nn b_nn' eqS_s zerosT_s zerosT_n zt_i zt_sl zt_st dstOf_z dstOf_n iltT iltF ileT ileF ieqT ieqF nltT nltF nleT nleF neqT neqF tdiv_pos tmod_pos w64 idx0 List.take_of_length_le
/- A text drawn off a code, whole. No conditions. -/
section
open Num
section
variable {b : List Int} {h : VH} {i : Nat}
theorem gapP {g : VH} {q : Nat} {o : VO} (hq : g[q]? = some o) (a : VH) : (g ++ a)[q]? = some o := by
  rw [List.getElem?_append_left (List.getElem?_eq_some_iff.1 hq).1]; exact hq
theorem np0 (G : VH) (x : VO) (t : VH) : (G ++ x :: t)[G.length]? = some x := by rw [List.getElem?_append_right (Nat.le_refl _), Nat.sub_self]; rfl
theorem np1 (G : VH) (x y : VO) (t : VH) : (G ++ x :: y :: t)[G.length + 1]? = some y := by rw [List.getElem?_append_right (by omega), show G.length + 1 - G.length = 1 by omega]; rfl
theorem np2 (G : VH) (x y z : VO) (t : VH) : (G ++ x :: y :: z :: t)[G.length + 2]? = some z := by rw [List.getElem?_append_right (by omega), show G.length + 2 - G.length = 2 by omega]; rfl
theorem np3 (G : VH) (x y z w : VO) (t : VH) : (G ++ x :: y :: z :: w :: t)[G.length + 3]? = some w := by rw [List.getElem?_append_right (by omega), show G.length + 3 - G.length = 3 by omega]; rfl
theorem sp0 (G : VH) (x o : VO) (t : VH) : (G ++ x :: t).set G.length o = G ++ o :: t := by rw [List.set_append_right _ _ (Nat.le_refl _), Nat.sub_self]; rfl
theorem sp1 (G : VH) (x y o : VO) (t : VH) : (G ++ x :: y :: t).set (G.length + 1) o = G ++ x :: o :: t := by rw [List.set_append_right _ _ (by omega), show G.length + 1 - G.length = 1 by omega]; rfl
theorem sp2 (G : VH) (x y z o : VO) (t : VH) : (G ++ x :: y :: z :: t).set (G.length + 2) o = G ++ x :: y :: o :: t := by rw [List.set_append_right _ _ (by omega), show G.length + 2 - G.length = 2 by omega]; rfl
theorem sp3 (G : VH) (x y z w o : VO) (t : VH) : (G ++ x :: y :: z :: w :: t).set (G.length + 3) o = G ++ x :: y :: z :: o :: t := by rw [List.set_append_right _ _ (by omega), show G.length + 3 - G.length = 3 by omega]; rfl
theorem TxI.put {g : VH} {q n k : Nat} {L : List Int} {y : Int} (a : TxI b i h g q n L) (y0 : 0 ≤ y) (y1 : y < 256) : TxI b i h (g.set q (.ints true .u8 (L.set k y))) q n (L.set k y) := by
  have hql := (List.getElem?_eq_some_iff.1 a.o).1
  refine ⟨a.c.setne a.ne _, by simp [hql], a.q, ?_, by rw [List.length_set]; exact a.n, fun x hx => ?_⟩
  · refine ⟨by have := a.f.1; simpa using this, fun p hp hi => ?_⟩
    have h1 := a.q
    rw [List.getElem?_set_ne (by omega)]
    exact a.f.2 p hp hi
  · rcases List.mem_or_eq_of_mem_set hx with h1 | rfl
    · exact a.by' x h1
    · exact ⟨y0, y1⟩
theorem TxI.new {g : VH} {q n : Nat} {L M : List Int} (a : TxI b i h g q n L) (t : VH) (hM : ∀ x ∈ M, 0 ≤ x ∧ x < 256) : TxI b i h (g ++ (t ++ [.ints true .u8 M])) (g.length + t.length) M.length M := by
  refine ⟨a.c.app _, ?_, ?_, a.f.trans (Frm.app _ _ _), Nat.le_refl _, hM⟩
  · rw [List.getElem?_append_right (by omega), Nat.add_sub_cancel_left, List.getElem?_append_right (Nat.le_refl _), Nat.sub_self]; rfl
  · have := a.f.1; omega
set_option maxHeartbeats 4000000 in
theorem l1draw_v (d : Nat) (hb : Cod b) (hc : Cu b i h) : ∃ (q n : Nat) (L : List Int) (g : VH), vrun Try.prog kn (d + 5) 30 [.ptr i 0] h = some (.sl q 0 n 1, g) ∧ TxI b i h g q n L ∧ n ≤ 500 := by
  obtain ⟨x, g0, _, _, _, _, e0, x0, x1, a0⟩ := ld_0 (d + 2) hb hc
  obtain ⟨g1, q1, n1, L1, hv, a1, hn1⟩ := ld_l d hb a0 x0 (by omega) (N := x)
  have hl0 := fun ks => loop_v (P := Try.prog) (K := kn) (ks := ks) hv
  simp only [loopAt, nthC, bodyC, loops, List.nil_append, List.cons_append, List.append_nil, Try.f30, ldS, Int.natCast_zero, List.cons_append, List.nil_append] at hl0
  clear hv
  obtain ⟨t1, g2, e2, c2, f2, l2⟩ := l1Once_v (d + 1) hb a1.c (n := 3) (by omega) (by omega)
  have a2 := a1.step c2 f2
  cases t1 with
  | false =>
    obtain ⟨t2, g3, e3, c3, f3, l3⟩ := l1Once_v (d + 1) hb a2.c (n := 40) (by omega) (by omega)
    have a3 := a2.step c3 f3
    cases t2 with
    | false =>
      refine ⟨q1, n1, L1, g3, ?_, a3, by omega⟩
      clear a0 a1 a2 a3
      rw [vrun_v Try.func30 rfl rfl rfl]; simp only [Try.f30]
      simp (implicitDefEqProofs := false) (disch := omega) [go_sem, tab30, nil30, e0, hl0, e2, e3]
    | true =>
      have o3 := a3.o
      have hn := a3.n
      refine ⟨_, _, _, _, ?_, a3.app (M := List.replicate 400 0) [] (fun x hx => by have := List.eq_of_mem_replicate hx; omega), by simp; omega⟩
      clear a0 a1 a2 a3
      rw [vrun_v Try.func30 rfl rfl rfl]; simp only [Try.f30]
      simp (implicitDefEqProofs := false) (disch := omega) [go_sem, -List.reduceReplicate, tab30, nil30, e0, hl0, e2, e3, o3, hn]
  | true =>
    by_cases hz : n1 = 0
    · subst hz
      obtain ⟨t2, g3, e3, c3, f3, l3⟩ := l1Once_v (d + 1) hb a2.c (n := 40) (by omega) (by omega)
      have a3 := a2.step c3 f3
      cases t2 with
      | false =>
        refine ⟨q1, 0, L1, g3, ?_, a3, by omega⟩
        clear a0 a1 a2 a3
        rw [vrun_v Try.func30 rfl rfl rfl]; simp only [Try.f30]
        simp (implicitDefEqProofs := false) (disch := omega) [go_sem, tab30, nil30, e0, hl0, e2, e3]
      | true =>
        have o3 := a3.o
        have hn := a3.n
        refine ⟨_, _, _, _, ?_, a3.app (M := List.replicate 400 0) [] (fun x hx => by have := List.eq_of_mem_replicate hx; omega), by simp⟩
        clear a0 a1 a2 a3
        rw [vrun_v Try.func30 rfl rfl rfl]; simp only [Try.f30]
        simp (implicitDefEqProofs := false) (disch := omega) [go_sem, -List.reduceReplicate, tab30, nil30, e0, hl0, e2, e3, o3, hn]
    have hz1 : (0 : Int) < n1 := by omega
    obtain ⟨z, g3, e3, z0, z1, c3, f3, l3⟩ := l1Below_v (d + 2) hb a2.c (n := (n1 : Int)) (by omega) (by omega)
    have a3 := a2.step c3 f3
    obtain ⟨w, g4, e4, w0, w1, c4, f4, l4⟩ := l1Below_v (d + 2) hb a3.c (n := 3) (by omega) (by omega)
    have a4 := a3.step c4 f4
    obtain ⟨k, rfl⟩ : ∃ k : Nat, z = k := ⟨z.toNat, by omega⟩
    have hw : w = 0 ∨ w = 1 ∨ w = 2 := by omega
    rcases hw with rfl | rfl | rfl
    · obtain ⟨y, g5, e5, y0, y1, c5, f5, l5⟩ := l1Byte_v (d + 3) hb a4.c
      have a5 := a4.step c5 f5
      have wy := wu8' y0 y1
      have o5 := a5.o
      have h5 := a5.n
      have b5 := a5.put (k := k) y0 y1
      obtain ⟨t2, g6, e6, c6, f6, l6⟩ := l1Once_v (d + 1) hb b5.c (n := 40) (by omega) (by omega)
      have a6 := b5.step c6 f6
      cases t2 with
      | false =>
        refine ⟨q1, n1, L1.set k y, g6, ?_, a6, by omega⟩
        clear a0 a1 a2 a3 a4 a5 a6 b5
        rw [vrun_v Try.func30 rfl rfl rfl]; simp only [Try.f30]
        simp (implicitDefEqProofs := false) (disch := omega) [go_sem, tab30, nil30, e0, hl0, e2, hz, hz1, e3, e4, e5, wy, o5, e6]
      | true =>
        have o6 := a6.o
        have hn := a6.n
        rw [List.length_set] at hn
        refine ⟨_, _, _, _, ?_, a6.app (M := List.replicate 400 0) [] (fun x hx => by have := List.eq_of_mem_replicate hx; omega), by simp; omega⟩
        clear a0 a1 a2 a3 a4 a5 a6 b5
        rw [vrun_v Try.func30 rfl rfl rfl]; simp only [Try.f30]
        simp (implicitDefEqProofs := false) (disch := omega) [go_sem, -List.reduceReplicate, tab30, nil30, e0, hl0, e2, hz, hz1, e3, e4, e5, wy, o5, e6, o6, hn]
    · -- a beginning
      have a5 : TxI b i h g4 q1 k L1 := ⟨a4.c, a4.o, a4.q, a4.f, by have := a4.n; omega, a4.by'⟩
      obtain ⟨t2, g6, e6, c6, f6, l6⟩ := l1Once_v (d + 1) hb a5.c (n := 40) (by omega) (by omega)
      have a6 := a5.step c6 f6
      have o4 := a4.o
      have h4 := a4.n
      cases t2 with
      | false =>
        refine ⟨q1, k, L1, g6, ?_, a6, by omega⟩
        clear a0 a1 a2 a3 a4 a5 a6
        rw [vrun_v Try.func30 rfl rfl rfl]; simp only [Try.f30]
        simp (implicitDefEqProofs := false) (disch := omega) [go_sem, tab30, nil30, e0, hl0, e2, hz, hz1, e3, e4, o4, e6]
      | true =>
        have o6 := a6.o
        have hn := a6.n
        refine ⟨_, _, _, _, ?_, a6.app (M := List.replicate 400 0) [] (fun x hx => by have := List.eq_of_mem_replicate hx; omega), by simp; omega⟩
        clear a0 a1 a2 a3 a4 a5 a6
        rw [vrun_v Try.func30 rfl rfl rfl]; simp only [Try.f30]
        simp (implicitDefEqProofs := false) (disch := omega) [go_sem, -List.reduceReplicate, tab30, nil30, e0, hl0, e2, hz, hz1, e3, e4, o4, e6, o6, hn]
    · obtain ⟨y, g5, e5, ym, c5, f5, l5⟩ := l1Pick_v (d + 1) hb (a4.c.app [.ints true .i64 [192, 193, 224, 237, 240, 244, 245, 255, 128, 191]]) (L := [192, 193, 224, 237, 240, 244, 245, 255, 128, 191]) nx (n := 10) rfl (by simp) (by simp)
      have yb : 0 ≤ y ∧ y < 256 := by
        simp only [List.mem_cons, List.not_mem_nil, or_false] at ym
        omega
      have a5 := a4.step c5 ((Frm.app _ _ _).trans f5)
      have wy := wu8' yb.1 yb.2
      have o5 := a5.o
      have h5 := a5.n
      have go5 := fun t => gapP o5 t
      obtain ⟨M, hM⟩ : ∃ M, M = (L1.take k ++ [y]).take (k + 1) ++ (L1.drop k).take (n1 - k) := ⟨_, rfl⟩
      have hMe : List.take (k + 1) (List.take k (List.take k L1) ++ [y]) ++ List.take (n1 - k) (List.drop k L1) = M := by
        rw [hM, List.take_take, Nat.min_self]
      have hMl : M.length = k + 1 + (n1 - k) := by rw [hM]; simp; omega
      have hMb : ∀ x ∈ M, 0 ≤ x ∧ x < 256 := fun x hx => by
        rw [hM] at hx
        rcases List.mem_append.1 hx with hx | hx
        · have hx := List.mem_of_mem_take hx
          rcases List.mem_append.1 hx with hx | hx
          · exact a5.by' x (List.mem_of_mem_take hx)
          · simp at hx; subst hx; exact yb
        · exact a5.by' x (List.mem_of_mem_drop (List.mem_of_mem_take hx))
      have b5 := a5.new [.ints true .u8 [], .dead, .ints true .u8 [y], .dead] hMb
      simp only [List.cons_append, List.nil_append, List.length_cons, List.length_nil, hMl, Nat.zero_add, Nat.reduceAdd] at b5
      clear hM
      obtain ⟨t2, g6, e6, c6, f6, l6⟩ := l1Once_v (d + 1) hb b5.c (n := 40) (by omega) (by omega)
      have a6 := b5.step c6 f6
      cases t2 with
      | false =>
        refine ⟨g5.length + 4, k + 1 + (n1 - k), M, g6, ?_, a6, by omega⟩
        clear a0 a1 a2 a3 a4 a5 a6 b5 hMb
        rw [vrun_v Try.func30 rfl rfl rfl]; simp only [Try.f30]
        simp (implicitDefEqProofs := false) (disch := omega) [go_sem, tab30, nil30, e0, hl0, e2, hz, hz1, e3, e4, e5, wy, o5, go5, hMe, e6, w_nil, w_op, w_if, w_Gt, w_Gf, w_Xs, w_V, r_xWt, vmodI, vldI, vmodS, vldS, vmodA, vmodB, vldOK, V.self, np0, np1, np2, np3, sp0, sp1, sp2, sp3]
      | true =>
        have o6 := a6.o
        have hn := a6.n
        refine ⟨_, _, _, _, ?_, a6.app (M := List.replicate 400 0) [] (fun x hx => by have := List.eq_of_mem_replicate hx; omega), by simp; omega⟩
        clear a0 a1 a2 a3 a4 a5 a6 b5 hMb
        rw [vrun_v Try.func30 rfl rfl rfl]; simp only [Try.f30]
        simp (implicitDefEqProofs := false) (disch := omega) [go_sem, -List.reduceReplicate, tab30, nil30, e0, hl0, e2, hz, hz1, e3, e4, e5, wy, o5, go5, hMe, e6, o6, hn, w_nil, w_op, w_if, w_Gt, w_Gf, w_Xs, w_V, r_xWt, vmodI, vldI, vmodS, vldS, vmodA, vmodB, vldOK, V.self, np0, np1, np2, np3, sp0, sp1, sp2, sp3]
end
end
/- A cursor made; a natural number drawn bent. No conditions. -/
section
open Num
def andm (a : Int) : Int := IntKind.wrap .i64 (BitVec.ofInt 64 a &&& BitVec.ofInt 64 1073741823).toNat
theorem b_andm (P : Program) (t : TypeId) (a : Int) : binE P .and t (.int .i64 a) (.int .i64 1073741823) = some (.int .i64 (andm a)) := b_and ..
section
variable {h : VH} {b : List Int} {i : Nat}
def nwI (b : List Int) (h : VH) (j : Nat) (s : VE × VH) : Prop := ∃ v : Int, s = ([(0, some (.ints .u8 b)), (3, some (.int .i64 v)), (4, some (.int .i64 j))], h)
theorem l1New_v (d : Nat) (hb : Cod b) : ∃ s : Int, vrun Try.prog kn (d + 1) 31 [.ints .u8 b] h = some (.ptr h.length 0, h ++ [cur b 0 s]) := by
  have hb1 := hb.1
  have key := vi_inv (n := kn.cf.rounds) (body := vCode Try.prog kn (vrun Try.prog kn d) 31 (loopAt Try.f31 0)) (nwI b h)
    (fun r => ∃ (v : Int) (m : Nat), r = some (.exit 0, [(0, some (.ints .u8 b)), (3, some (.int .i64 v)), (4, some (.int .i64 m)), (15, some (.bool false))], h)) (min b.length 4000) (by rw [k_cf, c_rounds]; omega)
    (fun j s hj hI => by
      obtain ⟨v, rfl⟩ := hI
      left
      refine ⟨([(0, some (.ints .u8 b)), (3, some (.int .i64 (andm (IntKind.wrap .i64 (IntKind.wrap .i64 (IntKind.wrap .i64 (v * 131) + IntKind.wrap .i64 (gt b j)) + 7))))), (4, some (.int .i64 ((j + 1 : Nat) : Int)))], h), ?_, _, rfl⟩
      rw [round_v]; simp only [loopAt, nthC, bodyC, loops, List.nil_append, List.cons_append, List.append_nil, Try.f31]
      simp (implicitDefEqProofs := false) (disch := omega) [go_sem, tab31, b_andm])
    (fun s hI m => by
      obtain ⟨v, rfl⟩ := hI
      refine ⟨v, min b.length 4000, vi_exit ?_⟩
      rw [round_v]; simp only [loopAt, nthC, bodyC, loops, List.nil_append, List.cons_append, List.append_nil, Try.f31]
      by_cases c : min b.length 4000 < b.length
      · have c' : min b.length 4000 = 4000 := by omega
        rw [c']
        simp (implicitDefEqProofs := false) (disch := omega) [go_sem, tab31]
      · have c' : min b.length 4000 = b.length := by omega
        rw [c']
        simp (implicitDefEqProofs := false) (disch := omega) [go_sem, tab31])
    ([(0, some (.ints .u8 b)), (3, some (.int .i64 (38282 + b.length))), (4, some (.int .i64 0))], h) ⟨_, rfl⟩
  obtain ⟨v, m, hv⟩ := key
  have hl0 := fun ks => loop_v (P := Try.prog) (K := kn) (ks := ks) hv
  simp only [loopAt, nthC, bodyC, loops, List.nil_append, List.cons_append, List.append_nil, Try.f31] at hl0
  refine ⟨v, ?_⟩
  clear hv
  unfold cur
  rw [vrun_v Try.func31 rfl rfl rfl]; simp only [Try.f31]
  simp (implicitDefEqProofs := false) (disch := omega) [go_sem, tab31, hl0]
theorem gap {g : VH} {q : Nat} {o : VO} (hq : g[q]? = some o) (a : VH) : (g ++ a)[q]? = some o := by
  rw [List.getElem?_append_left (List.getElem?_eq_some_iff.1 hq).1]; exact hq
/-- The number so far: the cell that holds it, its digits, the result's cell. -/
def Bt (b : List Int) (i : Nat) (h : VH) (p : Nat) (l : List Int) (k : Nat) (g : VH) : Prop := Cu b i g ∧ Frm i h g ∧ g[p]? = some (.vals true [.sl k 0 l.length 1]) ∧ g[k]? = some (.ints true .i64 l) ∧ h.length < k ∧ h.length < p ∧ p ≠ k ∧ g[h.length]? = some (.vals true [.nil])
def btH (p k : Nat) (l : List Int) (y : Int) (g : VH) : VH := (g.set k .dead).set p (.vals true [.sl (g.length + 1) 0 (l.length + 1) 1]) ++ [.ints true .i64 [y], .ints true .i64 (l ++ [y])]
theorem Bt.step {p k : Nat} {l : List Int} {g : VH} (y : Int) (hi : i < h.length) (a : Bt b i h p l k g) : Bt b i h p (l ++ [y]) (g.length + 1) (btH p k l y g) := by
  obtain ⟨c1, f1, hp, hk, hkh, hph, hpk, hq⟩ := a
  have hpl := (List.getElem?_eq_some_iff.1 hp).1
  have hql := (List.getElem?_eq_some_iff.1 hq).1
  unfold btH
  refine ⟨((c1.setne (by omega) _).setne (by omega) _).app _, app_fr (set_fr f1 (by omega)) (by omega), ?_, ?_, by omega, hph, by omega, ?_⟩
  · rw [List.getElem?_append_left (by simpa using hpl)]; simp [hpl]
  · rw [List.getElem?_append_right (by simp)]; simp
  · rw [List.getElem?_append_left (by simpa using hql), List.getElem?_set_ne (by omega), List.getElem?_set_ne (by omega)]; exact hq
/-- What a step reads. -/
theorem Bt.rd {p k : Nat} {l : List Int} {g : VH} (a : Bt b i h p l k g) : (∀ m : VH, (g ++ m)[p]? = some (.vals true [.sl k 0 l.length 1])) ∧ (∀ m : VH, (g ++ m)[k]? = some (.ints true .i64 l)) ∧ (∀ (m : VH) (o : VO), (g ++ m).set k o = g.set k o ++ m) ∧ (∀ (m : VH) (o : VO), (g.set k o ++ m)[p]? = some (.vals true [.sl k 0 l.length 1])) ∧ (∀ (m : VH) (o o' : VO), (g.set k o ++ m).set p o' = (g.set k o).set p o' ++ m) := by
  obtain ⟨c1, f1, hp, hk, hkh, hph, hpk, hq⟩ := a
  have hpl := (List.getElem?_eq_some_iff.1 hp).1
  have hkl := (List.getElem?_eq_some_iff.1 hk).1
  exact ⟨gap hp, gap hk, fun m o => List.set_append_left _ _ hkl, fun m o => gap (by rw [List.getElem?_set_ne (Ne.symm hpk)]; exact hp) m, fun m o o' => List.set_append_left _ _ (by simpa using hpl)⟩
/-- What the end reads. -/
theorem Bt.fin {p k : Nat} {l : List Int} {g : VH} (a : Bt b i h p l k g) : g[p]? = some (.vals true [.sl k 0 l.length 1]) ∧ g[h.length]? = some (.vals true [.nil]) ∧ (∀ o : VO, (g.set h.length o)[h.length]? = some o) ∧ (∀ o : VO, Cu b i (g.set h.length o) ∨ i = h.length) ∧ (∀ o : VO, Frm i h (g.set h.length o)) ∧ ∀ o : VO, (g.set h.length o)[k]? = some (.ints true .i64 l) := by
  obtain ⟨c1, f1, hp, hk, hkh, hph, hpk, hq⟩ := a
  have hql := (List.getElem?_eq_some_iff.1 hq).1
  exact ⟨hp, hq, fun o => by simp [hql], fun o => (Nat.lt_or_ge i h.length).elim (fun _ => by
    by_cases e : i = h.length
    · exact .inr e
    · exact .inl (c1.setne (by omega) _)) (fun _ => by
    by_cases e : i = h.length
    · exact .inr e
    · exact .inl (c1.setne (by omega) _)), fun o => set_fr f1 (Nat.le_refl _), fun o => by rw [List.getElem?_set_ne (by omega)]; exact hk⟩
/-- What a bent number's digits may be. -/
def Bd (l : List Int) : Prop := ∀ x ∈ l, -1 ≤ x ∧ x ≤ 65536
theorem Bd.snoc {l : List Int} (h : Bd l) {y : Int} (h0 : -1 ≤ y) (h1 : y ≤ 65536) : Bd (l ++ [y]) := fun x hx => by
  rcases List.mem_append.1 hx with hx | hx
  · exact h x hx
  · simp at hx; omega
theorem bd_D (n : Nat) : Bd (D n) := fun x hx => by have := good_D n x hx; omega
def beX (j : Nat) : VE := if j = 0 then [(35, some (.bool false))] else []
def beI (b : List Int) (i : Nat) (h : VH) (p n0 j : Nat) (s : VE × VH) : Prop := ∃ (l : List Int) (k : Nat) (g : VH), s = ((2, some (.ptr h.length 0)) :: (3, some (.ptr p 0)) :: beX j, g) ∧ l.length = n0 + j ∧ Bt b i h p l k g ∧ Bd l
end
end
/- The reference's whole numbers of the machine; dyadics of a whole number and a power. No conditions. -/
section
open Num
theorem wholeOk_D {a : Nat} {w : Bool} (ha : (D a).length ≤ 100) (hw : a = 0 → w = false) : wholeOkB w (D a) = true := by
  unfold wholeOkB
  rw [natOkB_D]
  by_cases h0 : a = 0
  · rw [hw h0]; simp [ha]
  · have : ¬ (D a).length = 0 := fun h => h0 (D_nil_iff.1 (List.eq_nil_of_length_eq_zero h))
    simp [this, ha]
end
/- Whole numbers drawn, bent. No conditions. -/
section
open Num
section
variable {h : VH} {b : List Int} {i : Nat}
/-- Digits as a value. -/
def Dg (g : VH) (m : Nat) (x : V) (l : List Int) : Prop := x = .ints .i64 l ∨ (x = .nil ∧ l = []) ∨ ∃ k, x = .sl k 0 l.length 1 ∧ m < k ∧ g[k]? = some (.ints true .i64 l)
theorem set_at {g : VH} {q : Nat} {o : VO} (hq : g[q]? = some o) (X : VO) : (g.set q X)[q]? = some X := by
  have := (List.getElem?_eq_some_iff.1 hq).1
  simp [this]
theorem set_ne {g : VH} {q p : Nat} (h : q ≠ p) (X : VO) : (g.set q X)[p]? = g[p]? := List.getElem?_set_ne h
theorem l3draw_v (d : Nat) (hb : Cod b) (hc : Cu b i h) : ∃ (n : Bool) (a : Nat) (g : VH), vrun Try.prog kn (d + 6) 34 [.ptr i 0] h = some (.agg [.bool n, .ints .i64 (D a)], g) ∧ (a = 0 → n = false) ∧ (D a).length ≤ 100 ∧ Cu b i g ∧ Frm i h g := by
  obtain ⟨x1, g1, e1, q1, f1, l1⟩ := l1Once_v (d + 2) hb (hc.app [.vals true [.bool false, .nil]]) (n := 2) (by omega) (by omega)
  obtain ⟨v, k, g2, e2, hn, q2, f2, hk, hk0⟩ := l2draw_v (d + 0) hb q1
  have hi := hc.lt
  have hg1 : g1[h.length]? = some (.vals true [.bool false, .nil]) := f1.at (by simp) (by omega)
  have hg2 := f2.at hg1 (by omega)
  have hp3 : (g2.modify k VO.ro)[h.length]? = some (.vals true [.bool false, .nil]) := by rw [mod_ne (by have := (List.getElem?_eq_some_iff.1 hg1).1; omega)]; exact hg2
  have hset := set_at hp3
  have a3 := fun d => l3make_v (n := x1) (a := v) d (by omega)
  have hlt1 := (List.getElem?_eq_some_iff.1 hg1).1
  refine ⟨x1 && decide (v ≠ 0), v, (g2.modify k VO.ro).set h.length (.vals true [.bool (x1 && decide (v ≠ 0)), .ints .i64 (D v)]), ?_, fun h => by simp [h], hn, (q2.modne (by omega)).setne (by omega) _, set_fr (mod_fr (((Frm.app _ _ _).trans f1).trans f2) (by omega)) (Nat.le_refl _)⟩
  generalize D v = R at *
  generalize (x1 && decide (v ≠ 0)) = B at *
  clear hlt1
  rw [vrun_v Try.func34 rfl rfl rfl]; simp only [Try.f34]
  simp (implicitDefEqProofs := false) (disch := omega) [go_sem, tab34, e1, e2, a3, hk0, hg2, hp3, hset]
end
end
/- Texts drawn off a code for the laws. No conditions. -/
section
open Num
section
variable {b : List Int}
theorem DrawPlain_v (d : Nat) (hb : Cod b) : ∃ T : List Int, vrun Try.prog kn (d + 6) 6 [.ints .u8 b] [] = some (.ints .u8 T, []) ∧ T.length ≤ 500 ∧ ∀ x ∈ T, 0 ≤ x ∧ x < 256 := by
  obtain ⟨s, e0⟩ := l1New_v (h := []) (d + 4) hb
  simp only [List.length_nil, List.nil_append] at e0
  have c0 : Cu b 0 [cur b 0 s] := ⟨0, s, rfl, by omega, by omega⟩
  obtain ⟨q, n, L, g, e1, a, hn⟩ := l1draw_v (d + 0) hb c0
  have o := a.o
  have hl := a.n
  refine ⟨L.take n, ?_, by simp; omega, fun x hx => a.by' x (List.mem_of_mem_take hx)⟩
  clear a
  rw [vrun_v Try.func6 rfl rfl rfl]; simp only [Try.f6]
  simp (implicitDefEqProofs := false) (disch := omega) [go_sem, tab6, nil6, e0, e1, o, hl]
theorem l3text_v (d : Nat) {n : Bool} {a : Nat} (ha : (D a).length ≤ 100) : vrun Try.prog kn (d + 4) 33 [.agg [.bool n, .ints .i64 (D a)]] [] = some (.ints .u8 (if n then 45 :: text a else text a), []) := by
  have h1 := fun d => l2text_v d (n := a) (by omega)
  have hl := text_le ha
  generalize D a = A at *
  generalize text a = T at *
  have ht : T.take T.length = T := List.take_length ..
  have ht2 : (45 :: T).take (1 + T.length) = 45 :: T := List.take_of_length_le (by simp; omega)
  cases n
  all_goals
    rw [vrun_v Try.func33 rfl rfl rfl]; simp only [Try.f33]
    simp (implicitDefEqProofs := false) (disch := omega) [go_sem, tab33, nil33, h1, ht, ht2]
def dwS (T : List Int) (sh : Int) (q n j : Nat) : VE := [(3, some (.ptr 0 0)), (4, some (.ints .u8 T)), (5, some (.int .i64 sh)), (6, some (.sl q 0 n 1)), (7, some (.int .i64 j))]
theorem dw_r (d : Nat) (hb : Cod b) {h g : VH} {q n j : Nat} {L T : List Int} {sh : Int} (a : TxI b 0 h g q n L) (hn : n ≤ 4 * j) (hj : j < T.length) (hT : T.length < 200000) (hTb : ∀ x ∈ T, x = 45 ∨ (48 ≤ x ∧ x ≤ 57)) (s0 : 0 ≤ sh) (s1 : sh ≤ 70000) :
    ∃ (g' : VH) (q' n' : Nat) (L' : List Int), vCode Try.prog kn (vrun Try.prog kn (d + 6)) 8 (loopAt Try.f8 0) (dwS T sh q n j) g = some (.norm, dwS T sh q' n' (j + 1), g') ∧ TxI b 0 h g' q' n' L' ∧ n' ≤ 4 * (j + 1) := by
  have hx := hTb _ (gt_mem hj)
  have hnl := a.n
  have o := a.o
  by_cases h45 : gt T j = 45
  · obtain ⟨y, g1, e1, ym, c1, f1, l1⟩ := l1Pick_v (d + 3) hb (a.c.app [.ints true .i64 [45, 8722, 65293, 43]]) (L := [45, 8722, 65293, 43]) nx (n := 4) rfl (by simp) (by simp)
    have a1 := a.step c1 ((Frm.app _ _ _).trans f1)
    have e2 := fun d => sRuneBytes_v (r := y) d
    have hr := rbF_len4 y
    have hby := rbF_byte (r := y)
    have o1 := a1.o
    have go := fun t => gapP o t
    generalize rbF y = M at *
    refine ⟨_, _, _, _, ?_, a1.app (M := M) [] hby, by omega⟩
    clear a a1 c1 f1 hby hTb
    rw [round_v]; simp only [loopAt, nthC, bodyC, loops, List.nil_append, List.cons_append, List.append_nil, Try.f8, dwS]
    simp (implicitDefEqProofs := false) (disch := omega) [go_sem, tab8, nil8, e1, e2, o1, h45]
  · have hx2 : 48 ≤ gt T j ∧ gt T j ≤ 57 := by omega
    generalize hz : gt T j = z at *
    have w1 := wu8' (x := z - 48) (by omega) (by omega)
    have e2 := fun d => sRuneBytes_v (r := sh + (z - 48)) d
    have hr := rbF_len4 (sh + (z - 48))
    have hby := rbF_byte (r := sh + (z - 48))
    generalize rbF (sh + (z - 48)) = M at *
    refine ⟨_, _, _, _, ?_, a.app (M := M) [] hby, by omega⟩
    clear a hby hTb
    rw [round_v]; simp only [loopAt, nthC, bodyC, loops, List.nil_append, List.cons_append, List.append_nil, Try.f8, dwS]
    simp (implicitDefEqProofs := false) (disch := omega) [go_sem, tab8, nil8, e2, o, h45, hz, w1]
theorem DrawWholeRead_v (d : Nat) (hb : Cod b) : ∃ T : List Int, vrun Try.prog kn (d + 7) 8 [.ints .u8 b] [] = some (.ints .u8 T, []) ∧ T.length ≤ 1000000 ∧ ∀ x ∈ T, 0 ≤ x ∧ x < 256 := by
  obtain ⟨s, e0⟩ := l1New_v (h := []) (d + 5) hb
  simp only [List.length_nil, List.nil_append] at e0
  have c0 : Cu b 0 [cur b 0 s] := ⟨0, s, rfl, by omega, by omega⟩
  obtain ⟨sn, w, g1, e1, -, hw, c1, f1⟩ := l3draw_v (d + 0) hb c0
  have e2 := fun d => l3text_v d (n := sn) (a := w) hw
  have hTl : (if sn then 45 :: text w else text w).length < 200000 := by
    have := text_le hw
    split <;> simp <;> omega
  have hTb : ∀ x ∈ (if sn then 45 :: text w else text w), x = 45 ∨ (48 ≤ x ∧ x ≤ 57) := by
    intro x hx
    split at hx
    · rcases List.mem_cons.1 hx with rfl | hx
      · exact .inl rfl
      · exact .inr (text_bd w x hx)
    · exact .inr (text_bd w x hx)
  generalize (if sn then 45 :: text w else text w) = T at *
  obtain ⟨sh, g2, e3, ym, c2, f2, l2⟩ := l1Pick_v (d + 3) hb (c1.app [.ints true .i64 [48, 48, 1632, 1776, 2406, 65296]]) (L := [48, 48, 1632, 1776, 2406, 65296]) nx (n := 6) rfl (by simp) (by simp)
  have yb : 0 ≤ sh ∧ sh ≤ 70000 := by
    simp only [List.mem_cons, List.not_mem_nil, or_false] at ym
    omega
  have a0 : TxI b 0 g2 (g2 ++ [.ints true .u8 []]) g2.length 0 [] := ⟨c2.app _, nx, Nat.le_refl _, Frm.app _ _ _, by simp, fun x hx => by simp at hx⟩
  have key := vi_inv (n := kn.cf.rounds) (body := vCode Try.prog kn (vrun Try.prog kn (d + 6)) 8 (loopAt Try.f8 0))
    (fun j s => ∃ (g' : VH) (q' n' : Nat) (L' : List Int), s = (dwS T sh q' n' j, g') ∧ TxI b 0 g2 g' q' n' L' ∧ n' ≤ 4 * j)
    (fun r => ∃ (g' : VH) (q' n' : Nat) (L' : List Int), r = some (.exit 0, dwS T sh q' n' T.length ++ [(19, some (.bool false))], g') ∧ TxI b 0 g2 g' q' n' L' ∧ n' ≤ 800000) T.length (by rw [k_cf, c_rounds]; omega)
    (fun j s hj hI => by
      obtain ⟨g', q', n', L', rfl, a', hn⟩ := hI
      left
      obtain ⟨g3, q3, n3, L3, e, a3, hn3⟩ := dw_r d hb a' hn hj hTl hTb yb.1 yb.2
      exact ⟨(dwS T sh q3 n3 (j + 1), g3), e, g3, q3, n3, L3, rfl, a3, hn3⟩)
    (fun s hI m => by
      obtain ⟨g', q', n', L', rfl, a', hn⟩ := hI
      refine ⟨g', q', n', L', vi_exit ?_, a', by omega⟩
      clear a' hTb
      rw [round_v]; simp only [loopAt, nthC, bodyC, loops, List.nil_append, List.cons_append, List.append_nil, Try.f8, dwS]
      simp (implicitDefEqProofs := false) (disch := omega) [go_sem, tab8, nil8])
    (dwS T sh g2.length 0 0, g2 ++ [.ints true .u8 []]) ⟨_, _, _, [], rfl, a0, by omega⟩
  obtain ⟨g3, q3, n3, L3, hv, a3, hn3⟩ := key
  have hl0 := fun ks => loop_v (P := Try.prog) (K := kn) (ks := ks) hv
  simp only [loopAt, nthC, bodyC, loops, List.nil_append, List.cons_append, List.append_nil, Try.f8, dwS, Int.natCast_zero, List.cons_append, List.nil_append] at hl0
  clear hv
  obtain ⟨t1, g4, e4, c4, f4, l4⟩ := l1Once_v (d + 3) hb a3.c (n := 4) (by omega) (by omega)
  have a4 := a3.step c4 f4
  have o4 := a4.o
  have h4 := a4.n
  cases t1 with
  | false =>
    refine ⟨L3.take n3, ?_, by simp; omega, fun x hx => a4.by' x (List.mem_of_mem_take hx)⟩
    clear a0 a3 a4 hTb
    rw [vrun_v Try.func8 rfl rfl rfl]; simp only [Try.f8]
    simp (implicitDefEqProofs := false) (disch := omega) [go_sem, tab8, nil8, e0, e1, e2, e3, hl0, e4, o4, h4]
  | true =>
    obtain ⟨q5, n5, L5, g5, e5, a5, hn5⟩ := l1draw_v (d + 1) hb a4.c
    have a6 := a4.step a5.c a5.f
    have o5 := a5.o
    have o6 := a6.o
    have h5 := a5.n
    refine ⟨L3.take n3 ++ L5.take n5, ?_, by simp; omega, fun x hx => ?_⟩
    · have nl : ∀ X o, (g5.set q3 X ++ [o])[g5.length]? = some o := fun X o => by rw [List.getElem?_append_right (by simp)]; simp
      have hA : (L3.take n3 ++ L5.take n5).length = n3 + n5 := by simp; omega
      have hA2 : (L3.take n3 ++ L5.take n5).take (n3 + n5) = L3.take n3 ++ L5.take n5 := List.take_of_length_le (by omega)
      clear a0 a3 a4 a5 a6 hTb
      rw [vrun_v Try.func8 rfl rfl rfl]; simp only [Try.f8]
      simp (implicitDefEqProofs := false) (disch := omega) [go_sem, tab8, nil8, e0, e1, e2, e3, hl0, e4, e5, o5, o6, h4, h5, nl, hA, hA2]
    · rcases List.mem_append.1 hx with hx | hx
      · exact a4.by' x (List.mem_of_mem_take hx)
      · exact a5.by' x (List.mem_of_mem_take hx)
end
end
/- What the laws over codes do beside: equality of naturals, longer codes. No conditions. -/
section
open Num
section
variable {a b : List Int}
def snS (a b : List Int) (j : Nat) : VE × VH := ([(2, some (.ptr 0 0)), (3, some (.ptr 1 0)), (5, some (.int .i64 j))], [.vals true [.ints .i64 a], .vals true [.ints .i64 b]])
theorem sameNat_v (d : Nat) (ha : a.length < 1000000000) (hb : b.length < 1000000000) : vrun Try.prog kn (d + 1) 45 [.agg [.ints .i64 a], .agg [.ints .i64 b]] [] = some (.bool (decide (a = b)), []) := by
  by_cases hl : ¬ a.length = b.length
  · have : ¬ a = b := fun h => hl (by rw [h])
    have h' : ¬ (a.length : Int) = b.length := by omega
    rw [vrun_v Try.func45 rfl rfl rfl]; simp only [Try.f45]
    simp (disch := omega) [go_sem, tab45, h', this, hl]
  rw [Decidable.not_not] at hl
  have key := vi_inv (n := kn.cf.rounds) (body := vCode Try.prog kn (vrun Try.prog kn d) 45 (loopAt Try.f45 0)) (fun j s => s = snS a b j ∧ a.take j = b.take j)
    (fun r => (r = some (.exit 0, (snS a b a.length).1 ++ [(17, some (.bool false))], (snS a b a.length).2) ∧ a = b) ∨ (r = some (.ret, [(4, some (.bool false))], []) ∧ ¬ a = b)) a.length (by rw [k_cf, c_rounds]; omega)
    (fun j s hj hI => by
      obtain ⟨rfl, hI⟩ := hI
      have hja : a[j]? = some (gt a j) := by rw [gt]; simp [hj]
      have hjb : b[j]? = some (gt b j) := by rw [gt]; simp [show j < b.length by omega]
      by_cases hq : gt a j = gt b j
      · left
        refine ⟨snS a b (j + 1), ?_, rfl, ?_⟩
        · rw [round_v]; simp only [loopAt, nthC, bodyC, loops, List.nil_append, List.cons_append, List.append_nil, Try.f45, snS]
          simp (disch := omega) [go_sem, tab45, hq]
        · rw [List.take_add_one, List.take_add_one, hI, hja, hjb, hq]
      · right; intro m; right
        refine ⟨vi_ret ?_, fun h => hq (by rw [h])⟩
        rw [round_v]; simp only [loopAt, nthC, bodyC, loops, List.nil_append, List.cons_append, List.append_nil, Try.f45, snS]
        simp (disch := omega) [go_sem, tab45, hq])
    (fun s hI m => by
      obtain ⟨rfl, hI⟩ := hI
      left
      refine ⟨vi_exit ?_, by rwa [List.take_length, hl, List.take_length] at hI⟩
      rw [round_v]; simp only [loopAt, nthC, bodyC, loops, List.nil_append, List.cons_append, List.append_nil, Try.f45, snS]
      simp (disch := omega) [go_sem, tab45])
    (snS a b 0) ⟨rfl, by simp⟩
  rcases key with ⟨hv, hq⟩ | ⟨hv, hq⟩
  · rw [decide_eq_true hq]
    have hl0 := fun ks => loop_v (P := Try.prog) (K := kn) (ks := ks) hv
    simp only [loopAt, nthC, bodyC, loops, List.nil_append, List.cons_append, List.append_nil, Try.f45, snS, Int.natCast_zero, List.cons_append, List.nil_append] at hl0
    rw [vrun_v Try.func45 rfl rfl rfl]; simp only [Try.f45]
    simp (disch := omega) [go_sem, tab45, hl, hl0]
  · rw [decide_eq_false hq]
    have hl0 := fun ks => loop_v (P := Try.prog) (K := kn) (ks := ks) hv
    simp only [loopAt, nthC, bodyC, loops, List.nil_append, List.cons_append, List.append_nil, Try.f45, snS, Int.natCast_zero, List.cons_append, List.nil_append] at hl0
    rw [vrun_v Try.func45 rfl rfl rfl]; simp only [Try.f45]
    simp (disch := omega) [go_sem, tab45, hl, hl0]
theorem cod_of (hb : b.length ≤ 140737488351232) (hw : ∀ x ∈ b, (Lit.int .u8 x).wf = true) : Cod b := ⟨by omega, fun x hx => by
  have h := hw x hx
  simp only [Go.Lit.wf, Go.IntKind.min, Go.IntKind.max, Go.IntKind.signed, Go.IntKind.bits, Bool.and_eq_true, decide_eq_true_eq, Bool.false_eq_true, if_false] at h
  omega⟩
theorem cod_more (hb : b.length ≤ 140737488351232) (hw : ∀ x ∈ b, (Lit.int .u8 x).wf = true) : Cod (1 :: 7 :: b) := ⟨by simp only [List.length_cons]; omega, fun x hx => by
  rcases List.mem_cons.1 hx with rfl | hx
  · omega
  · rcases List.mem_cons.1 hx with rfl | hx
    · omega
    · exact (cod_of hb hw).2 x hx⟩
end
end
/- Equality of whole numbers, laws. No conditions. -/
section
open Num
section
variable {a b : List Int}
theorem sameWhole_v (d : Nat) {n1 n2 : Bool} (ha : a.length < 1000000000) (hb : b.length < 1000000000) : vrun Try.prog kn (d + 2) 15 [.agg [.bool n1, .ints .i64 a], .agg [.bool n2, .ints .i64 b]] [] = some (.bool (decide (n1 = n2) && decide (a = b)), []) := by
  have h1 := fun d => sameNat_v d ha hb
  by_cases h : a = b <;> simp only [h, decide_true, decide_false, Bool.and_true, Bool.and_false] at h1 ⊢
  all_goals
    rw [vrun_v Try.func15 rfl rfl rfl]; simp only [Try.f15]
    cases n1 <;> cases n2 <;> simp (disch := omega) [go_sem, tab15, h1]
end
end
/- The laws' types as values. No conditions. -/
section
open Go.Proofs Num
def DyT.row (x : DyT) : Prop := x.l.length ≤ 9223372036854775807 ∧ (∀ y ∈ x.l, (Lit.int .i64 y).wf = true) ∧ (Lit.int .i64 x.e).wf = true
def TInt (vs : List V) : Prop := ∃ x : Int, vs = [.int .i64 x] ∧ (Lit.int .i64 x).wf = true
def TBool (vs : List V) : Prop := ∃ x : Bool, vs = [.bool x]
def TInts (vs : List V) : Prop := ∃ l : List Int, vs = [.ints .i64 l] ∧ l.length ≤ 9223372036854775807 ∧ ∀ x ∈ l, (Lit.int .i64 x).wf = true
def TDys (vs : List V) : Prop := ∃ ds : List DyT, vs = [.cells 3 ds.length (flat DyT.v ds)] ∧ ds.length ≤ 9223372036854775807 ∧ ∀ x ∈ ds, x.row
theorem opInt : OpV Try.prog 3 1 TInt := OpV.int Try.underlying3 (by kernel_rfl)
theorem opBool : OpV Try.prog 4 1 TBool := OpV.bool Try.underlying4 (by kernel_rfl)
theorem opInts : OpV Try.prog 24 1 TInts := OpV.ints Try.underlying24 (by kernel_rfl) Try.underlying3 (by kernel_rfl)
theorem opBytes : OpV Try.prog 22 1 (fun vs => ∃ l : List Int, vs = [.ints .u8 l] ∧ l.length ≤ 9223372036854775807 ∧ ∀ x ∈ l, (Lit.int .u8 x).wf = true) := OpV.ints Try.underlying22 (by kernel_rfl) Try.underlying5 (by kernel_rfl)
theorem opNat : OpV Try.prog 37 1 TInts := OpV.struct1 Try.underlying37 (by kernel_rfl) rfl opInts
theorem opWhole : OpV Try.prog 39 2 (fun vs => ∃ (n : Bool) (l : List Int), vs = [.bool n, .ints .i64 l] ∧ l.length ≤ 9223372036854775807 ∧ ∀ x ∈ l, (Lit.int .i64 x).wf = true) :=
  (OpV.struct2 Try.underlying39 (by kernel_rfl) rfl rfl opBool opNat).imp fun vs ⟨_, _, e, ⟨n, e1⟩, ⟨l, e2, h1, h2⟩⟩ => ⟨n, l, by rw [e, e1, e2]; rfl, h1, h2⟩
theorem opDy : OpV Try.prog 41 3 (fun vs => ∃ x : DyT, vs = x.v ∧ x.row) :=
  (OpV.struct2 Try.underlying41 (by kernel_rfl) rfl rfl opWhole opInt).imp fun vs ⟨_, _, e, ⟨n, l, e1, h1, h2⟩, ⟨x, e2, h3⟩⟩ => ⟨⟨n, l, x⟩, by rw [e, e1, e2]; rfl, h1, h2, h3⟩
theorem opDys : OpV Try.prog 52 1 TDys := OpV.cells Try.underlying52 (by kernel_rfl) opDy (by omega)
theorem opMat : OpV Try.prog 54 2 (fun vs => ∃ (N : Int) (ds : List DyT), vs = [.int .i64 N, .cells 3 ds.length (flat DyT.v ds)] ∧ (Lit.int .i64 N).wf = true ∧ ds.length ≤ 9223372036854775807 ∧ ∀ x ∈ ds, x.row) :=
  (OpV.struct2 Try.underlying54 (by kernel_rfl) rfl rfl opInt opDys).imp fun vs ⟨_, _, e, ⟨n, e1, h1⟩, ⟨ds, e2, h2, h3⟩⟩ => ⟨n, ds, by rw [e, e1, e2]; rfl, h1, h2, h3⟩
end
end Go.Eng
