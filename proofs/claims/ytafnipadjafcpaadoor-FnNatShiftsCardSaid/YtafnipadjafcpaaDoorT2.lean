/- What the functions of this seat do, one after another, told by plain values. No conditions. -/
import Derived.Test.YtafnipadjafcpaaDoorSeat
import Derived.Test.YtafnipadjafcpaaDoorVb
import Derived.Test.YtafnipadjafcpaaDoorT1
set_option linter.unusedVariables false
set_option linter.unusedSimpArgs false
namespace Go.Eng
open Go.Proofs
set_option maxRecDepth 100000
set_option linter.unusedSimpArgs false
attribute [local go_sem] r_seq r_skip r_retC r_exitC r_label r_block r_region r_regionW r_xWt r_xW r_cond r_Bt r_Bf r_Ncode r_Nret r_Nexit r_Nblk r_Nblkr r_Nblke r_Nnil r_Es r_Onil r_Oop r_Oif r_Xs r_Gt r_Gf r_wtt r_wtf r_wft r_wff r_wu r_gO r_putS r_putN r_get r_keepN r_keepC r_fr r_fn r_fi r_ff r_fo r_l1 r_l2t r_cun r_cul r_cub r_cui r_cus r_cuis r_cuc r_cusl r_cuti r_cutv r_ven r_vec r_l2f r_l3 r_t1 r_t2 r_t0 r_rt r_rc r_en r_ec r_cM r_oN r_oC r_end r_endt r_endf r_nob0 r_nobN r_nobC r_nobE r_nb0 r_nbi r_nbs r_nbsl r_nbin r_nbce r_nLn r_nLv r_nLc r_nAa r_nAn r_nAk_b r_nAk_i r_nAk_s r_nAk_n r_nAk_is r_nAk_ce r_nAk_fp r_nAk_sl r_nAk_pt r_nAk_fn r_nsn r_nsv r_nsc r_m0 r_mi r_ms r_msl r_min r_mce r_mLn r_mLv r_mLc r_mAa r_mAn r_mAk_b r_mAk_i r_mAk_s r_mAk_n r_mAk_is r_mAk_ce r_mAk_fp r_mAk_sl r_mAk_pt r_mAk_fn r_msn r_msv r_msc r_atb r_ati r_ats r_atn r_atis r_atc r_atf r_atl r_atp r_atfn r_gcn r_gcc r_gLn r_gLc r_gIt r_ndn r_ndc r_gcB r_gLB r_two r_rea r_rea0 r_re1n r_re1c r_ori r_orv r_ord r_orn r_adn r_adc r_ad1 r_ern r_ers r_er0 r_rsl r_rptr r_rb r_ri r_rs r_rn r_ris r_rce r_rfp r_ra4 r_ra3 r_rt4 r_rf4 r_rf3 r_idS r_idc r_nS r_nP r_nF r_nT r_vsl r_vptr r_vb r_vi r_vs r_vn r_vis r_vce r_vfp r_va4 r_va3 r_vt4 r_vf4 r_vf3 r_rV r_Oi r_Ov r_Od r_rE r_rE0 r_En r_Ec r_E0 r_pO r_pk r_agL r_cO r_fO r_fSi r_fSv r_fPv r_fsl r_fptr r_ffn r_fag r_fb r_fint r_fstr r_fnil r_fis r_fce r_ffp r_res r_move r_assign r_pick r_pickt r_pickf r_alloc r_box r_al r_build r_bslice r_load r_store r_nlc r_nl1 r_nl2 r_bin r_un r_conv r_mkf r_mks r_slc r_fad r_fld r_iad r_idx r_ext r_ex1 r_callf r_callt r_callen r_calapp r_calmax r_calmin r_vt r_vcb r_vci r_vcs r_vcnp r_vcn r_vca r_vcf r_vcg r_ofb r_ofi r_ofs r_ofn r_evs r_pn r_prt r_pc r_one_a r_one_b r_one_i r_one_s r_one_n r_one_is r_one_ce r_one_fp r_one_sl r_one_pt r_one_fn r_cs_a r_cs_b r_cs_i r_cs_s r_cs_n r_cs_is r_cs_ce r_cs_fp r_cs_sl r_cs_pt r_cs_fn r_tov r_tovA r_toc r_toa r_tb r_ti r_ts r_tn r_bd r_bd2 r_filn r_fp1 r_filc r_fsn r_fsc r_san r_sac r_bs2 r_bs1 r_newO r_mkq r_mkI r_mkOi r_mkOv r_tIn r_tIc r_repz r_repn r_ldp r_ldf r_l1t r_l1f r_lFt r_lFf r_aggO r_obj r_at r_ati' r_atv r_celli r_cellv r_subi r_subv r_sto r_sto1 r_sto2 r_sets r_setR r_setn r_setc r_s1i r_s1v r_bin1 r_bin2 r_tv1 r_cb r_ci r_cst r_cn r_csl r_cis r_cce r_uni r_unb r_cv r_cvO r_cvN r_cv0 r_cvS r_wB r_cvi r_cvs r_cvb r_cvl r_sO r_rdn r_rdi r_rdl r_rdO r_vsub r_vfn r_mk r_mk1 r_mk2 r_zoi r_zov r_leni r_lenv r_bn r_bndV r_bo r_sl0 r_sl1 r_vsz r_ct1 r_cts r_cti r_ctc r_ctn r_lnl r_lni r_lnc r_lnn r_fa r_fap r_faf r_fi1 r_fit r_fif r_ixi r_ixs r_ixc r_ixf r_ixF r_ixF2 r_ix1 r_ixsl r_ixin r_ixce r_len1 r_lenA r_lTs r_lTn r_lTl r_lTi r_lTc r_app0 r_app r_app1 r_app2 r_app3 r_catO r_cati r_catv r_newt r_newf r_pair r_pairK r_trip r_kis r_kiv r_srn r_srl r_sri r_src r_srs r_oln r_oll r_vw r_wi r_wv r_mm r_max r_min' r_str r_cF r_c2t r_c3f r_c3t r_ab r_c2f r_cV r_p1 r_la r_la2t r_la2f r_la3 r_sh r_z_is r_z_ce r_z_fp r_z_b r_z_i r_z_s r_z_n r_z_l r_z_p r_z_a4 r_z_a3 r_z_t4 r_zoI r_zoV r_roN r_roC r_roi r_rod r_zod r_rov r_aR r_trOi r_trOv r_trPv r_trl r_trp r_trf r_tra r_trb r_tri r_trs r_trn r_tris r_trce r_trfp r_vJ r_vJs r_vJn
attribute [local go_sem] b_add b_sub b_mul b_quo b_rem b_shl b_shr b_eql b_neq b_lss b_leq b_gtr b_geq eqB_s b_eqB b_neB u_neg u_not b_nn b_nn' eqS_s zerosT_s zerosT_n zt_i zt_sl zt_st dstOf_z dstOf_n iltT iltF ileT ileF ieqT ieqF nltT nltF nleT nleF neqT neqF tdiv_pos tmod_pos w64 idx0 List.take_of_length_le
/- Drawing numbers off a code: bytes, numbers below a bound, picks. No conditions. -/
section
open Num
/-- A cursor. -/
def cur (b : List Int) (c s : Int) : VO := .vals true [.ints .u8 b, .int .i64 c, .int .i64 s]
/-- The cursor over b lies at i. -/
def Cu (b : List Int) (i : Nat) (h : VH) : Prop := ∃ c s, h[i]? = some (cur b c s) ∧ 0 ≤ c ∧ c ≤ b.length
/-- All but the cursor is as it was. -/
def Frm (i : Nat) (h g : VH) : Prop := h.length ≤ g.length ∧ ∀ q, q < h.length → q ≠ i → g[q]? = h[q]?
def Cod (b : List Int) : Prop := b.length ≤ 140737488355000 ∧ ∀ x ∈ b, 0 ≤ x ∧ x < 256
theorem Frm.refl (i : Nat) (h : VH) : Frm i h h := ⟨Nat.le_refl _, fun _ _ _ => rfl⟩
theorem Frm.trans {i : Nat} {h g k : VH} (a : Frm i h g) (b : Frm i g k) : Frm i h k := ⟨Nat.le_trans a.1 b.1, fun q hq hi => (b.2 q (Nat.lt_of_lt_of_le hq a.1) hi).trans (a.2 q hq hi)⟩
theorem Frm.app (i : Nat) (h a : VH) : Frm i h (h ++ a) := ⟨by simp, fun q hq _ => List.getElem?_append_left hq⟩
theorem Frm.set (i : Nat) (h : VH) (o : VO) : Frm i h (h.set i o) := ⟨by simp, fun q _ hi => List.getElem?_set_ne (Ne.symm hi)⟩
theorem Frm.at {i : Nat} {h g : VH} (a : Frm i h g) {q : Nat} {o : VO} (hq : h[q]? = some o) (hi : q ≠ i) : g[q]? = some o := by
  rw [a.2 q (List.getElem?_eq_some_iff.1 hq).1 hi]; exact hq
theorem Cu.lt {b : List Int} {i : Nat} {h : VH} (a : Cu b i h) : i < h.length := by obtain ⟨c, s, h1, _⟩ := a; exact (List.getElem?_eq_some_iff.1 h1).1
theorem Cu.app {b : List Int} {i : Nat} {h : VH} (a : Cu b i h) (m : VH) : Cu b i (h ++ m) := by
  obtain ⟨c, s, h1, h2⟩ := a
  exact ⟨c, s, by rw [List.getElem?_append_left (List.getElem?_eq_some_iff.1 h1).1]; exact h1, h2⟩
theorem Cu.set {b : List Int} {i : Nat} {h : VH} (hi : i < h.length) {c s : Int} (h0 : 0 ≤ c) (h1 : c ≤ b.length) : Cu b i (h.set i (cur b c s)) := ⟨c, s, by simp [hi], h0, h1⟩
theorem Cu.setne {b : List Int} {i k : Nat} {h : VH} (a : Cu b i h) (hk : k ≠ i) (o : VO) : Cu b i (h.set k o) := by
  obtain ⟨c, s, h1, h2⟩ := a
  exact ⟨c, s, by rw [List.getElem?_set_ne hk]; exact h1, h2⟩
def lcg (s : Int) : Int := IntKind.wrap .i64 (IntKind.wrap .i64 (s * 6364136223846793005) + 1442695040888963407)
def mixB (s : Int) : Int := and255 (xor64 (s.fdiv 8589934592) (s.fdiv 35184372088832))
section
variable {h : VH} {b : List Int} {i : Nat}
theorem l1Byte_v (d : Nat) (hb : Cod b) (hc : Cu b i h) : ∃ (x : Int) (g : VH), vrun Tryd.prog kn (d + 1) 49 [.ptr i 0] h = some (.int .i64 x, g) ∧ 0 ≤ x ∧ x < 256 ∧ Cu b i g ∧ Frm i h g ∧ g.length = h.length := by
  obtain ⟨c, s, hi, c0, c1⟩ := hc
  have hlt := (List.getElem?_eq_some_iff.1 hi).1
  unfold cur at hi
  have g1 : ∀ x, (h.set i x)[i]? = some x := fun x => by simp [hlt]
  by_cases hcl : c < b.length
  · have hg : 0 ≤ gt b c.toNat ∧ gt b c.toNat < 256 := hb.2 _ (gt_mem (by omega))
    have hm0 := and255_bd (xor64 ((lcg s).fdiv 8589934592) ((lcg s).fdiv 35184372088832))
    refine ⟨and255 (mixB (lcg s) + gt b c.toNat), h.set i (cur b (c + 1) (lcg s)), ?_, (and255_bd _).1, (and255_bd _).2, Cu.set hlt (by omega) (by omega), Frm.set _ _ _, by simp⟩
    unfold mixB lcg cur at *
    have hb1 := hb.1
    clear hlt
    rw [vrun_v Tryd.func49 rfl rfl rfl]; simp only [Tryd.f49]
    simp (implicitDefEqProofs := false) (disch := omega) [go_sem, tab49, hi, g1, b_and255, b_xor64, IntKind.bits, List.set_set]
  · refine ⟨mixB (lcg s), h.set i (cur b c (lcg s)), ?_, (and255_bd _).1, (and255_bd _).2, Cu.set hlt c0 c1, Frm.set _ _ _, by simp⟩
    unfold mixB lcg cur
    have hb1 := hb.1
    clear hlt
    rw [vrun_v Tryd.func49 rfl rfl rfl]; simp only [Tryd.f49]
    simp (implicitDefEqProofs := false) (disch := omega) [go_sem, tab49, hi, g1, b_and255, b_xor64, IntKind.bits, List.set_set]
theorem l1Below_v (d : Nat) (hb : Cod b) (hc : Cu b i h) {n : Int} (n0 : 0 < n) (n1 : n ≤ 4294967296) : ∃ (x : Int) (g : VH), vrun Tryd.prog kn (d + 2) 34 [.ptr i 0, .int .i64 n] h = some (.int .i64 x, g) ∧ 0 ≤ x ∧ x < n ∧ Cu b i g ∧ Frm i h g ∧ g.length = h.length := by
  obtain ⟨x1, g1, e1, a1, a1', q1, f1, l1⟩ := l1Byte_v d hb hc
  by_cases hn : n ≤ 256
  · refine ⟨x1 % n, g1, ?_, Int.emod_nonneg _ (by omega), Int.emod_lt_of_pos _ n0, q1, f1, l1⟩
    rw [vrun_v Tryd.func34 rfl rfl rfl]; simp only [Tryd.f34]
    simp (implicitDefEqProofs := false) (disch := omega) [go_sem, tab34, e1]
  · obtain ⟨x2, g2, e2, a2, a2', q2, f2, l2⟩ := l1Byte_v d hb q1
    obtain ⟨x3, g3, e3, a3, a3', q3, f3, l3⟩ := l1Byte_v d hb q2
    obtain ⟨x4, g4, e4, a4, a4', q4, f4, l4⟩ := l1Byte_v d hb q3
    refine ⟨(x1 * 16777216 + x2 * 65536 + x3 * 256 + x4) % n, g4, ?_, Int.emod_nonneg _ (by omega), Int.emod_lt_of_pos _ n0, q4, ((f1.trans f2).trans f3).trans f4, by omega⟩
    rw [vrun_v Tryd.func34 rfl rfl rfl]; simp only [Tryd.f34]
    simp (implicitDefEqProofs := false) (disch := omega) [go_sem, tab34, e1, e2, e3, e4]
theorem l1Once_v (d : Nat) (hb : Cod b) (hc : Cu b i h) {n : Int} (n0 : 0 < n) (n1 : n ≤ 4294967296) : ∃ (x : Bool) (g : VH), vrun Tryd.prog kn (d + 3) 33 [.ptr i 0, .int .i64 n] h = some (.bool x, g) ∧ Cu b i g ∧ Frm i h g ∧ g.length = h.length := by
  obtain ⟨x1, g1, e1, a1, a1', q1, f1, l1⟩ := l1Below_v d hb hc n0 n1
  refine ⟨decide (x1 = 0), g1, ?_, q1, f1, l1⟩
  rw [vrun_v Tryd.func33 rfl rfl rfl]; simp only [Tryd.f33]
  simp (implicitDefEqProofs := false) (disch := omega) [go_sem, tab33, e1]
theorem l1Pick_v (d : Nat) (hb : Cod b) (hc : Cu b i h) {L : List Int} {k n : Nat} {w : Bool} (hk : h[k]? = some (.ints w .i64 L)) (hn : n = L.length) (n0 : 0 < L.length) (n1 : L.length ≤ 4294967296) : ∃ (x : Int) (g : VH), vrun Tryd.prog kn (d + 3) 18 [.ptr i 0, .sl k 0 n 1] h = some (.int .i64 x, g) ∧ x ∈ L ∧ Cu b i g ∧ Frm i h g ∧ g.length = h.length := by
  subst hn
  have hki : k ≠ i := fun e => by obtain ⟨c, s, h1, _⟩ := hc; rw [e, h1] at hk; cases hk
  obtain ⟨x1, g1, e1, a1, a1', q1, f1, l1⟩ := l1Below_v d hb hc (n := (L.length : Int)) (by omega) (by omega)
  have hgk := f1.at hk hki
  have hlt : x1.toNat < L.length := by omega
  refine ⟨gt L x1.toNat, g1, ?_, gt_mem hlt, q1, f1, l1⟩
  rw [vrun_v Tryd.func18 rfl rfl rfl]; simp only [Tryd.f18]
  simp (implicitDefEqProofs := false) (disch := omega) [go_sem, tab18, e1, hgk]
end
end
/- Drawing natural numbers. No conditions. -/
section
open Num
section
variable {h : VH} {b : List Int} {i : Nat}
theorem last_at (g : VH) (o : VO) : (g ++ [o])[g.length]? = some o := by simp
theorem l2drawLen_v (d : Nat) (hb : Cod b) (hc : Cu b i h) : ∃ (n : Nat) (g : VH), vrun Tryd.prog kn (d + 4) 47 [.ptr i 0] h = some (.int .i64 (n : Int), g) ∧ n ≤ 100 ∧ Cu b i g ∧ Frm i h g := by
  obtain ⟨x1, g1, e1, q1, f1, l1⟩ := l1Once_v (d + 0) hb hc (n := 12) (by omega) (by omega)
  cases x1
  · obtain ⟨x2, g2, e2, a2, a2', q2, f2, l2⟩ := l1Below_v (d + 1) hb q1 (n := 6) (by omega) (by omega)
    refine ⟨x2.toNat, g2, ?_, by omega, q2, f1.trans f2⟩
    rw [show ((x2.toNat : Nat) : Int) = x2 by omega]
    rw [vrun_v Tryd.func47 rfl rfl rfl]; simp only [Tryd.f47]
    simp (implicitDefEqProofs := false) (disch := omega) [go_sem, tab47, e1, e2]
  · obtain ⟨x2, g2, e2, a2, q2, f2, l2⟩ := l1Pick_v (d + 0) hb (q1.app [.ints true .i64 [100, 99, 50, 20]]) (L := [100, 99, 50, 20]) (last_at _ _) (n := 4) rfl (by simp) (by simp)
    have hx : x2 = 100 ∨ x2 = 99 ∨ x2 = 50 ∨ x2 = 20 := by simpa using a2
    refine ⟨x2.toNat, g2, ?_, by omega, q2, (f1.trans (Frm.app _ _ _)).trans f2⟩
    rw [show ((x2.toNat : Nat) : Int) = x2 by omega]
    rw [vrun_v Tryd.func47 rfl rfl rfl]; simp only [Tryd.f47]
    simp (implicitDefEqProofs := false) (disch := omega) [go_sem, tab47, e1, e2]
/-- The list so far. -/
def drI (b : List Int) (i n : Nat) (h : VH) (j : Nat) (s : VE × VH) : Prop := ∃ (k : Nat) (l : List Int) (g : VH), s = ([(0, some (.ptr i 0)), (2, some (.ptr h.length 0)), (3, some (.sl k 0 j 1)), (4, some (.int .i64 (n : Int))), (5, some (.int .i64 j))], g) ∧ Cu b i g ∧ g[k]? = some (.ints true .i64 l) ∧ l.length = j ∧ GoodL l ∧ h.length < k ∧ Frm i h g ∧ g[h.length]? = some (.vals true [.nil])
theorem app_fr {g1 : VH} {k : Nat} {o : VO} {m : VH} (hf : Frm i h g1) (hk : h.length ≤ k) : Frm i h (g1.set k o ++ m) := by
  refine ⟨by have := hf.1; simp; omega, fun q hq hi => ?_⟩
  rw [List.getElem?_append_left (by have := hf.1; simp; omega), List.getElem?_set_ne (by omega)]
  exact hf.2 q hq hi
theorem mod_ne {g : VH} {k q : Nat} (h : k ≠ q) : (g.modify k VO.ro)[q]? = g[q]? := by
  rw [List.getElem?_modify]
  simp [h]
theorem set_fr {g1 : VH} {k : Nat} {o : VO} (hf : Frm i h g1) (hk : h.length ≤ k) : Frm i h (g1.set k o) := by
  have := app_fr (g1 := g1) (o := o) (m := []) hf hk
  rwa [List.append_nil] at this
theorem mod_fr {g1 : VH} {k : Nat} (hf : Frm i h g1) (hk : h.length ≤ k) : Frm i h (g1.modify k VO.ro) := by
  refine ⟨by have := hf.1; simp; omega, fun q hq hi => ?_⟩
  rw [mod_ne (by omega)]
  exact hf.2 q hq hi
theorem Cu.modne {g1 : VH} {k : Nat} (a : Cu b i g1) (hk : k ≠ i) : Cu b i (g1.modify k VO.ro) := by
  obtain ⟨c, s, h1, h2⟩ := a
  exact ⟨c, s, by rw [mod_ne hk]; exact h1, h2⟩
theorem l2draw_v (d : Nat) (hb : Cod b) (hc : Cu b i h) : ∃ (v k : Nat) (g : VH), vrun Tryd.prog kn (d + 5) 32 [.ptr i 0] h = some (.agg [.sl k 0 (D v).length 1], g) ∧ (D v).length ≤ 100 ∧ Cu b i g ∧ Frm i h g ∧ h.length < k ∧ g[k]? = some (.ints true .i64 (D v)) := by
  obtain ⟨n, g0, e0, hn, q0, f0⟩ := l2drawLen_v (d + 0) hb (hc.app [.vals true [.nil], .ints true .i64 []])
  have hi := hc.lt
  have hg0a : g0[h.length]? = some (.vals true [.nil]) := f0.at (by simp) (by omega)
  have hg0b : g0[h.length + 1]? = some (.ints true .i64 []) := f0.at (by rw [List.getElem?_append_right (by omega)]; simp) (by omega)
  have key := vi_inv (n := kn.cf.rounds) (body := vCode Tryd.prog kn (vrun Tryd.prog kn (d + 1 + 3)) 32 (loopAt Tryd.f32 0)) (drI b i n h)
    (fun r => ∃ (k : Nat) (l : List Int) (g : VH), r = some (.exit 0, [(0, some (.ptr i 0)), (2, some (.ptr h.length 0)), (3, some (.sl k 0 n 1)), (4, some (.int .i64 (n : Int))), (5, some (.int .i64 n)), (10, some (.bool false))], g) ∧ Cu b i g ∧ g[k]? = some (.ints true .i64 l) ∧ l.length = n ∧ GoodL l ∧ h.length < k ∧ Frm i h g ∧ g[h.length]? = some (.vals true [.nil])) n (by rw [k_cf, c_rounds]; omega)
    (fun j s hj hI => by
      obtain ⟨k, l, g, rfl, c1, hk, hl, hgl, hkh, hf, hp⟩ := hI
      left
      obtain ⟨x, g1, e1, x0, x1, c2, f2, len2⟩ := l1Below_v (d + 2) hb c1 (n := 4) (by omega) (by omega)
      have hk1 := f2.at hk (by omega)
      have hp1 := f2.at hp (by omega)
      have hkl := (List.getElem?_eq_some_iff.1 hk1).1
      have hk2 : ∀ a : VH, (g1 ++ a)[k]? = some (.ints true .i64 l) := fun a => by rw [List.getElem?_append_left hkl]; exact hk1
      have hset : ∀ (a : VH) (o : VO), (g1 ++ a).set k o = g1.set k o ++ a := fun a o => List.set_append_left _ _ hkl
      have hat : ∀ (o a : VO), (g1.set k o ++ [a])[g1.length]? = some a := fun o a => by rw [List.getElem?_append_right (by simp)]; simp
      have hend : ∀ (o a c : VO), (g1.set k o ++ [a, c])[g1.length + 1]? = some c := fun o a c => by rw [List.getElem?_append_right (by simp)]; simp
      have htk : l.take j = l := List.take_of_length_le (by omega)
      have fin : ∀ y : Int, 0 ≤ y → y < 65536 → drI b i n h (j + 1) ([(0, some (.ptr i 0)), (2, some (.ptr h.length 0)), (3, some (.sl (g1.length + 1) 0 (j + 1) 1)), (4, some (.int .i64 (n : Int))), (5, some (.int .i64 ((j : Int) + 1)))], g1.set k .dead ++ [.ints true .i64 [y], .ints true .i64 (l ++ [y])]) := fun y y0 y1 =>
        ⟨g1.length + 1, l ++ [y], g1.set k .dead ++ [.ints true .i64 [y], .ints true .i64 (l ++ [y])], by simp, (c2.setne (by omega) _).app _, hend _ _ _, by simp; omega, hgl.snoc y0 y1, by omega, app_fr (hf.trans f2) (by omega), by
          rw [List.getElem?_append_left (by simp; omega), List.getElem?_set_ne (by omega)]; exact hp1⟩
      by_cases z0 : x = 0
      · refine ⟨_, ?_, fin 65535 (by omega) (by omega)⟩
        subst z0
        clear hkl fin
        rw [round_v]; simp only [loopAt, nthC, bodyC, loops, List.nil_append, List.cons_append, List.append_nil, Tryd.f32]
        simp (implicitDefEqProofs := false) (disch := omega) [go_sem, tab32, nil32, e1, hk2, hset, hat, last_at, htk, hl]
      · by_cases z1 : x = 1
        · refine ⟨_, ?_, fin 0 (by omega) (by omega)⟩
          subst z1
          clear hkl fin
          rw [round_v]; simp only [loopAt, nthC, bodyC, loops, List.nil_append, List.cons_append, List.append_nil, Tryd.f32]
          simp (implicitDefEqProofs := false) (disch := omega) [go_sem, tab32, nil32, e1, hk2, hset, hat, last_at, htk, hl]
        · obtain ⟨y, g3, e3, y0, y1, c3, f3, len3⟩ := l1Below_v (d + 2) hb c2 (n := 65536) (by omega) (by omega)
          have hk3 := f3.at hk1 (by omega)
          have hp3 := f3.at hp1 (by omega)
          have hkl3 := (List.getElem?_eq_some_iff.1 hk3).1
          have hk2 : ∀ a : VH, (g3 ++ a)[k]? = some (.ints true .i64 l) := fun a => by rw [List.getElem?_append_left hkl3]; exact hk3
          have hset : ∀ (a : VH) (o : VO), (g3 ++ a).set k o = g3.set k o ++ a := fun a o => List.set_append_left _ _ hkl3
          have hat : ∀ (o a : VO), (g3.set k o ++ [a])[g3.length]? = some a := fun o a => by rw [List.getElem?_append_right (by simp)]; simp
          have hend : ∀ (o a c : VO), (g3.set k o ++ [a, c])[g3.length + 1]? = some c := fun o a c => by rw [List.getElem?_append_right (by simp)]; simp
          refine ⟨([(0, some (.ptr i 0)), (2, some (.ptr h.length 0)), (3, some (.sl (g3.length + 1) 0 (j + 1) 1)), (4, some (.int .i64 (n : Int))), (5, some (.int .i64 ((j : Int) + 1)))], g3.set k .dead ++ [.ints true .i64 [y], .ints true .i64 (l ++ [y])]), ?_, ⟨g3.length + 1, l ++ [y], g3.set k .dead ++ [.ints true .i64 [y], .ints true .i64 (l ++ [y])], by simp, (c3.setne (by omega) _).app _, hend _ _ _, by simp; omega, hgl.snoc y0 y1, by omega, app_fr ((hf.trans f2).trans f3) (by omega), by
            rw [List.getElem?_append_left (by simp; omega), List.getElem?_set_ne (by omega)]; exact hp3⟩⟩
          clear hkl fin hkl3
          rw [round_v]; simp only [loopAt, nthC, bodyC, loops, List.nil_append, List.cons_append, List.append_nil, Tryd.f32]
          simp (implicitDefEqProofs := false) (disch := omega) [go_sem, tab32, nil32, e1, e3, hk2, hset, hat, last_at, htk, hl, z0, z1])
    (fun s hI m => by
      obtain ⟨k, l, g, rfl, c1, hk, hl, hgl, hkh, hf, hp⟩ := hI
      refine ⟨k, l, g, vi_exit ?_, c1, hk, hl, hgl, hkh, hf, hp⟩
      rw [round_v]; simp only [loopAt, nthC, bodyC, loops, List.nil_append, List.cons_append, List.append_nil, Tryd.f32]
      simp (implicitDefEqProofs := false) (disch := omega) [go_sem, tab32, nil32])
    ([(0, some (.ptr i 0)), (2, some (.ptr h.length 0)), (3, some (.sl (h.length + 1) 0 0 1)), (4, some (.int .i64 (n : Int))), (5, some (.int .i64 0))], g0)
    ⟨h.length + 1, [], g0, rfl, q0, hg0b, rfl, GoodL.nil, by omega, (Frm.app _ _ _).trans f0, hg0a⟩
  obtain ⟨k, l, g, hv, c1, hk, hl, hgl, hkh, hf, hp⟩ := key
  have hl0 := fun ks => loop_v (P := Tryd.prog) (K := kn) (ks := ks) hv
  simp only [loopAt, nthC, bodyC, loops, List.nil_append, List.cons_append, List.append_nil, Tryd.f32] at hl0
  obtain ⟨x2, g2, e2, c2, f2, len2⟩ := l1Once_v (d + 1) hb c1 (n := 4) (by omega) (by omega)
  have hk2 := f2.at hk (by omega)
  have hp2 := f2.at hp (by omega)
  cases x2
  · have hval := val_nonneg hgl
    have hlt := val_lt hgl
    have hD : (D (val l).toNat).length ≤ 100 := by
      have h1 : (val l).toNat < 65536 ^ l.length := by
        have : ((val l).toNat : Int) < ((65536 ^ l.length : Nat) : Int) := by rw [pow_cast]; omega
        exact Int.ofNat_lt.1 this
      have := len_D_le.2 h1
      omega
    have e3 := fun d => l2norm_v d (l := l) (v := (val l).toNat) (by omega) hgl (by omega)
    have htk : l.take n = l := List.take_of_length_le (by omega)
    have hlt2 := (List.getElem?_eq_some_iff.1 hp2).1
    have hset2 : ∀ (a : VH) (X : VO), ((g2 ++ a).set h.length X) = g2.set h.length X ++ a := fun a X => List.set_append_left _ _ hlt2
    refine ⟨(val l).toNat, g2.length, g2.set h.length (.vals true [.sl g2.length 0 (D (val l).toNat).length 1]) ++ [.ints true .i64 (D (val l).toNat)], ?_, hD, (c2.setne (by omega) _).app _, (set_fr (hf.trans f2) (Nat.le_refl _)).trans (Frm.app _ _ _), hlt2, by rw [List.getElem?_append_right (by simp)]; simp⟩
    generalize D (val l).toNat = R at *
    have hx2 : ∀ X : VO, (g2.set h.length X)[h.length]? = some X := fun X => by simp [hlt2]
    have hx3 : ∀ (X : VO) (a : VH), (g2.set h.length X ++ a)[h.length]? = some X := fun X a => by rw [List.getElem?_append_left (by simpa using hlt2)]; exact hx2 X
    have hp3 : ∀ a : VH, (g2 ++ a)[h.length]? = some (.vals true [.nil]) := fun a => by rw [List.getElem?_append_left hlt2]; exact hp2
    clear hv hlt2
    rw [vrun_v Tryd.func32 rfl rfl rfl]; simp only [Tryd.f32]
    simp (implicitDefEqProofs := false) (disch := omega) [go_sem, tab32, nil32, e0, hl0, e2, e3, hk2, hp2, hp3, hset2, hx2, hx3, htk, hl]
  · obtain ⟨x3, g3, e3, a3, c3, f3, len3⟩ := l1Pick_v (d + 1) hb (c2.app [.ints true .i64 [0, 1, 2, 9, 10, 65535, 65536, 1099511627776, 4611686018427387903, 4611686018427387904]]) (L := [0, 1, 2, 9, 10, 65535, 65536, 1099511627776, 4611686018427387903, 4611686018427387904]) (last_at _ _) (n := 10) rfl (by simp) (by simp)
    have hx : 0 ≤ x3 ∧ x3 ≤ 4611686018427387904 := by
      simp only [List.mem_cons, List.not_mem_nil, or_false] at a3
      omega
    have hp3 := f3.at (q := h.length) (o := .vals true [.nil]) (by rw [List.getElem?_append_left (List.getElem?_eq_some_iff.1 hp2).1]; exact hp2) (by omega)
    have hlt3 := (List.getElem?_eq_some_iff.1 hp3).1
    have hset2 : ∀ (a : VH) (X : VO), ((g3 ++ a).set h.length X) = g3.set h.length X ++ a := fun a X => List.set_append_left _ _ hlt3
    have hx2 : ∀ X : VO, (g3.set h.length X)[h.length]? = some X := fun X => by simp [hlt3]
    have hx3 : ∀ (X : VO) (a : VH), (g3.set h.length X ++ a)[h.length]? = some X := fun X a => by rw [List.getElem?_append_left (by simpa using hlt3)]; exact hx2 X
    have hp4 : ∀ a : VH, (g3 ++ a)[h.length]? = some (.vals true [.nil]) := fun a => by rw [List.getElem?_append_left hlt3]; exact hp3
    have e4 := fun d => l2of_v (n := x3.toNat) d (by omega)
    rw [show ((x3.toNat : Nat) : Int) = x3 by omega] at e4
    have hD : (D x3.toNat).length ≤ 4 := len_small (by omega)
    refine ⟨x3.toNat, g3.length, g3.set h.length (.vals true [.sl g3.length 0 (D x3.toNat).length 1]) ++ [.ints true .i64 (D x3.toNat)], ?_, by omega, (c3.setne (by omega) _).app _, (set_fr (((hf.trans f2).trans (Frm.app _ _ _)).trans f3) (Nat.le_refl _)).trans (Frm.app _ _ _), hlt3, by rw [List.getElem?_append_right (by simp)]; simp⟩
    generalize D x3.toNat = R at *
    clear hv hlt3
    rw [vrun_v Tryd.func32 rfl rfl rfl]; simp only [Tryd.f32]
    simp (implicitDefEqProofs := false) (disch := omega) [go_sem, tab32, nil32, e0, hl0, e2, e3, e4, hk2, hp2, hp3, hp4, hset2, hx2, hx3]
end
end
/- A cursor made; a natural number drawn bent. No conditions. -/
section
open Num
def andm (a : Int) : Int := IntKind.wrap .i64 (BitVec.ofInt 64 a &&& BitVec.ofInt 64 1073741823).toNat
theorem b_andm (P : Program) (t : TypeId) (a : Int) : binE P .and t (.int .i64 a) (.int .i64 1073741823) = some (.int .i64 (andm a)) := b_and ..
section
variable {h : VH} {b : List Int} {i : Nat}
def nwI (b : List Int) (h : VH) (j : Nat) (s : VE × VH) : Prop := ∃ v : Int, s = ([(0, some (.ints .u8 b)), (3, some (.int .i64 v)), (4, some (.int .i64 j))], h)
theorem l1New_v (d : Nat) (hb : Cod b) : ∃ s : Int, vrun Tryd.prog kn (d + 1) 16 [.ints .u8 b] h = some (.ptr h.length 0, h ++ [cur b 0 s]) := by
  have hb1 := hb.1
  have key := vi_inv (n := kn.cf.rounds) (body := vCode Tryd.prog kn (vrun Tryd.prog kn d) 16 (loopAt Tryd.f16 0)) (nwI b h)
    (fun r => ∃ (v : Int) (m : Nat), r = some (.exit 0, [(0, some (.ints .u8 b)), (3, some (.int .i64 v)), (4, some (.int .i64 m)), (15, some (.bool false))], h)) (min b.length 4000) (by rw [k_cf, c_rounds]; omega)
    (fun j s hj hI => by
      obtain ⟨v, rfl⟩ := hI
      left
      refine ⟨([(0, some (.ints .u8 b)), (3, some (.int .i64 (andm (IntKind.wrap .i64 (IntKind.wrap .i64 (IntKind.wrap .i64 (v * 131) + IntKind.wrap .i64 (gt b j)) + 7))))), (4, some (.int .i64 ((j + 1 : Nat) : Int)))], h), ?_, _, rfl⟩
      rw [round_v]; simp only [loopAt, nthC, bodyC, loops, List.nil_append, List.cons_append, List.append_nil, Tryd.f16]
      simp (implicitDefEqProofs := false) (disch := omega) [go_sem, tab16, b_andm])
    (fun s hI m => by
      obtain ⟨v, rfl⟩ := hI
      refine ⟨v, min b.length 4000, vi_exit ?_⟩
      rw [round_v]; simp only [loopAt, nthC, bodyC, loops, List.nil_append, List.cons_append, List.append_nil, Tryd.f16]
      by_cases c : min b.length 4000 < b.length
      · have c' : min b.length 4000 = 4000 := by omega
        rw [c']
        simp (implicitDefEqProofs := false) (disch := omega) [go_sem, tab16]
      · have c' : min b.length 4000 = b.length := by omega
        rw [c']
        simp (implicitDefEqProofs := false) (disch := omega) [go_sem, tab16])
    ([(0, some (.ints .u8 b)), (3, some (.int .i64 (38282 + b.length))), (4, some (.int .i64 0))], h) ⟨_, rfl⟩
  obtain ⟨v, m, hv⟩ := key
  have hl0 := fun ks => loop_v (P := Tryd.prog) (K := kn) (ks := ks) hv
  simp only [loopAt, nthC, bodyC, loops, List.nil_append, List.cons_append, List.append_nil, Tryd.f16] at hl0
  refine ⟨v, ?_⟩
  clear hv
  unfold cur
  rw [vrun_v Tryd.func16 rfl rfl rfl]; simp only [Tryd.f16]
  simp (implicitDefEqProofs := false) (disch := omega) [go_sem, tab16, hl0]
theorem gap {g : VH} {q : Nat} {o : VO} (hq : g[q]? = some o) (a : VH) : (g ++ a)[q]? = some o := by
  rw [List.getElem?_append_left (List.getElem?_eq_some_iff.1 hq).1]; exact hq
/-- The number so far: the cell that holds it, its digits, the result's cell. -/
def Bt (b : List Int) (i : Nat) (h : VH) (p : Nat) (l : List Int) (k : Nat) (g : VH) : Prop := Cu b i g ∧ Frm i h g ∧ g[p]? = some (.vals true [.sl k 0 l.length 1]) ∧ g[k]? = some (.ints true .i64 l) ∧ h.length < k ∧ h.length < p ∧ p ≠ k ∧ g[h.length]? = some (.vals true [.nil])
def btH (p k : Nat) (l : List Int) (y : Int) (g : VH) : VH := (g.set k .dead).set p (.vals true [.sl (g.length + 1) 0 (l.length + 1) 1]) ++ [.ints true .i64 [y], .ints true .i64 (l ++ [y])]
theorem Bt.step {p k : Nat} {l : List Int} {g : VH} (y : Int) (hi : i < h.length) (a : Bt b i h p l k g) : Bt b i h p (l ++ [y]) (g.length + 1) (btH p k l y g) := by
  obtain ⟨c1, f1, hp, hk, hkh, hph, hpk, hq⟩ := a
  have hpl := (List.getElem?_eq_some_iff.1 hp).1
  have hql := (List.getElem?_eq_some_iff.1 hq).1
  unfold btH
  refine ⟨((c1.setne (by omega) _).setne (by omega) _).app _, app_fr (set_fr f1 (by omega)) (by omega), ?_, ?_, by omega, hph, by omega, ?_⟩
  · rw [List.getElem?_append_left (by simpa using hpl)]; simp [hpl]
  · rw [List.getElem?_append_right (by simp)]; simp
  · rw [List.getElem?_append_left (by simpa using hql), List.getElem?_set_ne (by omega), List.getElem?_set_ne (by omega)]; exact hq
/-- What a step reads. -/
theorem Bt.rd {p k : Nat} {l : List Int} {g : VH} (a : Bt b i h p l k g) : (∀ m : VH, (g ++ m)[p]? = some (.vals true [.sl k 0 l.length 1])) ∧ (∀ m : VH, (g ++ m)[k]? = some (.ints true .i64 l)) ∧ (∀ (m : VH) (o : VO), (g ++ m).set k o = g.set k o ++ m) ∧ (∀ (m : VH) (o : VO), (g.set k o ++ m)[p]? = some (.vals true [.sl k 0 l.length 1])) ∧ (∀ (m : VH) (o o' : VO), (g.set k o ++ m).set p o' = (g.set k o).set p o' ++ m) := by
  obtain ⟨c1, f1, hp, hk, hkh, hph, hpk, hq⟩ := a
  have hpl := (List.getElem?_eq_some_iff.1 hp).1
  have hkl := (List.getElem?_eq_some_iff.1 hk).1
  exact ⟨gap hp, gap hk, fun m o => List.set_append_left _ _ hkl, fun m o => gap (by rw [List.getElem?_set_ne (Ne.symm hpk)]; exact hp) m, fun m o o' => List.set_append_left _ _ (by simpa using hpl)⟩
/-- What the end reads. -/
theorem Bt.fin {p k : Nat} {l : List Int} {g : VH} (a : Bt b i h p l k g) : g[p]? = some (.vals true [.sl k 0 l.length 1]) ∧ g[h.length]? = some (.vals true [.nil]) ∧ (∀ o : VO, (g.set h.length o)[h.length]? = some o) ∧ (∀ o : VO, Cu b i (g.set h.length o) ∨ i = h.length) ∧ (∀ o : VO, Frm i h (g.set h.length o)) ∧ ∀ o : VO, (g.set h.length o)[k]? = some (.ints true .i64 l) := by
  obtain ⟨c1, f1, hp, hk, hkh, hph, hpk, hq⟩ := a
  have hql := (List.getElem?_eq_some_iff.1 hq).1
  exact ⟨hp, hq, fun o => by simp [hql], fun o => (Nat.lt_or_ge i h.length).elim (fun _ => by
    by_cases e : i = h.length
    · exact .inr e
    · exact .inl (c1.setne (by omega) _)) (fun _ => by
    by_cases e : i = h.length
    · exact .inr e
    · exact .inl (c1.setne (by omega) _)), fun o => set_fr f1 (Nat.le_refl _), fun o => by rw [List.getElem?_set_ne (by omega)]; exact hk⟩
/-- What a bent number's digits may be. -/
def Bd (l : List Int) : Prop := ∀ x ∈ l, -1 ≤ x ∧ x ≤ 65536
theorem Bd.snoc {l : List Int} (h : Bd l) {y : Int} (h0 : -1 ≤ y) (h1 : y ≤ 65536) : Bd (l ++ [y]) := fun x hx => by
  rcases List.mem_append.1 hx with hx | hx
  · exact h x hx
  · simp at hx; omega
theorem bd_D (n : Nat) : Bd (D n) := fun x hx => by have := good_D n x hx; omega
def beX (j : Nat) : VE := if j = 0 then [(35, some (.bool false))] else []
def beI (b : List Int) (i : Nat) (h : VH) (p n0 j : Nat) (s : VE × VH) : Prop := ∃ (l : List Int) (k : Nat) (g : VH), s = ((2, some (.ptr h.length 0)) :: (3, some (.ptr p 0)) :: beX j, g) ∧ l.length = n0 + j ∧ Bt b i h p l k g ∧ Bd l
theorem be_l (call : CallV) {p k n0 : Nat} {l : List Int} {g : VH} (hi : i < h.length) (h0 : n0 = l.length) (hn : n0 ≤ 100) (a : Bt b i h p l k g) (hB : Bd l) : ∃ (l' : List Int) (k' : Nat) (g' : VH), viter (vCode Tryd.prog kn call 17 (loopAt Tryd.f17 0)) kn.cf.rounds [(2, some (.ptr h.length 0)), (3, some (.ptr p 0)), (35, some (.bool false))] g = some (.exit 1, [(2, some (.ptr h.length 0)), (3, some (.ptr p 0)), (15, some (.bool false))], g') ∧ l'.length = 101 ∧ Bt b i h p l' k' g' ∧ Bd l' := by
  have key := vi_inv (n := kn.cf.rounds) (body := vCode Tryd.prog kn call 17 (loopAt Tryd.f17 0)) (beI b i h p n0)
    (fun r => ∃ (l' : List Int) (k' : Nat) (g' : VH), r = some (.exit 1, [(2, some (.ptr h.length 0)), (3, some (.ptr p 0)), (15, some (.bool false))], g') ∧ l'.length = 101 ∧ Bt b i h p l' k' g' ∧ Bd l') (101 - n0) (by rw [k_cf, c_rounds]; omega)
    (fun j s hj hI => by
      obtain ⟨l, k, g, rfl, hl, a, hB⟩ := hI
      left
      obtain ⟨r1, r2, r3, r4, r5⟩ := a.rd
      have r0 := a.fin.1
      refine ⟨([(2, some (.ptr h.length 0)), (3, some (.ptr p 0))], btH p k l 1 g), ?_, l ++ [1], g.length + 1, btH p k l 1 g, by unfold beX; rw [if_neg (by omega)], by simp; omega, a.step 1 hi, hB.snoc (by omega) (by omega)⟩
      unfold btH
      generalize beX j = X
      have htk : l.take l.length = l := List.take_length ..
      clear a
      rw [round_v]; simp only [loopAt, nthC, bodyC, loops, List.nil_append, List.cons_append, List.append_nil, Tryd.f17]
      simp (implicitDefEqProofs := false) (disch := omega) [go_sem, tab17, r0, r1, r2, r3, r4, r5, last_at])
    (fun s hI m => by
      obtain ⟨l, k, g, rfl, hl, a, hB⟩ := hI
      have hX : beX (101 - n0) = [] := by unfold beX; rw [if_neg (by omega)]
      rw [hX]
      refine ⟨l, k, g, vi_exit ?_, by omega, a, hB⟩
      have r0 := a.fin.1
      clear a
      rw [round_v]; simp only [loopAt, nthC, bodyC, loops, List.nil_append, List.cons_append, List.append_nil, Tryd.f17]
      simp (implicitDefEqProofs := false) (disch := omega) [go_sem, tab17, r0])
    ([(2, some (.ptr h.length 0)), (3, some (.ptr p 0)), (35, some (.bool false))], g) ⟨l, k, g, rfl, by omega, a, hB⟩
  exact key
theorem l2bent_v (d : Nat) (hb : Cod b) (hc : Cu b i h) : ∃ (l : List Int) (k : Nat) (g : VH), vrun Tryd.prog kn (d + 6) 17 [.ptr i 0] h = some (.agg [.sl k 0 l.length 1], g) ∧ l.length ≤ 101 ∧ Cu b i g ∧ Frm i h g ∧ h.length < k ∧ g[k]? = some (.ints true .i64 l) ∧ Bd l := by
  obtain ⟨v, k, g0, e0, hn, q0, f0, hk, hk0⟩ := l2draw_v (d + 0) hb (hc.app [.vals true [.nil]])
  have hi := hc.lt
  have hg0 : g0[h.length]? = some (.vals true [.nil]) := f0.at (by simp) (by omega)
  simp only [List.length_append, List.length_cons, List.length_nil] at hk
  have a0 : Bt b i h g0.length (D v) k (g0 ++ [.vals true [.sl k 0 (D v).length 1]]) := ⟨q0.app _, ((Frm.app _ _ _).trans f0).trans (Frm.app _ _ _), last_at _ _, gap hk0 _, by omega, (List.getElem?_eq_some_iff.1 hg0).1, by have := (List.getElem?_eq_some_iff.1 hk0).1; omega, gap hg0 _⟩
  have hset0 : ∀ (X Y : VO), (g0 ++ [X]).set g0.length Y = g0 ++ [Y] := fun X Y => by rw [List.set_append_right _ _ (Nat.le_refl _)]; simp
  obtain ⟨x1, g1, e1, q1, f1, len1⟩ := l1Once_v (d + 2) hb a0.1 (n := 9) (by omega) (by omega)
  have keep : ∀ {g g' : VH} {l : List Int} {k p : Nat}, Bt b i h p l k g → Cu b i g' → Frm i g g' → Bt b i h p l k g' := fun a c f => ⟨c, a.2.1.trans f, f.at a.2.2.1 (by have := a.2.2.2.2.2.1; omega), f.at a.2.2.2.1 (by have := a.2.2.2.2.1; omega), a.2.2.2.2.1, a.2.2.2.2.2.1, a.2.2.2.2.2.2.1, f.at a.2.2.2.2.2.2.2 (by omega)⟩
  have a1 := keep a0 q1 f1
  have fin : ∀ {g : VH} {l : List Int} {k p : Nat}, Bt b i h p l k g → ∀ o, Cu b i (g.set h.length o) := fun a o => (a.fin.2.2.2.1 o).resolve_right (by omega)
  cases x1
  · obtain ⟨s1, s2, s3, s4, s5, s6⟩ := a1.fin
    refine ⟨D v, k, g1.set h.length (.vals true [.sl k 0 (D v).length 1]), ?_, by omega, fin a1 _, s5 _, by omega, s6 _, bd_D v⟩
    clear a1 a0 s4 s5 s6 fin keep
    rw [vrun_v Tryd.func17 rfl rfl rfl]; simp only [Tryd.f17]
    simp (implicitDefEqProofs := false) (disch := omega) [go_sem, tab17, e0, e1, last_at, hset0, s1, s2, s3]
  · obtain ⟨x2, g2, e2, x20, x24, q2, f2, len2⟩ := l1Below_v (d + 3) hb q1 (n := 4) (by omega) (by omega)
    have a2 := keep a1 q2 f2
    by_cases z3 : x2 = 3
    · subst z3
      obtain ⟨l', k', g', hv, hl', a', hB'⟩ := be_l (vrun Tryd.prog kn (d + 2 + 3)) hi rfl (by omega) a2 (bd_D v)
      have hl0 := fun ks => loop_v (P := Tryd.prog) (K := kn) (ks := ks) hv
      simp only [loopAt, nthC, bodyC, loops, List.nil_append, List.cons_append, List.append_nil, Tryd.f17] at hl0
      obtain ⟨s1, s2, s3, s4, s5, s6⟩ := a'.fin
      refine ⟨l', k', g'.set h.length (.vals true [.sl k' 0 l'.length 1]), ?_, by omega, fin a' _, s5 _, a'.2.2.2.2.1, s6 _, hB'⟩
      clear a1 a0 a2 a' s4 s5 s6 fin keep hv
      rw [vrun_v Tryd.func17 rfl rfl rfl]; simp only [Tryd.f17]
      simp (implicitDefEqProofs := false) (disch := omega) [go_sem, tab17, e0, e1, e2, hl0, last_at, hset0, s1, s2, s3]
    · obtain ⟨r1, r2, r3, r4, r5⟩ := a2.rd
      have r0 := a2.fin.1
      obtain ⟨y, hy⟩ : ∃ y : Int, y = if x2 = 0 then 0 else if x2 = 1 then -1 else 65536 := ⟨_, rfl⟩
      have a' := a2.step y hi
      obtain ⟨s1, s2, s3, s4, s5, s6⟩ := a'.fin
      refine ⟨D v ++ [y], g2.length + 1, (btH g0.length k (D v) y g2).set h.length (.vals true [.sl (g2.length + 1) 0 (D v ++ [y]).length 1]), ?_, by simp; omega, fin a' _, s5 _, a'.2.2.2.2.1, s6 _, (bd_D v).snoc (by split at hy <;> (try split at hy) <;> omega) (by split at hy <;> (try split at hy) <;> omega)⟩
      simp only [List.length_append, List.length_cons, List.length_nil] at s1 s2 s3 ⊢
      clear a1 a0 a2 a' s4 s5 s6 fin keep
      unfold btH at *
      rcases (by omega : x2 = 0 ∨ x2 = 1 ∨ x2 = 2) with rfl | rfl | rfl
      all_goals
        simp at hy
        subst hy
        rw [vrun_v Tryd.func17 rfl rfl rfl]; simp only [Tryd.f17]
        simp (implicitDefEqProofs := false) (disch := omega) [go_sem, tab17, e0, e1, e2, last_at, hset0, r0, r1, r2, r3, r4, r5, s1, s2, s3]
end
end
/- What the laws over codes do beside: equality of naturals, longer codes. No conditions. -/
section
open Num
section
variable {a b : List Int}
def snS (a b : List Int) (j : Nat) : VE × VH := ([(2, some (.ptr 0 0)), (3, some (.ptr 1 0)), (5, some (.int .i64 j))], [.vals true [.ints .i64 a], .vals true [.ints .i64 b]])
theorem sameNat_v (d : Nat) (ha : a.length < 1000000000) (hb : b.length < 1000000000) : vrun Tryd.prog kn (d + 1) 12 [.agg [.ints .i64 a], .agg [.ints .i64 b]] [] = some (.bool (decide (a = b)), []) := by
  by_cases hl : ¬ a.length = b.length
  · have : ¬ a = b := fun h => hl (by rw [h])
    have h' : ¬ (a.length : Int) = b.length := by omega
    rw [vrun_v Tryd.func12 rfl rfl rfl]; simp only [Tryd.f12]
    simp (disch := omega) [go_sem, tab12, h', this, hl]
  rw [Decidable.not_not] at hl
  have key := vi_inv (n := kn.cf.rounds) (body := vCode Tryd.prog kn (vrun Tryd.prog kn d) 12 (loopAt Tryd.f12 0)) (fun j s => s = snS a b j ∧ a.take j = b.take j)
    (fun r => (r = some (.exit 0, (snS a b a.length).1 ++ [(17, some (.bool false))], (snS a b a.length).2) ∧ a = b) ∨ (r = some (.ret, [(4, some (.bool false))], []) ∧ ¬ a = b)) a.length (by rw [k_cf, c_rounds]; omega)
    (fun j s hj hI => by
      obtain ⟨rfl, hI⟩ := hI
      have hja : a[j]? = some (gt a j) := by rw [gt]; simp [hj]
      have hjb : b[j]? = some (gt b j) := by rw [gt]; simp [show j < b.length by omega]
      by_cases hq : gt a j = gt b j
      · left
        refine ⟨snS a b (j + 1), ?_, rfl, ?_⟩
        · rw [round_v]; simp only [loopAt, nthC, bodyC, loops, List.nil_append, List.cons_append, List.append_nil, Tryd.f12, snS]
          simp (disch := omega) [go_sem, tab12, hq]
        · rw [List.take_add_one, List.take_add_one, hI, hja, hjb, hq]
      · right; intro m; right
        refine ⟨vi_ret ?_, fun h => hq (by rw [h])⟩
        rw [round_v]; simp only [loopAt, nthC, bodyC, loops, List.nil_append, List.cons_append, List.append_nil, Tryd.f12, snS]
        simp (disch := omega) [go_sem, tab12, hq])
    (fun s hI m => by
      obtain ⟨rfl, hI⟩ := hI
      left
      refine ⟨vi_exit ?_, by rwa [List.take_length, hl, List.take_length] at hI⟩
      rw [round_v]; simp only [loopAt, nthC, bodyC, loops, List.nil_append, List.cons_append, List.append_nil, Tryd.f12, snS]
      simp (disch := omega) [go_sem, tab12])
    (snS a b 0) ⟨rfl, by simp⟩
  rcases key with ⟨hv, hq⟩ | ⟨hv, hq⟩
  · rw [decide_eq_true hq]
    have hl0 := fun ks => loop_v (P := Tryd.prog) (K := kn) (ks := ks) hv
    simp only [loopAt, nthC, bodyC, loops, List.nil_append, List.cons_append, List.append_nil, Tryd.f12, snS, Int.natCast_zero, List.cons_append, List.nil_append] at hl0
    rw [vrun_v Tryd.func12 rfl rfl rfl]; simp only [Tryd.f12]
    simp (disch := omega) [go_sem, tab12, hl, hl0]
  · rw [decide_eq_false hq]
    have hl0 := fun ks => loop_v (P := Tryd.prog) (K := kn) (ks := ks) hv
    simp only [loopAt, nthC, bodyC, loops, List.nil_append, List.cons_append, List.append_nil, Tryd.f12, snS, Int.natCast_zero, List.cons_append, List.nil_append] at hl0
    rw [vrun_v Tryd.func12 rfl rfl rfl]; simp only [Tryd.f12]
    simp (disch := omega) [go_sem, tab12, hl, hl0]
theorem cod_of (hb : b.length ≤ 140737488351232) (hw : ∀ x ∈ b, (Lit.int .u8 x).wf = true) : Cod b := ⟨by omega, fun x hx => by
  have h := hw x hx
  simp only [Go.Lit.wf, Go.IntKind.min, Go.IntKind.max, Go.IntKind.signed, Go.IntKind.bits, Bool.and_eq_true, decide_eq_true_eq, Bool.false_eq_true, if_false] at h
  omega⟩
theorem cod_more (hb : b.length ≤ 140737488351232) (hw : ∀ x ∈ b, (Lit.int .u8 x).wf = true) : Cod (1 :: 7 :: b) := ⟨by simp only [List.length_cons]; omega, fun x hx => by
  rcases List.mem_cons.1 hx with rfl | hx
  · omega
  · rcases List.mem_cons.1 hx with rfl | hx
    · omega
    · exact (cod_of hb hw).2 x hx⟩
end
end
/- Natural numbers: sums, differences, products of what is told, program. No conditions. -/
section
open Num
/-- The number that digits stand for. -/
def nN (l : List Int) : Nat := (val l).toNat
theorem nN_D (n : Nat) : nN (D n) = n := by unfold nN; rw [val_D]; rfl
theorem okN {l : List Int} (h : natOkB l = true) : l = D (nN l) ∧ (D (nN l)).length ≤ 100 := by
  obtain ⟨n, h1, h2⟩ := (natOkB_iff l).1 h
  rw [h1, nN_D]; exact ⟨rfl, h2⟩
theorem natOk_D {n : Nat} (h : (D n).length ≤ 100) : natOkB (D n) = true := (natOkB_iff _).2 ⟨n, rfl, h⟩
/-- What an operation answers. -/
def nres (op : Nat → Nat → Nat) (a b : List Int) : List Int := if natOkB a && natOkB b then fitL (D (op (nN a) (nN b))) else []
def nok (op : Nat → Nat → Nat) (a b : List Int) : Bool := natOkB a && natOkB b && decide ((D (op (nN a) (nN b))).length ≤ 100)
def nresS (a b : List Int) : List Int := if natOkB a && natOkB b && decide (nN b ≤ nN a) then D (nN a - nN b) else []
def nokSub (a b : List Int) : Bool := natOkB a && natOkB b && decide (nN b ≤ nN a)
theorem nres_len {op : Nat → Nat → Nat} {a b : List Int} : (nres op a b).length ≤ 100 := by
  unfold nres; split
  · exact fitL_len _
  · simp
theorem nres_ok {op : Nat → Nat → Nat} {a b : List Int} : natOkB (nres op a b) = true := by
  unfold nres fitL; split
  · split
    · exact natOk_D ‹_›
    · rfl
  · rfl
theorem nres_t {op : Nat → Nat → Nat} {a b : List Int} (h : nok op a b = true) : natOkB a = true ∧ natOkB b = true ∧ nres op a b = D (op (nN a) (nN b)) ∧ (D (op (nN a) (nN b))).length ≤ 100 := by
  unfold nok at h
  rw [Bool.and_eq_true, Bool.and_eq_true, decide_eq_true_eq] at h
  refine ⟨h.1.1, h.1.2, ?_, h.2⟩
  unfold nres fitL
  rw [h.1.1, h.1.2, if_pos h.2]; rfl
theorem nres_comm {op : Nat → Nat → Nat} (hc : ∀ x y, op x y = op y x) (a b : List Int) : nres op a b = nres op b a ∧ nok op a b = nok op b a := by
  unfold nres nok
  rw [hc, Bool.and_comm (natOkB a)]; exact ⟨rfl, rfl⟩
theorem nresS_len {a b : List Int} : (nresS a b).length ≤ 100 := by
  unfold nresS; split
  · rename_i h
    rw [Bool.and_eq_true, Bool.and_eq_true] at h
    obtain ⟨e, h1⟩ := okN h.1.1
    exact Nat.le_trans (len_D_mono (Nat.sub_le _ _)) h1
  · simp
section
variable {a b : List Int}
theorem areNats_v (d : Nat) (ha : a.length < 1000000000) (hb : b.length < 1000000000) : vrun Tryd.prog kn (d + 8) 28 [.agg [.ints .i64 a], .agg [.ints .i64 b]] [] = some (.bool (natOkB a && natOkB b), []) := by
  have h1 := fun d => NatOk_v d ha
  have h2 := fun d => NatOk_v d hb
  cases hq : natOkB a <;> rw [hq] at h1
  all_goals
    rw [vrun_v Tryd.func28 rfl rfl rfl]; simp only [Tryd.f28]
    simp (disch := omega) [go_sem, tab28, h1, h2]
theorem NatMul_v (d : Nat) (ha : a.length < 1000000000) (hb : b.length < 1000000000) : vrun Tryd.prog kn (d + 9) 13 [.agg [.ints .i64 a], .agg [.ints .i64 b]] [] = some (.tup [.agg [.sl 0 0 (nres (· * ·) a b).length 1], .bool (nok (· * ·) a b)], [.ints true .i64 (nres (· * ·) a b)]) := by
  have h1 := fun d => areNats_v d ha hb
  unfold nres nok
  cases hq : natOkB a && natOkB b
  · rw [hq] at h1
    rw [vrun_v Tryd.func13 rfl rfl rfl]; simp only [Tryd.f13]
    simp (disch := omega) [go_sem, tab13, h1]
  · rw [hq] at h1
    rw [Bool.and_eq_true] at hq
    obtain ⟨e1, l1⟩ := okN hq.1
    obtain ⟨e2, l2⟩ := okN hq.2
    have h2 := fun d => times_v (x := nN a) (y := nN b) d (by omega) (by omega)
    have hl := len_mul (nN a) (nN b)
    rw [← e1, ← e2] at h2
    simp only [Bool.true_and, if_true]
    generalize D (nN a * nN b) = R at *
    have h3 := fun d => natOf_v (l := R) d (by omega)
    rw [vrun_v Tryd.func13 rfl rfl rfl]; simp only [Tryd.f13]
    simp (disch := omega) [go_sem, tab13, h1, h2, h3]
theorem sNatOf_v (d : Nat) {n : Nat} (hn : n < 9223372036854775808) : vrun Tryd.prog kn (d + 2) 23 [.int .i64 (n : Int)] [] = some (.tup [.agg [.ints .i64 (D n)], .bool true], []) := by
  have h1 := fun d => l2of_v (n := n) d hn
  generalize D n = R at *
  rw [vrun_v Tryd.func23 rfl rfl rfl]; simp only [Tryd.f23]
  simp (disch := omega) [go_sem, tab23, h1]
theorem nat_law (d : Nat) {n : Nat} (hn : n < 9223372036854775808) : vrun Tryd.prog kn (d + 3) 8 [.int .i64 (n : Int)] [] = some (.agg [.ints .i64 (D n)], []) := by
  have h1 := fun d => sNatOf_v (n := n) d hn
  generalize D n = R at *
  rw [vrun_v Tryd.func8 rfl rfl rfl]; simp only [Tryd.f8]
  simp (disch := omega) [go_sem, tab8, h1]
end
end
/- Pairs of natural numbers drawn off a code. No conditions. -/
section
open Num
section
variable {l : List Int}
/-- Noughts at the end taken away, of any list. -/
theorem l2norm_any (d : Nat) (hl : l.length < 1000000000) : vrun Tryd.prog kn (d + 1) 48 [.ints .i64 l] [] = some (.agg [.sl 0 0 (tl l l.length) 1], [.ints true .i64 (l.take (tl l l.length))]) := by
  have hl0 := fun ks => loop_v (P := Tryd.prog) (K := kn) (ks := ks) (norm_l (vrun Tryd.prog kn d) hl l.length kn.cf.rounds (Nat.le_refl _) (by rw [k_cf, c_rounds]; omega))
  simp only [loopAt, nthC, bodyC, loops, List.nil_append, List.cons_append, List.append_nil, Tryd.f48, normS] at hl0
  have h1 := tl_le l l.length
  generalize tl l l.length = t at *
  rw [vrun_v Tryd.func48 rfl rfl rfl]; simp only [Tryd.f48]
  simp (disch := omega) [go_sem, tab48, hl0, List.take_take]
theorem gt_big {j : Nat} (h : l.length ≤ j) : gt l j = 0 := by
  unfold gt; rw [List.getD_eq_getElem?_getD, List.getElem?_eq_none h]; rfl
/-- A sum of any digits and a small number. -/
def adX (l : List Int) (n j : Nat) (c : Int) (o : List Int) : VE × VH := ([(2, some (.ptr 0 0)), (3, some (.ptr 1 0)), (4, some (.ptr 2 0)), (5, some (.sl 3 0 j 1)), (6, some (.int .i64 c)), (7, some (.int .i64 j))], [.vals true [.ints .i64 l], .vals true [.ints .i64 (D n)], .vals true [.nil], .ints true .i64 o])
end
section
variable {b : List Int}
theorem two {G : VH} {Z Z' : VO} (h0 : G[0]? = some Z) (h1 : G[1]? = some Z') : (∀ A, (G.set 0 A)[1]? = some Z') ∧ (∀ A B, ((G.set 0 A).set 1 B)[0]? = some A) ∧ (∀ A B, ((G.set 0 A).set 1 B)[1]? = some B) ∧ (∀ A B k, 1 < k → ((G.set 0 A).set 1 B)[k]? = G[k]?) := by
  have l0 := (List.getElem?_eq_some_iff.1 h0).1
  have l1 := (List.getElem?_eq_some_iff.1 h1).1
  refine ⟨fun A => ?_, fun A B => ?_, fun A B => ?_, fun A B k hk => ?_⟩
  · rw [List.getElem?_set_ne (by omega)]; exact h1
  · rw [List.getElem?_set_ne (by omega)]; simp [l0]
  · simp [l1]
  · rw [List.getElem?_set_ne (by omega), List.getElem?_set_ne (by omega)]
set_option maxHeartbeats 4000000 in
end
end
/- A small sum is told. No conditions. -/
section
open Num
end
end Go.Eng
