/- What the functions of this seat do, one after another, told by plain values. No conditions. -/
import Derived.Test.YtidlnhhaegojjaaDoorSeat
import Derived.Test.YtidlnhhaegojjaaDoorVb
import Derived.Test.YtidlnhhaegojjaaDoorT2
set_option linter.unusedVariables false
set_option linter.unusedSimpArgs false
namespace Go.Eng
open Go.Proofs
set_option maxRecDepth 100000
set_option linter.unusedSimpArgs false
attribute [local go_sem] r_seq r_skip r_retC r_exitC r_label r_block r_region r_regionW r_xWt r_xW r_cond r_Bt r_Bf r_Ncode r_Nret r_Nexit r_Nblk r_Nblkr r_Nblke r_Nnil r_Es r_Onil r_Oop r_Oif r_Xs r_Gt r_Gf r_wtt r_wtf r_wft r_wff r_wu r_gO r_putS r_putN r_get r_keepN r_keepC r_fr r_fn r_fi r_ff r_fo r_l1 r_l2t r_cun r_cul r_cub r_cui r_cus r_cuis r_cuc r_cusl r_cuti r_cutv r_ven r_vec r_l2f r_l3 r_t1 r_t2 r_t0 r_rt r_rc r_en r_ec r_cM r_oN r_oC r_end r_endt r_endf r_nob0 r_nobN r_nobC r_nobE r_nb0 r_nbi r_nbs r_nbsl r_nbin r_nbce r_nLn r_nLv r_nLc r_nAa r_nAn r_nAk_b r_nAk_i r_nAk_s r_nAk_n r_nAk_is r_nAk_ce r_nAk_fp r_nAk_sl r_nAk_pt r_nAk_fn r_nsn r_nsv r_nsc r_m0 r_mi r_ms r_msl r_min r_mce r_mLn r_mLv r_mLc r_mAa r_mAn r_mAk_b r_mAk_i r_mAk_s r_mAk_n r_mAk_is r_mAk_ce r_mAk_fp r_mAk_sl r_mAk_pt r_mAk_fn r_msn r_msv r_msc r_atb r_ati r_ats r_atn r_atis r_atc r_atf r_atl r_atp r_atfn r_gcn r_gcc r_gLn r_gLc r_gIt r_ndn r_ndc r_gcB r_gLB r_two r_rea r_rea0 r_re1n r_re1c r_ori r_orv r_ord r_orn r_adn r_adc r_ad1 r_ern r_ers r_er0 r_rsl r_rptr r_rb r_ri r_rs r_rn r_ris r_rce r_rfp r_ra4 r_ra3 r_rt4 r_rf4 r_rf3 r_idS r_idc r_nS r_nP r_nF r_nT r_vsl r_vptr r_vb r_vi r_vs r_vn r_vis r_vce r_vfp r_va4 r_va3 r_vt4 r_vf4 r_vf3 r_rV r_Oi r_Ov r_Od r_rE r_rE0 r_En r_Ec r_E0 r_pO r_pk r_agL r_cO r_fO r_fSi r_fSv r_fPv r_fsl r_fptr r_ffn r_fag r_fb r_fint r_fstr r_fnil r_fis r_fce r_ffp r_res r_move r_assign r_pick r_pickt r_pickf r_alloc r_box r_al r_build r_bslice r_load r_store r_nlc r_nl1 r_nl2 r_bin r_un r_conv r_mkf r_mks r_slc r_fad r_fld r_iad r_idx r_ext r_ex1 r_callf r_callt r_callen r_calapp r_calmax r_calmin r_vt r_vcb r_vci r_vcs r_vcnp r_vcn r_vca r_vcf r_vcg r_ofb r_ofi r_ofs r_ofn r_evs r_pn r_prt r_pc r_one_a r_one_b r_one_i r_one_s r_one_n r_one_is r_one_ce r_one_fp r_one_sl r_one_pt r_one_fn r_cs_a r_cs_b r_cs_i r_cs_s r_cs_n r_cs_is r_cs_ce r_cs_fp r_cs_sl r_cs_pt r_cs_fn r_tov r_tovA r_toc r_toa r_tb r_ti r_ts r_tn r_bd r_bd2 r_filn r_fp1 r_filc r_fsn r_fsc r_san r_sac r_bs2 r_bs1 r_newO r_mkq r_mkI r_mkOi r_mkOv r_tIn r_tIc r_repz r_repn r_ldp r_ldf r_l1t r_l1f r_lFt r_lFf r_aggO r_obj r_at r_ati' r_atv r_celli r_cellv r_subi r_subv r_sto r_sto1 r_sto2 r_sets r_setR r_setn r_setc r_s1i r_s1v r_bin1 r_bin2 r_tv1 r_cb r_ci r_cst r_cn r_csl r_cis r_cce r_uni r_unb r_cv r_cvi r_cvs r_cvb r_cvl r_sO r_rdn r_rdi r_rdl r_rdO r_vsub r_vfn r_mk r_mk1 r_mk2 r_zoi r_zov r_leni r_lenv r_bn r_bndV r_bo r_sl0 r_sl1 r_vsz r_ct1 r_cts r_cti r_ctc r_ctn r_lnl r_lni r_lnc r_lnn r_fa r_fap r_faf r_fi1 r_fit r_fif r_ixi r_ixs r_ixc r_ixf r_ixF r_ixF2 r_ix1 r_ixsl r_ixin r_ixce r_len1 r_lenA r_lTs r_lTn r_lTl r_lTi r_lTc r_app0 r_app r_app1 r_app2 r_app3 r_catO r_cati r_catv r_newt r_newf r_pair r_pairK r_trip r_kis r_kiv r_srn r_srl r_sri r_src r_srs r_oln r_oll r_vw r_wi r_wv r_mm r_max r_min' r_str r_cF r_c2t r_c3f r_c3t r_ab r_c2f r_cV r_p1 r_la r_la2t r_la2f r_la3 r_sh r_z_is r_z_ce r_z_fp r_z_b r_z_i r_z_s r_z_n r_z_l r_z_p r_z_a4 r_z_a3 r_z_t4 r_zoI r_zoV r_roN r_roC r_roi r_rod r_zod r_rov r_aR r_trOi r_trOv r_trPv r_trl r_trp r_trf r_tra r_trb r_tri r_trs r_trn r_tris r_trce r_trfp r_vJ r_vJs r_vJn
attribute [local go_sem] b_add b_sub b_mul b_quo b_rem b_shl b_shr b_eql b_neq b_lss b_leq b_gtr b_geq eqB_s b_eqB b_neB u_neg u_not b_nn b_nn' eqS_s zerosT_s zerosT_n zt_i zt_sl zt_st dstOf_z dstOf_n iltT iltF ileT ileF ieqT ieqF nltT nltF nleT nleF neqT neqF tdiv_pos tmod_pos w64 idx0 List.take_of_length_le
/- Drawing numbers off a code: bytes, numbers below a bound, picks. No conditions. -/
section
open Num
/-- A cursor. -/
def cur (b : List Int) (c s : Int) : VO := .vals true [.ints .u8 b, .int .i64 c, .int .i64 s]
/-- The cursor over b lies at i. -/
def Cu (b : List Int) (i : Nat) (h : VH) : Prop := ∃ c s, h[i]? = some (cur b c s) ∧ 0 ≤ c ∧ c ≤ b.length
/-- All but the cursor is as it was. -/
def Frm (i : Nat) (h g : VH) : Prop := h.length ≤ g.length ∧ ∀ q, q < h.length → q ≠ i → g[q]? = h[q]?
def Cod (b : List Int) : Prop := b.length ≤ 140737488355000 ∧ ∀ x ∈ b, 0 ≤ x ∧ x < 256
theorem Frm.refl (i : Nat) (h : VH) : Frm i h h := ⟨Nat.le_refl _, fun _ _ _ => rfl⟩
theorem Frm.trans {i : Nat} {h g k : VH} (a : Frm i h g) (b : Frm i g k) : Frm i h k := ⟨Nat.le_trans a.1 b.1, fun q hq hi => (b.2 q (Nat.lt_of_lt_of_le hq a.1) hi).trans (a.2 q hq hi)⟩
theorem Frm.app (i : Nat) (h a : VH) : Frm i h (h ++ a) := ⟨by simp, fun q hq _ => List.getElem?_append_left hq⟩
theorem Frm.set (i : Nat) (h : VH) (o : VO) : Frm i h (h.set i o) := ⟨by simp, fun q _ hi => List.getElem?_set_ne (Ne.symm hi)⟩
theorem Frm.at {i : Nat} {h g : VH} (a : Frm i h g) {q : Nat} {o : VO} (hq : h[q]? = some o) (hi : q ≠ i) : g[q]? = some o := by
  rw [a.2 q (List.getElem?_eq_some_iff.1 hq).1 hi]; exact hq
theorem Cu.lt {b : List Int} {i : Nat} {h : VH} (a : Cu b i h) : i < h.length := by obtain ⟨c, s, h1, _⟩ := a; exact (List.getElem?_eq_some_iff.1 h1).1
theorem Cu.app {b : List Int} {i : Nat} {h : VH} (a : Cu b i h) (m : VH) : Cu b i (h ++ m) := by
  obtain ⟨c, s, h1, h2⟩ := a
  exact ⟨c, s, by rw [List.getElem?_append_left (List.getElem?_eq_some_iff.1 h1).1]; exact h1, h2⟩
theorem Cu.set {b : List Int} {i : Nat} {h : VH} (hi : i < h.length) {c s : Int} (h0 : 0 ≤ c) (h1 : c ≤ b.length) : Cu b i (h.set i (cur b c s)) := ⟨c, s, by simp [hi], h0, h1⟩
theorem Cu.setne {b : List Int} {i k : Nat} {h : VH} (a : Cu b i h) (hk : k ≠ i) (o : VO) : Cu b i (h.set k o) := by
  obtain ⟨c, s, h1, h2⟩ := a
  exact ⟨c, s, by rw [List.getElem?_set_ne hk]; exact h1, h2⟩
def lcg (s : Int) : Int := IntKind.wrap .i64 (IntKind.wrap .i64 (s * 6364136223846793005) + 1442695040888963407)
def mixB (s : Int) : Int := and255 (xor64 (s.fdiv 8589934592) (s.fdiv 35184372088832))
section
variable {h : VH} {b : List Int} {i : Nat}
theorem l1Byte_v (d : Nat) (hb : Cod b) (hc : Cu b i h) : ∃ (x : Int) (g : VH), vrun Tryd.prog kn (d + 1) 169 [.ptr i 0] h = some (.int .i64 x, g) ∧ 0 ≤ x ∧ x < 256 ∧ Cu b i g ∧ Frm i h g ∧ g.length = h.length := by
  obtain ⟨c, s, hi, c0, c1⟩ := hc
  have hlt := (List.getElem?_eq_some_iff.1 hi).1
  unfold cur at hi
  have g1 : ∀ x, (h.set i x)[i]? = some x := fun x => by simp [hlt]
  by_cases hcl : c < b.length
  · have hg : 0 ≤ gt b c.toNat ∧ gt b c.toNat < 256 := hb.2 _ (gt_mem (by omega))
    have hm0 := and255_bd (xor64 ((lcg s).fdiv 8589934592) ((lcg s).fdiv 35184372088832))
    refine ⟨and255 (mixB (lcg s) + gt b c.toNat), h.set i (cur b (c + 1) (lcg s)), ?_, (and255_bd _).1, (and255_bd _).2, Cu.set hlt (by omega) (by omega), Frm.set _ _ _, by simp⟩
    unfold mixB lcg cur at *
    have hb1 := hb.1
    clear hlt
    rw [vrun_v Tryd.func169 rfl rfl rfl]; simp only [Tryd.f169]
    simp (implicitDefEqProofs := false) (disch := omega) [go_sem, tab169, hi, g1, b_and255, b_xor64, IntKind.bits, List.set_set]
  · refine ⟨mixB (lcg s), h.set i (cur b c (lcg s)), ?_, (and255_bd _).1, (and255_bd _).2, Cu.set hlt c0 c1, Frm.set _ _ _, by simp⟩
    unfold mixB lcg cur
    have hb1 := hb.1
    clear hlt
    rw [vrun_v Tryd.func169 rfl rfl rfl]; simp only [Tryd.f169]
    simp (implicitDefEqProofs := false) (disch := omega) [go_sem, tab169, hi, g1, b_and255, b_xor64, IntKind.bits, List.set_set]
theorem l1Below_v (d : Nat) (hb : Cod b) (hc : Cu b i h) {n : Int} (n0 : 0 < n) (n1 : n ≤ 4294967296) : ∃ (x : Int) (g : VH), vrun Tryd.prog kn (d + 2) 127 [.ptr i 0, .int .i64 n] h = some (.int .i64 x, g) ∧ 0 ≤ x ∧ x < n ∧ Cu b i g ∧ Frm i h g ∧ g.length = h.length := by
  obtain ⟨x1, g1, e1, a1, a1', q1, f1, l1⟩ := l1Byte_v d hb hc
  by_cases hn : n ≤ 256
  · refine ⟨x1 % n, g1, ?_, Int.emod_nonneg _ (by omega), Int.emod_lt_of_pos _ n0, q1, f1, l1⟩
    rw [vrun_v Tryd.func127 rfl rfl rfl]; simp only [Tryd.f127]
    simp (implicitDefEqProofs := false) (disch := omega) [go_sem, tab127, e1]
  · obtain ⟨x2, g2, e2, a2, a2', q2, f2, l2⟩ := l1Byte_v d hb q1
    obtain ⟨x3, g3, e3, a3, a3', q3, f3, l3⟩ := l1Byte_v d hb q2
    obtain ⟨x4, g4, e4, a4, a4', q4, f4, l4⟩ := l1Byte_v d hb q3
    refine ⟨(x1 * 16777216 + x2 * 65536 + x3 * 256 + x4) % n, g4, ?_, Int.emod_nonneg _ (by omega), Int.emod_lt_of_pos _ n0, q4, ((f1.trans f2).trans f3).trans f4, by omega⟩
    rw [vrun_v Tryd.func127 rfl rfl rfl]; simp only [Tryd.f127]
    simp (implicitDefEqProofs := false) (disch := omega) [go_sem, tab127, e1, e2, e3, e4]
theorem l1Once_v (d : Nat) (hb : Cod b) (hc : Cu b i h) {n : Int} (n0 : 0 < n) (n1 : n ≤ 4294967296) : ∃ (x : Bool) (g : VH), vrun Tryd.prog kn (d + 3) 125 [.ptr i 0, .int .i64 n] h = some (.bool x, g) ∧ Cu b i g ∧ Frm i h g ∧ g.length = h.length := by
  obtain ⟨x1, g1, e1, a1, a1', q1, f1, l1⟩ := l1Below_v d hb hc n0 n1
  refine ⟨decide (x1 = 0), g1, ?_, q1, f1, l1⟩
  rw [vrun_v Tryd.func125 rfl rfl rfl]; simp only [Tryd.f125]
  simp (implicitDefEqProofs := false) (disch := omega) [go_sem, tab125, e1]
theorem l1Pick_v (d : Nat) (hb : Cod b) (hc : Cu b i h) {L : List Int} {k n : Nat} {w : Bool} (hk : h[k]? = some (.ints w .i64 L)) (hn : n = L.length) (n0 : 0 < L.length) (n1 : L.length ≤ 4294967296) : ∃ (x : Int) (g : VH), vrun Tryd.prog kn (d + 3) 166 [.ptr i 0, .sl k 0 n 1] h = some (.int .i64 x, g) ∧ x ∈ L ∧ Cu b i g ∧ Frm i h g ∧ g.length = h.length := by
  subst hn
  have hki : k ≠ i := fun e => by obtain ⟨c, s, h1, _⟩ := hc; rw [e, h1] at hk; cases hk
  obtain ⟨x1, g1, e1, a1, a1', q1, f1, l1⟩ := l1Below_v d hb hc (n := (L.length : Int)) (by omega) (by omega)
  have hgk := f1.at hk hki
  have hlt : x1.toNat < L.length := by omega
  refine ⟨gt L x1.toNat, g1, ?_, gt_mem hlt, q1, f1, l1⟩
  rw [vrun_v Tryd.func166 rfl rfl rfl]; simp only [Tryd.f166]
  simp (implicitDefEqProofs := false) (disch := omega) [go_sem, tab166, e1, hgk]
end
end
/- Drawing natural numbers. No conditions. -/
section
open Num
section
variable {h : VH} {b : List Int} {i : Nat}
theorem last_at (g : VH) (o : VO) : (g ++ [o])[g.length]? = some o := by simp
theorem l2drawLen_v (d : Nat) (hb : Cod b) (hc : Cu b i h) : ∃ (n : Nat) (g : VH), vrun Tryd.prog kn (d + 4) 212 [.ptr i 0] h = some (.int .i64 (n : Int), g) ∧ n ≤ 100 ∧ Cu b i g ∧ Frm i h g := by
  obtain ⟨x1, g1, e1, q1, f1, l1⟩ := l1Once_v (d + 0) hb hc (n := 12) (by omega) (by omega)
  cases x1
  · obtain ⟨x2, g2, e2, a2, a2', q2, f2, l2⟩ := l1Below_v (d + 1) hb q1 (n := 6) (by omega) (by omega)
    refine ⟨x2.toNat, g2, ?_, by omega, q2, f1.trans f2⟩
    rw [show ((x2.toNat : Nat) : Int) = x2 by omega]
    rw [vrun_v Tryd.func212 rfl rfl rfl]; simp only [Tryd.f212]
    simp (implicitDefEqProofs := false) (disch := omega) [go_sem, tab212, e1, e2]
  · obtain ⟨x2, g2, e2, a2, q2, f2, l2⟩ := l1Pick_v (d + 0) hb (q1.app [.ints true .i64 [100, 99, 50, 20]]) (L := [100, 99, 50, 20]) (last_at _ _) (n := 4) rfl (by simp) (by simp)
    have hx : x2 = 100 ∨ x2 = 99 ∨ x2 = 50 ∨ x2 = 20 := by simpa using a2
    refine ⟨x2.toNat, g2, ?_, by omega, q2, (f1.trans (Frm.app _ _ _)).trans f2⟩
    rw [show ((x2.toNat : Nat) : Int) = x2 by omega]
    rw [vrun_v Tryd.func212 rfl rfl rfl]; simp only [Tryd.f212]
    simp (implicitDefEqProofs := false) (disch := omega) [go_sem, tab212, e1, e2]
/-- The list so far. -/
def drI (b : List Int) (i n : Nat) (h : VH) (j : Nat) (s : VE × VH) : Prop := ∃ (k : Nat) (l : List Int) (g : VH), s = ([(0, some (.ptr i 0)), (2, some (.ptr h.length 0)), (3, some (.sl k 0 j 1)), (4, some (.int .i64 (n : Int))), (5, some (.int .i64 j))], g) ∧ Cu b i g ∧ g[k]? = some (.ints true .i64 l) ∧ l.length = j ∧ GoodL l ∧ h.length < k ∧ Frm i h g ∧ g[h.length]? = some (.vals true [.nil])
theorem app_fr {g1 : VH} {k : Nat} {o : VO} {m : VH} (hf : Frm i h g1) (hk : h.length ≤ k) : Frm i h (g1.set k o ++ m) := by
  refine ⟨by have := hf.1; simp; omega, fun q hq hi => ?_⟩
  rw [List.getElem?_append_left (by have := hf.1; simp; omega), List.getElem?_set_ne (by omega)]
  exact hf.2 q hq hi
theorem mod_ne {g : VH} {k q : Nat} (h : k ≠ q) : (g.modify k VO.ro)[q]? = g[q]? := by
  rw [List.getElem?_modify]
  simp [h]
theorem set_fr {g1 : VH} {k : Nat} {o : VO} (hf : Frm i h g1) (hk : h.length ≤ k) : Frm i h (g1.set k o) := by
  have := app_fr (g1 := g1) (o := o) (m := []) hf hk
  rwa [List.append_nil] at this
theorem mod_fr {g1 : VH} {k : Nat} (hf : Frm i h g1) (hk : h.length ≤ k) : Frm i h (g1.modify k VO.ro) := by
  refine ⟨by have := hf.1; simp; omega, fun q hq hi => ?_⟩
  rw [mod_ne (by omega)]
  exact hf.2 q hq hi
theorem Cu.modne {g1 : VH} {k : Nat} (a : Cu b i g1) (hk : k ≠ i) : Cu b i (g1.modify k VO.ro) := by
  obtain ⟨c, s, h1, h2⟩ := a
  exact ⟨c, s, by rw [mod_ne hk]; exact h1, h2⟩
theorem l2draw_v (d : Nat) (hb : Cod b) (hc : Cu b i h) : ∃ (v k : Nat) (g : VH), vrun Tryd.prog kn (d + 5) 207 [.ptr i 0] h = some (.agg [.sl k 0 (D v).length 1], g) ∧ (D v).length ≤ 100 ∧ Cu b i g ∧ Frm i h g ∧ h.length < k ∧ g[k]? = some (.ints true .i64 (D v)) := by
  obtain ⟨n, g0, e0, hn, q0, f0⟩ := l2drawLen_v (d + 0) hb (hc.app [.vals true [.nil], .ints true .i64 []])
  have hi := hc.lt
  have hg0a : g0[h.length]? = some (.vals true [.nil]) := f0.at (by simp) (by omega)
  have hg0b : g0[h.length + 1]? = some (.ints true .i64 []) := f0.at (by rw [List.getElem?_append_right (by omega)]; simp) (by omega)
  have key := vi_inv (n := kn.cf.rounds) (body := vCode Tryd.prog kn (vrun Tryd.prog kn (d + 1 + 3)) 207 (loopAt Tryd.f207 0)) (drI b i n h)
    (fun r => ∃ (k : Nat) (l : List Int) (g : VH), r = some (.exit 0, [(0, some (.ptr i 0)), (2, some (.ptr h.length 0)), (3, some (.sl k 0 n 1)), (4, some (.int .i64 (n : Int))), (5, some (.int .i64 n)), (10, some (.bool false))], g) ∧ Cu b i g ∧ g[k]? = some (.ints true .i64 l) ∧ l.length = n ∧ GoodL l ∧ h.length < k ∧ Frm i h g ∧ g[h.length]? = some (.vals true [.nil])) n (by rw [k_cf, c_rounds]; omega)
    (fun j s hj hI => by
      obtain ⟨k, l, g, rfl, c1, hk, hl, hgl, hkh, hf, hp⟩ := hI
      left
      obtain ⟨x, g1, e1, x0, x1, c2, f2, len2⟩ := l1Below_v (d + 2) hb c1 (n := 4) (by omega) (by omega)
      have hk1 := f2.at hk (by omega)
      have hp1 := f2.at hp (by omega)
      have hkl := (List.getElem?_eq_some_iff.1 hk1).1
      have hk2 : ∀ a : VH, (g1 ++ a)[k]? = some (.ints true .i64 l) := fun a => by rw [List.getElem?_append_left hkl]; exact hk1
      have hset : ∀ (a : VH) (o : VO), (g1 ++ a).set k o = g1.set k o ++ a := fun a o => List.set_append_left _ _ hkl
      have hat : ∀ (o a : VO), (g1.set k o ++ [a])[g1.length]? = some a := fun o a => by rw [List.getElem?_append_right (by simp)]; simp
      have hend : ∀ (o a c : VO), (g1.set k o ++ [a, c])[g1.length + 1]? = some c := fun o a c => by rw [List.getElem?_append_right (by simp)]; simp
      have htk : l.take j = l := List.take_of_length_le (by omega)
      have fin : ∀ y : Int, 0 ≤ y → y < 65536 → drI b i n h (j + 1) ([(0, some (.ptr i 0)), (2, some (.ptr h.length 0)), (3, some (.sl (g1.length + 1) 0 (j + 1) 1)), (4, some (.int .i64 (n : Int))), (5, some (.int .i64 ((j : Int) + 1)))], g1.set k .dead ++ [.ints true .i64 [y], .ints true .i64 (l ++ [y])]) := fun y y0 y1 =>
        ⟨g1.length + 1, l ++ [y], g1.set k .dead ++ [.ints true .i64 [y], .ints true .i64 (l ++ [y])], by simp, (c2.setne (by omega) _).app _, hend _ _ _, by simp; omega, hgl.snoc y0 y1, by omega, app_fr (hf.trans f2) (by omega), by
          rw [List.getElem?_append_left (by simp; omega), List.getElem?_set_ne (by omega)]; exact hp1⟩
      by_cases z0 : x = 0
      · refine ⟨_, ?_, fin 65535 (by omega) (by omega)⟩
        subst z0
        clear hkl fin
        rw [round_v]; simp only [loopAt, nthC, bodyC, loops, List.nil_append, List.cons_append, List.append_nil, Tryd.f207]
        simp (implicitDefEqProofs := false) (disch := omega) [go_sem, tab207, nil207, e1, hk2, hset, hat, last_at, htk, hl]
      · by_cases z1 : x = 1
        · refine ⟨_, ?_, fin 0 (by omega) (by omega)⟩
          subst z1
          clear hkl fin
          rw [round_v]; simp only [loopAt, nthC, bodyC, loops, List.nil_append, List.cons_append, List.append_nil, Tryd.f207]
          simp (implicitDefEqProofs := false) (disch := omega) [go_sem, tab207, nil207, e1, hk2, hset, hat, last_at, htk, hl]
        · obtain ⟨y, g3, e3, y0, y1, c3, f3, len3⟩ := l1Below_v (d + 2) hb c2 (n := 65536) (by omega) (by omega)
          have hk3 := f3.at hk1 (by omega)
          have hp3 := f3.at hp1 (by omega)
          have hkl3 := (List.getElem?_eq_some_iff.1 hk3).1
          have hk2 : ∀ a : VH, (g3 ++ a)[k]? = some (.ints true .i64 l) := fun a => by rw [List.getElem?_append_left hkl3]; exact hk3
          have hset : ∀ (a : VH) (o : VO), (g3 ++ a).set k o = g3.set k o ++ a := fun a o => List.set_append_left _ _ hkl3
          have hat : ∀ (o a : VO), (g3.set k o ++ [a])[g3.length]? = some a := fun o a => by rw [List.getElem?_append_right (by simp)]; simp
          have hend : ∀ (o a c : VO), (g3.set k o ++ [a, c])[g3.length + 1]? = some c := fun o a c => by rw [List.getElem?_append_right (by simp)]; simp
          refine ⟨([(0, some (.ptr i 0)), (2, some (.ptr h.length 0)), (3, some (.sl (g3.length + 1) 0 (j + 1) 1)), (4, some (.int .i64 (n : Int))), (5, some (.int .i64 ((j : Int) + 1)))], g3.set k .dead ++ [.ints true .i64 [y], .ints true .i64 (l ++ [y])]), ?_, ⟨g3.length + 1, l ++ [y], g3.set k .dead ++ [.ints true .i64 [y], .ints true .i64 (l ++ [y])], by simp, (c3.setne (by omega) _).app _, hend _ _ _, by simp; omega, hgl.snoc y0 y1, by omega, app_fr ((hf.trans f2).trans f3) (by omega), by
            rw [List.getElem?_append_left (by simp; omega), List.getElem?_set_ne (by omega)]; exact hp3⟩⟩
          clear hkl fin hkl3
          rw [round_v]; simp only [loopAt, nthC, bodyC, loops, List.nil_append, List.cons_append, List.append_nil, Tryd.f207]
          simp (implicitDefEqProofs := false) (disch := omega) [go_sem, tab207, nil207, e1, e3, hk2, hset, hat, last_at, htk, hl, z0, z1])
    (fun s hI m => by
      obtain ⟨k, l, g, rfl, c1, hk, hl, hgl, hkh, hf, hp⟩ := hI
      refine ⟨k, l, g, vi_exit ?_, c1, hk, hl, hgl, hkh, hf, hp⟩
      rw [round_v]; simp only [loopAt, nthC, bodyC, loops, List.nil_append, List.cons_append, List.append_nil, Tryd.f207]
      simp (implicitDefEqProofs := false) (disch := omega) [go_sem, tab207, nil207])
    ([(0, some (.ptr i 0)), (2, some (.ptr h.length 0)), (3, some (.sl (h.length + 1) 0 0 1)), (4, some (.int .i64 (n : Int))), (5, some (.int .i64 0))], g0)
    ⟨h.length + 1, [], g0, rfl, q0, hg0b, rfl, GoodL.nil, by omega, (Frm.app _ _ _).trans f0, hg0a⟩
  obtain ⟨k, l, g, hv, c1, hk, hl, hgl, hkh, hf, hp⟩ := key
  have hl0 := fun ks => loop_v (P := Tryd.prog) (K := kn) (ks := ks) hv
  simp only [loopAt, nthC, bodyC, loops, List.nil_append, List.cons_append, List.append_nil, Tryd.f207] at hl0
  obtain ⟨x2, g2, e2, c2, f2, len2⟩ := l1Once_v (d + 1) hb c1 (n := 4) (by omega) (by omega)
  have hk2 := f2.at hk (by omega)
  have hp2 := f2.at hp (by omega)
  cases x2
  · have hval := val_nonneg hgl
    have hlt := val_lt hgl
    have hD : (D (val l).toNat).length ≤ 100 := by
      have h1 : (val l).toNat < 65536 ^ l.length := by
        have : ((val l).toNat : Int) < ((65536 ^ l.length : Nat) : Int) := by rw [pow_cast]; omega
        exact Int.ofNat_lt.1 this
      have := len_D_le.2 h1
      omega
    have e3 := fun d => l2norm_v d (l := l) (v := (val l).toNat) (by omega) hgl (by omega)
    have htk : l.take n = l := List.take_of_length_le (by omega)
    have hlt2 := (List.getElem?_eq_some_iff.1 hp2).1
    have hset2 : ∀ (a : VH) (X : VO), ((g2 ++ a).set h.length X) = g2.set h.length X ++ a := fun a X => List.set_append_left _ _ hlt2
    refine ⟨(val l).toNat, g2.length, g2.set h.length (.vals true [.sl g2.length 0 (D (val l).toNat).length 1]) ++ [.ints true .i64 (D (val l).toNat)], ?_, hD, (c2.setne (by omega) _).app _, (set_fr (hf.trans f2) (Nat.le_refl _)).trans (Frm.app _ _ _), hlt2, by rw [List.getElem?_append_right (by simp)]; simp⟩
    generalize D (val l).toNat = R at *
    have hx2 : ∀ X : VO, (g2.set h.length X)[h.length]? = some X := fun X => by simp [hlt2]
    have hx3 : ∀ (X : VO) (a : VH), (g2.set h.length X ++ a)[h.length]? = some X := fun X a => by rw [List.getElem?_append_left (by simpa using hlt2)]; exact hx2 X
    have hp3 : ∀ a : VH, (g2 ++ a)[h.length]? = some (.vals true [.nil]) := fun a => by rw [List.getElem?_append_left hlt2]; exact hp2
    clear hv hlt2
    rw [vrun_v Tryd.func207 rfl rfl rfl]; simp only [Tryd.f207]
    simp (implicitDefEqProofs := false) (disch := omega) [go_sem, tab207, nil207, e0, hl0, e2, e3, hk2, hp2, hp3, hset2, hx2, hx3, htk, hl]
  · obtain ⟨x3, g3, e3, a3, c3, f3, len3⟩ := l1Pick_v (d + 1) hb (c2.app [.ints true .i64 [0, 1, 2, 9, 10, 65535, 65536, 1099511627776, 4611686018427387903, 4611686018427387904]]) (L := [0, 1, 2, 9, 10, 65535, 65536, 1099511627776, 4611686018427387903, 4611686018427387904]) (last_at _ _) (n := 10) rfl (by simp) (by simp)
    have hx : 0 ≤ x3 ∧ x3 ≤ 4611686018427387904 := by
      simp only [List.mem_cons, List.not_mem_nil, or_false] at a3
      omega
    have hp3 := f3.at (q := h.length) (o := .vals true [.nil]) (by rw [List.getElem?_append_left (List.getElem?_eq_some_iff.1 hp2).1]; exact hp2) (by omega)
    have hlt3 := (List.getElem?_eq_some_iff.1 hp3).1
    have hset2 : ∀ (a : VH) (X : VO), ((g3 ++ a).set h.length X) = g3.set h.length X ++ a := fun a X => List.set_append_left _ _ hlt3
    have hx2 : ∀ X : VO, (g3.set h.length X)[h.length]? = some X := fun X => by simp [hlt3]
    have hx3 : ∀ (X : VO) (a : VH), (g3.set h.length X ++ a)[h.length]? = some X := fun X a => by rw [List.getElem?_append_left (by simpa using hlt3)]; exact hx2 X
    have hp4 : ∀ a : VH, (g3 ++ a)[h.length]? = some (.vals true [.nil]) := fun a => by rw [List.getElem?_append_left hlt3]; exact hp3
    have e4 := fun d => l2of_v (n := x3.toNat) d (by omega)
    rw [show ((x3.toNat : Nat) : Int) = x3 by omega] at e4
    have hD : (D x3.toNat).length ≤ 4 := len_small (by omega)
    refine ⟨x3.toNat, g3.length, g3.set h.length (.vals true [.sl g3.length 0 (D x3.toNat).length 1]) ++ [.ints true .i64 (D x3.toNat)], ?_, by omega, (c3.setne (by omega) _).app _, (set_fr (((hf.trans f2).trans (Frm.app _ _ _)).trans f3) (Nat.le_refl _)).trans (Frm.app _ _ _), hlt3, by rw [List.getElem?_append_right (by simp)]; simp⟩
    generalize D x3.toNat = R at *
    clear hv hlt3
    rw [vrun_v Tryd.func207 rfl rfl rfl]; simp only [Tryd.f207]
    simp (implicitDefEqProofs := false) (disch := omega) [go_sem, tab207, nil207, e0, hl0, e2, e3, e4, hk2, hp2, hp3, hp4, hset2, hx2, hx3]
end
end
/- A cursor made; a natural number drawn bent. No conditions. -/
section
open Num
def andm (a : Int) : Int := IntKind.wrap .i64 (BitVec.ofInt 64 a &&& BitVec.ofInt 64 1073741823).toNat
theorem b_andm (P : Program) (t : TypeId) (a : Int) : binE P .and t (.int .i64 a) (.int .i64 1073741823) = some (.int .i64 (andm a)) := b_and ..
section
variable {h : VH} {b : List Int} {i : Nat}
def nwI (b : List Int) (h : VH) (j : Nat) (s : VE × VH) : Prop := ∃ v : Int, s = ([(0, some (.ints .u8 b)), (3, some (.int .i64 v)), (4, some (.int .i64 j))], h)
theorem l1New_v (d : Nat) (hb : Cod b) : ∃ s : Int, vrun Tryd.prog kn (d + 1) 123 [.ints .u8 b] h = some (.ptr h.length 0, h ++ [cur b 0 s]) := by
  have hb1 := hb.1
  have key := vi_inv (n := kn.cf.rounds) (body := vCode Tryd.prog kn (vrun Tryd.prog kn d) 123 (loopAt Tryd.f123 0)) (nwI b h)
    (fun r => ∃ (v : Int) (m : Nat), r = some (.exit 0, [(0, some (.ints .u8 b)), (3, some (.int .i64 v)), (4, some (.int .i64 m)), (15, some (.bool false))], h)) (min b.length 4000) (by rw [k_cf, c_rounds]; omega)
    (fun j s hj hI => by
      obtain ⟨v, rfl⟩ := hI
      left
      refine ⟨([(0, some (.ints .u8 b)), (3, some (.int .i64 (andm (IntKind.wrap .i64 (IntKind.wrap .i64 (IntKind.wrap .i64 (v * 131) + IntKind.wrap .i64 (gt b j)) + 7))))), (4, some (.int .i64 ((j + 1 : Nat) : Int)))], h), ?_, _, rfl⟩
      rw [round_v]; simp only [loopAt, nthC, bodyC, loops, List.nil_append, List.cons_append, List.append_nil, Tryd.f123]
      simp (implicitDefEqProofs := false) (disch := omega) [go_sem, tab123, b_andm])
    (fun s hI m => by
      obtain ⟨v, rfl⟩ := hI
      refine ⟨v, min b.length 4000, vi_exit ?_⟩
      rw [round_v]; simp only [loopAt, nthC, bodyC, loops, List.nil_append, List.cons_append, List.append_nil, Tryd.f123]
      by_cases c : min b.length 4000 < b.length
      · have c' : min b.length 4000 = 4000 := by omega
        rw [c']
        simp (implicitDefEqProofs := false) (disch := omega) [go_sem, tab123]
      · have c' : min b.length 4000 = b.length := by omega
        rw [c']
        simp (implicitDefEqProofs := false) (disch := omega) [go_sem, tab123])
    ([(0, some (.ints .u8 b)), (3, some (.int .i64 (38282 + b.length))), (4, some (.int .i64 0))], h) ⟨_, rfl⟩
  obtain ⟨v, m, hv⟩ := key
  have hl0 := fun ks => loop_v (P := Tryd.prog) (K := kn) (ks := ks) hv
  simp only [loopAt, nthC, bodyC, loops, List.nil_append, List.cons_append, List.append_nil, Tryd.f123] at hl0
  refine ⟨v, ?_⟩
  clear hv
  unfold cur
  rw [vrun_v Tryd.func123 rfl rfl rfl]; simp only [Tryd.f123]
  simp (implicitDefEqProofs := false) (disch := omega) [go_sem, tab123, hl0]
theorem gap {g : VH} {q : Nat} {o : VO} (hq : g[q]? = some o) (a : VH) : (g ++ a)[q]? = some o := by
  rw [List.getElem?_append_left (List.getElem?_eq_some_iff.1 hq).1]; exact hq
/-- The number so far: the cell that holds it, its digits, the result's cell. -/
def Bt (b : List Int) (i : Nat) (h : VH) (p : Nat) (l : List Int) (k : Nat) (g : VH) : Prop := Cu b i g ∧ Frm i h g ∧ g[p]? = some (.vals true [.sl k 0 l.length 1]) ∧ g[k]? = some (.ints true .i64 l) ∧ h.length < k ∧ h.length < p ∧ p ≠ k ∧ g[h.length]? = some (.vals true [.nil])
def btH (p k : Nat) (l : List Int) (y : Int) (g : VH) : VH := (g.set k .dead).set p (.vals true [.sl (g.length + 1) 0 (l.length + 1) 1]) ++ [.ints true .i64 [y], .ints true .i64 (l ++ [y])]
theorem Bt.step {p k : Nat} {l : List Int} {g : VH} (y : Int) (hi : i < h.length) (a : Bt b i h p l k g) : Bt b i h p (l ++ [y]) (g.length + 1) (btH p k l y g) := by
  obtain ⟨c1, f1, hp, hk, hkh, hph, hpk, hq⟩ := a
  have hpl := (List.getElem?_eq_some_iff.1 hp).1
  have hql := (List.getElem?_eq_some_iff.1 hq).1
  unfold btH
  refine ⟨((c1.setne (by omega) _).setne (by omega) _).app _, app_fr (set_fr f1 (by omega)) (by omega), ?_, ?_, by omega, hph, by omega, ?_⟩
  · rw [List.getElem?_append_left (by simpa using hpl)]; simp [hpl]
  · rw [List.getElem?_append_right (by simp)]; simp
  · rw [List.getElem?_append_left (by simpa using hql), List.getElem?_set_ne (by omega), List.getElem?_set_ne (by omega)]; exact hq
/-- What a step reads. -/
theorem Bt.rd {p k : Nat} {l : List Int} {g : VH} (a : Bt b i h p l k g) : (∀ m : VH, (g ++ m)[p]? = some (.vals true [.sl k 0 l.length 1])) ∧ (∀ m : VH, (g ++ m)[k]? = some (.ints true .i64 l)) ∧ (∀ (m : VH) (o : VO), (g ++ m).set k o = g.set k o ++ m) ∧ (∀ (m : VH) (o : VO), (g.set k o ++ m)[p]? = some (.vals true [.sl k 0 l.length 1])) ∧ (∀ (m : VH) (o o' : VO), (g.set k o ++ m).set p o' = (g.set k o).set p o' ++ m) := by
  obtain ⟨c1, f1, hp, hk, hkh, hph, hpk, hq⟩ := a
  have hpl := (List.getElem?_eq_some_iff.1 hp).1
  have hkl := (List.getElem?_eq_some_iff.1 hk).1
  exact ⟨gap hp, gap hk, fun m o => List.set_append_left _ _ hkl, fun m o => gap (by rw [List.getElem?_set_ne (Ne.symm hpk)]; exact hp) m, fun m o o' => List.set_append_left _ _ (by simpa using hpl)⟩
/-- What the end reads. -/
theorem Bt.fin {p k : Nat} {l : List Int} {g : VH} (a : Bt b i h p l k g) : g[p]? = some (.vals true [.sl k 0 l.length 1]) ∧ g[h.length]? = some (.vals true [.nil]) ∧ (∀ o : VO, (g.set h.length o)[h.length]? = some o) ∧ (∀ o : VO, Cu b i (g.set h.length o) ∨ i = h.length) ∧ (∀ o : VO, Frm i h (g.set h.length o)) ∧ ∀ o : VO, (g.set h.length o)[k]? = some (.ints true .i64 l) := by
  obtain ⟨c1, f1, hp, hk, hkh, hph, hpk, hq⟩ := a
  have hql := (List.getElem?_eq_some_iff.1 hq).1
  exact ⟨hp, hq, fun o => by simp [hql], fun o => (Nat.lt_or_ge i h.length).elim (fun _ => by
    by_cases e : i = h.length
    · exact .inr e
    · exact .inl (c1.setne (by omega) _)) (fun _ => by
    by_cases e : i = h.length
    · exact .inr e
    · exact .inl (c1.setne (by omega) _)), fun o => set_fr f1 (Nat.le_refl _), fun o => by rw [List.getElem?_set_ne (by omega)]; exact hk⟩
/-- What a bent number's digits may be. -/
def Bd (l : List Int) : Prop := ∀ x ∈ l, -1 ≤ x ∧ x ≤ 65536
theorem Bd.snoc {l : List Int} (h : Bd l) {y : Int} (h0 : -1 ≤ y) (h1 : y ≤ 65536) : Bd (l ++ [y]) := fun x hx => by
  rcases List.mem_append.1 hx with hx | hx
  · exact h x hx
  · simp at hx; omega
theorem bd_D (n : Nat) : Bd (D n) := fun x hx => by have := good_D n x hx; omega
def beX (j : Nat) : VE := if j = 0 then [(35, some (.bool false))] else []
def beI (b : List Int) (i : Nat) (h : VH) (p n0 j : Nat) (s : VE × VH) : Prop := ∃ (l : List Int) (k : Nat) (g : VH), s = ((2, some (.ptr h.length 0)) :: (3, some (.ptr p 0)) :: beX j, g) ∧ l.length = n0 + j ∧ Bt b i h p l k g ∧ Bd l
theorem be_l (call : CallV) {p k n0 : Nat} {l : List Int} {g : VH} (hi : i < h.length) (h0 : n0 = l.length) (hn : n0 ≤ 100) (a : Bt b i h p l k g) (hB : Bd l) : ∃ (l' : List Int) (k' : Nat) (g' : VH), viter (vCode Tryd.prog kn call 196 (loopAt Tryd.f196 0)) kn.cf.rounds [(2, some (.ptr h.length 0)), (3, some (.ptr p 0)), (35, some (.bool false))] g = some (.exit 1, [(2, some (.ptr h.length 0)), (3, some (.ptr p 0)), (15, some (.bool false))], g') ∧ l'.length = 101 ∧ Bt b i h p l' k' g' ∧ Bd l' := by
  have key := vi_inv (n := kn.cf.rounds) (body := vCode Tryd.prog kn call 196 (loopAt Tryd.f196 0)) (beI b i h p n0)
    (fun r => ∃ (l' : List Int) (k' : Nat) (g' : VH), r = some (.exit 1, [(2, some (.ptr h.length 0)), (3, some (.ptr p 0)), (15, some (.bool false))], g') ∧ l'.length = 101 ∧ Bt b i h p l' k' g' ∧ Bd l') (101 - n0) (by rw [k_cf, c_rounds]; omega)
    (fun j s hj hI => by
      obtain ⟨l, k, g, rfl, hl, a, hB⟩ := hI
      left
      obtain ⟨r1, r2, r3, r4, r5⟩ := a.rd
      have r0 := a.fin.1
      refine ⟨([(2, some (.ptr h.length 0)), (3, some (.ptr p 0))], btH p k l 1 g), ?_, l ++ [1], g.length + 1, btH p k l 1 g, by unfold beX; rw [if_neg (by omega)], by simp; omega, a.step 1 hi, hB.snoc (by omega) (by omega)⟩
      unfold btH
      generalize beX j = X
      have htk : l.take l.length = l := List.take_length ..
      clear a
      rw [round_v]; simp only [loopAt, nthC, bodyC, loops, List.nil_append, List.cons_append, List.append_nil, Tryd.f196]
      simp (implicitDefEqProofs := false) (disch := omega) [go_sem, tab196, r0, r1, r2, r3, r4, r5, last_at])
    (fun s hI m => by
      obtain ⟨l, k, g, rfl, hl, a, hB⟩ := hI
      have hX : beX (101 - n0) = [] := by unfold beX; rw [if_neg (by omega)]
      rw [hX]
      refine ⟨l, k, g, vi_exit ?_, by omega, a, hB⟩
      have r0 := a.fin.1
      clear a
      rw [round_v]; simp only [loopAt, nthC, bodyC, loops, List.nil_append, List.cons_append, List.append_nil, Tryd.f196]
      simp (implicitDefEqProofs := false) (disch := omega) [go_sem, tab196, r0])
    ([(2, some (.ptr h.length 0)), (3, some (.ptr p 0)), (35, some (.bool false))], g) ⟨l, k, g, rfl, by omega, a, hB⟩
  exact key
theorem l2bent_v (d : Nat) (hb : Cod b) (hc : Cu b i h) : ∃ (l : List Int) (k : Nat) (g : VH), vrun Tryd.prog kn (d + 6) 196 [.ptr i 0] h = some (.agg [.sl k 0 l.length 1], g) ∧ l.length ≤ 101 ∧ Cu b i g ∧ Frm i h g ∧ h.length < k ∧ g[k]? = some (.ints true .i64 l) ∧ Bd l := by
  obtain ⟨v, k, g0, e0, hn, q0, f0, hk, hk0⟩ := l2draw_v (d + 0) hb (hc.app [.vals true [.nil]])
  have hi := hc.lt
  have hg0 : g0[h.length]? = some (.vals true [.nil]) := f0.at (by simp) (by omega)
  simp only [List.length_append, List.length_cons, List.length_nil] at hk
  have a0 : Bt b i h g0.length (D v) k (g0 ++ [.vals true [.sl k 0 (D v).length 1]]) := ⟨q0.app _, ((Frm.app _ _ _).trans f0).trans (Frm.app _ _ _), last_at _ _, gap hk0 _, by omega, (List.getElem?_eq_some_iff.1 hg0).1, by have := (List.getElem?_eq_some_iff.1 hk0).1; omega, gap hg0 _⟩
  have hset0 : ∀ (X Y : VO), (g0 ++ [X]).set g0.length Y = g0 ++ [Y] := fun X Y => by rw [List.set_append_right _ _ (Nat.le_refl _)]; simp
  obtain ⟨x1, g1, e1, q1, f1, len1⟩ := l1Once_v (d + 2) hb a0.1 (n := 9) (by omega) (by omega)
  have keep : ∀ {g g' : VH} {l : List Int} {k p : Nat}, Bt b i h p l k g → Cu b i g' → Frm i g g' → Bt b i h p l k g' := fun a c f => ⟨c, a.2.1.trans f, f.at a.2.2.1 (by have := a.2.2.2.2.2.1; omega), f.at a.2.2.2.1 (by have := a.2.2.2.2.1; omega), a.2.2.2.2.1, a.2.2.2.2.2.1, a.2.2.2.2.2.2.1, f.at a.2.2.2.2.2.2.2 (by omega)⟩
  have a1 := keep a0 q1 f1
  have fin : ∀ {g : VH} {l : List Int} {k p : Nat}, Bt b i h p l k g → ∀ o, Cu b i (g.set h.length o) := fun a o => (a.fin.2.2.2.1 o).resolve_right (by omega)
  cases x1
  · obtain ⟨s1, s2, s3, s4, s5, s6⟩ := a1.fin
    refine ⟨D v, k, g1.set h.length (.vals true [.sl k 0 (D v).length 1]), ?_, by omega, fin a1 _, s5 _, by omega, s6 _, bd_D v⟩
    clear a1 a0 s4 s5 s6 fin keep
    rw [vrun_v Tryd.func196 rfl rfl rfl]; simp only [Tryd.f196]
    simp (implicitDefEqProofs := false) (disch := omega) [go_sem, tab196, e0, e1, last_at, hset0, s1, s2, s3]
  · obtain ⟨x2, g2, e2, x20, x24, q2, f2, len2⟩ := l1Below_v (d + 3) hb q1 (n := 4) (by omega) (by omega)
    have a2 := keep a1 q2 f2
    by_cases z3 : x2 = 3
    · subst z3
      obtain ⟨l', k', g', hv, hl', a', hB'⟩ := be_l (vrun Tryd.prog kn (d + 2 + 3)) hi rfl (by omega) a2 (bd_D v)
      have hl0 := fun ks => loop_v (P := Tryd.prog) (K := kn) (ks := ks) hv
      simp only [loopAt, nthC, bodyC, loops, List.nil_append, List.cons_append, List.append_nil, Tryd.f196] at hl0
      obtain ⟨s1, s2, s3, s4, s5, s6⟩ := a'.fin
      refine ⟨l', k', g'.set h.length (.vals true [.sl k' 0 l'.length 1]), ?_, by omega, fin a' _, s5 _, a'.2.2.2.2.1, s6 _, hB'⟩
      clear a1 a0 a2 a' s4 s5 s6 fin keep hv
      rw [vrun_v Tryd.func196 rfl rfl rfl]; simp only [Tryd.f196]
      simp (implicitDefEqProofs := false) (disch := omega) [go_sem, tab196, e0, e1, e2, hl0, last_at, hset0, s1, s2, s3]
    · obtain ⟨r1, r2, r3, r4, r5⟩ := a2.rd
      have r0 := a2.fin.1
      obtain ⟨y, hy⟩ : ∃ y : Int, y = if x2 = 0 then 0 else if x2 = 1 then -1 else 65536 := ⟨_, rfl⟩
      have a' := a2.step y hi
      obtain ⟨s1, s2, s3, s4, s5, s6⟩ := a'.fin
      refine ⟨D v ++ [y], g2.length + 1, (btH g0.length k (D v) y g2).set h.length (.vals true [.sl (g2.length + 1) 0 (D v ++ [y]).length 1]), ?_, by simp; omega, fin a' _, s5 _, a'.2.2.2.2.1, s6 _, (bd_D v).snoc (by split at hy <;> (try split at hy) <;> omega) (by split at hy <;> (try split at hy) <;> omega)⟩
      simp only [List.length_append, List.length_cons, List.length_nil] at s1 s2 s3 ⊢
      clear a1 a0 a2 a' s4 s5 s6 fin keep
      unfold btH at *
      rcases (by omega : x2 = 0 ∨ x2 = 1 ∨ x2 = 2) with rfl | rfl | rfl
      all_goals
        simp at hy
        subst hy
        rw [vrun_v Tryd.func196 rfl rfl rfl]; simp only [Tryd.f196]
        simp (implicitDefEqProofs := false) (disch := omega) [go_sem, tab196, e0, e1, e2, last_at, hset0, r0, r1, r2, r3, r4, r5, s1, s2, s3]
end
end
/- Whole numbers drawn, bent. No conditions. -/
section
open Num
section
variable {h : VH} {b : List Int} {i : Nat}
/-- Digits as a value. -/
def Dg (g : VH) (m : Nat) (x : V) (l : List Int) : Prop := x = .ints .i64 l ∨ (x = .nil ∧ l = []) ∨ ∃ k, x = .sl k 0 l.length 1 ∧ m < k ∧ g[k]? = some (.ints true .i64 l)
theorem set_at {g : VH} {q : Nat} {o : VO} (hq : g[q]? = some o) (X : VO) : (g.set q X)[q]? = some X := by
  have := (List.getElem?_eq_some_iff.1 hq).1
  simp [this]
theorem set_ne {g : VH} {q p : Nat} (h : q ≠ p) (X : VO) : (g.set q X)[p]? = g[p]? := List.getElem?_set_ne h
theorem l3draw_v (d : Nat) (hb : Cod b) (hc : Cu b i h) : ∃ (n : Bool) (a : Nat) (g : VH), vrun Tryd.prog kn (d + 6) 195 [.ptr i 0] h = some (.agg [.bool n, .ints .i64 (D a)], g) ∧ (a = 0 → n = false) ∧ (D a).length ≤ 100 ∧ Cu b i g ∧ Frm i h g := by
  obtain ⟨x1, g1, e1, q1, f1, l1⟩ := l1Once_v (d + 2) hb (hc.app [.vals true [.bool false, .nil]]) (n := 2) (by omega) (by omega)
  obtain ⟨v, k, g2, e2, hn, q2, f2, hk, hk0⟩ := l2draw_v (d + 0) hb q1
  have hi := hc.lt
  have hg1 : g1[h.length]? = some (.vals true [.bool false, .nil]) := f1.at (by simp) (by omega)
  have hg2 := f2.at hg1 (by omega)
  have hp3 : (g2.modify k VO.ro)[h.length]? = some (.vals true [.bool false, .nil]) := by rw [mod_ne (by have := (List.getElem?_eq_some_iff.1 hg1).1; omega)]; exact hg2
  have hset := set_at hp3
  have a3 := fun d => l3make_v (n := x1) (a := v) d (by omega)
  have hlt1 := (List.getElem?_eq_some_iff.1 hg1).1
  refine ⟨x1 && decide (v ≠ 0), v, (g2.modify k VO.ro).set h.length (.vals true [.bool (x1 && decide (v ≠ 0)), .ints .i64 (D v)]), ?_, fun h => by simp [h], hn, (q2.modne (by omega)).setne (by omega) _, set_fr (mod_fr (((Frm.app _ _ _).trans f1).trans f2) (by omega)) (Nat.le_refl _)⟩
  generalize D v = R at *
  generalize (x1 && decide (v ≠ 0)) = B at *
  clear hlt1
  rw [vrun_v Tryd.func195 rfl rfl rfl]; simp only [Tryd.f195]
  simp (implicitDefEqProofs := false) (disch := omega) [go_sem, tab195, e1, e2, a3, hk0, hg2, hp3, hset]
theorem l3bent_v (d : Nat) (hb : Cod b) (hc : Cu b i h) : ∃ (n : Bool) (x : V) (l : List Int) (g : VH), vrun Tryd.prog kn (d + 7) 167 [.ptr i 0] h = some (.agg [.bool n, x], g) ∧ l.length ≤ 101 ∧ Dg g h.length x l ∧ Cu b i g ∧ Frm i h g := by
  obtain ⟨n, a, g0, e0, hna, hn, q0, f0⟩ := l3draw_v (d + 0) hb (hc.app [.vals true [.bool false, .nil]])
  have hi := hc.lt
  have hg0 : g0[h.length]? = some (.vals true [.bool false, .nil]) := f0.at (by simp) (by omega)
  have hl0 := (List.getElem?_eq_some_iff.1 hg0).1
  obtain ⟨x1, g1, e1, q1, f1, l1⟩ := l1Once_v (d + 3) hb (q0.app [.vals true [.bool n, .ints .i64 (D a)]]) (n := 9) (by omega) (by omega)
  have hq1 : g1[h.length]? = some (.vals true [.bool false, .nil]) := f1.at (gap hg0 _) (by omega)
  have hp1 : g1[g0.length]? = some (.vals true [.bool n, .ints .i64 (D a)]) := f1.at (last_at _ _) (by omega)
  have f01 : Frm i h g1 := (((Frm.app _ _ _).trans f0).trans (Frm.app _ _ _)).trans f1
  cases x1
  · have s1 := set_at hq1
    refine ⟨n, .ints .i64 (D a), D a, g1.set h.length (.vals true [.bool n, .ints .i64 (D a)]), ?_, by omega, .inl rfl, q1.setne (by omega) _, set_fr f01 (Nat.le_refl _)⟩
    generalize D a = R at *
    clear hl0
    rw [vrun_v Tryd.func167 rfl rfl rfl]; simp only [Tryd.f167]
    simp (implicitDefEqProofs := false) (disch := omega) [go_sem, tab167, e0, e1, hq1, hp1, s1, last_at]
  · obtain ⟨x2, g2, e2, q2, f2, l2⟩ := l1Once_v (d + 3) hb q1 (n := 2) (by omega) (by omega)
    have hq2 := f2.at hq1 (by omega)
    have hp2 := f2.at hp1 (by omega)
    cases x2
    · obtain ⟨l, k, g3, e3, hl, q3, f3, hk, hk3, -⟩ := l2bent_v (d + 0) hb q2
      have hq3 := f3.at hq2 (by omega)
      have hp3 := f3.at hp2 (by omega)
      have hl2 := (List.getElem?_eq_some_iff.1 hp2).1
      have s1 := set_at hp3
      have s2 : ∀ X, (g3.set g0.length X)[h.length]? = some (.vals true [.bool false, .nil]) := fun X => by rw [set_ne (by omega)]; exact hq3
      have s3 := fun X => set_at (s2 X)
      refine ⟨n, .sl k 0 l.length 1, l, (g3.set g0.length (.vals true [.bool n, .sl k 0 l.length 1])).set h.length (.vals true [.bool n, .sl k 0 l.length 1]), ?_, hl, .inr (.inr ⟨k, rfl, by omega, by rw [set_ne (by omega), set_ne (by omega)]; exact hk3⟩), (q3.setne (by omega) _).setne (by omega) _, set_fr (set_fr ((f01.trans f2).trans f3) (by omega)) (Nat.le_refl _)⟩
      clear hl0 hl2
      generalize D a = R at *
      rw [vrun_v Tryd.func167 rfl rfl rfl]; simp only [Tryd.f167]
      simp (implicitDefEqProofs := false) (disch := omega) [go_sem, tab167, e0, e1, e2, e3, hp3, s1, s2, s3, last_at]
    · have s1 := set_at hq2
      refine ⟨true, .nil, [], g2.set h.length (.vals true [.bool true, .nil]), ?_, by simp, .inr (.inl ⟨rfl, rfl⟩), q2.setne (by omega) _, set_fr (f01.trans f2) (Nat.le_refl _)⟩
      clear hl0
      generalize D a = R at *
      rw [vrun_v Tryd.func167 rfl rfl rfl]; simp only [Tryd.f167]
      simp (implicitDefEqProofs := false) (disch := omega) [go_sem, tab167, e0, e1, e2, hq2, s1, last_at]
end
end
/- Dyadic numbers drawn, bent. No conditions. -/
section
open Num
section
variable {h : VH} {b : List Int} {i : Nat}
theorem l4draw_v (d : Nat) (hb : Cod b) (hc : Cu b i h) : ∃ (n : Bool) (x : V) (l : List Int) (e : Int) (g : VH), vrun Tryd.prog kn (d + 7) 165 [.ptr i 0] h = some (.agg [.bool n, x, .int .i64 e], g) ∧ l.length ≤ 100 ∧ (x = .ints .i64 l ∨ (x = .nil ∧ l = [])) ∧ Cu b i g ∧ Frm i h g := by
  obtain ⟨n, a, g0, e0, hna, hn, q0, f0⟩ := l3draw_v (d + 0) hb (hc.app [.vals true [.bool false, .nil, .int .i64 0]])
  have hi := hc.lt
  have hg0 : g0[h.length]? = some (.vals true [.bool false, .nil, .int .i64 0]) := f0.at (by simp) (by omega)
  have hl0 := (List.getElem?_eq_some_iff.1 hg0).1
  obtain ⟨x1, g1, e1, q1, f1, l1⟩ := l1Once_v (d + 3) hb (q0.app [.vals true [.bool n, .ints .i64 (D a)]]) (n := 3) (by omega) (by omega)
  have hq1 : g1[h.length]? = some (.vals true [.bool false, .nil, .int .i64 0]) := f1.at (gap hg0 _) (by omega)
  have hp1 : g1[g0.length]? = some (.vals true [.bool n, .ints .i64 (D a)]) := f1.at (last_at _ _) (by omega)
  have f01 : Frm i h g1 := (((Frm.app _ _ _).trans f0).trans (Frm.app _ _ _)).trans f1
  have A : ∃ (w : Bool) (a' : Nat) (g2 : VH), (a' = 0 → w = false) ∧ (D a').length ≤ 100 ∧ Cu b i g2 ∧ Frm i h g2 ∧ g2[h.length]? = some (.vals true [.bool false, .nil, .int .i64 0]) ∧ g2[g0.length]? = some (.vals true [.bool w, .ints .i64 (D a')]) ∧ ((x1 = false ∧ w = n ∧ a' = a ∧ g2 = g1) ∨ (x1 = true ∧ ∃ (y : Int) (g' : VH), vrun Tryd.prog kn (d + 4 + 2) 127 [.ptr i 0, .int .i64 40] g1 = some (.int .i64 y, g') ∧ 0 ≤ y ∧ y < 40 ∧ w = decide (y - 20 < 0) ∧ a' = (y - 20).natAbs ∧ g'[g0.length]? = some (.vals true [.bool n, .ints .i64 (D a)]) ∧ g2 = g'.set g0.length (.vals true [.bool w, .ints .i64 (D a')]))) := by
    cases x1
    · exact ⟨n, a, g1, hna, hn, q1, f01, hq1, hp1, .inl ⟨rfl, rfl, rfl, rfl⟩⟩
    · obtain ⟨y, g', e2, y0, y1, q2, f2, l2⟩ := l1Below_v (d + 4) hb q1 (n := 40) (by omega) (by omega)
      have hp2 := f2.at hp1 (by omega)
      have hq2 := f2.at hq1 (by omega)
      refine ⟨decide (y - 20 < 0), (y - 20).natAbs, g'.set g0.length (.vals true [.bool (decide (y - 20 < 0)), .ints .i64 (D (y - 20).natAbs)]), fun h => by simp; omega, ?_, q2.setne (by omega) _, set_fr (f01.trans f2) (by omega), by rw [set_ne (by omega)]; exact hq2, set_at hp2 _, .inr ⟨rfl, y, g', e2, y0, y1, rfl, rfl, hp2, rfl⟩⟩
      have : (D (y - 20).natAbs).length ≤ 4 := len_small (by omega)
      omega
  obtain ⟨w, a', g2, hw, ha', q2, f2, hq2, hp2, hA⟩ := A
  obtain ⟨y2, g3, e3, y20, y21, q3, f3, l3⟩ := l1Below_v (d + 4) hb q2 (n := 24) (by omega) (by omega)
  obtain ⟨x4, g4, e4, q4, f4, l4⟩ := l1Once_v (d + 3) hb q3 (n := 6) (by omega) (by omega)
  have hq4 := f4.at (f3.at hq2 (by omega)) (by omega)
  have hp4 := f4.at (f3.at hp2 (by omega)) (by omega)
  have f04 := (f2.trans f3).trans f4
  have B : ∃ (e : Int) (g5 : VH), -3000 ≤ e ∧ e ≤ 3000 ∧ Cu b i g5 ∧ Frm i h g5 ∧ g5[h.length]? = some (.vals true [.bool false, .nil, .int .i64 0]) ∧ g5[g0.length]? = some (.vals true [.bool w, .ints .i64 (D a')]) ∧ ((x4 = false ∧ e = y2 - 12 ∧ g5 = g4) ∨ (x4 = true ∧ vrun Tryd.prog kn (d + 3 + 3) 166 [.ptr i 0, .sl g4.length 0 8 1] (g4 ++ [.ints true .i64 [0, -60, 60, -1074, 900, -2990, 2990, -100]]) = some (.int .i64 e, g5))) := by
    cases x4
    · exact ⟨y2 - 12, g4, by omega, by omega, q4, f04, hq4, hp4, .inl ⟨rfl, rfl, rfl⟩⟩
    · obtain ⟨e, g5, e5, he, q5, f5, l5⟩ := l1Pick_v (d + 3) hb (q4.app [.ints true .i64 [0, -60, 60, -1074, 900, -2990, 2990, -100]]) (L := [0, -60, 60, -1074, 900, -2990, 2990, -100]) (last_at _ _) (n := 8) rfl (by simp) (by simp)
      have hx : -3000 ≤ e ∧ e ≤ 3000 := by
        simp only [List.mem_cons, List.not_mem_nil, or_false] at he
        omega
      exact ⟨e, g5, hx.1, hx.2, q5, (f04.trans (Frm.app _ _ _)).trans f5, f5.at (gap hq4 _) (by omega), f5.at (gap hp4 _) (by omega), .inr ⟨rfl, e5⟩⟩
  obtain ⟨e, g5, he0, he1, q5, f5, hq5, hp5, hB⟩ := B
  have a6 := fun d => sDyOf_v (w := w) (a := a') (e := e) d ha' hw (by omega) (by omega)
  have hR : (fitT (mkD w a' e)).l.length ≤ 100 := fitT_len _
  have hq6 : ∀ X : VO, (g5 ++ [X])[h.length]? = some (.vals true [.bool false, .nil, .int .i64 0]) := fun X => gap hq5 _
  have hs6 := fun X => set_at (hq6 X)
  have a3 : ∀ (y : Int), 0 ≤ y → y < 40 → ∀ d, vrun Tryd.prog kn (d + 3) 72 [.int .i64 (y - 20)] [] = some (.agg [.bool (decide (y - 20 < 0)), .ints .i64 (D (y - 20).natAbs)], []) := fun y y0 y1 d => l3of_v d (by omega) (by omega)
  have hset : ∀ (g : VH) (X Y : VO), (g ++ [X]).set g.length Y = g ++ [Y] := fun g X Y => by rw [List.set_append_right _ _ (Nat.le_refl _)]; simp
  generalize fitT (mkD w a' e) = R at *
  generalize dyFit (mkD w a' e) = F at *
  unfold DyT.v at a6
  cases F
  · refine ⟨false, .nil, [], 0, (g5 ++ ([.vals true [.bool R.neg, .ints .i64 R.l, .int .i64 R.e]] : VH)).set h.length (.vals true [.bool false, .nil, .int .i64 0]), ?_, by simp, .inr ⟨rfl, rfl⟩, (q5.app _).setne (by omega) _, set_fr (f5.trans (Frm.app _ _ _)) (Nat.le_refl _)⟩
    clear hl0 hw
    rcases hA with ⟨rfl, rfl, rfl, rfl⟩ | ⟨rfl, y, g', eA, y0, y1, rfl, rfl, hpA, rfl⟩
    · rcases hB with ⟨rfl, rfl, rfl⟩ | ⟨rfl, eB⟩
      · rw [vrun_v Tryd.func165 rfl rfl rfl]; simp only [Tryd.f165]
        simp (implicitDefEqProofs := false) (disch := omega) [go_sem, tab165, e0, e1, e3, e4, a6, hp5, hq6, hs6, hset, last_at]
      · rw [vrun_v Tryd.func165 rfl rfl rfl]; simp only [Tryd.f165]
        simp (implicitDefEqProofs := false) (disch := omega) [go_sem, tab165, e0, e1, e3, e4, eB, a6, hp5, hq6, hs6, hset, last_at]
    · have a3' := a3 y y0 y1
      have s1 := set_at hpA
      generalize D (y - 20).natAbs = Q at *
      rcases hB with ⟨rfl, rfl, rfl⟩ | ⟨rfl, eB⟩
      · rw [vrun_v Tryd.func165 rfl rfl rfl]; simp only [Tryd.f165]
        simp (implicitDefEqProofs := false) (disch := omega) [go_sem, tab165, e0, e1, e3, e4, eA, a3', s1, hpA, a6, hp5, hq6, hs6, hset, last_at]
      · rw [vrun_v Tryd.func165 rfl rfl rfl]; simp only [Tryd.f165]
        simp (implicitDefEqProofs := false) (disch := omega) [go_sem, tab165, e0, e1, e3, e4, eA, a3', s1, hpA, eB, a6, hp5, hq6, hs6, hset, last_at]
  · refine ⟨R.neg, .ints .i64 R.l, R.l, R.e, (g5 ++ ([.vals true [.bool R.neg, .ints .i64 R.l, .int .i64 R.e]] : VH)).set h.length (.vals true [.bool R.neg, .ints .i64 R.l, .int .i64 R.e]), ?_, hR, .inl rfl, (q5.app _).setne (by omega) _, set_fr (f5.trans (Frm.app _ _ _)) (Nat.le_refl _)⟩
    clear hl0 hw hR
    rcases hA with ⟨rfl, rfl, rfl, rfl⟩ | ⟨rfl, y, g', eA, y0, y1, rfl, rfl, hpA, rfl⟩
    · rcases hB with ⟨rfl, rfl, rfl⟩ | ⟨rfl, eB⟩
      · rw [vrun_v Tryd.func165 rfl rfl rfl]; simp only [Tryd.f165]
        simp (implicitDefEqProofs := false) (disch := omega) [go_sem, tab165, e0, e1, e3, e4, a6, hp5, hq6, hs6, hset, last_at]
      · rw [vrun_v Tryd.func165 rfl rfl rfl]; simp only [Tryd.f165]
        simp (implicitDefEqProofs := false) (disch := omega) [go_sem, tab165, e0, e1, e3, e4, eB, a6, hp5, hq6, hs6, hset, last_at]
    · have a3' := a3 y y0 y1
      have s1 := set_at hpA
      generalize D (y - 20).natAbs = Q at *
      rcases hB with ⟨rfl, rfl, rfl⟩ | ⟨rfl, eB⟩
      · rw [vrun_v Tryd.func165 rfl rfl rfl]; simp only [Tryd.f165]
        simp (implicitDefEqProofs := false) (disch := omega) [go_sem, tab165, e0, e1, e3, e4, eA, a3', s1, hpA, a6, hp5, hq6, hs6, hset, last_at]
      · rw [vrun_v Tryd.func165 rfl rfl rfl]; simp only [Tryd.f165]
        simp (implicitDefEqProofs := false) (disch := omega) [go_sem, tab165, e0, e1, e3, e4, eA, a3', s1, hpA, eB, a6, hp5, hq6, hs6, hset, last_at]
theorem l4bent_v (d : Nat) (hb : Cod b) (hc : Cu b i h) : ∃ (n : Bool) (x : V) (l : List Int) (e : Int) (g : VH), vrun Tryd.prog kn (d + 8) 124 [.ptr i 0] h = some (.agg [.bool n, x, .int .i64 e], g) ∧ l.length ≤ 101 ∧ Dg g h.length x l ∧ Cu b i g ∧ Frm i h g := by
  obtain ⟨n, x, l, e, g0, e0, hl, hx, q0, f0⟩ := l4draw_v (d + 0) hb (hc.app [.vals true [.bool false, .nil, .int .i64 0]])
  have hi := hc.lt
  have hg0 : g0[h.length]? = some (.vals true [.bool false, .nil, .int .i64 0]) := f0.at (by simp) (by omega)
  have hl0 := (List.getElem?_eq_some_iff.1 hg0).1
  obtain ⟨x1, g1, e1, q1, f1, l1⟩ := l1Once_v (d + 4) hb (q0.app [.vals true [.bool n, x, .int .i64 e]]) (n := 9) (by omega) (by omega)
  have hq1 : g1[h.length]? = some (.vals true [.bool false, .nil, .int .i64 0]) := f1.at (gap hg0 _) (by omega)
  have hp1 : g1[g0.length]? = some (.vals true [.bool n, x, .int .i64 e]) := f1.at (last_at _ _) (by omega)
  have f01 : Frm i h g1 := (((Frm.app _ _ _).trans f0).trans (Frm.app _ _ _)).trans f1
  have hset : ∀ (g : VH) (X Y : VO), (g ++ [X]).set g.length Y = g ++ [Y] := fun g X Y => by rw [List.set_append_right _ _ (Nat.le_refl _)]; simp
  have dg : ∀ g, Dg g h.length x l := fun g => hx.elim .inl fun h => .inr (.inl h)
  cases x1
  · have s1 := set_at hq1
    refine ⟨n, x, l, e, g1.set h.length (.vals true [.bool n, x, .int .i64 e]), ?_, by omega, dg _, q1.setne (by omega) _, set_fr f01 (Nat.le_refl _)⟩
    clear hl0 hx dg
    rw [vrun_v Tryd.func124 rfl rfl rfl]; simp only [Tryd.f124]
    simp (implicitDefEqProofs := false) (disch := omega) [go_sem, tab124, e0, e1, hq1, hp1, s1, hset, last_at]
  · obtain ⟨y, g2, e2, y0, y1, q2, f2, l2⟩ := l1Below_v (d + 5) hb q1 (n := 3) (by omega) (by omega)
    have hq2 := f2.at hq1 (by omega)
    have hp2 := f2.at hp1 (by omega)
    have hl2 := (List.getElem?_eq_some_iff.1 hp2).1
    rcases (by omega : y = 0 ∨ y = 1 ∨ y = 2) with rfl | rfl | rfl
    · obtain ⟨e', g3, e3, he, q3, f3, l3⟩ := l1Pick_v (d + 4) hb (q2.app [.ints true .i64 [-3001, 3001, 3000, 4611686018427387904]]) (L := [-3001, 3001, 3000, 4611686018427387904]) (last_at _ _) (n := 4) rfl (by simp) (by simp)
      have hq3 := f3.at (gap hq2 _) (by omega)
      have hp3 := f3.at (gap hp2 _) (by omega)
      have s1 := set_at hp3
      have s2 : ∀ X, (g3.set g0.length X)[h.length]? = some (.vals true [.bool false, .nil, .int .i64 0]) := fun X => by rw [set_ne (by omega)]; exact hq3
      have s3 := fun X => set_at (s2 X)
      refine ⟨n, x, l, e', (g3.set g0.length (.vals true [.bool n, x, .int .i64 e'])).set h.length (.vals true [.bool n, x, .int .i64 e']), ?_, by omega, dg _, (q3.setne (by omega) _).setne (by omega) _, set_fr (set_fr (((f01.trans f2).trans (Frm.app _ _ _)).trans f3) (by omega)) (Nat.le_refl _)⟩
      clear hl0 hx dg hl2
      rw [vrun_v Tryd.func124 rfl rfl rfl]; simp only [Tryd.f124]
      simp (implicitDefEqProofs := false) (disch := omega) [go_sem, tab124, e0, e1, e2, e3, hp3, s1, s2, s3, hset, last_at]
    · obtain ⟨n', x', l', g3, e3, hl', hx', q3, f3⟩ := l3bent_v (d + 0) hb q2
      have hq3 := f3.at hq2 (by omega)
      have hp3 := f3.at hp2 (by omega)
      have s1 := set_at hp3
      have s2 : ∀ X, (g3.set g0.length X)[h.length]? = some (.vals true [.bool false, .nil, .int .i64 0]) := fun X => by rw [set_ne (by omega)]; exact hq3
      have s3 := fun X => set_at (s2 X)
      refine ⟨n', x', l', e, (g3.set g0.length (.vals true [.bool n', x', .int .i64 e])).set h.length (.vals true [.bool n', x', .int .i64 e]), ?_, hl', ?_, (q3.setne (by omega) _).setne (by omega) _, set_fr (set_fr ((f01.trans f2).trans f3) (by omega)) (Nat.le_refl _)⟩
      · clear hl0 hx dg hl2 hx'
        rw [vrun_v Tryd.func124 rfl rfl rfl]; simp only [Tryd.f124]
        simp (implicitDefEqProofs := false) (disch := omega) [go_sem, tab124, e0, e1, e2, e3, hp3, s1, s2, s3, hset, last_at]
      · rcases hx' with h' | h' | ⟨k, h1, h2, h3⟩
        · exact .inl h'
        · exact .inr (.inl h')
        · exact .inr (.inr ⟨k, h1, by omega, by rw [set_ne (by omega), set_ne (by omega)]; exact h3⟩)
    · have s1 := set_at hp2
      have s2 : ∀ X, (g2.set g0.length X)[h.length]? = some (.vals true [.bool false, .nil, .int .i64 0]) := fun X => by rw [set_ne (by omega)]; exact hq2
      have s3 := fun X => set_at (s2 X)
      refine ⟨!n, x, l, e, (g2.set g0.length (.vals true [.bool !n, x, .int .i64 e])).set h.length (.vals true [.bool !n, x, .int .i64 e]), ?_, by omega, dg _, (q2.setne (by omega) _).setne (by omega) _, set_fr (set_fr (f01.trans f2) (by omega)) (Nat.le_refl _)⟩
      clear hl0 hx dg hl2
      rw [vrun_v Tryd.func124 rfl rfl rfl]; simp only [Tryd.f124]
      simp (implicitDefEqProofs := false) (disch := omega) [go_sem, tab124, e0, e1, e2, hp2, s1, s2, s3, hset, last_at]
end
end
/- Two dyadic numbers drawn off a code. No conditions. -/
section
open Num
section
variable {b : List Int}
theorem two {G : VH} {Z Z' : VO} (h0 : G[0]? = some Z) (h1 : G[1]? = some Z') : (∀ A, (G.set 0 A)[1]? = some Z') ∧ (∀ A B, ((G.set 0 A).set 1 B)[0]? = some A) ∧ (∀ A B, ((G.set 0 A).set 1 B)[1]? = some B) ∧ (∀ A B k, 1 < k → ((G.set 0 A).set 1 B)[k]? = G[k]?) := by
  have l0 := (List.getElem?_eq_some_iff.1 h0).1
  have l1 := (List.getElem?_eq_some_iff.1 h1).1
  refine ⟨fun A => ?_, fun A B => ?_, fun A B => ?_, fun A B k hk => ?_⟩
  · rw [List.getElem?_set_ne (by omega)]; exact h1
  · rw [List.getElem?_set_ne (by omega)]; simp [l0]
  · simp [l1]
  · rw [List.getElem?_set_ne (by omega), List.getElem?_set_ne (by omega)]
set_option maxHeartbeats 4000000 in
theorem DrawDyCmp_v (d : Nat) (hb : Cod b) : ∃ x y : DyT, vrun Tryd.prog kn (d + 9) 61 [.ints .u8 b] [] = some (.tup [.agg [.bool x.neg, .ints .i64 x.l, .int .i64 x.e], .agg [.bool y.neg, .ints .i64 y.l, .int .i64 y.e]], []) ∧ x.l.length ≤ 5000 ∧ y.l.length ≤ 5000 := by
  obtain ⟨s, e0⟩ := l1New_v (h := [.vals true [.bool false, .nil, .int .i64 0], .vals true [.bool false, .nil, .int .i64 0]]) (d + 7) hb
  simp only [List.length_cons, List.length_nil, List.cons_append, List.nil_append] at e0
  have c0 : Cu b 2 [.vals true [.bool false, .nil, .int .i64 0], .vals true [.bool false, .nil, .int .i64 0], cur b 0 s] := ⟨0, s, rfl, by omega, by omega⟩
  obtain ⟨n, x, l, e, g0, eb, hl, dx, q0, f0⟩ := l4bent_v (d + 0) hb c0
  have h30 := f0.1
  simp only [List.length_cons, List.length_nil] at h30
  have z0 : g0[0]? = some (.vals true [.bool false, .nil, .int .i64 0]) := f0.at rfl (by omega)
  have z1 : g0[1]? = some (.vals true [.bool false, .nil, .int .i64 0]) := f0.at rfl (by omega)
  obtain ⟨x1, g1, e1, q1, f1, l1⟩ := l1Once_v (d + 5) hb (q0.app [.vals true [.bool n, x, .int .i64 e]]) (n := 4) (by omega) (by omega)
  have h0 := f1.at (gap z0 _) (by omega)
  have h1 := f1.at (gap z1 _) (by omega)
  have hp : g1[g0.length]? = some (.vals true [.bool n, x, .int .i64 e]) := f1.at (last_at _ _) (by omega)
  have hpl := (List.getElem?_eq_some_iff.1 hp).1
  have dx1 : Dg g1 2 x l := by
    rcases dx with h | h | ⟨k, k1, k2, k3⟩
    · exact .inl h
    · exact .inr (.inl h)
    · simp only [List.length_cons, List.length_nil] at k2
      exact .inr (.inr ⟨k, k1, by omega, f1.at (gap k3 _) (by omega)⟩)
  have hset : ∀ (g : VH) (X Y : VO), (g ++ [X]).set g.length Y = g ++ [Y] := fun g X Y => by rw [List.set_append_right _ _ (Nat.le_refl _)]; simp
  have a1 := fun d => sDyOk_v d n (l := l) e (by omega)
  have qr : Cu b 2 (g1.modify g0.length VO.ro) := q1.modne (by omega)
  clear z0 z1 dx
  by_cases hok : x1 = true ∧ dyOkB ⟨n, l, e⟩ = true
  · obtain ⟨rfl, hok⟩ := hok
    rw [hok] at a1
    obtain ⟨o1, o2, o3, o4, o5⟩ := okD hok
    obtain ⟨y, g2, e2, y0, y1, q2, f2, l2⟩ := l1Below_v (d + 6) hb q1 (n := 3) (by omega) (by omega)
    obtain ⟨ys, g2s, e2s, -⟩ := l1Below_v (d + 6) hb qr (n := 3) (by omega) (by omega)
    have a3 := fun d => l3of_v (n := y - 1) d (by omega) (by omega)
    have hc : (D (y - 1).natAbs).length ≤ 4 := len_small (by omega)
    have a4 := fun d => l4add_v (n := n) (m := decide (y - 1 < 0)) (a := DyT.n ⟨n, l, e⟩) (b := (y - 1).natAbs) (ex := e) (ey := 0) d (by omega) (by omega) (by simp only at o3; omega) (by simp only at o4; omega) (by omega) (by omega) o5 (fun h => by simp; omega)
    simp only at o1 o3 o4
    rw [← o1] at a4
    have hR : (mkD (ssN n (alA (DyT.n ⟨n, l, e⟩) e (y - 1).natAbs 0) (decide (y - 1 < 0)) (alB (DyT.n ⟨n, l, e⟩) e (y - 1).natAbs 0)) (ssV n (alA (DyT.n ⟨n, l, e⟩) e (y - 1).natAbs 0) (decide (y - 1 < 0)) (alB (DyT.n ⟨n, l, e⟩) e (y - 1).natAbs 0)) (alE (DyT.n ⟨n, l, e⟩) e (y - 1).natAbs 0)).l.length ≤ 5000 := by
      obtain ⟨k1, k2, k3, k4⟩ := al_small (a := DyT.n ⟨n, l, e⟩) (b := (y - 1).natAbs) (ex := e) (ey := 0) o2 (by omega) o3 o4 (by omega) (by omega)
      have k5 := ssV_len (n := n) (m := decide (y - 1 < 0)) k1 k2
      refine Nat.le_trans mkD_len ?_
      omega
    generalize mkD (ssN n (alA (DyT.n ⟨n, l, e⟩) e (y - 1).natAbs 0) (decide (y - 1 < 0)) (alB (DyT.n ⟨n, l, e⟩) e (y - 1).natAbs 0)) (ssV n (alA (DyT.n ⟨n, l, e⟩) e (y - 1).natAbs 0) (decide (y - 1 < 0)) (alB (DyT.n ⟨n, l, e⟩) e (y - 1).natAbs 0)) (alE (DyT.n ⟨n, l, e⟩) e (y - 1).natAbs 0) = R at *
    unfold DyT.v at a4
    generalize D (y - 1).natAbs = Q at *
    have g20 := f2.at h0 (by omega)
    have g21 := f2.at h1 (by omega)
    refine ⟨⟨n, l, e⟩, R, ?_, by simp only; omega, hR⟩
    rcases dx1 with rfl | ⟨rfl, rfl⟩ | ⟨k, rfl, hk2, hk1⟩
    · obtain ⟨t1, t2, t3, t4⟩ := two g20 g21
      clear hpl
      rw [vrun_v Tryd.func61 rfl rfl rfl]; simp only [Tryd.f61]
      simp (implicitDefEqProofs := false) (disch := omega) [go_sem, tab61, e0, eb, e1, a1, h0, h1, hp, last_at, hset, e2, e2s, a3, a4, g20, g21, t1, t2, t3, w_nil, w_op, w_if, w_Gt, w_Gf, w_Xs, w_V, r_xWt, vmodI, vldI, vmodS, vldS, vmodA, vmodB, vldOK, V.self, vimp, w_safe, w_safe0, w_safeC]
    · obtain ⟨t1, t2, t3, t4⟩ := two g20 g21
      clear hpl
      rw [vrun_v Tryd.func61 rfl rfl rfl]; simp only [Tryd.f61]
      simp (implicitDefEqProofs := false) (disch := omega) [go_sem, tab61, e0, eb, e1, a1, h0, h1, hp, last_at, hset, e2, e2s, a3, a4, g20, g21, t1, t2, t3, w_nil, w_op, w_if, w_Gt, w_Gf, w_Xs, w_V, r_xWt, vmodI, vldI, vmodS, vldS, vmodA, vmodB, vldOK, V.self, vimp, w_safe, w_safe0, w_safeC]
    · have hk := f2.at hk1 (by omega)
      have m0 : (g2.modify k VO.ro)[0]? = _ := (mod_ne (by omega)).trans g20
      have m1 : (g2.modify k VO.ro)[1]? = _ := (mod_ne (by omega)).trans g21
      obtain ⟨t1, t2, t3, t4⟩ := two m0 m1
      have hkl := (List.getElem?_eq_some_iff.1 hk).1
      have mk : (g2.modify k VO.ro)[k]? = some (.ints false .i64 l) := by rw [List.getElem?_modify, hk]; simp [VO.ro]
      have t5 : ∀ A B, (((g2.modify k VO.ro).set 0 A).set 1 B)[k]? = some (.ints false .i64 l) := fun A B => (t4 A B k (by omega)).trans mk
      clear hpl hkl
      rw [vrun_v Tryd.func61 rfl rfl rfl]; simp only [Tryd.f61]
      simp (implicitDefEqProofs := false) (disch := omega) [go_sem, tab61, e0, eb, e1, a1, h0, h1, hp, last_at, hset, e2, e2s, a3, a4, hk1, hk, m0, m1, t1, t2, t3, t5, w_nil, w_op, w_if, w_Gt, w_Gf, w_Xs, w_V, r_xWt, vmodI, vldI, vmodS, vldS, vmodA, vmodB, vldOK, V.self, vimp, w_safe, w_safe0, w_safeC]
  · obtain ⟨n2, x2, l2, e2, g2, e3, hl2, dx2, q2, f2⟩ := l4bent_v (d + 0) hb q1
    obtain ⟨n2s, x2s, l2s, e2s, g2s, e3s, -⟩ := l4bent_v (d + 0) hb qr
    have g20 := f2.at h0 (by omega)
    have g21 := f2.at h1 (by omega)
    refine ⟨⟨n, l, e⟩, ⟨n2, l2, e2⟩, ?_, by simp only; omega, by simp only; omega⟩
    obtain ⟨t1, t2, t3, t4⟩ := two g20 g21
    have hx1 : x1 = false ∨ (x1 = true ∧ dyOkB ⟨n, l, e⟩ = false) := by
      cases x1
      · exact .inl rfl
      · refine .inr ⟨rfl, ?_⟩
        cases hq : dyOkB ⟨n, l, e⟩
        · rfl
        · exact absurd ⟨rfl, hq⟩ hok
    clear hok
    rcases dx1 with rfl | ⟨rfl, rfl⟩ | ⟨k, rfl, hk2, hk1⟩
    · rcases dx2 with rfl | ⟨rfl, rfl⟩ | ⟨k2, rfl, hj2, hj1⟩
      · clear hpl
        rcases hx1 with rfl | ⟨rfl, hq⟩
        · rw [vrun_v Tryd.func61 rfl rfl rfl]; simp only [Tryd.f61]
          simp (implicitDefEqProofs := false) (disch := omega) [go_sem, tab61, e0, eb, e1, a1, h0, h1, hp, last_at, hset, e3, e3s, g20, g21, t1, t2, t3, w_nil, w_op, w_if, w_Gt, w_Gf, w_Xs, w_V, r_xWt, vmodI, vldI, vmodS, vldS, vmodA, vmodB, vldOK, V.self, vimp, w_safe, w_safe0, w_safeC]
        · rw [hq] at a1
          rw [vrun_v Tryd.func61 rfl rfl rfl]; simp only [Tryd.f61]
          simp (implicitDefEqProofs := false) (disch := omega) [go_sem, tab61, e0, eb, e1, a1, h0, h1, hp, last_at, hset, e3, e3s, g20, g21, t1, t2, t3, w_nil, w_op, w_if, w_Gt, w_Gf, w_Xs, w_V, r_xWt, vmodI, vldI, vmodS, vldS, vmodA, vmodB, vldOK, V.self, vimp, w_safe, w_safe0, w_safeC]
      · clear hpl
        rcases hx1 with rfl | ⟨rfl, hq⟩
        · rw [vrun_v Tryd.func61 rfl rfl rfl]; simp only [Tryd.f61]
          simp (implicitDefEqProofs := false) (disch := omega) [go_sem, tab61, e0, eb, e1, a1, h0, h1, hp, last_at, hset, e3, e3s, g20, g21, t1, t2, t3, w_nil, w_op, w_if, w_Gt, w_Gf, w_Xs, w_V, r_xWt, vmodI, vldI, vmodS, vldS, vmodA, vmodB, vldOK, V.self, vimp, w_safe, w_safe0, w_safeC]
        · rw [hq] at a1
          rw [vrun_v Tryd.func61 rfl rfl rfl]; simp only [Tryd.f61]
          simp (implicitDefEqProofs := false) (disch := omega) [go_sem, tab61, e0, eb, e1, a1, h0, h1, hp, last_at, hset, e3, e3s, g20, g21, t1, t2, t3, w_nil, w_op, w_if, w_Gt, w_Gf, w_Xs, w_V, r_xWt, vmodI, vldI, vmodS, vldS, vmodA, vmodB, vldOK, V.self, vimp, w_safe, w_safe0, w_safeC]
      · have t6 : ∀ A B, ((g2.set 0 A).set 1 B)[k2]? = some (.ints true .i64 l2) := fun A B => (t4 A B k2 (by omega)).trans hj1
        clear hpl
        rcases hx1 with rfl | ⟨rfl, hq⟩
        · rw [vrun_v Tryd.func61 rfl rfl rfl]; simp only [Tryd.f61]
          simp (implicitDefEqProofs := false) (disch := omega) [go_sem, tab61, e0, eb, e1, a1, h0, h1, hp, last_at, hset, e3, e3s, g20, g21, t1, t2, t3, t6, w_nil, w_op, w_if, w_Gt, w_Gf, w_Xs, w_V, r_xWt, vmodI, vldI, vmodS, vldS, vmodA, vmodB, vldOK, V.self, vimp, w_safe, w_safe0, w_safeC]
        · rw [hq] at a1
          rw [vrun_v Tryd.func61 rfl rfl rfl]; simp only [Tryd.f61]
          simp (implicitDefEqProofs := false) (disch := omega) [go_sem, tab61, e0, eb, e1, a1, h0, h1, hp, last_at, hset, e3, e3s, g20, g21, t1, t2, t3, t6, w_nil, w_op, w_if, w_Gt, w_Gf, w_Xs, w_V, r_xWt, vmodI, vldI, vmodS, vldS, vmodA, vmodB, vldOK, V.self, vimp, w_safe, w_safe0, w_safeC]
    · rcases dx2 with rfl | ⟨rfl, rfl⟩ | ⟨k2, rfl, hj2, hj1⟩
      · clear hpl
        rcases hx1 with rfl | ⟨rfl, hq⟩
        · rw [vrun_v Tryd.func61 rfl rfl rfl]; simp only [Tryd.f61]
          simp (implicitDefEqProofs := false) (disch := omega) [go_sem, tab61, e0, eb, e1, a1, h0, h1, hp, last_at, hset, e3, e3s, g20, g21, t1, t2, t3, w_nil, w_op, w_if, w_Gt, w_Gf, w_Xs, w_V, r_xWt, vmodI, vldI, vmodS, vldS, vmodA, vmodB, vldOK, V.self, vimp, w_safe, w_safe0, w_safeC]
        · rw [hq] at a1
          rw [vrun_v Tryd.func61 rfl rfl rfl]; simp only [Tryd.f61]
          simp (implicitDefEqProofs := false) (disch := omega) [go_sem, tab61, e0, eb, e1, a1, h0, h1, hp, last_at, hset, e3, e3s, g20, g21, t1, t2, t3, w_nil, w_op, w_if, w_Gt, w_Gf, w_Xs, w_V, r_xWt, vmodI, vldI, vmodS, vldS, vmodA, vmodB, vldOK, V.self, vimp, w_safe, w_safe0, w_safeC]
      · clear hpl
        rcases hx1 with rfl | ⟨rfl, hq⟩
        · rw [vrun_v Tryd.func61 rfl rfl rfl]; simp only [Tryd.f61]
          simp (implicitDefEqProofs := false) (disch := omega) [go_sem, tab61, e0, eb, e1, a1, h0, h1, hp, last_at, hset, e3, e3s, g20, g21, t1, t2, t3, w_nil, w_op, w_if, w_Gt, w_Gf, w_Xs, w_V, r_xWt, vmodI, vldI, vmodS, vldS, vmodA, vmodB, vldOK, V.self, vimp, w_safe, w_safe0, w_safeC]
        · rw [hq] at a1
          rw [vrun_v Tryd.func61 rfl rfl rfl]; simp only [Tryd.f61]
          simp (implicitDefEqProofs := false) (disch := omega) [go_sem, tab61, e0, eb, e1, a1, h0, h1, hp, last_at, hset, e3, e3s, g20, g21, t1, t2, t3, w_nil, w_op, w_if, w_Gt, w_Gf, w_Xs, w_V, r_xWt, vmodI, vldI, vmodS, vldS, vmodA, vmodB, vldOK, V.self, vimp, w_safe, w_safe0, w_safeC]
      · have t6 : ∀ A B, ((g2.set 0 A).set 1 B)[k2]? = some (.ints true .i64 l2) := fun A B => (t4 A B k2 (by omega)).trans hj1
        clear hpl
        rcases hx1 with rfl | ⟨rfl, hq⟩
        · rw [vrun_v Tryd.func61 rfl rfl rfl]; simp only [Tryd.f61]
          simp (implicitDefEqProofs := false) (disch := omega) [go_sem, tab61, e0, eb, e1, a1, h0, h1, hp, last_at, hset, e3, e3s, g20, g21, t1, t2, t3, t6, w_nil, w_op, w_if, w_Gt, w_Gf, w_Xs, w_V, r_xWt, vmodI, vldI, vmodS, vldS, vmodA, vmodB, vldOK, V.self, vimp, w_safe, w_safe0, w_safeC]
        · rw [hq] at a1
          rw [vrun_v Tryd.func61 rfl rfl rfl]; simp only [Tryd.f61]
          simp (implicitDefEqProofs := false) (disch := omega) [go_sem, tab61, e0, eb, e1, a1, h0, h1, hp, last_at, hset, e3, e3s, g20, g21, t1, t2, t3, t6, w_nil, w_op, w_if, w_Gt, w_Gf, w_Xs, w_V, r_xWt, vmodI, vldI, vmodS, vldS, vmodA, vmodB, vldOK, V.self, vimp, w_safe, w_safe0, w_safeC]
    · have hk := f2.at hk1 (by omega)
      have t5 : ∀ A B, ((g2.set 0 A).set 1 B)[k]? = some (.ints true .i64 l) := fun A B => (t4 A B k (by omega)).trans hk
      rcases dx2 with rfl | ⟨rfl, rfl⟩ | ⟨k2, rfl, hj2, hj1⟩
      · clear hpl
        rcases hx1 with rfl | ⟨rfl, hq⟩
        · rw [vrun_v Tryd.func61 rfl rfl rfl]; simp only [Tryd.f61]
          simp (implicitDefEqProofs := false) (disch := omega) [go_sem, tab61, e0, eb, e1, a1, h0, h1, hp, last_at, hset, e3, e3s, g20, g21, t1, t2, t3, hk1, t5, w_nil, w_op, w_if, w_Gt, w_Gf, w_Xs, w_V, r_xWt, vmodI, vldI, vmodS, vldS, vmodA, vmodB, vldOK, V.self, vimp, w_safe, w_safe0, w_safeC]
        · rw [hq] at a1
          rw [vrun_v Tryd.func61 rfl rfl rfl]; simp only [Tryd.f61]
          simp (implicitDefEqProofs := false) (disch := omega) [go_sem, tab61, e0, eb, e1, a1, h0, h1, hp, last_at, hset, e3, e3s, g20, g21, t1, t2, t3, hk1, t5, w_nil, w_op, w_if, w_Gt, w_Gf, w_Xs, w_V, r_xWt, vmodI, vldI, vmodS, vldS, vmodA, vmodB, vldOK, V.self, vimp, w_safe, w_safe0, w_safeC]
      · clear hpl
        rcases hx1 with rfl | ⟨rfl, hq⟩
        · rw [vrun_v Tryd.func61 rfl rfl rfl]; simp only [Tryd.f61]
          simp (implicitDefEqProofs := false) (disch := omega) [go_sem, tab61, e0, eb, e1, a1, h0, h1, hp, last_at, hset, e3, e3s, g20, g21, t1, t2, t3, hk1, t5, w_nil, w_op, w_if, w_Gt, w_Gf, w_Xs, w_V, r_xWt, vmodI, vldI, vmodS, vldS, vmodA, vmodB, vldOK, V.self, vimp, w_safe, w_safe0, w_safeC]
        · rw [hq] at a1
          rw [vrun_v Tryd.func61 rfl rfl rfl]; simp only [Tryd.f61]
          simp (implicitDefEqProofs := false) (disch := omega) [go_sem, tab61, e0, eb, e1, a1, h0, h1, hp, last_at, hset, e3, e3s, g20, g21, t1, t2, t3, hk1, t5, w_nil, w_op, w_if, w_Gt, w_Gf, w_Xs, w_V, r_xWt, vmodI, vldI, vmodS, vldS, vmodA, vmodB, vldOK, V.self, vimp, w_safe, w_safe0, w_safeC]
      · have t6 : ∀ A B, ((g2.set 0 A).set 1 B)[k2]? = some (.ints true .i64 l2) := fun A B => (t4 A B k2 (by omega)).trans hj1
        clear hpl
        rcases hx1 with rfl | ⟨rfl, hq⟩
        · rw [vrun_v Tryd.func61 rfl rfl rfl]; simp only [Tryd.f61]
          simp (implicitDefEqProofs := false) (disch := omega) [go_sem, tab61, e0, eb, e1, a1, h0, h1, hp, last_at, hset, e3, e3s, g20, g21, t1, t2, t3, hk1, t5, t6, w_nil, w_op, w_if, w_Gt, w_Gf, w_Xs, w_V, r_xWt, vmodI, vldI, vmodS, vldS, vmodA, vmodB, vldOK, V.self, vimp, w_safe, w_safe0, w_safeC]
        · rw [hq] at a1
          rw [vrun_v Tryd.func61 rfl rfl rfl]; simp only [Tryd.f61]
          simp (implicitDefEqProofs := false) (disch := omega) [go_sem, tab61, e0, eb, e1, a1, h0, h1, hp, last_at, hset, e3, e3s, g20, g21, t1, t2, t3, hk1, t5, t6, w_nil, w_op, w_if, w_Gt, w_Gf, w_Xs, w_V, r_xWt, vmodI, vldI, vmodS, vldS, vmodA, vmodB, vldOK, V.self, vimp, w_safe, w_safe0, w_safeC]
theorem DrawDyAdd_v (d : Nat) (hb : Cod b) : ∃ x y : DyT, vrun Tryd.prog kn (d + 10) 14 [.ints .u8 b] [] = some (.tup [.agg [.bool x.neg, .ints .i64 x.l, .int .i64 x.e], .agg [.bool y.neg, .ints .i64 y.l, .int .i64 y.e]], []) ∧ x.l.length ≤ 5000 ∧ y.l.length ≤ 5000 := by
  obtain ⟨x, y, a1, h1, h2⟩ := DrawDyCmp_v d hb
  refine ⟨x, y, ?_, h1, h2⟩
  rw [vrun_v Tryd.func14 rfl rfl rfl]; simp only [Tryd.f14]
  simp (implicitDefEqProofs := false) (disch := omega) [go_sem, tab14, a1]
end
end
/- What the laws over codes do beside: equality of naturals, longer codes. No conditions. -/
section
open Num
section
variable {a b : List Int}
def snS (a b : List Int) (j : Nat) : VE × VH := ([(2, some (.ptr 0 0)), (3, some (.ptr 1 0)), (5, some (.int .i64 j))], [.vals true [.ints .i64 a], .vals true [.ints .i64 b]])
theorem sameNat_v (d : Nat) (ha : a.length < 1000000000) (hb : b.length < 1000000000) : vrun Tryd.prog kn (d + 1) 134 [.agg [.ints .i64 a], .agg [.ints .i64 b]] [] = some (.bool (decide (a = b)), []) := by
  by_cases hl : ¬ a.length = b.length
  · have : ¬ a = b := fun h => hl (by rw [h])
    have h' : ¬ (a.length : Int) = b.length := by omega
    rw [vrun_v Tryd.func134 rfl rfl rfl]; simp only [Tryd.f134]
    simp (disch := omega) [go_sem, tab134, h', this, hl]
  rw [Decidable.not_not] at hl
  have key := vi_inv (n := kn.cf.rounds) (body := vCode Tryd.prog kn (vrun Tryd.prog kn d) 134 (loopAt Tryd.f134 0)) (fun j s => s = snS a b j ∧ a.take j = b.take j)
    (fun r => (r = some (.exit 0, (snS a b a.length).1 ++ [(17, some (.bool false))], (snS a b a.length).2) ∧ a = b) ∨ (r = some (.ret, [(4, some (.bool false))], []) ∧ ¬ a = b)) a.length (by rw [k_cf, c_rounds]; omega)
    (fun j s hj hI => by
      obtain ⟨rfl, hI⟩ := hI
      have hja : a[j]? = some (gt a j) := by rw [gt]; simp [hj]
      have hjb : b[j]? = some (gt b j) := by rw [gt]; simp [show j < b.length by omega]
      by_cases hq : gt a j = gt b j
      · left
        refine ⟨snS a b (j + 1), ?_, rfl, ?_⟩
        · rw [round_v]; simp only [loopAt, nthC, bodyC, loops, List.nil_append, List.cons_append, List.append_nil, Tryd.f134, snS]
          simp (disch := omega) [go_sem, tab134, hq]
        · rw [List.take_add_one, List.take_add_one, hI, hja, hjb, hq]
      · right; intro m; right
        refine ⟨vi_ret ?_, fun h => hq (by rw [h])⟩
        rw [round_v]; simp only [loopAt, nthC, bodyC, loops, List.nil_append, List.cons_append, List.append_nil, Tryd.f134, snS]
        simp (disch := omega) [go_sem, tab134, hq])
    (fun s hI m => by
      obtain ⟨rfl, hI⟩ := hI
      left
      refine ⟨vi_exit ?_, by rwa [List.take_length, hl, List.take_length] at hI⟩
      rw [round_v]; simp only [loopAt, nthC, bodyC, loops, List.nil_append, List.cons_append, List.append_nil, Tryd.f134, snS]
      simp (disch := omega) [go_sem, tab134])
    (snS a b 0) ⟨rfl, by simp⟩
  rcases key with ⟨hv, hq⟩ | ⟨hv, hq⟩
  · rw [decide_eq_true hq]
    have hl0 := fun ks => loop_v (P := Tryd.prog) (K := kn) (ks := ks) hv
    simp only [loopAt, nthC, bodyC, loops, List.nil_append, List.cons_append, List.append_nil, Tryd.f134, snS, Int.natCast_zero, List.cons_append, List.nil_append] at hl0
    rw [vrun_v Tryd.func134 rfl rfl rfl]; simp only [Tryd.f134]
    simp (disch := omega) [go_sem, tab134, hl, hl0]
  · rw [decide_eq_false hq]
    have hl0 := fun ks => loop_v (P := Tryd.prog) (K := kn) (ks := ks) hv
    simp only [loopAt, nthC, bodyC, loops, List.nil_append, List.cons_append, List.append_nil, Tryd.f134, snS, Int.natCast_zero, List.cons_append, List.nil_append] at hl0
    rw [vrun_v Tryd.func134 rfl rfl rfl]; simp only [Tryd.f134]
    simp (disch := omega) [go_sem, tab134, hl, hl0]
theorem more_v (d : Nat) (hb : b.length < 140737488354000) : vrun Tryd.prog kn (d + 1) 15 [.ints .u8 b, .int .i64 1] [] = some (.sl 0 0 (b.length + 2) 1, [.ints true .u8 (1 :: 7 :: b)]) := by
  have w1 : IntKind.wrap .u8 1 = 1 := by decide
  have w7 : IntKind.wrap .u8 7 = 7 := by decide
  have tk : List.take (2 + b.length) (1 :: 7 :: b) = 1 :: 7 :: b := List.take_of_length_le (by simp; omega)
  rw [vrun_v Tryd.func15 rfl rfl rfl]; simp only [Tryd.f15]
  simp (disch := omega) [go_sem, tab15, nil15, w1, w7, tk]
theorem cod_of (hb : b.length ≤ 140737488351232) (hw : ∀ x ∈ b, (Lit.int .u8 x).wf = true) : Cod b := ⟨by omega, fun x hx => by
  have h := hw x hx
  simp only [Go.Lit.wf, Go.IntKind.min, Go.IntKind.max, Go.IntKind.signed, Go.IntKind.bits, Bool.and_eq_true, decide_eq_true_eq, Bool.false_eq_true, if_false] at h
  omega⟩
theorem cod_more (hb : b.length ≤ 140737488351232) (hw : ∀ x ∈ b, (Lit.int .u8 x).wf = true) : Cod (1 :: 7 :: b) := ⟨by simp only [List.length_cons]; omega, fun x hx => by
  rcases List.mem_cons.1 hx with rfl | hx
  · omega
  · rcases List.mem_cons.1 hx with rfl | hx
    · omega
    · exact (cod_of hb hw).2 x hx⟩
end
end
/- What the laws over codes do beside: equality of naturals, wholes, dyadics; longer codes; dyadics made. No conditions. -/
section
open Num
section
variable {a b : List Int}
theorem sameWhole_v (d : Nat) {n1 n2 : Bool} (ha : a.length < 1000000000) (hb : b.length < 1000000000) : vrun Tryd.prog kn (d + 2) 67 [.agg [.bool n1, .ints .i64 a], .agg [.bool n2, .ints .i64 b]] [] = some (.bool (decide (n1 = n2) && decide (a = b)), []) := by
  have h1 := fun d => sameNat_v d ha hb
  by_cases h : a = b <;> simp only [h, decide_true, decide_false, Bool.and_true, Bool.and_false] at h1 ⊢
  all_goals
    rw [vrun_v Tryd.func67 rfl rfl rfl]; simp only [Tryd.f67]
    cases n1 <;> cases n2 <;> simp (disch := omega) [go_sem, tab67, h1]
theorem sameDy_v (d : Nat) {n1 n2 : Bool} {e1 e2 : Int} (ha : a.length < 1000000000) (hb : b.length < 1000000000) : vrun Tryd.prog kn (d + 3) 18 [.agg [.bool n1, .ints .i64 a, .int .i64 e1], .agg [.bool n2, .ints .i64 b, .int .i64 e2]] [] = some (.bool (decide (e1 = e2) && (decide (n1 = n2) && decide (a = b))), []) := by
  have h1 := fun d => sameWhole_v (n1 := n1) (n2 := n2) d ha hb
  cases hc : (decide (n1 = n2) && decide (a = b)) <;> rw [hc] at h1 <;> by_cases he : e1 = e2
  all_goals
    rw [vrun_v Tryd.func18 rfl rfl rfl]; simp only [Tryd.f18]
    simp (disch := omega) [go_sem, tab18, h1, he]
theorem dy_law (d : Nat) {n e : Int} (h0 : -100 ≤ n) (h1 : n ≤ 100) (he : -100 ≤ e) (he' : e ≤ 100) : vrun Tryd.prog kn (d + 6) 22 [.int .i64 n, .int .i64 e] [] = some (.agg (fitT (mkD (decide (n < 0)) n.natAbs e)).v, []) := by
  have hl : (D n.natAbs).length ≤ 4 := len_small (by omega)
  have a1 := fun d => sWholeOf_v (n := n) d (by omega) (by omega)
  have a2 := fun d => sDyOf_v (w := decide (n < 0)) (a := n.natAbs) (e := e) d (by omega) (fun h => by simp; omega) (by omega) (by omega)
  generalize fitT (mkD (decide (n < 0)) n.natAbs e) = R at *
  generalize dyFit (mkD (decide (n < 0)) n.natAbs e) = F at *
  generalize D n.natAbs = Q at *
  unfold DyT.v at *
  rw [vrun_v Tryd.func22 rfl rfl rfl]; simp only [Tryd.f22]
  simp (implicitDefEqProofs := false) (disch := omega) [go_sem, tab22, a1, a2]
end
end
/- The laws of a ring for dyadic numbers. Plain law. No conditions. -/
section
open Num
theorem sg_zero (n : Bool) (a : Nat) : sg n a = 0 ↔ a = 0 := by unfold sg; cases n <;> simp
theorem sg_inj {n m : Bool} {a b : Nat} (h0 : a ≠ 0) (h : sg n a = sg m b) : n = m ∧ a = b := by
  unfold sg at h; cases n <;> cases m <;> simp at h ⊢ <;> omega
theorem sg_pow (n : Bool) (a k : Nat) : sg n a * ((2 ^ k : Nat) : Int) = sg n (a * 2 ^ k) := (sg_mul n a (2 ^ k)).symm
theorem oddq : ∀ (i j : Nat) {a b : Nat}, a % 2 = 1 → b % 2 = 1 → a * 2 ^ i = b * 2 ^ j → a = b ∧ i = j
  | 0, 0, a, b, _, _, h => by simpa using h
  | 0, j + 1, a, b, ha, _, h => by
    rw [Nat.pow_zero, Nat.mul_one, Nat.pow_succ, ← Nat.mul_assoc] at h; omega
  | i + 1, 0, a, b, _, hb, h => by
    rw [Nat.pow_zero, Nat.mul_one, Nat.pow_succ, ← Nat.mul_assoc] at h; omega
  | i + 1, j + 1, a, b, ha, hb, h => by
    rw [Nat.pow_succ, ← Nat.mul_assoc, Nat.pow_succ, ← Nat.mul_assoc] at h
    obtain ⟨h1, h2⟩ := oddq i j ha hb (Nat.eq_of_mul_eq_mul_right (by omega) h)
    exact ⟨h1, by omega⟩
theorem tz_split {a : Nat} (h : a ≠ 0) : a = a / 2 ^ tz a * 2 ^ tz a := by
  obtain ⟨o, ho⟩ := tz_spec h
  have hd : a / 2 ^ tz a = 2 * o + 1 := by
    conv => lhs; lhs; rw [ho]
    exact Nat.mul_div_cancel_left _ (Nat.two_pow_pos _)
  rw [hd, Nat.mul_comm]; exact ho
theorem mkD_uniq {n m : Bool} {a b : Nat} {e f K : Int} (he : K ≤ e) (hf : K ≤ f) (h : sg n a * ((2 ^ (e - K).toNat : Nat) : Int) = sg m b * ((2 ^ (f - K).toNat : Nat) : Int)) : mkD n a e = mkD m b f := by
  rw [sg_pow, sg_pow] at h
  by_cases h0 : a = 0
  · subst h0
    rw [Nat.zero_mul] at h
    have hb : b = 0 := by
      have := (sg_zero m (b * 2 ^ (f - K).toNat)).1 (by rw [← h]; exact (sg_zero n 0).2 rfl)
      rcases Nat.mul_eq_zero.1 this with h | h
      · exact h
      · have := Nat.two_pow_pos (f - K).toNat; omega
    subst hb
    unfold mkD
    rw [if_pos rfl, if_pos rfl]
  · have hp := Nat.two_pow_pos (e - K).toNat
    obtain ⟨h1, h2⟩ := sg_inj (Nat.mul_ne_zero h0 (by omega)) h
    have hb : b ≠ 0 := by
      rintro rfl
      rw [Nat.zero_mul] at h2
      rcases Nat.mul_eq_zero.1 h2 with h | h <;> omega
    subst h1
    unfold mkD
    rw [if_neg h0, if_neg hb]
    have ha2 := tz_split h0
    have hb2 := tz_split hb
    have oa := tz_bit h0
    have ob := tz_bit hb
    generalize a / 2 ^ tz a = A at *
    generalize b / 2 ^ tz b = B at *
    rw [ha2, hb2, Nat.mul_assoc, Nat.mul_assoc, ← Nat.pow_add, ← Nat.pow_add] at h2
    obtain ⟨h3, h4⟩ := oddq _ _ oa ob h2
    rw [h3]
    have h5 : e + (tz a : Int) = f + (tz b : Int) := by omega
    rw [h5]
theorem ss_sum (n m : Bool) (a b : Nat) : sg (ssN n a m b) (ssV n a m b) = sg n a + sg m b := by
  unfold ssN ssV sg
  by_cases h : b ≤ a <;> cases n <;> cases m <;> simp [h] <;> omega
section
variable {x y z : DyT}
/-- A valid one is its own one form. -/
theorem mkD_self (hx : dyOkB x = true) : mkD x.neg x.n x.e = x := by
  obtain ⟨n, h1, h2, h3, h4, h5⟩ := (dyOkB_iff x).1 hx
  have hn : x.n = n := by unfold DyT.n; rw [h1, val_D]; rfl
  rw [hn]
  unfold mkD
  rcases h5 with ⟨k1, k2, k3⟩ | k
  · subst k1
    rw [if_pos rfl]
    cases x
    simp only at h1 k2 k3
    rw [D_zero] at h1
    rw [h1, k2, k3]
  · have h0 : n ≠ 0 := by omega
    rw [if_neg h0]
    have ha2 := tz_split h0
    have ob := tz_bit h0
    have hz : n / 2 ^ tz n = n ∧ tz n = 0 := oddq (tz n) 0 ob k (by rw [Nat.pow_zero, Nat.mul_one]; exact ha2.symm)
    rw [hz.1, hz.2, ← h1]
    cases x
    simp
theorem addR_sv (hx : dyOkB x = true) (hy : dyOkB y = true) (K : Int) (hK : K ≤ -3000) : ∃ n a e, addR x y = mkD n a e ∧ -3000 ≤ e ∧ sg n a * ((2 ^ (e - K).toNat : Nat) : Int) = x.sv K + y.sv K := by
  obtain ⟨_, x1, x2, x3, _⟩ := okD hx
  obtain ⟨_, y1, y2, y3, _⟩ := okD hy
  obtain ⟨_, _, e3, _⟩ := al_small x1 y1 x2 x3 y2 y3
  refine ⟨_, _, _, rfl, e3, ?_⟩
  rw [ss_sum, Int.add_mul, sg_pow, sg_pow]
  obtain ⟨h1, h2⟩ := al_sv (a := x.n) (ex := x.e) (ey := y.e) (b := y.n) (K := K) (by omega) (by omega)
  rw [← h1, ← h2, ← sg_pow, ← sg_pow]
  rfl
theorem addR_comm (hx : dyOkB x = true) (hy : dyOkB y = true) : addR x y = addR y x := by
  obtain ⟨n, a, e, h1, h2, h3⟩ := addR_sv hx hy (-3000) (by omega)
  obtain ⟨m, b, f, k1, k2, k3⟩ := addR_sv hy hx (-3000) (by omega)
  rw [h1, k1]
  exact mkD_uniq h2 k2 (by rw [h3, k3, Int.add_comm])
theorem mulR_comm : mulR x y = mulR y x := by
  unfold mulR
  rw [Nat.mul_comm, Int.add_comm, show (x.neg != y.neg) = (y.neg != x.neg) by cases x.neg <;> cases y.neg <;> rfl]
theorem negT_ok (hy : dyOkB y = true) : dyOkB (negT y) = true ∧ ∀ K, (negT y).sv K = -(y.sv K) := by
  obtain ⟨n, h1, h2, h3, h4, h5⟩ := (dyOkB_iff y).1 hy
  have hn : y.n = n := by unfold DyT.n; rw [h1, val_D]; rfl
  have hn' : (negT y).n = y.n := rfl
  refine ⟨(dyOkB_iff _).2 ⟨n, h1, h2, h3, h4, ?_⟩, fun K => ?_⟩
  · rcases h5 with ⟨k1, k2, k3⟩ | k
    · exact .inl ⟨k1, by unfold negT; simp [hn, k1], k3⟩
    · exact .inr k
  · unfold DyT.sv
    rw [hn']
    have e1 : (negT y).e = y.e := rfl
    rw [e1]
    have : sg (negT y).neg y.n = -(sg y.neg y.n) := by
      unfold negT sg
      by_cases h0 : y.n = 0
      · rw [h0]; cases y.neg <;> simp
      · cases y.neg <;> simp [h0]
    rw [this, Int.neg_mul]
theorem mkD_sv {n : Bool} {a : Nat} {e K : Int} (h : K ≤ e) : (mkD n a e).sv K = sg n a * ((2 ^ (e - K).toNat : Nat) : Int) := by
  unfold mkD
  by_cases h0 : a = 0
  · subst h0
    rw [if_pos rfl]
    unfold DyT.sv DyT.n
    rw [(sg_zero n 0).2 rfl]
    simp [sg, val]
  · rw [if_neg h0]
    have ha2 := tz_split h0
    have hv : (DyT.n ⟨n, D (a / 2 ^ tz a), e + tz a⟩) = a / 2 ^ tz a := by unfold DyT.n; rw [val_D]; rfl
    unfold DyT.sv
    rw [hv]
    simp only
    rw [sg_pow, sg_pow]
    generalize a / 2 ^ tz a = A at *
    rw [show (e + (tz a : Int) - K).toNat = tz a + (e - K).toNat by omega, Nat.pow_add, ← Nat.mul_assoc, ← ha2]
theorem subR_addR (hx : dyOkB x = true) (hy : dyOkB y = true) (hs : dyFit (addR x y) = true) : subR (addR x y) y = x := by
  obtain ⟨n, a, e, h1, h2, h3⟩ := addR_sv hx hy (-3000) (by omega)
  have hok : dyOkB (addR x y) = true := by rw [h1] at hs ⊢; rw [dyOkB_mkD]; exact hs
  obtain ⟨q1, q2⟩ := negT_ok hy
  obtain ⟨m, b, f, k1, k2, k3⟩ := addR_sv hok q1 (-3000) (by omega)
  unfold subR
  rw [k1, ← mkD_self hx]
  refine mkD_uniq k2 (dyOk_e hx) ?_
  rw [k3, q2, h1, mkD_sv h2, h3]
  unfold DyT.sv
  omega
theorem mulR_sv (hx : dyOkB x = true) (hy : dyOkB y = true) : ∃ n a e, mulR x y = mkD n a e ∧ -6000 ≤ e ∧ sg n a * ((2 ^ (e - (-6000)).toNat : Nat) : Int) = x.sv (-3000) * y.sv (-3000) := by
  have x2 := dyOk_e hx
  have y2 := dyOk_e hy
  refine ⟨_, _, _, rfl, by omega, ?_⟩
  unfold DyT.sv
  rw [sg_pow, sg_pow, sg_pow, show (x.e + y.e - -6000).toNat = (x.e - -3000).toNat + (y.e - -3000).toNat by omega, Nat.pow_add]
  generalize 2 ^ (x.e - -3000).toNat = P
  generalize 2 ^ (y.e - -3000).toNat = Q
  generalize x.n = A
  generalize y.n = B
  unfold sg
  have e1 : ((A * B * (P * Q) : Nat) : Int) = ((A * P : Nat) : Int) * ((B * Q : Nat) : Int) := by
    rw [← Int.natCast_mul]; congr 1
    rw [Nat.mul_mul_mul_comm]
  cases x.neg <;> cases y.neg <;> simp only [bne, Bool.false_eq_true, if_false, if_true, Bool.not_true, Bool.not_false, BEq.rfl, show (false == true) = false from rfl, show (true == false) = false from rfl] <;> rw [e1]
  · rw [Int.mul_neg]
  · rw [Int.neg_mul]
  · rw [Int.neg_mul_neg]
theorem sv_shift (hx : dyOkB x = true) : x.sv (-6000) = x.sv (-3000) * ((2 ^ 3000 : Nat) : Int) := by
  have x2 := dyOk_e hx
  unfold DyT.sv
  rw [show (x.e - -6000).toNat = (x.e - -3000).toNat + 3000 by omega, Nat.pow_add, Int.natCast_mul, Int.mul_assoc]
theorem distr (hx : dyOkB x = true) (hy : dyOkB y = true) (hz : dyOkB z = true) (hs : dyFit (addR x y) = true) (h1 : dyFit (mulR x z) = true) (h2 : dyFit (mulR y z) = true) : mulR (addR x y) z = addR (mulR x z) (mulR y z) := by
  obtain ⟨n, a, e, s1, s2, s3⟩ := addR_sv hx hy (-3000) (by omega)
  have hok : dyOkB (addR x y) = true := by rw [s1] at hs ⊢; rw [dyOkB_mkD]; exact hs
  obtain ⟨n1, a1, e1, p1, p2, p3⟩ := mulR_sv hok hz
  obtain ⟨n2, a2, e2, q1, q2, q3⟩ := mulR_sv hx hz
  obtain ⟨n3, a3, e3, r1, r2, r3⟩ := mulR_sv hy hz
  have ok2 : dyOkB (mulR x z) = true := by rw [q1] at h1 ⊢; rw [dyOkB_mkD]; exact h1
  have ok3 : dyOkB (mulR y z) = true := by rw [r1] at h2 ⊢; rw [dyOkB_mkD]; exact h2
  obtain ⟨n4, a4, e4, t1, t2, t3⟩ := addR_sv ok2 ok3 (-6000) (by omega)
  rw [p1, t1]
  refine mkD_uniq p2 (by omega) ?_
  rw [p3, t3, s1, mkD_sv s2, s3, q1, r1, mkD_sv q2, mkD_sv r2, q3, r3, Int.add_mul]
end
end
/- The laws' types as values. No conditions. -/
section
open Go.Proofs Num
def DyT.row (x : DyT) : Prop := x.l.length ≤ 9223372036854775807 ∧ (∀ y ∈ x.l, (Lit.int .i64 y).wf = true) ∧ (Lit.int .i64 x.e).wf = true
def TInt (vs : List V) : Prop := ∃ x : Int, vs = [.int .i64 x] ∧ (Lit.int .i64 x).wf = true
def TBool (vs : List V) : Prop := ∃ x : Bool, vs = [.bool x]
def TInts (vs : List V) : Prop := ∃ l : List Int, vs = [.ints .i64 l] ∧ l.length ≤ 9223372036854775807 ∧ ∀ x ∈ l, (Lit.int .i64 x).wf = true
def TDys (vs : List V) : Prop := ∃ ds : List DyT, vs = [.cells 3 ds.length (flat DyT.v ds)] ∧ ds.length ≤ 9223372036854775807 ∧ ∀ x ∈ ds, x.row
theorem opInt : OpV Tryd.prog 3 1 TInt := OpV.int Tryd.underlying3 (by kernel_rfl)
theorem opBool : OpV Tryd.prog 4 1 TBool := OpV.bool Tryd.underlying4 (by kernel_rfl)
theorem opInts : OpV Tryd.prog 24 1 TInts := OpV.ints Tryd.underlying24 (by kernel_rfl) Tryd.underlying3 (by kernel_rfl)
theorem opBytes : OpV Tryd.prog 22 1 (fun vs => ∃ l : List Int, vs = [.ints .u8 l] ∧ l.length ≤ 9223372036854775807 ∧ ∀ x ∈ l, (Lit.int .u8 x).wf = true) := OpV.ints Tryd.underlying22 (by kernel_rfl) Tryd.underlying5 (by kernel_rfl)
theorem opNat : OpV Tryd.prog 42 1 TInts := OpV.struct1 Tryd.underlying42 (by kernel_rfl) rfl opInts
theorem opWhole : OpV Tryd.prog 44 2 (fun vs => ∃ (n : Bool) (l : List Int), vs = [.bool n, .ints .i64 l] ∧ l.length ≤ 9223372036854775807 ∧ ∀ x ∈ l, (Lit.int .i64 x).wf = true) :=
  (OpV.struct2 Tryd.underlying44 (by kernel_rfl) rfl rfl opBool opNat).imp fun vs ⟨_, _, e, ⟨n, e1⟩, ⟨l, e2, h1, h2⟩⟩ => ⟨n, l, by rw [e, e1, e2]; rfl, h1, h2⟩
theorem opDy : OpV Tryd.prog 46 3 (fun vs => ∃ x : DyT, vs = x.v ∧ x.row) :=
  (OpV.struct2 Tryd.underlying46 (by kernel_rfl) rfl rfl opWhole opInt).imp fun vs ⟨_, _, e, ⟨n, l, e1, h1, h2⟩, ⟨x, e2, h3⟩⟩ => ⟨⟨n, l, x⟩, by rw [e, e1, e2]; rfl, h1, h2, h3⟩
theorem opDys : OpV Tryd.prog 63 1 TDys := OpV.cells Tryd.underlying63 (by kernel_rfl) opDy (by omega)
theorem opMat : OpV Tryd.prog 65 2 (fun vs => ∃ (N : Int) (ds : List DyT), vs = [.int .i64 N, .cells 3 ds.length (flat DyT.v ds)] ∧ (Lit.int .i64 N).wf = true ∧ ds.length ≤ 9223372036854775807 ∧ ∀ x ∈ ds, x.row) :=
  (OpV.struct2 Tryd.underlying65 (by kernel_rfl) rfl rfl opInt opDys).imp fun vs ⟨_, _, e, ⟨n, e1, h1⟩, ⟨ds, e2, h2, h3⟩⟩ => ⟨n, ds, by rw [e, e1, e2]; rfl, h1, h2, h3⟩
end
/- FnDyRing: the laws of a ring hold of the sums and products that the program tells. No conditions. -/
section
open Num
/-- 2 to the e. -/
def uD (e : Int) : DyT := ⟨false, D 1, e⟩
theorem uD_ok {e : Int} (h : -3000 ≤ e) (h' : e ≤ 3000) : dyOkB (uD e) = true := (dyOkB_iff _).2 ⟨1, rfl, by have : (D 1).length ≤ 4 := len_small (by omega); omega, h, h', .inr rfl⟩
theorem uD_n (e : Int) : (uD e).n = 1 := by unfold DyT.n uD; rw [val_D]; rfl
theorem uD_mk {e : Int} (h : -3000 ≤ e) (h' : e ≤ 3000) : mkD false 1 e = uD e := by
  have := mkD_self (uD_ok h h')
  rwa [uD_n] at this
theorem fit_ok {x : DyT} (hx : dyOkB x = true) : dyFit x = true ∧ fitT x = x := by
  obtain ⟨n, h1, h2, h3, h4, h5⟩ := (dyOkB_iff x).1 hx
  have : dyFit x = true := by
    unfold dyFit; rw [h1]; simp [h2, h3, h4]
  exact ⟨this, by unfold fitT; rw [if_pos this]⟩
theorem u_half : addR (uD (-1)) (uD (-1)) = uD 0 := by
  obtain ⟨K, hK⟩ : ∃ K : Int, K = -3000 := ⟨_, rfl⟩
  obtain ⟨n, a, e, h1, h2, h3⟩ := addR_sv (uD_ok (e := -1) (by omega) (by omega)) (uD_ok (e := -1) (by omega) (by omega)) K (by omega)
  rw [h1, ← uD_mk (e := 0) (by omega) (by omega)]
  refine mkD_uniq (K := K) (by omega) (by omega) ?_
  rw [h3]
  unfold DyT.sv
  rw [uD_n, show (uD (-1)).e = -1 from rfl, show (uD (-1)).neg = false from rfl, show (0 - K).toNat = (-1 - K).toNat + 1 by omega, Nat.pow_succ]
  unfold sg
  simp
  omega
theorem u_four : mkD false 4 (-1) = uD 1 := by
  rw [← uD_mk (e := 1) (by omega) (by omega)]
  exact mkD_uniq (K := -1) (by omega) (by omega) (by decide)
theorem dys_v (d : Nat) : vrun Tryd.prog kn (d + 16) 13 [] [] = some (.bool true, []) := by
  have a1 := fun d => dy_law (n := 1) (e := -1) d (by omega) (by omega) (by omega) (by omega)
  have a2 := fun d => dy_law (n := 1) (e := 0) d (by omega) (by omega) (by omega) (by omega)
  have hm : fitT (mkD (decide ((1 : Int) < 0)) (1 : Int).natAbs (-1)) = uD (-1) := by
    rw [show decide ((1 : Int) < 0) = false from rfl, show (1 : Int).natAbs = 1 from rfl, uD_mk (by omega) (by omega)]
    exact (fit_ok (uD_ok (by omega) (by omega))).2
  have h0 : fitT (mkD (decide ((1 : Int) < 0)) (1 : Int).natAbs 0) = uD 0 := by
    rw [show decide ((1 : Int) < 0) = false from rfl, show (1 : Int).natAbs = 1 from rfl, uD_mk (by omega) (by omega)]
    exact (fit_ok (uD_ok (by omega) (by omega))).2
  rw [hm] at a1
  rw [h0] at a2
  have hl : (D 1).length ≤ 4 := len_small (by omega)
  have a3 := fun d => DyAdd_v (x := uD (-1)) (y := uD (-1)) d (by unfold DyT.sz uD; simp only; omega) (by unfold DyT.sz uD; simp only; omega)
  have k := uD_ok (e := -1) (by omega) (by omega)
  have k0 := fit_ok (uD_ok (e := 0) (by omega) (by omega))
  rw [(res2_ok (R := addR) k k).1, (res2_ok (R := addR) k k).2, u_half, k0.1, k0.2] at a3
  have a4 := fun d => sameDy_v (a := D 1) (b := D 1) (n1 := false) (n2 := false) (e1 := 0) (e2 := 0) d (by omega) (by omega)
  simp only [decide_true, Bool.and_true] at a4
  unfold uD DyT.v at *
  simp only at a1 a2 a3
  clear hm h0 k k0
  generalize D 1 = o at *
  rw [vrun_v Tryd.func13 rfl rfl rfl]; simp only [Tryd.f13]
  simp (implicitDefEqProofs := false) (disch := omega) [go_sem, tab13, a1, a2, a3, a4]
section
variable {b : List Int}
set_option maxHeartbeats 8000000 in
theorem FnDyRing_w (d : Nat) {x y a c : DyT} {r1 r3 r4 r5 r6 r7 m : DyT} {o1 o3 o4 o5 o6 o7 om : Bool}
    (hb : b.length < 140737488354000)
    (hx : x.l.length ≤ 5000) (hy : y.l.length ≤ 5000) (ha : a.l.length ≤ 5000) (h1 : r1.l.length ≤ 100) (hm : m.l.length ≤ 100) (h3 : r3.l.length ≤ 100) (h4 : r4.l.length ≤ 100) (h5 : r5.l.length ≤ 100) (h6 : r6.l.length ≤ 100) (h7 : r7.l.length ≤ 100)
    (d1 : vrun Tryd.prog kn (d + 6 + 10) 14 [.ints .u8 b] [] = some (.tup [.agg [.bool x.neg, .ints .i64 x.l, .int .i64 x.e], .agg [.bool y.neg, .ints .i64 y.l, .int .i64 y.e]], []))
    (d2 : vrun Tryd.prog kn (d + 6 + 10) 14 [.ints .u8 (1 :: 7 :: b)] [] = some (.tup [.agg [.bool a.neg, .ints .i64 a.l, .int .i64 a.e], .agg [.bool c.neg, .ints .i64 c.l, .int .i64 c.e]], []))
    (e1 : ∀ d, vrun Tryd.prog kn (d + 15) 16 [.agg [.bool x.neg, .ints .i64 x.l, .int .i64 x.e], .agg [.bool y.neg, .ints .i64 y.l, .int .i64 y.e]] [] = some (.tup [.agg [.bool r1.neg, .sl 0 0 r1.l.length 1, .int .i64 r1.e], .bool o1], [.ints true .i64 r1.l]))
    (e2 : ∀ d, vrun Tryd.prog kn (d + 15) 16 [.agg [.bool y.neg, .ints .i64 y.l, .int .i64 y.e], .agg [.bool x.neg, .ints .i64 x.l, .int .i64 x.e]] [] = some (.tup [.agg [.bool r1.neg, .sl 0 0 r1.l.length 1, .int .i64 r1.e], .bool o1], [.ints true .i64 r1.l]))
    (m1 : ∀ d, vrun Tryd.prog kn (d + 15) 17 [.agg [.bool x.neg, .ints .i64 x.l, .int .i64 x.e], .agg [.bool y.neg, .ints .i64 y.l, .int .i64 y.e]] [] = some (.tup [.agg [.bool m.neg, .sl 0 0 m.l.length 1, .int .i64 m.e], .bool om], [.ints true .i64 m.l]))
    (m2 : ∀ d, vrun Tryd.prog kn (d + 15) 17 [.agg [.bool y.neg, .ints .i64 y.l, .int .i64 y.e], .agg [.bool x.neg, .ints .i64 x.l, .int .i64 x.e]] [] = some (.tup [.agg [.bool m.neg, .sl 0 0 m.l.length 1, .int .i64 m.e], .bool om], [.ints true .i64 m.l]))
    (s3 : ∀ d, vrun Tryd.prog kn (d + 15) 23 [.agg [.bool r1.neg, .ints .i64 r1.l, .int .i64 r1.e], .agg [.bool y.neg, .ints .i64 y.l, .int .i64 y.e]] [] = some (.tup [.agg [.bool r3.neg, .sl 0 0 r3.l.length 1, .int .i64 r3.e], .bool o3], [.ints true .i64 r3.l]))
    (m4 : ∀ d, vrun Tryd.prog kn (d + 15) 17 [.agg [.bool r1.neg, .ints .i64 r1.l, .int .i64 r1.e], .agg [.bool a.neg, .ints .i64 a.l, .int .i64 a.e]] [] = some (.tup [.agg [.bool r4.neg, .sl 0 0 r4.l.length 1, .int .i64 r4.e], .bool o4], [.ints true .i64 r4.l]))
    (m5 : ∀ d, vrun Tryd.prog kn (d + 15) 17 [.agg [.bool x.neg, .ints .i64 x.l, .int .i64 x.e], .agg [.bool a.neg, .ints .i64 a.l, .int .i64 a.e]] [] = some (.tup [.agg [.bool r5.neg, .sl 0 0 r5.l.length 1, .int .i64 r5.e], .bool o5], [.ints true .i64 r5.l]))
    (m6 : ∀ d, vrun Tryd.prog kn (d + 15) 17 [.agg [.bool y.neg, .ints .i64 y.l, .int .i64 y.e], .agg [.bool a.neg, .ints .i64 a.l, .int .i64 a.e]] [] = some (.tup [.agg [.bool r6.neg, .sl 0 0 r6.l.length 1, .int .i64 r6.e], .bool o6], [.ints true .i64 r6.l]))
    (e7 : ∀ d, vrun Tryd.prog kn (d + 15) 16 [.agg [.bool r5.neg, .ints .i64 r5.l, .int .i64 r5.e], .agg [.bool r6.neg, .ints .i64 r6.l, .int .i64 r6.e]] [] = some (.tup [.agg [.bool r7.neg, .sl 0 0 r7.l.length 1, .int .i64 r7.e], .bool o7], [.ints true .i64 r7.l]))
    (c1 : (dyOkB x && dyOkB y) = false → o1 = false) (c2 : o1 = true → o3 = true ∧ r3 = x ∧ dyOkB r1 = true) (c3 : (o1 && o4 && o5 && o6 && o7) = true → r4 = r7) :
    vrun Tryd.prog kn (d + 17) 3 [.ints .u8 b] [] = some (.bool true, []) := by
  have q0 := fun d => dys_v d
  have q1 := fun d => more_v d hb
  have sd : ∀ (r : DyT), r.l.length ≤ 5000 → ∀ d, vrun Tryd.prog kn (d + 3) 18 [.agg [.bool r.neg, .ints .i64 r.l, .int .i64 r.e], .agg [.bool r.neg, .ints .i64 r.l, .int .i64 r.e]] [] = some (.bool true, []) := fun r hr d => by
    have := sameDy_v (a := r.l) (b := r.l) (n1 := r.neg) (n2 := r.neg) (e1 := r.e) (e2 := r.e) d (by omega) (by omega)
    simpa only [decide_true, Bool.and_true] using this
  have kx := fun d => sDyOk_v d x.neg (l := x.l) x.e (by omega)
  have ky := fun d => sDyOk_v d y.neg (l := y.l) y.e (by omega)
  have k1 := fun d => DyOk_v d r1.neg (l := r1.l) r1.e (by omega)
  have sx := sd x (by omega)
  have s1 := sd r1 (by omega)
  have sm := sd m (by omega)
  have s4 := sd r4 (by omega)
  have su : ∀ d, vrun Tryd.prog kn (d + 3) 18 [.agg [.bool false, .ints .i64 (D 1), .int .i64 1], .agg [.bool false, .ints .i64 (D 1), .int .i64 1]] [] = some (.bool true, []) := sd (uD 1) (by have : (D 1).length ≤ 4 := len_small (by omega); unfold uD; simp only; omega)
  have w4 := fun d => sWholeOf_v (n := 4) d (by omega) (by omega)
  have hu := fit_ok (uD_ok (e := 1) (by omega) (by omega))
  have f4 := fun d => DyOf_v (w := false) (a := 4) (e := -1) d (by have : (D 4).length ≤ 4 := len_small (by omega); omega) (fun _ => rfl) (by omega) (by omega)
  rw [u_four, hu.1, hu.2] at f4
  have g1 := fun d => dy_law (n := 1) (e := 1) d (by omega) (by omega) (by omega) (by omega)
  have hg : fitT (mkD (decide ((1 : Int) < 0)) (1 : Int).natAbs 1) = uD 1 := by
    rw [show decide ((1 : Int) < 0) = false from rfl, show (1 : Int).natAbs = 1 from rfl, uD_mk (by omega) (by omega)]
    exact hu.2
  rw [hg] at g1
  rw [show decide ((4 : Int) < 0) = false from rfl, show (4 : Int).natAbs = 4 from rfl] at w4
  unfold uD at f4 g1
  unfold DyT.v at g1
  simp only at f4 g1
  have hl1 : (D 1).length ≤ 4 := len_small (by omega)
  clear hg hu sd
  generalize D 1 = u at *
  generalize D 4 = u4 at *
  cases hv : dyOkB x && dyOkB y
  · obtain rfl := c1 hv
    clear c1 c2 c3
    have hxy : dyOkB x = false ∨ (dyOkB x = true ∧ dyOkB y = false) := by
      cases h : dyOkB x
      · exact .inl rfl
      · rw [h] at hv; exact .inr ⟨rfl, by simpa using hv⟩
    rcases hxy with h | ⟨h, h'⟩
    · rw [show dyOkB ⟨x.neg, x.l, x.e⟩ = false from h] at kx
      cases om
      all_goals
        rw [vrun_v Tryd.func3 rfl rfl rfl]; simp only [Tryd.f3]
        simp (implicitDefEqProofs := false) (disch := omega) [go_sem, tab3, q0, q1, d1, d2, e1, e2, m1, m2, kx, w4, f4, g1, s1, sm, su]
    · rw [show dyOkB ⟨x.neg, x.l, x.e⟩ = true from h] at kx
      rw [show dyOkB ⟨y.neg, y.l, y.e⟩ = false from h'] at ky
      cases om
      all_goals
        rw [vrun_v Tryd.func3 rfl rfl rfl]; simp only [Tryd.f3]
        simp (implicitDefEqProofs := false) (disch := omega) [go_sem, tab3, q0, q1, d1, d2, e1, e2, m1, m2, kx, ky, w4, f4, g1, s1, sm, su]
  · rw [Bool.and_eq_true] at hv
    rw [show dyOkB ⟨x.neg, x.l, x.e⟩ = true from hv.1] at kx
    rw [show dyOkB ⟨y.neg, y.l, y.e⟩ = true from hv.2] at ky
    cases o1
    · clear c1 c2 c3 hv
      cases om
      all_goals
        rw [vrun_v Tryd.func3 rfl rfl rfl]; simp only [Tryd.f3]
        simp (implicitDefEqProofs := false) (disch := omega) [go_sem, tab3, q0, q1, d1, d2, e1, e2, m1, m2, kx, ky, s1, sm, s3, m4, m5, m6, e7]
    · obtain ⟨rfl, rfl, k1'⟩ := c2 rfl
      rw [show dyOkB ⟨r1.neg, r1.l, r1.e⟩ = true from k1'] at k1
      clear c1 c2 hv k1'
      have hc : o4 = false ∨ (o4 = true ∧ o5 = false) ∨ (o4 = true ∧ o5 = true ∧ o6 = false) ∨ (o4 = true ∧ o5 = true ∧ o6 = true ∧ o7 = false) ∨ (o4 = true ∧ o5 = true ∧ o6 = true ∧ o7 = true) := by
        cases o4 <;> cases o5 <;> cases o6 <;> cases o7 <;> simp
      rcases hc with rfl | ⟨rfl, rfl⟩ | ⟨rfl, rfl, rfl⟩ | ⟨rfl, rfl, rfl, rfl⟩ | ⟨rfl, rfl, rfl, rfl⟩
      all_goals (first | (obtain rfl := c3 rfl) | skip)
      all_goals
        clear c3
        cases om
        all_goals
          rw [vrun_v Tryd.func3 rfl rfl rfl]; simp only [Tryd.f3]
          simp (implicitDefEqProofs := false) (disch := omega) [go_sem, tab3, q0, q1, d1, d2, e1, e2, m1, m2, kx, ky, k1, sx, s1, sm, s3, s4, m4, m5, m6, e7]
end
end
end Go.Eng
