/- What the functions of this seat do, one after another, told by plain values. No conditions. -/
import Derived.Test.YtafnipadjafcpaaSeat
import Derived.Test.YtafnipadjafcpaaVb
import Derived.Test.YtafnipadjafcpaaT1
set_option linter.unusedVariables false
set_option linter.unusedSimpArgs false
namespace Go.Eng
open Go.Proofs
set_option maxRecDepth 100000
set_option linter.unusedSimpArgs false
attribute [local go_sem] r_seq r_skip r_retC r_exitC r_label r_block r_region r_regionW r_xWt r_xW r_cond r_Bt r_Bf r_Ncode r_Nret r_Nexit r_Nblk r_Nblkr r_Nblke r_Nnil r_Es r_Onil r_Oop r_Oif r_Xs r_Gt r_Gf r_wtt r_wtf r_wft r_wff r_wu r_gO r_putS r_putN r_get r_keepN r_keepC r_fr r_fn r_fi r_ff r_fo r_l1 r_l2t r_cun r_cul r_cub r_cui r_cus r_cuis r_cuc r_cusl r_cuti r_cutv r_ven r_vec r_l2f r_l3 r_t1 r_t2 r_t0 r_rt r_rc r_en r_ec r_cM r_oN r_oC r_end r_endt r_endf r_nob0 r_nobN r_nobC r_nobE r_nb0 r_nbi r_nbs r_nbsl r_nbin r_nbce r_nLn r_nLv r_nLc r_nAa r_nAn r_nAk_b r_nAk_i r_nAk_s r_nAk_n r_nAk_is r_nAk_ce r_nAk_fp r_nAk_sl r_nAk_pt r_nAk_fn r_nsn r_nsv r_nsc r_m0 r_mi r_ms r_msl r_min r_mce r_mLn r_mLv r_mLc r_mAa r_mAn r_mAk_b r_mAk_i r_mAk_s r_mAk_n r_mAk_is r_mAk_ce r_mAk_fp r_mAk_sl r_mAk_pt r_mAk_fn r_msn r_msv r_msc r_atb r_ati r_ats r_atn r_atis r_atc r_atf r_atl r_atp r_atfn r_gcn r_gcc r_gLn r_gLc r_gIt r_ndn r_ndc r_gcB r_gLB r_two r_rea r_rea0 r_re1n r_re1c r_ori r_orv r_ord r_orn r_adn r_adc r_ad1 r_ern r_ers r_er0 r_rsl r_rptr r_rb r_ri r_rs r_rn r_ris r_rce r_rfp r_ra4 r_ra3 r_rt4 r_rf4 r_rf3 r_idS r_idc r_nS r_nP r_nF r_nT r_vsl r_vptr r_vb r_vi r_vs r_vn r_vis r_vce r_vfp r_va4 r_va3 r_vt4 r_vf4 r_vf3 r_rV r_Oi r_Ov r_Od r_rE r_rE0 r_En r_Ec r_E0 r_pO r_pk r_agL r_cO r_fO r_fSi r_fSv r_fPv r_fsl r_fptr r_ffn r_fag r_fb r_fint r_fstr r_fnil r_fis r_fce r_ffp r_res r_move r_assign r_pick r_pickt r_pickf r_alloc r_box r_al r_build r_bslice r_load r_store r_nlc r_nl1 r_nl2 r_bin r_un r_conv r_mkf r_mks r_slc r_fad r_fld r_iad r_idx r_ext r_ex1 r_callf r_callt r_callen r_calapp r_calmax r_calmin r_vt r_vcb r_vci r_vcs r_vcnp r_vcn r_vca r_vcf r_vcg r_ofb r_ofi r_ofs r_ofn r_evs r_pn r_prt r_pc r_one_a r_one_b r_one_i r_one_s r_one_n r_one_is r_one_ce r_one_fp r_one_sl r_one_pt r_one_fn r_cs_a r_cs_b r_cs_i r_cs_s r_cs_n r_cs_is r_cs_ce r_cs_fp r_cs_sl r_cs_pt r_cs_fn r_tov r_tovA r_toc r_toa r_tb r_ti r_ts r_tn r_bd r_bd2 r_filn r_fp1 r_filc r_fsn r_fsc r_san r_sac r_bs2 r_bs1 r_newO r_mkq r_mkI r_mkOi r_mkOv r_tIn r_tIc r_repz r_repn r_ldp r_ldf r_l1t r_l1f r_lFt r_lFf r_aggO r_obj r_at r_ati' r_atv r_celli r_cellv r_subi r_subv r_sto r_sto1 r_sto2 r_sets r_setR r_setn r_setc r_s1i r_s1v r_bin1 r_bin2 r_tv1 r_cb r_ci r_cst r_cn r_csl r_cis r_cce r_uni r_unb r_cv r_cvO r_cvN r_cv0 r_cvS r_wB r_cvi r_cvs r_cvb r_cvl r_sO r_rdn r_rdi r_rdl r_rdO r_vsub r_vfn r_mk r_mk1 r_mk2 r_zoi r_zov r_leni r_lenv r_bn r_bndV r_bo r_sl0 r_sl1 r_vsz r_ct1 r_cts r_cti r_ctc r_ctn r_lnl r_lni r_lnc r_lnn r_fa r_fap r_faf r_fi1 r_fit r_fif r_ixi r_ixs r_ixc r_ixf r_ixF r_ixF2 r_ix1 r_ixsl r_ixin r_ixce r_len1 r_lenA r_lTs r_lTn r_lTl r_lTi r_lTc r_app0 r_app r_app1 r_app2 r_app3 r_catO r_cati r_catv r_newt r_newf r_pair r_pairK r_trip r_kis r_kiv r_srn r_srl r_sri r_src r_srs r_oln r_oll r_vw r_wi r_wv r_mm r_max r_min' r_str r_cF r_c2t r_c3f r_c3t r_ab r_c2f r_cV r_p1 r_la r_la2t r_la2f r_la3 r_sh r_z_is r_z_ce r_z_fp r_z_b r_z_i r_z_s r_z_n r_z_l r_z_p r_z_a4 r_z_a3 r_z_t4 r_zoI r_zoV r_roN r_roC r_roi r_rod r_zod r_rov r_aR r_trOi r_trOv r_trPv r_trl r_trp r_trf r_tra r_trb r_tri r_trs r_trn r_tris r_trce r_trfp r_vJ r_vJs r_vJn
attribute [local go_sem] b_add b_sub b_mul b_quo b_rem b_shl b_shr b_eql b_neq b_lss b_leq b_gtr b_geq eqB_s b_eqB b_neB u_neg u_not b_nn b_nn' eqS_s zerosT_s zerosT_n zt_i zt_sl zt_st dstOf_z dstOf_n iltT iltF ileT ileF ieqT ieqF nltT nltF nleT nleF neqT neqF tdiv_pos tmod_pos w64 idx0 List.take_of_length_le
/- Drawing numbers off a code: bytes, numbers below a bound, picks. No conditions. -/
section
open Num
/-- A cursor. -/
def cur (b : List Int) (c s : Int) : VO := .vals true [.ints .u8 b, .int .i64 c, .int .i64 s]
/-- The cursor over b lies at i. -/
def Cu (b : List Int) (i : Nat) (h : VH) : Prop := ∃ c s, h[i]? = some (cur b c s) ∧ 0 ≤ c ∧ c ≤ b.length
/-- All but the cursor is as it was. -/
def Frm (i : Nat) (h g : VH) : Prop := h.length ≤ g.length ∧ ∀ q, q < h.length → q ≠ i → g[q]? = h[q]?
def Cod (b : List Int) : Prop := b.length ≤ 140737488355000 ∧ ∀ x ∈ b, 0 ≤ x ∧ x < 256
theorem Frm.refl (i : Nat) (h : VH) : Frm i h h := ⟨Nat.le_refl _, fun _ _ _ => rfl⟩
theorem Frm.trans {i : Nat} {h g k : VH} (a : Frm i h g) (b : Frm i g k) : Frm i h k := ⟨Nat.le_trans a.1 b.1, fun q hq hi => (b.2 q (Nat.lt_of_lt_of_le hq a.1) hi).trans (a.2 q hq hi)⟩
theorem Frm.app (i : Nat) (h a : VH) : Frm i h (h ++ a) := ⟨by simp, fun q hq _ => List.getElem?_append_left hq⟩
theorem Frm.set (i : Nat) (h : VH) (o : VO) : Frm i h (h.set i o) := ⟨by simp, fun q _ hi => List.getElem?_set_ne (Ne.symm hi)⟩
theorem Frm.at {i : Nat} {h g : VH} (a : Frm i h g) {q : Nat} {o : VO} (hq : h[q]? = some o) (hi : q ≠ i) : g[q]? = some o := by
  rw [a.2 q (List.getElem?_eq_some_iff.1 hq).1 hi]; exact hq
theorem Cu.lt {b : List Int} {i : Nat} {h : VH} (a : Cu b i h) : i < h.length := by obtain ⟨c, s, h1, _⟩ := a; exact (List.getElem?_eq_some_iff.1 h1).1
theorem Cu.app {b : List Int} {i : Nat} {h : VH} (a : Cu b i h) (m : VH) : Cu b i (h ++ m) := by
  obtain ⟨c, s, h1, h2⟩ := a
  exact ⟨c, s, by rw [List.getElem?_append_left (List.getElem?_eq_some_iff.1 h1).1]; exact h1, h2⟩
theorem Cu.set {b : List Int} {i : Nat} {h : VH} (hi : i < h.length) {c s : Int} (h0 : 0 ≤ c) (h1 : c ≤ b.length) : Cu b i (h.set i (cur b c s)) := ⟨c, s, by simp [hi], h0, h1⟩
theorem Cu.setne {b : List Int} {i k : Nat} {h : VH} (a : Cu b i h) (hk : k ≠ i) (o : VO) : Cu b i (h.set k o) := by
  obtain ⟨c, s, h1, h2⟩ := a
  exact ⟨c, s, by rw [List.getElem?_set_ne hk]; exact h1, h2⟩
def lcg (s : Int) : Int := IntKind.wrap .i64 (IntKind.wrap .i64 (s * 6364136223846793005) + 1442695040888963407)
def mixB (s : Int) : Int := and255 (xor64 (s.fdiv 8589934592) (s.fdiv 35184372088832))
section
variable {h : VH} {b : List Int} {i : Nat}
end
end
/- Drawing natural numbers. No conditions. -/
section
open Num
section
variable {h : VH} {b : List Int} {i : Nat}
theorem last_at (g : VH) (o : VO) : (g ++ [o])[g.length]? = some o := by simp
/-- The list so far. -/
def drI (b : List Int) (i n : Nat) (h : VH) (j : Nat) (s : VE × VH) : Prop := ∃ (k : Nat) (l : List Int) (g : VH), s = ([(0, some (.ptr i 0)), (2, some (.ptr h.length 0)), (3, some (.sl k 0 j 1)), (4, some (.int .i64 (n : Int))), (5, some (.int .i64 j))], g) ∧ Cu b i g ∧ g[k]? = some (.ints true .i64 l) ∧ l.length = j ∧ GoodL l ∧ h.length < k ∧ Frm i h g ∧ g[h.length]? = some (.vals true [.nil])
theorem app_fr {g1 : VH} {k : Nat} {o : VO} {m : VH} (hf : Frm i h g1) (hk : h.length ≤ k) : Frm i h (g1.set k o ++ m) := by
  refine ⟨by have := hf.1; simp; omega, fun q hq hi => ?_⟩
  rw [List.getElem?_append_left (by have := hf.1; simp; omega), List.getElem?_set_ne (by omega)]
  exact hf.2 q hq hi
theorem mod_ne {g : VH} {k q : Nat} (h : k ≠ q) : (g.modify k VO.ro)[q]? = g[q]? := by
  rw [List.getElem?_modify]
  simp [h]
theorem set_fr {g1 : VH} {k : Nat} {o : VO} (hf : Frm i h g1) (hk : h.length ≤ k) : Frm i h (g1.set k o) := by
  have := app_fr (g1 := g1) (o := o) (m := []) hf hk
  rwa [List.append_nil] at this
theorem mod_fr {g1 : VH} {k : Nat} (hf : Frm i h g1) (hk : h.length ≤ k) : Frm i h (g1.modify k VO.ro) := by
  refine ⟨by have := hf.1; simp; omega, fun q hq hi => ?_⟩
  rw [mod_ne (by omega)]
  exact hf.2 q hq hi
theorem Cu.modne {g1 : VH} {k : Nat} (a : Cu b i g1) (hk : k ≠ i) : Cu b i (g1.modify k VO.ro) := by
  obtain ⟨c, s, h1, h2⟩ := a
  exact ⟨c, s, by rw [mod_ne hk]; exact h1, h2⟩
end
end
/- A cursor made; a natural number drawn bent. No conditions. -/
section
open Num
def andm (a : Int) : Int := IntKind.wrap .i64 (BitVec.ofInt 64 a &&& BitVec.ofInt 64 1073741823).toNat
theorem b_andm (P : Program) (t : TypeId) (a : Int) : binE P .and t (.int .i64 a) (.int .i64 1073741823) = some (.int .i64 (andm a)) := b_and ..
section
variable {h : VH} {b : List Int} {i : Nat}
def nwI (b : List Int) (h : VH) (j : Nat) (s : VE × VH) : Prop := ∃ v : Int, s = ([(0, some (.ints .u8 b)), (3, some (.int .i64 v)), (4, some (.int .i64 j))], h)
theorem gap {g : VH} {q : Nat} {o : VO} (hq : g[q]? = some o) (a : VH) : (g ++ a)[q]? = some o := by
  rw [List.getElem?_append_left (List.getElem?_eq_some_iff.1 hq).1]; exact hq
/-- The number so far: the cell that holds it, its digits, the result's cell. -/
def Bt (b : List Int) (i : Nat) (h : VH) (p : Nat) (l : List Int) (k : Nat) (g : VH) : Prop := Cu b i g ∧ Frm i h g ∧ g[p]? = some (.vals true [.sl k 0 l.length 1]) ∧ g[k]? = some (.ints true .i64 l) ∧ h.length < k ∧ h.length < p ∧ p ≠ k ∧ g[h.length]? = some (.vals true [.nil])
def btH (p k : Nat) (l : List Int) (y : Int) (g : VH) : VH := (g.set k .dead).set p (.vals true [.sl (g.length + 1) 0 (l.length + 1) 1]) ++ [.ints true .i64 [y], .ints true .i64 (l ++ [y])]
theorem Bt.step {p k : Nat} {l : List Int} {g : VH} (y : Int) (hi : i < h.length) (a : Bt b i h p l k g) : Bt b i h p (l ++ [y]) (g.length + 1) (btH p k l y g) := by
  obtain ⟨c1, f1, hp, hk, hkh, hph, hpk, hq⟩ := a
  have hpl := (List.getElem?_eq_some_iff.1 hp).1
  have hql := (List.getElem?_eq_some_iff.1 hq).1
  unfold btH
  refine ⟨((c1.setne (by omega) _).setne (by omega) _).app _, app_fr (set_fr f1 (by omega)) (by omega), ?_, ?_, by omega, hph, by omega, ?_⟩
  · rw [List.getElem?_append_left (by simpa using hpl)]; simp [hpl]
  · rw [List.getElem?_append_right (by simp)]; simp
  · rw [List.getElem?_append_left (by simpa using hql), List.getElem?_set_ne (by omega), List.getElem?_set_ne (by omega)]; exact hq
/-- What a step reads. -/
theorem Bt.rd {p k : Nat} {l : List Int} {g : VH} (a : Bt b i h p l k g) : (∀ m : VH, (g ++ m)[p]? = some (.vals true [.sl k 0 l.length 1])) ∧ (∀ m : VH, (g ++ m)[k]? = some (.ints true .i64 l)) ∧ (∀ (m : VH) (o : VO), (g ++ m).set k o = g.set k o ++ m) ∧ (∀ (m : VH) (o : VO), (g.set k o ++ m)[p]? = some (.vals true [.sl k 0 l.length 1])) ∧ (∀ (m : VH) (o o' : VO), (g.set k o ++ m).set p o' = (g.set k o).set p o' ++ m) := by
  obtain ⟨c1, f1, hp, hk, hkh, hph, hpk, hq⟩ := a
  have hpl := (List.getElem?_eq_some_iff.1 hp).1
  have hkl := (List.getElem?_eq_some_iff.1 hk).1
  exact ⟨gap hp, gap hk, fun m o => List.set_append_left _ _ hkl, fun m o => gap (by rw [List.getElem?_set_ne (Ne.symm hpk)]; exact hp) m, fun m o o' => List.set_append_left _ _ (by simpa using hpl)⟩
/-- What the end reads. -/
theorem Bt.fin {p k : Nat} {l : List Int} {g : VH} (a : Bt b i h p l k g) : g[p]? = some (.vals true [.sl k 0 l.length 1]) ∧ g[h.length]? = some (.vals true [.nil]) ∧ (∀ o : VO, (g.set h.length o)[h.length]? = some o) ∧ (∀ o : VO, Cu b i (g.set h.length o) ∨ i = h.length) ∧ (∀ o : VO, Frm i h (g.set h.length o)) ∧ ∀ o : VO, (g.set h.length o)[k]? = some (.ints true .i64 l) := by
  obtain ⟨c1, f1, hp, hk, hkh, hph, hpk, hq⟩ := a
  have hql := (List.getElem?_eq_some_iff.1 hq).1
  exact ⟨hp, hq, fun o => by simp [hql], fun o => (Nat.lt_or_ge i h.length).elim (fun _ => by
    by_cases e : i = h.length
    · exact .inr e
    · exact .inl (c1.setne (by omega) _)) (fun _ => by
    by_cases e : i = h.length
    · exact .inr e
    · exact .inl (c1.setne (by omega) _)), fun o => set_fr f1 (Nat.le_refl _), fun o => by rw [List.getElem?_set_ne (by omega)]; exact hk⟩
/-- What a bent number's digits may be. -/
def Bd (l : List Int) : Prop := ∀ x ∈ l, -1 ≤ x ∧ x ≤ 65536
theorem Bd.snoc {l : List Int} (h : Bd l) {y : Int} (h0 : -1 ≤ y) (h1 : y ≤ 65536) : Bd (l ++ [y]) := fun x hx => by
  rcases List.mem_append.1 hx with hx | hx
  · exact h x hx
  · simp at hx; omega
theorem bd_D (n : Nat) : Bd (D n) := fun x hx => by have := good_D n x hx; omega
def beX (j : Nat) : VE := if j = 0 then [(35, some (.bool false))] else []
def beI (b : List Int) (i : Nat) (h : VH) (p n0 j : Nat) (s : VE × VH) : Prop := ∃ (l : List Int) (k : Nat) (g : VH), s = ((2, some (.ptr h.length 0)) :: (3, some (.ptr p 0)) :: beX j, g) ∧ l.length = n0 + j ∧ Bt b i h p l k g ∧ Bd l
end
end
/- Natural numbers: sums, differences, products of what is told, program. No conditions. -/
section
open Num
/-- The number that digits stand for. -/
def nN (l : List Int) : Nat := (val l).toNat
theorem nN_D (n : Nat) : nN (D n) = n := by unfold nN; rw [val_D]; rfl
theorem okN {l : List Int} (h : natOkB l = true) : l = D (nN l) ∧ (D (nN l)).length ≤ 100 := by
  obtain ⟨n, h1, h2⟩ := (natOkB_iff l).1 h
  rw [h1, nN_D]; exact ⟨rfl, h2⟩
theorem natOk_D {n : Nat} (h : (D n).length ≤ 100) : natOkB (D n) = true := (natOkB_iff _).2 ⟨n, rfl, h⟩
/-- What an operation answers. -/
def nres (op : Nat → Nat → Nat) (a b : List Int) : List Int := if natOkB a && natOkB b then fitL (D (op (nN a) (nN b))) else []
def nok (op : Nat → Nat → Nat) (a b : List Int) : Bool := natOkB a && natOkB b && decide ((D (op (nN a) (nN b))).length ≤ 100)
def nresS (a b : List Int) : List Int := if natOkB a && natOkB b && decide (nN b ≤ nN a) then D (nN a - nN b) else []
def nokSub (a b : List Int) : Bool := natOkB a && natOkB b && decide (nN b ≤ nN a)
theorem nres_len {op : Nat → Nat → Nat} {a b : List Int} : (nres op a b).length ≤ 100 := by
  unfold nres; split
  · exact fitL_len _
  · simp
theorem nres_ok {op : Nat → Nat → Nat} {a b : List Int} : natOkB (nres op a b) = true := by
  unfold nres fitL; split
  · split
    · exact natOk_D ‹_›
    · rfl
  · rfl
theorem nres_t {op : Nat → Nat → Nat} {a b : List Int} (h : nok op a b = true) : natOkB a = true ∧ natOkB b = true ∧ nres op a b = D (op (nN a) (nN b)) ∧ (D (op (nN a) (nN b))).length ≤ 100 := by
  unfold nok at h
  rw [Bool.and_eq_true, Bool.and_eq_true, decide_eq_true_eq] at h
  refine ⟨h.1.1, h.1.2, ?_, h.2⟩
  unfold nres fitL
  rw [h.1.1, h.1.2, if_pos h.2]; rfl
theorem nres_comm {op : Nat → Nat → Nat} (hc : ∀ x y, op x y = op y x) (a b : List Int) : nres op a b = nres op b a ∧ nok op a b = nok op b a := by
  unfold nres nok
  rw [hc, Bool.and_comm (natOkB a)]; exact ⟨rfl, rfl⟩
theorem nresS_len {a b : List Int} : (nresS a b).length ≤ 100 := by
  unfold nresS; split
  · rename_i h
    rw [Bool.and_eq_true, Bool.and_eq_true] at h
    obtain ⟨e, h1⟩ := okN h.1.1
    exact Nat.le_trans (len_D_mono (Nat.sub_le _ _)) h1
  · simp
section
variable {a b : List Int}
end
end
/- Pairs of natural numbers drawn off a code. No conditions. -/
section
open Num
section
variable {l : List Int}
/-- Noughts at the end taken away, of any list. -/
theorem l2norm_any (d : Nat) (hl : l.length < 1000000000) : vrun Try.prog kn (d + 1) 50 [.ints .i64 l] [] = some (.agg [.sl 0 0 (tl l l.length) 1], [.ints true .i64 (l.take (tl l l.length))]) := by
  have hl0 := fun ks => loop_v (P := Try.prog) (K := kn) (ks := ks) (norm_l (vrun Try.prog kn d) hl l.length kn.cf.rounds (Nat.le_refl _) (by rw [k_cf, c_rounds]; omega))
  simp only [loopAt, nthC, bodyC, loops, List.nil_append, List.cons_append, List.append_nil, Try.f50, normS] at hl0
  have h1 := tl_le l l.length
  generalize tl l l.length = t at *
  rw [vrun_v Try.func50 rfl rfl rfl]; simp only [Try.f50]
  simp (disch := omega) [go_sem, tab50, hl0, List.take_take]
theorem gt_big {j : Nat} (h : l.length ≤ j) : gt l j = 0 := by
  unfold gt; rw [List.getD_eq_getElem?_getD, List.getElem?_eq_none h]; rfl
/-- A sum of any digits and a small number. -/
def adX (l : List Int) (n j : Nat) (c : Int) (o : List Int) : VE × VH := ([(2, some (.ptr 0 0)), (3, some (.ptr 1 0)), (4, some (.ptr 2 0)), (5, some (.sl 3 0 j 1)), (6, some (.int .i64 c)), (7, some (.int .i64 j))], [.vals true [.ints .i64 l], .vals true [.ints .i64 (D n)], .vals true [.nil], .ints true .i64 o])
theorem l2add_any (d : Nat) {n : Nat} (hn : n ≤ 1) (hl : l.length ≤ 101) (hB : Bd l) : ∃ o : List Int, vrun Try.prog kn (d + 2) 51 [.agg [.ints .i64 l], .agg [.ints .i64 (D n)]] [] = some (.agg [.ints .i64 o], []) ∧ o.length ≤ 1000 := by
  have hD : (D n).length ≤ 1 := len_small (by omega)
  have hg : ∀ j, -1 ≤ gt l j ∧ gt l j ≤ 65536 := fun j => by
    by_cases hj : j < l.length
    · exact hB _ (gt_mem hj)
    · rw [gt_big (by omega)]; omega
  have hd : ∀ j, 0 ≤ dg n j ∧ dg n j ≤ 1 := fun j => by
    have h1 := (dg_bd n j).1
    have h2 : n / 65536 ^ j ≤ n := Nat.div_le_self _ _
    unfold dg at *
    generalize n / 65536 ^ j = q at *
    omega
  have tb : ∀ v : Int, -1 ≤ v → v ≤ 131000 → 0 ≤ v.tdiv 65536 ∧ v.tdiv 65536 ≤ 1 := fun v h0 h1 => by
    by_cases h : v = -1
    · subst h; decide
    · rw [Int.tdiv_eq_ediv_of_nonneg (by omega)]; omega
  have tb0 : ∀ v : Int, 0 ≤ v → v ≤ 65535 → v.tdiv 65536 = 0 := fun v h0 h1 => by
    rw [Int.tdiv_eq_ediv_of_nonneg h0]; omega
  have key := vi_inv (n := kn.cf.rounds) (body := vCode Try.prog kn (vrun Try.prog kn (d + 1)) 51 (loopAt Try.f51 0))
    (fun j s => ∃ (c : Int) (o : List Int), s = adX l n j c o ∧ o.length = j ∧ 0 ≤ c ∧ c ≤ 1 ∧ (103 ≤ j → c = 0))
    (fun r => ∃ (j : Nat) (c : Int) (o : List Int), r = some (.exit 0, (adX l n j c o).1 ++ [(24, some (.bool false))], (adX l n j c o).2) ∧ o.length = j ∧ j ≤ 103) 103 (by rw [k_cf, c_rounds]; omega)
    (fun j s hj hI => by
      obtain ⟨c, o, rfl, ho, c0, c1, c2⟩ := hI
      have b1 := hg j
      have b2 := hd j
      have htk : o.take j = o := List.take_of_length_le (by omega)
      by_cases h1 : j < l.length
      · left
        by_cases h2 : j < (D n).length
        · have tw := tb (c + gt l j + dg n j) (by omega) (by omega)
          refine ⟨adX l n (j + 1) ((c + gt l j + dg n j).tdiv 65536) (o ++ [(c + gt l j + dg n j).tmod 65536]), ?_, _, _, rfl, by simp [ho], (tb _ (by omega) (by omega)).1, (tb _ (by omega) (by omega)).2, fun h => by omega⟩
          rw [round_v]; simp only [loopAt, nthC, bodyC, loops, List.nil_append, List.cons_append, List.append_nil, Try.f51, adX]
          simp (disch := omega) [go_sem, tab51, nil51, gt_D, htk, ho]
        · have tw := tb (c + gt l j) (by omega) (by omega)
          refine ⟨adX l n (j + 1) ((c + gt l j).tdiv 65536) (o ++ [(c + gt l j).tmod 65536]), ?_, _, _, rfl, by simp [ho], (tb _ (by omega) (by omega)).1, (tb _ (by omega) (by omega)).2, fun h => by omega⟩
          rw [round_v]; simp only [loopAt, nthC, bodyC, loops, List.nil_append, List.cons_append, List.append_nil, Try.f51, adX]
          simp (disch := omega) [go_sem, tab51, nil51, gt_D, htk, ho]
      · by_cases h2 : j < (D n).length
        · left
          have tw := tb (c + dg n j) (by omega) (by omega)
          refine ⟨adX l n (j + 1) ((c + dg n j).tdiv 65536) (o ++ [(c + dg n j).tmod 65536]), ?_, _, _, rfl, by simp [ho], (tb _ (by omega) (by omega)).1, (tb _ (by omega) (by omega)).2, fun h => by omega⟩
          rw [round_v]; simp only [loopAt, nthC, bodyC, loops, List.nil_append, List.cons_append, List.append_nil, Try.f51, adX]
          simp (disch := omega) [go_sem, tab51, nil51, gt_D, htk, ho]
        · by_cases h3 : 0 < c
          · left
            have tw := tb (c) (by omega) (by omega)
            refine ⟨adX l n (j + 1) (c.tdiv 65536) (o ++ [c.tmod 65536]), ?_, _, _, rfl, by simp [ho], (tb _ (by omega) (by omega)).1, (tb _ (by omega) (by omega)).2, fun h => tb0 _ (by omega) (by omega)⟩
            rw [round_v]; simp only [loopAt, nthC, bodyC, loops, List.nil_append, List.cons_append, List.append_nil, Try.f51, adX]
            simp (disch := omega) [go_sem, tab51, nil51, gt_D, htk, ho]
          · right; intro m
            refine ⟨j, c, o, vi_exit ?_, ho, by omega⟩
            rw [round_v]; simp only [loopAt, nthC, bodyC, loops, List.nil_append, List.cons_append, List.append_nil, Try.f51, adX]
            simp (disch := omega) [go_sem, tab51, nil51])
    (fun s hI m => by
      obtain ⟨c, o, rfl, ho, c0, c1, c2⟩ := hI
      refine ⟨103, c, o, vi_exit ?_, ho, by omega⟩
      have := c2 (by omega)
      subst this
      rw [round_v]; simp only [loopAt, nthC, bodyC, loops, List.nil_append, List.cons_append, List.append_nil, Try.f51, adX]
      simp (disch := omega) [go_sem, tab51, nil51])
    (adX l n 0 0 []) ⟨0, [], rfl, rfl, by omega, by omega, fun h => by omega⟩
  obtain ⟨j, c, o, hv, ho, hj⟩ := key
  have hl0 := fun ks => loop_v (P := Try.prog) (K := kn) (ks := ks) hv
  simp only [loopAt, nthC, bodyC, loops, List.nil_append, List.cons_append, List.append_nil, Try.f51, adX, Int.natCast_zero, List.cons_append, List.nil_append] at hl0
  have hn := fun d => l2norm_any (l := o) d (by omega)
  have h1 := tl_le o o.length
  have htk : o.take j = o := List.take_of_length_le (by omega)
  have htk2 : (o.take (tl o o.length)).take (tl o o.length) = o.take (tl o o.length) := by rw [List.take_take, Nat.min_self]
  refine ⟨o.take (tl o o.length), ?_, by rw [List.length_take]; omega⟩
  clear hv
  generalize tl o o.length = t at *
  rw [vrun_v Try.func51 rfl rfl rfl]; simp only [Try.f51]
  simp (disch := omega) [go_sem, tab51, nil51, hl0, ho, htk, hn, htk2]
end
section
variable {b : List Int}
theorem two {G : VH} {Z Z' : VO} (h0 : G[0]? = some Z) (h1 : G[1]? = some Z') : (∀ A, (G.set 0 A)[1]? = some Z') ∧ (∀ A B, ((G.set 0 A).set 1 B)[0]? = some A) ∧ (∀ A B, ((G.set 0 A).set 1 B)[1]? = some B) ∧ (∀ A B k, 1 < k → ((G.set 0 A).set 1 B)[k]? = G[k]?) := by
  have l0 := (List.getElem?_eq_some_iff.1 h0).1
  have l1 := (List.getElem?_eq_some_iff.1 h1).1
  refine ⟨fun A => ?_, fun A B => ?_, fun A B => ?_, fun A B k hk => ?_⟩
  · rw [List.getElem?_set_ne (by omega)]; exact h1
  · rw [List.getElem?_set_ne (by omega)]; simp [l0]
  · simp [l1]
  · rw [List.getElem?_set_ne (by omega), List.getElem?_set_ne (by omega)]
set_option maxHeartbeats 4000000 in
end
end
end Go.Eng
