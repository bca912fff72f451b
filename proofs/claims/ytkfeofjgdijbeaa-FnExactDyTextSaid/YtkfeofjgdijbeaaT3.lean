/- What the functions of this seat do, one after another, told by plain values. No conditions. -/
import Derived.Test.YtkfeofjgdijbeaaSeat
import Derived.Test.YtkfeofjgdijbeaaVb
import Derived.Test.YtkfeofjgdijbeaaT2
set_option linter.unusedVariables false
set_option linter.unusedSimpArgs false
namespace Go.Eng
open Go.Proofs
set_option maxRecDepth 100000
set_option linter.unusedSimpArgs false
attribute [local go_sem] r_seq r_skip r_retC r_exitC r_label r_block r_region r_or0 r_regionW r_xWt r_xW r_cond r_Bt r_Bf r_Ncode r_Nret r_Nexit r_Nblk r_Nblkr r_Nblke r_Nnil r_Es r_Onil r_Oop r_Oif r_Xs r_Gt r_Gf r_wtt r_wtf r_wft r_wff r_wu r_gO r_putS r_putN r_get r_keepN r_keepC r_fr r_fn r_fi r_ff r_fo r_l1 r_l2t r_cun r_cul r_cub r_cui r_cus r_cuis r_cuc r_cusl r_cuti r_cutv r_ven r_vec r_l2f r_l3 r_t1 r_t2 r_t0 r_rt r_rc r_en r_ec r_cM r_oN r_oC r_end r_endt r_endf r_nob0 r_nobN r_nobC r_nobE r_nb0 r_nbi r_nbs r_nbsl r_nbin r_nbce r_nLn r_nLv r_nLc r_nAa r_nAn r_nAk_b r_nAk_i r_nAk_s r_nAk_n r_nAk_is r_nAk_ce r_nAk_fp r_nAk_sl r_nAk_pt r_nAk_fn r_nsn r_nsv r_nsc r_m0 r_mi r_ms r_msl r_min r_mce r_mLn r_mLv r_mLc r_mAa r_mAn r_mAk_b r_mAk_i r_mAk_s r_mAk_n r_mAk_is r_mAk_ce r_mAk_fp r_mAk_sl r_mAk_pt r_mAk_fn r_msn r_msv r_msc r_atb r_ati r_ats r_atn r_atis r_atc r_atf r_atl r_atp r_atfn r_gcn r_gcc r_gLn r_gLc r_gIt r_ndn r_ndc r_gcB r_gLB r_two r_rea r_rea0 r_re1n r_re1c r_ori r_orv r_ord r_orn r_adn r_adc r_ad1 r_ern r_ers r_er0 r_rsl r_rptr r_rb r_ri r_rs r_rn r_ris r_rce r_rfp r_ra4 r_ra3 r_rt4 r_rf4 r_rf3 r_idS r_idc r_nS r_nP r_nF r_nT r_vsl r_vptr r_vb r_vi r_vs r_vn r_vis r_vce r_vfp r_va4 r_va3 r_vt4 r_vf4 r_vf3 r_rV r_Oi r_Ov r_Od r_rE r_rE0 r_En r_Ec r_E0 r_pO r_pk r_agL r_cO r_fO r_fSi r_fSv r_fPv r_fsl r_fptr r_ffn r_fag r_fb r_fint r_fstr r_fnil r_fis r_fce r_ffp r_res r_move r_assign r_pick r_pickt r_pickf r_alloc r_box r_al r_build r_bslice r_load r_store r_nlc r_nl1 r_nl2 r_bin r_un r_conv r_mkf r_mks r_slc r_fad r_fld r_iad r_idx r_ext r_ex1 r_callf r_callt r_callen r_calapp r_calcp r_calmax r_calmin r_vt r_vcb r_vci r_vcs r_vcnp r_vcn r_vca r_vcf r_vcg r_ofb r_ofi r_ofs r_ofn r_evs r_pn r_prt r_pc r_one_a r_one_b r_one_i r_one_s r_one_n r_one_is r_one_ce r_one_fp r_one_sl r_one_pt r_one_fn r_cs_a r_cs_b r_cs_i r_cs_s r_cs_n r_cs_is r_cs_ce r_cs_fp r_cs_sl r_cs_pt r_cs_fn r_tov r_tovA r_toc r_toa r_tb r_ti r_ts r_tn r_bd r_bd2 r_filn r_fp1 r_filc r_fsn r_fsc r_san r_sac r_bs2 r_bs1 r_nE r_newO r_mkq r_mkI r_mkOi r_mkOv r_tIn r_tIc r_repz r_repn r_ldp r_ldf r_l1t r_l1f r_lFt r_lFf r_aggO r_obj r_at r_ati' r_atv r_celli r_cellv r_subi r_subv r_sto r_sto1 r_sto2 r_sets r_setR r_setn r_setc r_s1i r_s1v r_bin1 r_bin2 r_tv1 r_cb r_ci r_cst r_cn r_csl r_cis r_cce r_uni r_unb r_cv r_cvO r_cvN r_cv0 r_cvS r_wB r_cvi r_cvs r_cvb r_cvl r_sO r_rdn r_rdi r_rdl r_rdO r_vsub r_vfn r_mk r_mk1 r_mk2 r_zoi r_zov r_leni r_lenv r_bn r_bndV r_bo r_sl0 r_sl1 r_vsz r_ct1 r_cts r_cti r_ctc r_ctn r_lnl r_lni r_lnc r_lnn r_fa r_fap r_faf r_fi1 r_fit r_fif r_ixi r_ixs r_ixc r_ixf r_ixF r_ixF2 r_ix1 r_ixsl r_ixin r_ixce r_len1 r_lenA r_lTs r_lTn r_lTl r_lTi r_lTc r_cp0 r_cp1 r_cp2 r_cp3 r_cp4 r_nts r_nti r_ntn r_app0 r_app9 r_paf r_pat r_pal r_son r_soe r_sos r_frn r_fre r_tt1 r_tt2 r_tt3 r_app r_app1 r_app2 r_app3 r_catO r_cati r_catv r_newt r_newf r_pair r_pairK r_trip r_kis r_kiv r_srn r_srl r_sri r_src r_srs r_oln r_ole r_oll r_vw r_wi r_wv r_mm r_max r_min' r_str r_cF r_c2t r_c3f r_c3t r_ab r_c2f r_cV r_p1 r_la r_la2t r_la2f r_la3 r_sh r_z_is r_z_ce r_z_fp r_z_b r_z_i r_z_s r_z_n r_z_l r_z_p r_z_a4 r_z_a3 r_z_t4 r_zoI r_zoV r_roN r_roC r_roi r_rod r_zod r_rov r_aR r_trOi r_trOv r_trPv r_trl r_trp r_trf r_tra r_trb r_tri r_trs r_trn r_tris r_trce r_trfp r_vJ r_vJs r_vJn
attribute [local go_sem] b_add b_sub b_mul b_quo b_rem b_shl b_shr b_eql b_neq b_lss b_leq b_gtr b_geq eqB_s b_eqB b_neB u_neg u_not b_nn b_nn' eqS_s zerosT_s zerosT_n zt_i zt_sl zt_st dstOf_z dstOf_n iltT iltF ileT ileF ieqT ieqF nltT nltF nleT nleF neqT neqF tdiv_pos tmod_pos w64 idx0 List.take_of_length_le
/- The laws of a ring for dyadic numbers. Plain law. No conditions. -/
section
open Num
theorem sg_zero (n : Bool) (a : Nat) : sg n a = 0 ↔ a = 0 := by unfold sg; cases n <;> simp
theorem sg_inj {n m : Bool} {a b : Nat} (h0 : a ≠ 0) (h : sg n a = sg m b) : n = m ∧ a = b := by
  unfold sg at h; cases n <;> cases m <;> simp at h ⊢ <;> omega
theorem sg_pow (n : Bool) (a k : Nat) : sg n a * ((2 ^ k : Nat) : Int) = sg n (a * 2 ^ k) := (sg_mul n a (2 ^ k)).symm
theorem oddq : ∀ (i j : Nat) {a b : Nat}, a % 2 = 1 → b % 2 = 1 → a * 2 ^ i = b * 2 ^ j → a = b ∧ i = j
  | 0, 0, a, b, _, _, h => by simpa using h
  | 0, j + 1, a, b, ha, _, h => by
    rw [Nat.pow_zero, Nat.mul_one, Nat.pow_succ, ← Nat.mul_assoc] at h; omega
  | i + 1, 0, a, b, _, hb, h => by
    rw [Nat.pow_zero, Nat.mul_one, Nat.pow_succ, ← Nat.mul_assoc] at h; omega
  | i + 1, j + 1, a, b, ha, hb, h => by
    rw [Nat.pow_succ, ← Nat.mul_assoc, Nat.pow_succ, ← Nat.mul_assoc] at h
    obtain ⟨h1, h2⟩ := oddq i j ha hb (Nat.eq_of_mul_eq_mul_right (by omega) h)
    exact ⟨h1, by omega⟩
theorem tz_split {a : Nat} (h : a ≠ 0) : a = a / 2 ^ tz a * 2 ^ tz a := by
  obtain ⟨o, ho⟩ := tz_spec h
  have hd : a / 2 ^ tz a = 2 * o + 1 := by
    conv => lhs; lhs; rw [ho]
    exact Nat.mul_div_cancel_left _ (Nat.two_pow_pos _)
  rw [hd, Nat.mul_comm]; exact ho
theorem mkD_uniq {n m : Bool} {a b : Nat} {e f K : Int} (he : K ≤ e) (hf : K ≤ f) (h : sg n a * ((2 ^ (e - K).toNat : Nat) : Int) = sg m b * ((2 ^ (f - K).toNat : Nat) : Int)) : mkD n a e = mkD m b f := by
  rw [sg_pow, sg_pow] at h
  by_cases h0 : a = 0
  · subst h0
    rw [Nat.zero_mul] at h
    have hb : b = 0 := by
      have := (sg_zero m (b * 2 ^ (f - K).toNat)).1 (by rw [← h]; exact (sg_zero n 0).2 rfl)
      rcases Nat.mul_eq_zero.1 this with h | h
      · exact h
      · have := Nat.two_pow_pos (f - K).toNat; omega
    subst hb
    unfold mkD
    rw [if_pos rfl, if_pos rfl]
  · have hp := Nat.two_pow_pos (e - K).toNat
    obtain ⟨h1, h2⟩ := sg_inj (Nat.mul_ne_zero h0 (by omega)) h
    have hb : b ≠ 0 := by
      rintro rfl
      rw [Nat.zero_mul] at h2
      rcases Nat.mul_eq_zero.1 h2 with h | h <;> omega
    subst h1
    unfold mkD
    rw [if_neg h0, if_neg hb]
    have ha2 := tz_split h0
    have hb2 := tz_split hb
    have oa := tz_bit h0
    have ob := tz_bit hb
    generalize a / 2 ^ tz a = A at *
    generalize b / 2 ^ tz b = B at *
    rw [ha2, hb2, Nat.mul_assoc, Nat.mul_assoc, ← Nat.pow_add, ← Nat.pow_add] at h2
    obtain ⟨h3, h4⟩ := oddq _ _ oa ob h2
    rw [h3]
    have h5 : e + (tz a : Int) = f + (tz b : Int) := by omega
    rw [h5]
theorem ss_sum (n m : Bool) (a b : Nat) : sg (ssN n a m b) (ssV n a m b) = sg n a + sg m b := by
  unfold ssN ssV sg
  by_cases h : b ≤ a <;> cases n <;> cases m <;> simp [h] <;> omega
section
variable {x y z : DyT}
/-- A valid one is its own one form. -/
theorem mkD_self (hx : dyOkB x = true) : mkD x.neg x.n x.e = x := by
  obtain ⟨n, h1, h2, h3, h4, h5⟩ := (dyOkB_iff x).1 hx
  have hn : x.n = n := by unfold DyT.n; rw [h1, val_D]; rfl
  rw [hn]
  unfold mkD
  rcases h5 with ⟨k1, k2, k3⟩ | k
  · subst k1
    rw [if_pos rfl]
    cases x
    simp only at h1 k2 k3
    rw [D_zero] at h1
    rw [h1, k2, k3]
  · have h0 : n ≠ 0 := by omega
    rw [if_neg h0]
    have ha2 := tz_split h0
    have ob := tz_bit h0
    have hz : n / 2 ^ tz n = n ∧ tz n = 0 := oddq (tz n) 0 ob k (by rw [Nat.pow_zero, Nat.mul_one]; exact ha2.symm)
    rw [hz.1, hz.2, ← h1]
    cases x
    simp
theorem addR_sv (hx : dyOkB x = true) (hy : dyOkB y = true) (K : Int) (hK : K ≤ -3000) : ∃ n a e, addR x y = mkD n a e ∧ -3000 ≤ e ∧ sg n a * ((2 ^ (e - K).toNat : Nat) : Int) = x.sv K + y.sv K := by
  obtain ⟨_, x1, x2, x3, _⟩ := okD hx
  obtain ⟨_, y1, y2, y3, _⟩ := okD hy
  obtain ⟨_, _, e3, _⟩ := al_small x1 y1 x2 x3 y2 y3
  refine ⟨_, _, _, rfl, e3, ?_⟩
  rw [ss_sum, Int.add_mul, sg_pow, sg_pow]
  obtain ⟨h1, h2⟩ := al_sv (a := x.n) (ex := x.e) (ey := y.e) (b := y.n) (K := K) (by omega) (by omega)
  rw [← h1, ← h2, ← sg_pow, ← sg_pow]
  rfl
theorem addR_comm (hx : dyOkB x = true) (hy : dyOkB y = true) : addR x y = addR y x := by
  obtain ⟨n, a, e, h1, h2, h3⟩ := addR_sv hx hy (-3000) (by omega)
  obtain ⟨m, b, f, k1, k2, k3⟩ := addR_sv hy hx (-3000) (by omega)
  rw [h1, k1]
  exact mkD_uniq h2 k2 (by rw [h3, k3, Int.add_comm])
theorem mulR_comm : mulR x y = mulR y x := by
  unfold mulR
  rw [Nat.mul_comm, Int.add_comm, show (x.neg != y.neg) = (y.neg != x.neg) by cases x.neg <;> cases y.neg <;> rfl]
theorem negT_ok (hy : dyOkB y = true) : dyOkB (negT y) = true ∧ ∀ K, (negT y).sv K = -(y.sv K) := by
  obtain ⟨n, h1, h2, h3, h4, h5⟩ := (dyOkB_iff y).1 hy
  have hn : y.n = n := by unfold DyT.n; rw [h1, val_D]; rfl
  have hn' : (negT y).n = y.n := rfl
  refine ⟨(dyOkB_iff _).2 ⟨n, h1, h2, h3, h4, ?_⟩, fun K => ?_⟩
  · rcases h5 with ⟨k1, k2, k3⟩ | k
    · exact .inl ⟨k1, by unfold negT; simp [hn, k1], k3⟩
    · exact .inr k
  · unfold DyT.sv
    rw [hn']
    have e1 : (negT y).e = y.e := rfl
    rw [e1]
    have : sg (negT y).neg y.n = -(sg y.neg y.n) := by
      unfold negT sg
      by_cases h0 : y.n = 0
      · rw [h0]; cases y.neg <;> simp
      · cases y.neg <;> simp [h0]
    rw [this, Int.neg_mul]
theorem mkD_sv {n : Bool} {a : Nat} {e K : Int} (h : K ≤ e) : (mkD n a e).sv K = sg n a * ((2 ^ (e - K).toNat : Nat) : Int) := by
  unfold mkD
  by_cases h0 : a = 0
  · subst h0
    rw [if_pos rfl]
    unfold DyT.sv DyT.n
    rw [(sg_zero n 0).2 rfl]
    simp [sg, val]
  · rw [if_neg h0]
    have ha2 := tz_split h0
    have hv : (DyT.n ⟨n, D (a / 2 ^ tz a), e + tz a⟩) = a / 2 ^ tz a := by unfold DyT.n; rw [val_D]; rfl
    unfold DyT.sv
    rw [hv]
    simp only
    rw [sg_pow, sg_pow]
    generalize a / 2 ^ tz a = A at *
    rw [show (e + (tz a : Int) - K).toNat = tz a + (e - K).toNat by omega, Nat.pow_add, ← Nat.mul_assoc, ← ha2]
theorem subR_addR (hx : dyOkB x = true) (hy : dyOkB y = true) (hs : dyFit (addR x y) = true) : subR (addR x y) y = x := by
  obtain ⟨n, a, e, h1, h2, h3⟩ := addR_sv hx hy (-3000) (by omega)
  have hok : dyOkB (addR x y) = true := by rw [h1] at hs ⊢; rw [dyOkB_mkD]; exact hs
  obtain ⟨q1, q2⟩ := negT_ok hy
  obtain ⟨m, b, f, k1, k2, k3⟩ := addR_sv hok q1 (-3000) (by omega)
  unfold subR
  rw [k1, ← mkD_self hx]
  refine mkD_uniq k2 (dyOk_e hx) ?_
  rw [k3, q2, h1, mkD_sv h2, h3]
  unfold DyT.sv
  omega
theorem mulR_sv (hx : dyOkB x = true) (hy : dyOkB y = true) : ∃ n a e, mulR x y = mkD n a e ∧ -6000 ≤ e ∧ sg n a * ((2 ^ (e - (-6000)).toNat : Nat) : Int) = x.sv (-3000) * y.sv (-3000) := by
  have x2 := dyOk_e hx
  have y2 := dyOk_e hy
  refine ⟨_, _, _, rfl, by omega, ?_⟩
  unfold DyT.sv
  rw [sg_pow, sg_pow, sg_pow, show (x.e + y.e - -6000).toNat = (x.e - -3000).toNat + (y.e - -3000).toNat by omega, Nat.pow_add]
  generalize 2 ^ (x.e - -3000).toNat = P
  generalize 2 ^ (y.e - -3000).toNat = Q
  generalize x.n = A
  generalize y.n = B
  unfold sg
  have e1 : ((A * B * (P * Q) : Nat) : Int) = ((A * P : Nat) : Int) * ((B * Q : Nat) : Int) := by
    rw [← Int.natCast_mul]; congr 1
    rw [Nat.mul_mul_mul_comm]
  cases x.neg <;> cases y.neg <;> simp only [bne, Bool.false_eq_true, if_false, if_true, Bool.not_true, Bool.not_false, BEq.rfl, show (false == true) = false from rfl, show (true == false) = false from rfl] <;> rw [e1]
  · rw [Int.mul_neg]
  · rw [Int.neg_mul]
  · rw [Int.neg_mul_neg]
theorem sv_shift (hx : dyOkB x = true) : x.sv (-6000) = x.sv (-3000) * ((2 ^ 3000 : Nat) : Int) := by
  have x2 := dyOk_e hx
  unfold DyT.sv
  rw [show (x.e - -6000).toNat = (x.e - -3000).toNat + 3000 by omega, Nat.pow_add, Int.natCast_mul, Int.mul_assoc]
theorem distr (hx : dyOkB x = true) (hy : dyOkB y = true) (hz : dyOkB z = true) (hs : dyFit (addR x y) = true) (h1 : dyFit (mulR x z) = true) (h2 : dyFit (mulR y z) = true) : mulR (addR x y) z = addR (mulR x z) (mulR y z) := by
  obtain ⟨n, a, e, s1, s2, s3⟩ := addR_sv hx hy (-3000) (by omega)
  have hok : dyOkB (addR x y) = true := by rw [s1] at hs ⊢; rw [dyOkB_mkD]; exact hs
  obtain ⟨n1, a1, e1, p1, p2, p3⟩ := mulR_sv hok hz
  obtain ⟨n2, a2, e2, q1, q2, q3⟩ := mulR_sv hx hz
  obtain ⟨n3, a3, e3, r1, r2, r3⟩ := mulR_sv hy hz
  have ok2 : dyOkB (mulR x z) = true := by rw [q1] at h1 ⊢; rw [dyOkB_mkD]; exact h1
  have ok3 : dyOkB (mulR y z) = true := by rw [r1] at h2 ⊢; rw [dyOkB_mkD]; exact h2
  obtain ⟨n4, a4, e4, t1, t2, t3⟩ := addR_sv ok2 ok3 (-6000) (by omega)
  rw [p1, t1]
  refine mkD_uniq p2 (by omega) ?_
  rw [p3, t3, s1, mkD_sv s2, s3, q1, r1, mkD_sv q2, mkD_sv r2, q3, r3, Int.add_mul]
end
end
/- Whole numbers: sums, differences, products, opposites, comparison, program. No conditions. -/
section
open Num
structure WhT where
  neg : Bool
  l : List Int
def WhT.z (w : WhT) : Int := sg w.neg (nN w.l)
def wOk (w : WhT) : Bool := wholeOkB w.neg w.l
/-- The one form of an integer. -/
def wz (z : Int) : WhT := ⟨decide (z < 0), D z.natAbs⟩
theorem wOk_t {w : WhT} (h : wOk w = true) : w = wz w.z ∧ (D w.z.natAbs).length ≤ 100 ∧ w.l = D (nN w.l) ∧ (D (nN w.l)).length ≤ 100 ∧ (nN w.l = 0 → w.neg = false) := by
  unfold wOk wholeOkB at h
  rw [Bool.and_eq_true] at h
  obtain ⟨e, hl⟩ := okN h.1
  have hz : nN w.l = 0 → w.neg = false := fun h0 => by
    have : w.l = [] := by rw [e, h0, D_zero]
    have h2 := h.2
    rw [this] at h2; simpa using h2
  have hn : w.z.natAbs = nN w.l := by unfold WhT.z sg; split <;> omega
  have hs : decide (w.z < 0) = w.neg := by
    unfold WhT.z sg
    cases hw : w.neg with
    | false => simp
    | true =>
      have : nN w.l ≠ 0 := fun h0 => by rw [hz h0] at hw; cases hw
      simp; omega
  refine ⟨?_, by rw [hn]; exact hl, e, hl, hz⟩
  unfold wz
  rw [hs, hn, ← e]
theorem wz_z (z : Int) : (wz z).z = z := by
  unfold WhT.z wz
  simp only
  rw [nN_D]
  unfold sg
  by_cases h : z < 0 <;> simp [h] <;> omega
theorem wz_ok {z : Int} (h : (D z.natAbs).length ≤ 100) : wOk (wz z) = true := by
  unfold wOk wz wholeOkB
  rw [natOk_D h]
  by_cases h0 : z = 0
  · subst h0; simp
  · have : ¬ (D z.natAbs).length = 0 := fun e => by
      have := D_nil_iff.1 (List.eq_nil_of_length_eq_zero e); omega
    simp [this]
theorem sg_abs {n : Bool} {a : Nat} {z : Int} (h : sg n a = z) : a = z.natAbs ∧ (n && decide (a ≠ 0)) = decide (z < 0) := by
  subst h
  unfold sg
  cases n with
  | false => simp
  | true =>
    refine ⟨by simp, ?_⟩
    by_cases h0 : a = 0
    · subst h0; simp
    · simp [h0]; omega
def wfitB (z : Int) : Bool := decide ((D z.natAbs).length ≤ 100)
def wfit (z : Int) : WhT := if wfitB z then wz z else ⟨false, []⟩
theorem wfit_len (z : Int) : (wfit z).l.length ≤ 100 := by
  unfold wfit
  split
  · rename_i h; unfold wfitB at h; exact of_decide_eq_true h
  · simp
/-- What an operation answers. -/
def wf2 (op : Int → Int → Int) (a b : WhT) : Bool := wOk a && wOk b && wfitB (op a.z b.z)
def wr2 (op : Int → Int → Int) (a b : WhT) : WhT := if wOk a && wOk b then wfit (op a.z b.z) else ⟨false, []⟩
theorem wr2_len {op : Int → Int → Int} {a b : WhT} : (wr2 op a b).l.length ≤ 100 := by
  unfold wr2
  split
  · exact wfit_len _
  · simp
theorem wf2_t {op : Int → Int → Int} {a b : WhT} (h : wf2 op a b = true) : wOk a = true ∧ wOk b = true ∧ wr2 op a b = wz (op a.z b.z) ∧ (D (op a.z b.z).natAbs).length ≤ 100 := by
  unfold wf2 at h
  rw [Bool.and_eq_true, Bool.and_eq_true] at h
  refine ⟨h.1.1, h.1.2, ?_, of_decide_eq_true h.2⟩
  unfold wr2 wfit
  rw [h.1.1, h.1.2, h.2]; rfl
theorem wr2_comm {op : Int → Int → Int} (hc : ∀ x y, op x y = op y x) (a b : WhT) : wr2 op a b = wr2 op b a ∧ wf2 op a b = wf2 op b a := by
  unfold wr2 wf2
  rw [hc, Bool.and_comm (wOk a)]; exact ⟨rfl, rfl⟩
section
variable {a b : WhT}
def wneg (a : WhT) : WhT := if wOk a then wz (-a.z) else ⟨false, []⟩
theorem wneg_len : (wneg a).l.length ≤ 100 := by
  unfold wneg
  split
  · rename_i h
    obtain ⟨_, h2, _⟩ := wOk_t h
    show (D (-a.z).natAbs).length ≤ 100
    rw [Int.natAbs_neg]; exact h2
  · simp
def icmp (x y : Int) : Int := if x < y then -1 else if x = y then 0 else 1
def wcmp (a b : WhT) : Int := if wOk a && wOk b then icmp a.z b.z else 0
theorem scmp_icmp {n m : Bool} {x y : Nat} (ha : x = 0 → n = false) (hb : y = 0 → m = false) : scmp n x m y = icmp (sg n x) (sg m y) := by
  unfold scmp icmp sg cmpI
  cases n <;> cases m <;> simp at ha hb ⊢ <;> (repeat' split) <;> omega
end
end
/- How many bits a limb has, as the library counts them; division by a small number. No conditions. -/
section
open Num
theorem nb_shift : ∀ (k : Nat) {x : Nat}, x / 2 ^ k ≠ 0 → nb x = k + nb (x / 2 ^ k)
  | 0, x, _ => by simp
  | k + 1, x, h => by
    rw [Nat.pow_succ, ← Nat.div_div_eq_div_mul] at h
    have h1 : x / 2 ^ k ≠ 0 := fun e => h (by rw [e])
    rw [nb_shift k h1, nb_half h1, Nat.pow_succ, ← Nat.div_div_eq_div_mul]; omega
theorem nb_16 {x : Nat} (h : x < 65536) : nb x ≤ 16 := by
  by_cases h0 : x = 0
  · subst h0; simp [nb, nbG]
  · have h1 := (nb_le h0).1
    have : nb x - 1 < 16 := (Nat.pow_lt_pow_iff_right (a := 2) (by omega)).1 (Nat.lt_of_le_of_lt h1 (by omega : x < 2 ^ 16))
    omega
def len8 : ByteArray := { data := #[0, 1, 2, 2, 3, 3, 3, 3, 4, 4, 4, 4, 4, 4, 4, 4, 5, 5, 5, 5, 5, 5, 5, 5, 5, 5, 5, 5, 5, 5, 5, 5, 6, 6, 6, 6, 6, 6, 6, 6, 6, 6, 6, 6, 6, 6, 6, 6, 6, 6, 6, 6, 6, 6, 6, 6, 6, 6, 6, 6, 6, 6, 6, 6, 7, 7, 7, 7, 7, 7, 7, 7, 7, 7, 7, 7, 7, 7, 7, 7, 7, 7, 7, 7, 7, 7, 7, 7, 7, 7, 7, 7, 7, 7, 7, 7, 7, 7, 7, 7, 7, 7, 7, 7, 7, 7, 7, 7, 7, 7, 7, 7, 7, 7, 7, 7, 7, 7, 7, 7, 7, 7, 7, 7, 7, 7, 7, 7, 8, 8, 8, 8, 8, 8, 8, 8, 8, 8, 8, 8, 8, 8, 8, 8, 8, 8, 8, 8, 8, 8, 8, 8, 8, 8, 8, 8, 8, 8, 8, 8, 8, 8, 8, 8, 8, 8, 8, 8, 8, 8, 8, 8, 8, 8, 8, 8, 8, 8, 8, 8, 8, 8, 8, 8, 8, 8, 8, 8, 8, 8, 8, 8, 8, 8, 8, 8, 8, 8, 8, 8, 8, 8, 8, 8, 8, 8, 8, 8, 8, 8, 8, 8, 8, 8, 8, 8, 8, 8, 8, 8, 8, 8, 8, 8, 8, 8, 8, 8, 8, 8, 8, 8, 8, 8, 8, 8, 8, 8, 8, 8, 8, 8, 8, 8, 8, 8, 8, 8, 8, 8, 8, 8, 8, 8, 8, 8] }
theorem len8_all : ((List.range 256).all fun n => (len8.data.getD n 0).toNat == nb n) = true := by decide +kernel
theorem len8_at {n : Nat} (h : n < 256) : (len8.data.getD n 0).toNat = nb n := eq_of_beq (List.all_eq_true.1 len8_all n (List.mem_range.2 h))
theorem len8_idx (P : Program) {t : TypeId} (ht : P.underlying t = some .string) {n : Nat} (h : n < 256) : vindex P t (some (.str { data := #[0, 1, 2, 2, 3, 3, 3, 3, 4, 4, 4, 4, 4, 4, 4, 4, 5, 5, 5, 5, 5, 5, 5, 5, 5, 5, 5, 5, 5, 5, 5, 5, 6, 6, 6, 6, 6, 6, 6, 6, 6, 6, 6, 6, 6, 6, 6, 6, 6, 6, 6, 6, 6, 6, 6, 6, 6, 6, 6, 6, 6, 6, 6, 6, 7, 7, 7, 7, 7, 7, 7, 7, 7, 7, 7, 7, 7, 7, 7, 7, 7, 7, 7, 7, 7, 7, 7, 7, 7, 7, 7, 7, 7, 7, 7, 7, 7, 7, 7, 7, 7, 7, 7, 7, 7, 7, 7, 7, 7, 7, 7, 7, 7, 7, 7, 7, 7, 7, 7, 7, 7, 7, 7, 7, 7, 7, 7, 7, 8, 8, 8, 8, 8, 8, 8, 8, 8, 8, 8, 8, 8, 8, 8, 8, 8, 8, 8, 8, 8, 8, 8, 8, 8, 8, 8, 8, 8, 8, 8, 8, 8, 8, 8, 8, 8, 8, 8, 8, 8, 8, 8, 8, 8, 8, 8, 8, 8, 8, 8, 8, 8, 8, 8, 8, 8, 8, 8, 8, 8, 8, 8, 8, 8, 8, 8, 8, 8, 8, 8, 8, 8, 8, 8, 8, 8, 8, 8, 8, 8, 8, 8, 8, 8, 8, 8, 8, 8, 8, 8, 8, 8, 8, 8, 8, 8, 8, 8, 8, 8, 8, 8, 8, 8, 8, 8, 8, 8, 8, 8, 8, 8, 8, 8, 8, 8, 8, 8, 8, 8, 8, 8, 8, 8, 8, 8, 8] })) (some (.int .u8 (n : Int))) = some (.int .u8 (nb n : Nat)) := by
  show toV1 (indexA P t (.str len8) (.int .u8 (n : Int))) = _
  have h1 := len8_at h
  have h2 : len8.size = 256 := rfl
  unfold indexA
  have h3 : (0 : Int) ≤ n ∧ (n : Int) < ((256 : Nat) : Int) := ⟨by omega, by omega⟩
  simp only [ht, h2, if_true, if_pos h3, Int.toNat_natCast, h1]; rfl
theorem conv_u8 {n : Nat} (h : n < 256) : IntKind.wrap .u8 (n : Int) = n := by
  simp [IntKind.wrap, IntKind.bits, IntKind.signed]; omega
section
variable {z m : Nat}
def dsS (z m : Nat) (i : Nat) : VE × VH := ([(0, some (.ints .i64 (D z))), (1, some (.int .i64 m)), (6, some (.sl 0 0 (D z).length 1)), (7, some (.int .i64 ((z / 65536 ^ i % m : Nat) : Int))), (8, some (.int .i64 ((i : Int) - 1)))], [.ints true .i64 (hi (z / m) (D z).length i)])
theorem ds_r (call : CallV) (hm : 0 < m) (hm2 : m ≤ 65536) (hx : (D z).length < 1000000) (i : Nat) (hi' : i < (D z).length) :
    vCode Try.prog kn call 120 (loopAt Try.f120 0) (dsS z m (i + 1)).1 (dsS z m (i + 1)).2 = some (.norm, dsS z m i) := by
  have b1 := dg_bd z i
  obtain ⟨e1, e2⟩ := divs_nat (x := z) (j := i) (d := m) hm
  have b3 := Nat.mod_lt (z / 65536 ^ (i + 1)) hm
  have b4 := divs_lt (d := m) b3 (Nat.mod_lt (z / 65536 ^ i) (by omega : 0 < 65536))
  have hd : dg (z / m) i = (((z / 65536 ^ (i + 1) % m * 65536 + z / 65536 ^ i % 65536) / m : Nat) : Int) := by
    unfold dg
    rw [Nat.div_div_eq_div_mul, Nat.mul_comm, ← Nat.div_div_eq_div_mul, e1, Nat.mul_add_mod, Nat.mod_eq_of_lt b4]
  have hq : (((z / 65536 ^ (i + 1) % m : Nat) : Int) * 65536 + dg z i) / (m : Int) = dg (z / m) i := by
    rw [hd, Int.natCast_ediv, Int.natCast_add, Int.natCast_mul]; rfl
  have hr : (((z / 65536 ^ (i + 1) % m : Nat) : Int) * 65536 + dg z i) % (m : Int) = ((z / 65536 ^ i % m : Nat) : Int) := by
    rw [e2]
    refine Eq.trans ?_ (Int.natCast_emod _ _).symm
    congr 1
  rw [round_v]; simp only [loopAt, nthC, bodyC, loops, List.nil_append, List.cons_append, List.append_nil, Try.f120, dsS, ← hi_set hi']
  have e0 : (((i + 1 : Nat) : Int) - 1) = i := by omega
  have hl := hi_len (q := z / m) (n := (D z).length) (i := i + 1) (by omega)
  have b5 := dg_bd (z / m) i
  generalize hr0 : ((z / 65536 ^ (i + 1) % m : Nat) : Int) = r at *
  have b6 : 0 ≤ r := by rw [← hr0]; exact Int.natCast_nonneg _
  have b7 : r < m := by rw [← hr0]; exact Int.ofNat_lt.2 b3
  rw [e0]
  generalize hi (z / m) (D z).length (i + 1) = H at *
  generalize dg (z / m) i = q at *
  simp (disch := omega) [go_sem, tab120, nil120, gt_D, hl, hq, hr]
theorem ds_x (call : CallV) :
    vCode Try.prog kn call 120 (loopAt Try.f120 0) (dsS z m 0).1 (dsS z m 0).2 = some (.exit 0, (dsS z m 0).1 ++ [(16, some (.bool false))], (dsS z m 0).2) := by
  rw [round_v]; simp only [loopAt, nthC, bodyC, loops, List.nil_append, List.cons_append, List.append_nil, Try.f120, dsS]
  simp (disch := omega) [go_sem, tab120, nil120]
theorem divideSmall_v (d : Nat) (hm : 0 < m) (hm2 : m ≤ 65536) (hx : (D z).length < 1000000) :
    vrun Try.prog kn (d + 2) 120 [.ints .i64 (D z), .int .i64 (m : Int)] [] = some (.tup [.sl 0 0 (D (z / m)).length 1, .int .i64 ((z % m : Nat) : Int)], [.ints true .i64 (D (z / m))]) := by
  have key : ∀ i n, i ≤ (D z).length → i < n → viter (vCode Try.prog kn (vrun Try.prog kn (d + 1)) 120 (loopAt Try.f120 0)) n (dsS z m i).1 (dsS z m i).2 = some (.exit 0, (dsS z m 0).1 ++ [(16, some (.bool false))], (dsS z m 0).2) := by
    intro i
    induction i with
    | zero => intro n _ hn; obtain ⟨n, rfl⟩ : ∃ q, n = q + 1 := ⟨n - 1, by omega⟩; exact vi_exit (ds_x _)
    | succ i ih => intro n h1 hn; obtain ⟨n, rfl⟩ : ∃ q, n = q + 1 := ⟨n - 1, by omega⟩; rw [vi_norm (ds_r _ hm hm2 hx i (by omega))]; exact ih n (by omega) (by omega)
  have hl0 := fun ks => loop_v (P := Try.prog) (K := kn) (ks := ks) (key (D z).length kn.cf.rounds (Nat.le_refl _) (by rw [k_cf, c_rounds]; omega))
  have h0 : hi (z / m) (D z).length (D z).length = List.replicate (D z).length 0 := by unfold hi; rw [List.drop_eq_nil_of_le (by rw [dgs_len]; omega), List.append_nil]
  have h1 : hi (z / m) (D z).length 0 = dgs (z / m) (D z).length := by unfold hi; rw [List.replicate_zero, List.nil_append, List.drop_zero]
  simp only [loopAt, nthC, bodyC, loops, List.nil_append, List.cons_append, List.append_nil, Try.f120, dsS, h0, h1, quo_end, Nat.zero_mod, Nat.pow_zero, Nat.div_one, Int.natCast_zero, List.cons_append, List.nil_append] at hl0
  have c2 : z / m < 65536 ^ (D z).length := Nat.lt_of_le_of_lt (Nat.div_le_self _ _) (lt_len_D z)
  have ht := trim0_v d (l := dgs (z / m) (D z).length) (n := (D z).length) (v := z / m) (by rw [dgs_len]; omega) (by rw [dgs_len]) (dgs_good _ _) (by rw [dgs_val, lo_len (lt_pow_len c2)])
  have ht2 := (dgs_tl c2).2
  rw [vrun_v Try.func120 rfl rfl rfl]; simp only [Try.f120]
  simp (disch := omega) [go_sem, tab120, nil120, hl0, dgs_len, ht, ht2]
end
end
/- The decimal digits of a number, program. No conditions. -/
section
open Num
/-! ### a list turned round in place -/
theorem gt_ext {a b : List Int} (hl : a.length = b.length) (h : ∀ p, p < a.length → gt a p = gt b p) : a = b := by
  refine List.ext_getElem hl fun p h1 h2 => ?_
  have := h p h1
  unfold gt at this
  simpa [h1, h2] using this
theorem gt_st {l : List Int} {i j : Nat} (x : Int) : gt (l.set i x) j = if i = j ∧ i < l.length then x else gt l j := by
  unfold gt
  by_cases e : i = j
  · subst e
    by_cases h : i < l.length
    · simp [h]
    · simp [h]
  · simp [e]
def rvL (L : List Int) (k : Nat) : Nat → List Int
  | 0 => L
  | t + 1 => ((rvL L k t).set t (gt (rvL L k t) (k - 1 - t))).set (k - 1 - t) (gt (rvL L k t) t)
theorem rv_len (L : List Int) (k : Nat) : ∀ t, (rvL L k t).length = L.length
  | 0 => rfl
  | t + 1 => by rw [rvL]; simp [rv_len L k t]
theorem rv_gt {L : List Int} {k : Nat} (hk : k ≤ L.length) : ∀ t, 2 * t ≤ k → ∀ p, gt (rvL L k t) p = if p < k ∧ (p < t ∨ k - t ≤ p) then gt L (k - 1 - p) else gt L p
  | 0, _, p => by
    have : ¬ (p < k ∧ (p < 0 ∨ k - 0 ≤ p)) := by omega
    rw [if_neg this]; rfl
  | t + 1, h, p => by
    have ih := rv_gt hk t (by omega)
    have hl := rv_len L k t
    rw [rvL, gt_st, gt_st, List.length_set, hl]
    by_cases e1 : k - 1 - t = p
    · rw [if_pos ⟨e1, by omega⟩, if_pos (by omega), ih t, if_neg (by omega)]
      congr 1; omega
    · rw [if_neg (fun q => e1 q.1)]
      by_cases e2 : t = p
      · rw [if_pos ⟨e2, by omega⟩, if_pos (by omega), ih (k - 1 - t), if_neg (by omega)]
        congr 1; omega
      · rw [if_neg (fun q => e2 q.1), ih p]
        by_cases c : p < k ∧ (p < t ∨ k - t ≤ p)
        · rw [if_pos c, if_pos (by omega)]
        · rw [if_neg c, if_neg (by omega)]
theorem rv_end {L : List Int} {k : Nat} (hk : k ≤ L.length) : rvL L k (k / 2) = (L.take k).reverse ++ L.drop k := by
  have hl : (rvL L k (k / 2)).length = ((L.take k).reverse ++ L.drop k).length := by rw [rv_len]; simp; omega
  refine gt_ext hl fun p hp => ?_
  rw [rv_len] at hp
  rw [rv_gt hk _ (by omega)]
  unfold gt
  by_cases h : p < k
  · have e1 : ((L.take k).reverse ++ L.drop k)[p]? = L[k - 1 - p]? := by
      rw [List.getElem?_append_left (by simp; omega), List.getElem?_reverse (by simp; omega), List.length_take, Nat.min_eq_left hk, List.getElem?_take_of_lt (by omega)]
    rw [List.getD_eq_getElem?_getD, List.getD_eq_getElem?_getD, List.getD_eq_getElem?_getD, e1]
    by_cases c : p < k / 2 ∨ k - k / 2 ≤ p
    · rw [if_pos ⟨h, c⟩]
    · rw [if_neg (by omega)]
      have : k - 1 - p = p := by omega
      rw [this]
  · have e1 : ((L.take k).reverse ++ L.drop k)[p]? = L[p]? := by
      rw [List.getElem?_append_right (by simp; omega), List.getElem?_drop]
      congr 1; simp; omega
    rw [if_neg (by omega), List.getD_eq_getElem?_getD, List.getD_eq_getElem?_getD, e1]
section
variable {h : VH} {i k : Nat} {L : List Int}
def rvS (h : VH) (i k : Nat) (L : List Int) (t : Nat) : VE × VH := ([(0, some (.sl i 0 k 1)), (2, some (.int .i64 t)), (3, some (.int .i64 ((k : Int) - 1 - t)))], h.set i (.ints true .u8 (rvL L k t)))
theorem rv_r (call : CallV) (hi : i < h.length) (hk : k ≤ L.length) (hk2 : k < 1000000) {t : Nat} (ht : t < k / 2) : vCode Try.prog kn call 121 (loopAt Try.f121 0) (rvS h i k L t).1 (rvS h i k L t).2 = some (.norm, rvS h i k L (t + 1)) := by
  have hl := rv_len L k t
  have hs : ∀ a : VO, (h.set i a)[i]? = some a := fun a => by simp [hi]
  have e1 : ((k : Int) - 1 - t).toNat = k - 1 - t := by omega
  have e2 : ((k : Int) - 1 - ((t + 1 : Nat) : Int)) = (k : Int) - 1 - t - 1 := by omega
  have e3 : ((t + 1 : Nat) : Int) = t + 1 := by omega
  rw [round_v]; simp only [loopAt, nthC, bodyC, loops, List.nil_append, List.cons_append, List.append_nil, Try.f121, rvS, rvL, e2, e3]
  generalize rvL L k t = M at *
  clear hi
  simp (implicitDefEqProofs := false) (disch := omega) [go_sem, tab121, hs, hl, e1, List.set_set]
theorem rv_x (call : CallV) (hi : i < h.length) (hk2 : k < 1000000) : vCode Try.prog kn call 121 (loopAt Try.f121 0) (rvS h i k L (k / 2)).1 (rvS h i k L (k / 2)).2 = some (.exit 0, (rvS h i k L (k / 2)).1 ++ [(9, some (.bool false))], (rvS h i k L (k / 2)).2) := by
  rw [round_v]; simp only [loopAt, nthC, bodyC, loops, List.nil_append, List.cons_append, List.append_nil, Try.f121, rvS]
  clear hi
  simp (implicitDefEqProofs := false) (disch := omega) [go_sem, tab121]
theorem Reverse_v (d : Nat) (hi : h[i]? = some (.ints true .u8 L)) (hk : k ≤ L.length) (hk2 : k < 1000000) : vrun Try.prog kn (d + 1) 121 [.sl i 0 k 1] h = some (.tup [], h.set i (.ints true .u8 ((L.take k).reverse ++ L.drop k))) := by
  have hlt := (List.getElem?_eq_some_iff.1 hi).1
  have hself : h.set i (.ints true .u8 L) = h := by
    obtain ⟨h1, h2⟩ := List.getElem?_eq_some_iff.1 hi
    rw [← h2]; exact List.set_getElem_self _
  have hl0 := fun ks => loop_v (P := Try.prog) (K := kn) (ks := ks) (vi_for (rvS h i k L) (k / 2) (n := kn.cf.rounds) (by rw [k_cf, c_rounds]; omega) (fun t ht => rv_r (vrun Try.prog kn d) hlt hk hk2 ht) fun m => vi_exit (rv_x _ hlt hk2))
  have e0 : rvL L k 0 = L := rfl
  simp only [loopAt, nthC, bodyC, loops, List.nil_append, List.cons_append, List.append_nil, Try.f121, rvS, Int.natCast_zero, Int.sub_zero, List.cons_append, List.nil_append, e0, hself, rv_end hk] at hl0
  clear hlt e0
  rw [vrun_v Try.func121 rfl rfl rfl]; simp only [Try.f121]
  simp (implicitDefEqProofs := false) (disch := omega) [go_sem, tab121, hl0]
end
/-! ### digits -/
section
variable {n : Nat}
def dgI (n j q : Nat) : VE × VH := ([(3, some (.sl 0 0 (4 * j + q) 1)), (4, some (.sl 1 0 (D (n / 10 ^ (4 * (j + 1)))).length 1)), (5, some (.int .i64 ((n / 10 ^ (4 * j) % 10000 / 10 ^ q : Nat) : Int))), (19, some (.int .i64 q))], [.ints true .u8 (lsd n (4 * j + q)), .ints true .i64 (D (n / 10 ^ (4 * (j + 1))))])
theorem lsd_low (n j q : Nat) (hq : q < 4) : lsd n (4 * j + (q + 1)) = lsd n (4 * j + q) ++ [48 + ((n / 10 ^ (4 * j) % 10000 / 10 ^ q : Nat) : Int) % 10] := by
  have e : n / 10 ^ (4 * j + q) % 10 = n / 10 ^ (4 * j) % 10000 / 10 ^ q % 10 := by
    rw [Nat.pow_add, ← Nat.div_div_eq_div_mul]
    generalize n / 10 ^ (4 * j) = a
    rcases (by omega : q = 0 ∨ q = 1 ∨ q = 2 ∨ q = 3) with rfl | rfl | rfl | rfl <;> simp <;> omega
  rw [show 4 * j + (q + 1) = (4 * j + q) + 1 by omega, lsd, e]
  congr 2
theorem dgI_r (call : CallV) {j q : Nat} (hq : q < 4) (hj : j < 100000) : vCode Try.prog kn call 88 (loopAt Try.f88 1) (dgI n j q).1 (dgI n j q).2 = some (.norm, dgI n j (q + 1)) := by
  have e1 := lsd_low n j q hq
  have e2 : ((n / 10 ^ (4 * j) % 10000 / 10 ^ (q + 1) : Nat) : Int) = ((n / 10 ^ (4 * j) % 10000 / 10 ^ q : Nat) : Int) / 10 := by
    rw [Nat.pow_succ, ← Nat.div_div_eq_div_mul]; omega
  have hl := lsd_len n (4 * j + q)
  have hb : n / 10 ^ (4 * j) % 10000 / 10 ^ q < 10000 := Nat.lt_of_le_of_lt (Nat.div_le_self _ _) (Nat.mod_lt _ (by omega))
  rw [round_v]; simp only [loopAt, nthC, bodyC, loops, List.nil_append, List.cons_append, List.append_nil, Try.f88, dgI, e1, e2]
  generalize n / 10 ^ (4 * j) % 10000 / 10 ^ q = r at *
  generalize lsd n (4 * j + q) = L at *
  generalize D (n / 10 ^ (4 * (j + 1))) = Z at *
  have htk : L.take (4 * j + q) = L := List.take_of_length_le (by omega)
  have hw : IntKind.wrap .u8 (48 + (r : Int) % 10) = 48 + (r : Int) % 10 := by
    unfold IntKind.wrap; simp [IntKind.signed, IntKind.bits]; omega
  have e3 : ((4 * j + (q + 1) : Nat) : Int) = ((4 * j + q : Nat) : Int) + 1 := by omega
  simp (implicitDefEqProofs := false) (disch := omega) [go_sem, tab88, nil88, hl, htk, hw]
theorem dgI_x (call : CallV) {j : Nat} (hj : j < 100000) : vCode Try.prog kn call 88 (loopAt Try.f88 1) (dgI n j 4).1 (dgI n j 4).2 = some (.exit 2, (dgI n j 4).1 ++ [(20, some (.bool false))], (dgI n j 4).2) := by
  rw [round_v]; simp only [loopAt, nthC, bodyC, loops, List.nil_append, List.cons_append, List.append_nil, Try.f88, dgI]
  simp (implicitDefEqProofs := false) (disch := omega) [go_sem, tab88, nil88]
def dgO (n j : Nat) : VE × VH := if j = 0 then ([(0, some (.ints .i64 (D n))), (3, some (.sl 0 0 0 1))], [.ints true .u8 []]) else ([(0, some (.sl 0 0 (D (n / 10 ^ (4 * j))).length 1)), (3, some (.sl 1 0 (4 * j) 1))], [.ints true .i64 (D (n / 10 ^ (4 * j))), .ints true .u8 (lsd n (4 * j))])
theorem dgO_r (d : Nat) (hn : (D n).length < 1000000) {j : Nat} (hj : j < 100000) (h0 : 4 * j < nd n) : vCode Try.prog kn (vrun Try.prog kn (d + 2)) 88 (loopAt Try.f88 0) (dgO n j).1 (dgO n j).2 = some (.norm, dgO n (j + 1)) := by
  have hl0 := fun ks => loop_v (P := Try.prog) (K := kn) (ks := ks) (vi_for (dgI n j) 4 (n := kn.cf.rounds) (by rw [k_cf, c_rounds]; omega) (fun q hq => dgI_r (vrun Try.prog kn (d + 2)) hq hj) fun m => vi_exit (dgI_x _ hj))
  have hp := nd_pos h0
  have hpos : 0 < n / 10 ^ (4 * j) := Nat.div_pos hp (Nat.pow_pos (by omega))
  have hne : D (n / 10 ^ (4 * j)) ≠ [] := fun h => by have := D_nil_iff.1 h; omega
  have hlp : 0 < (D (n / 10 ^ (4 * j))).length := List.length_pos_iff.2 hne
  have hle : (D (n / 10 ^ (4 * j))).length ≤ (D n).length := len_D_mono (Nat.div_le_self _ _)
  have hds := divideSmall_v (z := n / 10 ^ (4 * j)) (m := 10000) d (by omega) (by omega) (by omega)
  have e1 : n / 10 ^ (4 * j) / 10000 = n / 10 ^ (4 * (j + 1)) := by
    rw [Nat.div_div_eq_div_mul, show (10000 : Nat) = 10 ^ 4 from rfl, ← Nat.pow_add, show 4 * j + 4 = 4 * (j + 1) by omega]
  rw [e1, show ((10000 : Nat) : Int) = 10000 from rfl] at hds
  have hj1 : dgO n (j + 1) = ([(0, some (.sl 0 0 (D (n / 10 ^ (4 * (j + 1)))).length 1)), (3, some (.sl 1 0 (4 * j + 4) 1))], [.ints true .i64 (D (n / 10 ^ (4 * (j + 1)))), .ints true .u8 (lsd n (4 * j + 4))]) := by
    unfold dgO; rw [if_neg (by omega), show 4 * (j + 1) = 4 * j + 4 by omega]
  rw [hj1]
  simp only [loopAt, nthC, bodyC, loops, List.nil_append, List.cons_append, List.append_nil, Try.f88, dgI, Int.natCast_zero, List.cons_append, List.nil_append, Nat.pow_zero, Nat.div_one, Nat.add_zero] at hl0
  have hl := lsd_len n (4 * j)
  have hl4 := lsd_len n (4 * j + 4)
  clear hj1 hp hpos e1
  generalize n / 10 ^ (4 * j) % 10000 / 10 ^ 4 = r4 at *
  generalize n / 10 ^ (4 * j) % 10000 = r at *
  generalize D (n / 10 ^ (4 * (j + 1))) = Z at *
  generalize lsd n (4 * j + 4) = L4 at *
  unfold dgO
  cases j with
  | zero =>
    rw [if_pos rfl]
    simp only [Nat.mul_zero, Nat.pow_zero, Nat.div_one, lsd, Nat.zero_add] at *
    rw [round_v]; simp only [loopAt, nthC, bodyC, loops, List.nil_append, List.cons_append, List.append_nil, Try.f88]
    simp (implicitDefEqProofs := false) (disch := omega) [go_sem, tab88, nil88, hl0, hds, hne]
  | succ j =>
    rw [if_neg (by omega)]
    generalize lsd n (4 * (j + 1)) = L at *
    generalize D (n / 10 ^ (4 * (j + 1))) = X at *
    rw [round_v]; simp only [loopAt, nthC, bodyC, loops, List.nil_append, List.cons_append, List.append_nil, Try.f88]
    simp (implicitDefEqProofs := false) (disch := omega) [go_sem, tab88, nil88, hl0, hds, hne]
theorem dgO_x (call : CallV) {m : Nat} (hm : n / 10 ^ (4 * m) = 0) : vCode Try.prog kn call 88 (loopAt Try.f88 0) (dgO n m).1 (dgO n m).2 = some (.exit 0, (dgO n m).1 ++ [(13, some (.bool false))], (dgO n m).2) := by
  unfold dgO
  by_cases h0 : m = 0
  · subst h0
    rw [Nat.mul_zero, Nat.pow_zero, Nat.div_one] at hm
    subst hm
    rw [if_pos rfl, D_zero]
    rw [round_v]; simp only [loopAt, nthC, bodyC, loops, List.nil_append, List.cons_append, List.append_nil, Try.f88]
    simp (implicitDefEqProofs := false) (disch := omega) [go_sem, tab88, nil88]
  · rw [if_neg h0, hm, D_zero]
    rw [round_v]; simp only [loopAt, nthC, bodyC, loops, List.nil_append, List.cons_append, List.append_nil, Try.f88]
    simp (implicitDefEqProofs := false) (disch := omega) [go_sem, tab88, nil88]
/-- Noughts at the high end are taken away. -/
def dgT (E : VE × VH) (L : List Int) (k j : Nat) : VE × VH := if j = 0 then E else ([(3, some (.sl 0 0 (k - j) 1))], [.ints true .u8 L])
theorem dgT_r (call : CallV) {L : List Int} {k j : Nat} {X : V} {Z : List Int} (hk : k = L.length) (hk2 : k < 1000000) (hj : j < k) (h0 : gt L (k - 1 - j) = 48) : vCode Try.prog kn call 88 (loopAt Try.f88 2) (dgT ([(0, some (.sl 0 0 0 1)), (3, some (.sl 1 0 k 1)), (13, some (.bool false))], [.ints true .i64 Z, .ints true .u8 L]) L k j).1 (dgT ([(0, some (.sl 0 0 0 1)), (3, some (.sl 1 0 k 1)), (13, some (.bool false))], [.ints true .i64 Z, .ints true .u8 L]) L k j).2 = some (.norm, dgT ([(0, some (.sl 0 0 0 1)), (3, some (.sl 1 0 k 1)), (13, some (.bool false))], [.ints true .i64 Z, .ints true .u8 L]) L k (j + 1)) := by
  unfold dgT
  rw [if_neg (show ¬ j + 1 = 0 by omega)]
  cases j with
  | zero =>
    rw [if_pos rfl]
    have e1 : ((k : Int) - 1).toNat = k - 1 := by omega
    rw [Nat.sub_zero] at h0
    rw [round_v]; simp only [loopAt, nthC, bodyC, loops, List.nil_append, List.cons_append, List.append_nil, Try.f88]
    simp (implicitDefEqProofs := false) (disch := omega) [go_sem, tab88, nil88, e1, h0]
  | succ j =>
    rw [if_neg (by omega)]
    obtain ⟨q, hq⟩ : ∃ q, q = k - (j + 1) := ⟨_, rfl⟩
    rw [← hq, show k - (j + 1 + 1) = q - 1 by omega]
    rw [show k - 1 - (j + 1) = q - 1 by omega] at h0
    have e1 : ((q : Int) - 1).toNat = q - 1 := by omega
    rw [round_v]; simp only [loopAt, nthC, bodyC, loops, List.nil_append, List.cons_append, List.append_nil, Try.f88]
    simp (implicitDefEqProofs := false) (disch := omega) [go_sem, tab88, nil88, e1, h0]
theorem dgT_x (call : CallV) {L : List Int} {k j : Nat} {Z : List Int} (hk : k = L.length) (hk2 : k < 1000000) (hj : j < k) (h0 : gt L (k - 1 - j) ≠ 48) : ∃ q, vCode Try.prog kn call 88 (loopAt Try.f88 2) (dgT ([(0, some (.sl 0 0 0 1)), (3, some (.sl 1 0 k 1)), (13, some (.bool false))], [.ints true .i64 Z, .ints true .u8 L]) L k j).1 (dgT ([(0, some (.sl 0 0 0 1)), (3, some (.sl 1 0 k 1)), (13, some (.bool false))], [.ints true .i64 Z, .ints true .u8 L]) L k j).2 = some (.exit 4, [(3, some (.sl 0 0 (k - j) 1)), (38, some (.bool false))], q) ∧ q = [.ints true .u8 L] := by
  refine ⟨_, ?_, rfl⟩
  unfold dgT
  cases j with
  | zero =>
    rw [if_pos rfl]
    have e1 : ((k : Int) - 1).toNat = k - 1 := by omega
    rw [Nat.sub_zero] at h0 ⊢
    rw [round_v]; simp only [loopAt, nthC, bodyC, loops, List.nil_append, List.cons_append, List.append_nil, Try.f88]
    simp (implicitDefEqProofs := false) (disch := omega) [go_sem, tab88, nil88, e1, h0]
  | succ j =>
    rw [if_neg (by omega)]
    obtain ⟨q, hq⟩ : ∃ q, q = k - (j + 1) := ⟨_, rfl⟩
    rw [← hq]
    rw [show k - 1 - (j + 1) = q - 1 by omega] at h0
    have e1 : ((q : Int) - 1).toNat = q - 1 := by omega
    rw [round_v]; simp only [loopAt, nthC, bodyC, loops, List.nil_append, List.cons_append, List.append_nil, Try.f88]
    simp (implicitDefEqProofs := false) (disch := omega) [go_sem, tab88, nil88, e1, h0]
theorem nd_len (h : (D n).length < 10000) : nd n < 100000 := by
  by_cases h0 : n = 0
  · subst h0; rw [nd_zero]; omega
  · obtain ⟨h1, h2⟩ := nd_le h0
    have h3 := lt_len_D n
    have h4 : 65536 ^ (D n).length ≤ 10 ^ (5 * (D n).length) := by
      rw [Nat.pow_mul]; exact Nat.pow_le_pow_left (by omega) _
    have h5 : nd n - 1 < 5 * (D n).length := (Nat.pow_lt_pow_iff_right (by omega : 1 < 10)).1 (Nat.lt_of_le_of_lt h1 (Nat.lt_of_lt_of_le h3 h4))
    omega
theorem digitsOf_v (d : Nat) (hn : (D n).length < 10000) : vrun Try.prog kn (d + 3) 88 [.ints .i64 (D n)] [] = some (.sl 0 0 (text n).length 1, [.ints true .u8 (text n)]) := by
  by_cases h0 : n = 0
  · subst h0
    rw [D_zero]
    unfold text
    rw [if_pos rfl]
    rw [vrun_v Try.func88 rfl rfl rfl]; simp only [Try.f88]
    simp (implicitDefEqProofs := false) (disch := omega) [go_sem, tab88, nil88]
  · have hnd := nd_len hn
    obtain ⟨hn1, hn2⟩ := nd_le h0
    obtain ⟨m, hm⟩ : ∃ m, m = (nd n + 3) / 4 := ⟨_, rfl⟩
    have hl0 := fun ks => loop_v (P := Try.prog) (K := kn) (ks := ks) (vi_for (dgO n) m (n := kn.cf.rounds) (by rw [k_cf, c_rounds]; omega) (fun j hj => dgO_r (d + 0) (by omega) (by omega) (by omega)) fun q => vi_exit (dgO_x _ (nd_div (by omega))))
    have e0 : dgO n 0 = ([(0, some (.ints .i64 (D n))), (3, some (.sl 0 0 0 1))], [.ints true .u8 []]) := rfl
    have em : dgO n m = ([(0, some (.sl 0 0 0 1)), (3, some (.sl 1 0 (4 * m) 1))], [.ints true .i64 [], .ints true .u8 (lsd n (4 * m))]) := by
      unfold dgO; rw [if_neg (by omega), nd_div (by omega : nd n ≤ 4 * m), D_zero]; rfl
    have hlen := lsd_len n (4 * m)
    have hz : ∀ j, j < 4 * m - nd n → gt (lsd n (4 * m)) (4 * m - 1 - j) = 48 := fun j hj => by
      have := lsd_at n (i := 4 * m - 1 - j) (m := 4 * m) (by omega)
      rw [nd_div (by omega : nd n ≤ 4 * m - 1 - j)] at this
      unfold gt; rw [this]; rfl
    have hx0 : gt (lsd n (4 * m)) (4 * m - 1 - (4 * m - nd n)) ≠ 48 := by
      have := lsd_at n (i := nd n - 1) (m := 4 * m) (by omega)
      have ht := nd_top h0
      rw [show 4 * m - 1 - (4 * m - nd n) = nd n - 1 by omega]
      unfold gt; rw [this]; omega
    obtain ⟨q, hq, rfl⟩ := dgT_x (Z := []) (vrun Try.prog kn (d + 0 + 2)) hlen.symm (by omega) (by omega : 4 * m - nd n < 4 * m) hx0
    have hl1 := fun ks => loop_v (P := Try.prog) (K := kn) (ks := ks) (vi_for (dgT ([(0, some (.sl 0 0 0 1)), (3, some (.sl 1 0 (4 * m) 1)), (13, some (.bool false))], [.ints true .i64 [], .ints true .u8 (lsd n (4 * m))]) (lsd n (4 * m)) (4 * m)) (4 * m - nd n) (n := kn.cf.rounds) (by rw [k_cf, c_rounds]; omega) (fun j hj => dgT_r (X := .nil) _ hlen.symm (by omega) (by omega) (hz j hj)) fun q => vi_exit hq)
    have et : dgT ([(0, some (.sl 0 0 0 1)), (3, some (.sl 1 0 (4 * m) 1)), (13, some (.bool false))], [.ints true .i64 [], .ints true .u8 (lsd n (4 * m))]) (lsd n (4 * m)) (4 * m) 0 = ([(0, some (.sl 0 0 0 1)), (3, some (.sl 1 0 (4 * m) 1)), (13, some (.bool false))], [.ints true .i64 [], .ints true .u8 (lsd n (4 * m))]) := rfl
    rw [show 4 * m - (4 * m - nd n) = nd n by omega] at hl1
    simp only [e0, em, List.cons_append, List.nil_append, loopAt, nthC, bodyC, loops, List.nil_append, List.cons_append, List.append_nil, Try.f88] at hl0
    simp only [et, loopAt, nthC, bodyC, loops, List.nil_append, List.cons_append, List.append_nil, Try.f88] at hl1
    have hr := fun d => Reverse_v (h := [.ints true .u8 (lsd n (4 * m))]) (i := 0) (k := nd n) (L := lsd n (4 * m)) d rfl (by omega) (by omega)
    have htx : text n = (lsd n (nd n)).reverse := by unfold text; rw [if_neg h0]
    have htk := lsd_take n (nd n) (4 * m) (by omega)
    rw [htk, ← htx] at hr
    have hne : D n ≠ [] := fun h => h0 (D_nil_iff.1 h)
    have hlp : 0 < (D n).length := List.length_pos_iff.2 hne
    have hlt := text_len h0
    have hfin : (text n ++ (lsd n (4 * m)).drop (nd n)).take (nd n) = text n := by
      rw [List.take_append_of_le_length (by omega), List.take_of_length_le (by omega)]
    rw [hlt]
    clear hq hz hx0 htk htx e0 em et hn1
    generalize lsd n (4 * m) = L at *
    generalize text n = T at *
    generalize D n = Z at *
    rw [vrun_v Try.func88 rfl rfl rfl]; simp only [Try.f88]
    simp (implicitDefEqProofs := false) (disch := omega) [go_sem, tab88, nil88, hl0, hl1, hr, hne, hfin]
end
end
/- Decimal texts: whether there are digits alone, the number that they stand for, program; the digits, reference. No conditions. -/
section
open Num
section
variable {l : List Int} {g : Nat} {caps : List V} {p : Int → Bool} {call : CallV}
def ixB (l : List Int) (g : Nat) (caps : List V) (j : Nat) : VE × VH := ([(0, some (.ints .u8 l)), (1, some (.fn (.func g) [] caps)), (7, some (.int .i64 l.length)), (8, some (.int .i64 j))], [])
end

def digB (x : Int) : Bool := decide (48 ≤ x) && decide (x ≤ 57)
def areDigB (b : List Int) : Bool := decide (0 < b.length) && b.all digB
section
variable {b : List Int}
theorem digs_of (h : areDigB b = true) : 0 < b.length ∧ ∀ x ∈ b, 48 ≤ x ∧ x ≤ 57 := by
  unfold areDigB at h
  rw [Bool.and_eq_true, decide_eq_true_eq, List.all_eq_true] at h
  refine ⟨h.1, fun x hx => ?_⟩
  have := h.2 x hx
  unfold digB at this
  simpa using this
theorem rdd_lt : ∀ {l : List Int}, (∀ x ∈ l, 48 ≤ x ∧ x ≤ 57) → ∀ v k : Nat, v < 10 ^ k → rdd v l < 10 ^ (k + l.length)
  | [], _, v, k, h => h
  | x :: r, hl, v, k, h => by
    have hx := hl x List.mem_cons_self
    have := rdd_lt (l := r) (fun y hy => hl y (List.mem_cons_of_mem _ hy)) (v * 10 + (x - 48).toNat) (k + 1) (by rw [Nat.pow_succ]; omega)
    rw [List.length_cons, show k + (r.length + 1) = k + 1 + r.length by omega]; exact this
theorem rdd_len {l : List Int} (hl : ∀ x ∈ l, 48 ≤ x ∧ x ≤ 57) : (D (rdd 0 l)).length ≤ l.length := by
  have h := rdd_lt hl 0 0 (by simp)
  rw [Nat.zero_add] at h
  exact len_D_le.2 (Nat.lt_of_lt_of_le h (Nat.pow_le_pow_left (by omega) _))
theorem rdd_100 {l : List Int} (hl : ∀ x ∈ l, 48 ≤ x ∧ x ≤ 57) (h4 : l.length ≤ 400) : (D (rdd 0 l)).length ≤ 100 := by
  have h := rdd_lt hl 0 0 (by simp)
  rw [Nat.zero_add] at h
  obtain ⟨k, hk⟩ : ∃ k : Nat, k = 100 := ⟨_, rfl⟩
  have h5 : (10 : Nat) ^ l.length ≤ 10 ^ (4 * k) := Nat.pow_le_pow_right (by omega) (by omega)
  have h6 : (10 : Nat) ^ (4 * k) ≤ 65536 ^ k := by rw [Nat.pow_mul]; exact Nat.pow_le_pow_left (by omega) k
  have h7 : (D (rdd 0 l)).length ≤ k := len_D_le.2 (Nat.lt_of_lt_of_le h (Nat.le_trans h5 h6))
  omega
def fdS (b : List Int) (j : Nat) : VE × VH := ([(3, some (.sl 0 0 (D (rdd 0 (b.take j))).length 1)), (6, some (.ints .u8 b)), (7, some (.int .i64 b.length)), (8, some (.int .i64 j))], [.ints true .i64 (D (rdd 0 (b.take j)))])
/-! ### NatRead, NatText -/
def rdOk (b : List Int) : Bool := decide (b.length ≤ 400) && areDigB b && !(decide (1 < b.length) && decide (gt b 0 = 48))
def rdR (b : List Int) : List Int := if rdOk b then D (rdd 0 b) else []
theorem rdR_len (b : List Int) : (rdR b).length ≤ 100 := by
  unfold rdR
  split
  · rename_i h
    unfold rdOk at h
    rw [Bool.and_eq_true, Bool.and_eq_true, decide_eq_true_eq] at h
    exact rdd_100 (digs_of h.1.2).2 h.1.1
  · simp
def txR (l : List Int) : List Int := if natOkB l then text (nN l) else []
theorem text_le {n : Nat} (h : (D n).length ≤ 100) : (text n).length ≤ 100000 := by
  by_cases h0 : n = 0
  · subst h0; simp [text]
  · rw [text_len h0]; have := nd_len (n := n) (by omega); omega
theorem txR_len (l : List Int) : (txR l).length ≤ 100000 := by
  unfold txR
  split
  · rename_i h; exact text_le (okN h).2
  · simp
/-! ### the reference's digits -/
def ltS (n j : Nat) : VE × VH := ([(1, some (.ptr 0 0)), (3, some (.sl 1 0 j 1))], [.vals true [.ints .i64 (D (n / 10 ^ j))], .ints true .u8 (lsd n j)])
theorem lt_r (d : Nat) {n j : Nat} (hn : (D n).length < 10000) (hj : j < nd n) : vCode Try.prog kn (vrun Try.prog kn (d + 2)) 66 (loopAt Try.f66 0) (ltS n j).1 (ltS n j).2 = some (.norm, ltS n (j + 1)) := by
  have hnd := nd_len hn
  have hp := nd_pos hj
  have hpos : 0 < n / 10 ^ j := Nat.div_pos hp (Nat.pow_pos (by omega))
  have hne : D (n / 10 ^ j) ≠ [] := fun h => by have := D_nil_iff.1 h; omega
  have hlp : 0 < (D (n / 10 ^ j)).length := List.length_pos_iff.2 hne
  have hle : (D (n / 10 ^ j)).length ≤ (D n).length := len_D_mono (Nat.div_le_self _ _)
  have a1 := l2small_v (z := n / 10 ^ j) (m := 10) d (by omega) (by omega) (by omega)
  rw [Nat.div_div_eq_div_mul, ← Nat.pow_succ, show ((10 : Nat) : Int) = 10 from rfl] at a1
  have hl := lsd_len n j
  have e1 : lsd n (j + 1) = lsd n j ++ [48 + ((n / 10 ^ j % 10 : Nat) : Int)] := by rw [lsd]; congr 2
  have hb : n / 10 ^ j % 10 < 10 := Nat.mod_lt _ (by omega)
  unfold ltS
  rw [e1]
  generalize n / 10 ^ j % 10 = r at *
  generalize D (n / 10 ^ (j + 1)) = Z at *
  generalize D (n / 10 ^ j) = X at *
  generalize lsd n j = L at *
  have htk : L.take j = L := List.take_of_length_le (by omega)
  have hw : IntKind.wrap .u8 (48 + (r : Int)) = 48 + (r : Int) := by
    unfold IntKind.wrap; simp [IntKind.signed, IntKind.bits]; omega
  clear hp hpos
  rw [round_v]; simp only [loopAt, nthC, bodyC, loops, List.nil_append, List.cons_append, List.append_nil, Try.f66]
  simp (implicitDefEqProofs := false) (disch := omega) [go_sem, tab66, nil66, a1, hne, hl, htk, hw]
theorem lt_x (call : CallV) {n : Nat} : vCode Try.prog kn call 66 (loopAt Try.f66 0) (ltS n (nd n)).1 (ltS n (nd n)).2 = some (.exit 0, (ltS n (nd n)).1 ++ [(17, some (.bool false))], (ltS n (nd n)).2) := by
  have e : D (n / 10 ^ nd n) = [] := by rw [nd_div (Nat.le_refl _), D_zero]
  unfold ltS
  rw [e]
  rw [round_v]; simp only [loopAt, nthC, bodyC, loops, List.nil_append, List.cons_append, List.append_nil, Try.f66]
  simp (implicitDefEqProofs := false) (disch := omega) [go_sem, tab66, nil66]
def lrS (L : List Int) (j : Nat) : VE × VH := ([(3, some (.sl 0 0 L.length 1)), (6, some (.sl 1 0 j 1)), (7, some (.int .i64 ((L.length : Int) - 1 - j)))], [.ints true .u8 L, .ints true .u8 (L.reverse.take j)])
theorem lr_r (call : CallV) {L : List Int} {j : Nat} (hL : L.length < 1000000) (hj : j < L.length) : vCode Try.prog kn call 66 (loopAt Try.f66 1) (lrS L j).1 (lrS L j).2 = some (.norm, lrS L (j + 1)) := by
  have e1 : L.reverse.take (j + 1) = L.reverse.take j ++ [gt L (L.length - 1 - j)] := by
    rw [List.take_add_one, List.getElem?_reverse hj, gt_some (by omega)]; rfl
  have hl : (L.reverse.take j).length = j := by simp; omega
  have e2 : ((L.length : Int) - 1 - j).toNat = L.length - 1 - j := by omega
  have e3 : (L.length : Int) - 1 - ((j + 1 : Nat) : Int) = (L.length : Int) - 1 - j - 1 := by omega
  unfold lrS
  rw [e1, e3]
  generalize L.reverse.take j = M at *
  have htk : M.take j = M := List.take_of_length_le (by omega)
  rw [round_v]; simp only [loopAt, nthC, bodyC, loops, List.nil_append, List.cons_append, List.append_nil, Try.f66]
  simp (implicitDefEqProofs := false) (disch := omega) [go_sem, tab66, nil66, hl, htk, e2]
theorem lr_x (call : CallV) {L : List Int} (hL : L.length < 1000000) : vCode Try.prog kn call 66 (loopAt Try.f66 1) (lrS L L.length).1 (lrS L L.length).2 = some (.exit 2, (lrS L L.length).1 ++ [(34, some (.bool false))], (lrS L L.length).2) := by
  rw [round_v]; simp only [loopAt, nthC, bodyC, loops, List.nil_append, List.cons_append, List.append_nil, Try.f66, lrS]
  simp (implicitDefEqProofs := false) (disch := omega) [go_sem, tab66, nil66]
theorem l2text_v (d : Nat) {n : Nat} (hn : (D n).length < 10000) : vrun Try.prog kn (d + 3) 66 [.agg [.ints .i64 (D n)]] [] = some (.sl 0 0 (text n).length 1, [.ints true .u8 (text n)]) := by
  by_cases h0 : n = 0
  · subst h0
    rw [D_zero]
    unfold text
    rw [if_pos rfl]
    rw [vrun_v Try.func66 rfl rfl rfl]; simp only [Try.f66]
    simp (implicitDefEqProofs := false) (disch := omega) [go_sem, tab66, nil66]
  · have hnd := nd_len hn
    have hl0 := fun ks => loop_v (P := Try.prog) (K := kn) (ks := ks) (vi_for (ltS n) (nd n) (n := kn.cf.rounds) (by rw [k_cf, c_rounds]; omega) (fun j hj => lt_r (d + 0) hn hj) fun m => vi_exit (lt_x _))
    have e0 : D (n / 10 ^ 0) = D n := by rw [Nat.pow_zero, Nat.div_one]
    have e1 : D (n / 10 ^ nd n) = [] := by rw [nd_div (Nat.le_refl _), D_zero]
    have hlen := lsd_len n (nd n)
    have htx : text n = (lsd n (nd n)).reverse := by unfold text; rw [if_neg h0]
    simp only [loopAt, nthC, bodyC, loops, List.nil_append, List.cons_append, List.append_nil, Try.f66, ltS, Int.natCast_zero, List.cons_append, List.nil_append, e0, e1, lsd] at hl0
    rw [htx]
    generalize lsd n (nd n) = L at *
    have hl1 := fun ks => loop_v (P := Try.prog) (K := kn) (ks := ks) (vi_for (lrS L) L.length (n := kn.cf.rounds) (by rw [k_cf, c_rounds]; omega) (fun j hj => lr_r (vrun Try.prog kn (d + 0 + 2)) (by omega) hj) fun m => vi_exit (lr_x _ (by omega)))
    have htk : L.reverse.take L.length = L.reverse := List.take_of_length_le (by simp)
    simp only [loopAt, nthC, bodyC, loops, List.nil_append, List.cons_append, List.append_nil, Try.f66, lrS, Int.natCast_zero, Int.sub_zero, List.cons_append, List.nil_append, List.take_zero, htk] at hl1
    have hne : D n ≠ [] := fun h => h0 (D_nil_iff.1 h)
    have hlp : 0 < (D n).length := List.length_pos_iff.2 hne
    clear e0 e1 htx
    rw [← hlen] at hl0
    generalize D n = Z at *
    rw [vrun_v Try.func66 rfl rfl rfl]; simp only [Try.f66]
    simp (implicitDefEqProofs := false) (disch := omega) [go_sem, tab66, nil66, hl0, hl1, hne, htk]
end
end
/- Whole numbers read, program. No conditions. -/
section
open Num
def cutF (b : List Int) : List Int × Bool := if gt b 0 = 43 ∨ gt b 0 = 45 then (b.tail, decide (gt b 0 = 45)) else (b, false)
section
variable {b : List Int}
def wrF (b : List Int) : Bool := decide (b.length ≤ 400) && areDigB (cutF (plainF b)).1 && wfitB (sg (cutF (plainF b)).2 (rdd 0 (cutF (plainF b)).1))
def wrT (b : List Int) : WhT := if decide (b.length ≤ 400) && areDigB (cutF (plainF b)).1 then wfit (sg (cutF (plainF b)).2 (rdd 0 (cutF (plainF b)).1)) else ⟨false, []⟩
theorem wrT_len (b : List Int) : (wrT b).l.length ≤ 100 := by
  unfold wrT
  split
  · exact wfit_len _
  · simp
theorem plainF_len (b : List Int) : (plainF b).length ≤ 4 * b.length := Nat.le_trans (flat_len4 _) (Nat.mul_le_mul_left 4 (runesF_len b))
theorem cutF_len (b : List Int) : (cutF b).1.length ≤ b.length := by
  unfold cutF
  split
  · rw [List.length_tail]; omega
  · exact Nat.le_refl _
set_option maxHeartbeats 1000000 in
def wtxR (w : WhT) : List Int := if w.neg then 45 :: text (nN w.l) else text (nN w.l)
theorem signedText_t (d : Nat) (hl : b.length < 1000000) {A : VO} : vrun Try.prog kn (d + 1) 87 [.bool true, .sl 1 0 b.length 1] [A, .ints false .u8 b] = some (.sl 3 0 (1 + b.length) 1, [A, .ints false .u8 b, .dead, .ints true .u8 (45 :: b)]) := by
  have htk : List.take (1 + b.length) (45 :: b) = 45 :: b := List.take_of_length_le (by rw [List.length_cons]; omega)
  have w1 := wu8' (x := 45) (by omega) (by omega)
  rw [vrun_v Try.func87 rfl rfl rfl]; simp only [Try.f87]
  simp (implicitDefEqProofs := false) (disch := omega) [go_sem, tab87, nil87, htk, w1]
theorem signedText_f (d : Nat) (hl : b.length < 1000000) {A : VO} : vrun Try.prog kn (d + 1) 87 [.bool false, .sl 1 0 b.length 1] [A, .ints false .u8 b] = some (.sl 1 0 b.length 1, [A, .ints false .u8 b]) := by
  rw [vrun_v Try.func87 rfl rfl rfl]; simp only [Try.f87]
  simp (implicitDefEqProofs := false) (disch := omega) [go_sem, tab87, nil87]
variable {a : WhT}
def wtx (a : WhT) : List Int := if wOk a then wtxR a else []
end
end
/- The program's text of a dyadic number. No conditions. -/
section
open Num
theorem powR_len {a w : Nat} (h : a ≤ 2 ^ w) (k : Nat) : (D (a ^ k)).length ≤ w * k / 16 + 2 := by
  have h1 : a ^ k ≤ 1 * 2 ^ (w * k) := by rw [Nat.one_mul, Nat.pow_mul]; exact Nat.pow_le_pow_left h k
  have h2 := len_D_mono h1
  have h3 := len_shl 1 (w * k)
  have h4 : (D 1).length ≤ 1 := len_small (by omega)
  omega
section
variable {a k : Nat}
def powSR (a k j : Nat) : VE × VH := ([(0, some (.ints .i64 (D a))), (5, some (.sl 0 0 (D (a ^ j)).length 1)), (7, some (.int .i64 k)), (8, some (.int .i64 j))], [.ints true .i64 (D (a ^ j))])
theorem powerR_v (d : Nat) (ha : (D a).length < 400000) (h0 : a ≠ 0) (hl : (D (a ^ k)).length < 400000) (hk : k < 1000000) : vrun Try.prog kn (d + 3) 92 [.ints .i64 (D a), .int .i64 (k : Int)] [] = some (.sl 0 0 (D (a ^ k)).length 1, [.ints true .i64 (D (a ^ k))]) := by
  have hr : ∀ j, j < k → vCode Try.prog kn (vrun Try.prog kn (d + 2)) 92 (loopAt Try.f92 0) (powSR a k j).1 (powSR a k j).2 = some (.norm, powSR a k (j + 1)) := fun j hj => by
    have h1 : (D (a ^ j)).length ≤ (D (a ^ k)).length := len_D_mono (Nat.pow_le_pow_right (by omega) (by omega))
    have h2 := times_v (x := a ^ j) (y := a) d (by omega) (by omega)
    have h3 : (D (a ^ j * a)).length ≤ (D (a ^ k)).length := by rw [← Nat.pow_succ]; exact len_D_mono (Nat.pow_le_pow_right (by omega) (by omega))
    rw [round_v]; simp only [loopAt, nthC, bodyC, loops, List.nil_append, List.cons_append, List.append_nil, Try.f92, powSR, Nat.pow_succ]
    generalize a ^ j = x at *
    generalize x * a = y at *
    simp (implicitDefEqProofs := false) (disch := omega) [go_sem, tab92, nil92, h2]
  have hx : ∀ call, vCode Try.prog kn call 92 (loopAt Try.f92 0) (powSR a k k).1 (powSR a k k).2 = some (.exit 0, (powSR a k k).1 ++ [(9, some (.bool false))], (powSR a k k).2) := fun call => by
    rw [round_v]; simp only [loopAt, nthC, bodyC, loops, List.nil_append, List.cons_append, List.append_nil, Try.f92, powSR]
    simp (implicitDefEqProofs := false) (disch := omega) [go_sem, tab92, nil92]
  have hl0 := fun ks => loop_v (P := Try.prog) (K := kn) (ks := ks) (vi_for (powSR a k) k (n := kn.cf.rounds) (by rw [k_cf, c_rounds]; omega) hr fun m => vi_exit (hx _))
  have hs := fun d => small_v (n := 1) d (by omega)
  simp only [Int.natCast_one] at hs
  have hl1 : (D 1).length ≤ 1 := len_small (by omega)
  simp only [loopAt, nthC, bodyC, loops, List.nil_append, List.cons_append, List.append_nil, Try.f92, powSR, Nat.pow_zero, Int.natCast_zero, List.cons_append, List.nil_append] at hl0
  generalize D 1 = o at *
  rw [vrun_v Try.func92 rfl rfl rfl]; simp only [Try.f92]
  simp (implicitDefEqProofs := false) (disch := omega) [go_sem, tab92, nil92, hs, hl0]
end
section
variable {b : List Int}
theorem signedText3_t (d : Nat) (hl : b.length < 1000000) {A B C : VO} : vrun Try.prog kn (d + 1) 87 [.bool true, .sl 3 0 b.length 1] [A, B, C, .ints false .u8 b] = some (.sl 5 0 (1 + b.length) 1, [A, B, C, .ints false .u8 b, .dead, .ints true .u8 (45 :: b)]) := by
  have htk : List.take (1 + b.length) (45 :: b) = 45 :: b := List.take_of_length_le (by rw [List.length_cons]; omega)
  have w1 := wu8' (x := 45) (by omega) (by omega)
  rw [vrun_v Try.func87 rfl rfl rfl]; simp only [Try.f87]
  simp (implicitDefEqProofs := false) (disch := omega) [go_sem, tab87, nil87, htk, w1]
theorem signedText3_f (d : Nat) (hl : b.length < 1000000) {A B C : VO} : vrun Try.prog kn (d + 1) 87 [.bool false, .sl 3 0 b.length 1] [A, B, C, .ints false .u8 b] = some (.sl 3 0 b.length 1, [A, B, C, .ints false .u8 b]) := by
  rw [vrun_v Try.func87 rfl rfl rfl]; simp only [Try.f87]
  simp (implicitDefEqProofs := false) (disch := omega) [go_sem, tab87, nil87]
end
theorem text_le2 {n : Nat} (h : (D n).length ≤ 1000) : (text n).length ≤ 900000 := by
  by_cases h0 : n = 0
  · subst h0; simp [text]
  · rw [text_len h0]; have := nd_len (n := n) (by omega); omega
section
variable {neg : Bool} {m k : Nat}
theorem dyText_p (d : Nat) (hm : (D m).length ≤ 100) (hk : k ≤ 1000) : vrun Try.prog kn (d + 4) 51 [.agg [.bool neg, .ints .i64 (D m), .int .i64 k]] [] = some (.sl 0 0 (dyTx neg m k).length 1, [.ints true .u8 (dyTx neg m k)]) := by
  have u1 := fun d => up_v (x := m) (k := k) d (by omega) (by omega)
  have l1 := len_shl m k
  have u2 := fun d => down_v (x := m * 2 ^ k) (k := 0) d (by omega) (by omega)
  have z0 : ((0 : Nat) : Int) = 0 := rfl
  rw [z0, Nat.pow_zero, Nat.div_one] at u2
  have u3 := fun d => digitsOf_v (n := m * 2 ^ k) d (by omega)
  have l3 := text_le2 (n := m * 2 ^ k) (by omega)
  have hx : dyTx neg m k = (if neg then [45] else []) ++ text (m * 2 ^ k) := by
    unfold dyTx; congr 1
  rw [hx]
  have hk0 : (if 0 < k then (0 : Int) else -(k : Int)) = 0 := by split <;> omega
  have l2 : (D (m * 2 ^ k)).length ≤ 1000 := by omega
  generalize D (m * 2 ^ k) = N at *
  generalize text (m * 2 ^ k) = T at *
  have u4 := fun A B C d => signedText3_t (b := T) (A := A) (B := B) (C := C) d (by omega)
  have u5 := fun A B C d => signedText3_f (b := T) (A := A) (B := B) (C := C) d (by omega)
  generalize D m = M at *
  clear hx
  have htk : List.take (1 + T.length) (45 :: T) = 45 :: T := List.take_of_length_le (by rw [List.length_cons]; omega)
  cases neg with
  | false =>
    rw [vrun_v Try.func51 rfl rfl rfl]; simp only [Try.f51]
    simp (implicitDefEqProofs := false) (disch := omega) [go_sem, tab51, nil51, hk0, u1, u2, u3, u5]
  | true =>
    rw [vrun_v Try.func51 rfl rfl rfl]; simp only [Try.f51]
    simp (implicitDefEqProofs := false) (disch := omega) [go_sem, tab51, nil51, hk0, u1, u2, u3, u4, htk]
end
end
/- The program's text of a dyadic number that has a point; DyText. No conditions. -/
section
open Num
theorem signedText3_s (d : Nat) {b : List Int} (hl : b.length < 1000000) {A B C : VO} : vrun Try.prog kn (d + 1) 87 [.bool true, .sl 3 0 b.length 1] [A, B, C, .ints false .u8 b] = some (.sl 5 0 (45 :: b).length 1, [A, B, C, .ints false .u8 b, .dead, .ints true .u8 (45 :: b)]) := by
  rw [signedText3_t d hl, List.length_cons, Nat.add_comm]
theorem tk3 {S W Z : List Int} {c : Nat} (hW : W.length = c) : List.take (S.length + 1 + c + Z.length) (List.take (S.length + 1 + c) (List.take (S.length + 1) (S ++ [46]) ++ W) ++ Z) = S ++ 46 :: (W ++ Z) := by
  have e1 : List.take (S.length + 1) (S ++ [46]) = S ++ [46] := List.take_of_length_le (by simp)
  have e2 : List.take (S.length + 1 + c) (S ++ [46] ++ W) = S ++ [46] ++ W := List.take_of_length_le (by simp; omega)
  have e3 : List.take (S.length + 1 + c + Z.length) (S ++ [46] ++ W ++ Z) = S ++ [46] ++ W ++ Z := List.take_of_length_le (by simp; omega)
  rw [e1, e2, e3]; simp
section
variable {neg : Bool} {m k : Nat}
set_option maxHeartbeats 1000000 in
theorem dyText_n (d : Nat) (hm : (D m).length ≤ 100) (ho : m % 2 = 1) (h1k : 1 ≤ k) (hk : k ≤ 100) : vrun Try.prog kn (d + 4) 51 [.agg [.bool neg, .ints .i64 (D m), .int .i64 (-(k : Int))]] [] = some (.sl 0 0 (dyTx neg m (-(k : Int))).length 1, [.ints true .u8 (dyTx neg m (-(k : Int)))]) := by
  have z0 : ((0 : Nat) : Int) = 0 := rfl
  have u1 := fun d => up_v (x := m) (k := 0) d (by omega) (by omega)
  rw [z0, Nat.pow_zero, Nat.mul_one] at u1
  have u2 := fun d => down_v (x := m) (k := k) d (by omega) (by omega)
  have q1 : m / 2 ^ k * 2 ^ k ≤ m := Nat.div_mul_le_self _ _
  have q2 : m - m / 2 ^ k * 2 ^ k = m % 2 ^ k := by have := Nat.div_add_mod m (2 ^ k); rw [Nat.mul_comm] at this; omega
  have m1 : (D (m / 2 ^ k)).length ≤ 100 := Nat.le_trans (len_D_mono (Nat.div_le_self _ _)) hm
  have m2 : (D (m / 2 ^ k * 2 ^ k)).length ≤ 100 := Nat.le_trans (len_D_mono q1) hm
  have m3 : (D (m % 2 ^ k)).length ≤ 100 := Nat.le_trans (len_D_mono (Nat.mod_le _ _)) hm
  have u3 := fun d => up_v (x := m / 2 ^ k) (k := k) d (by omega) (by omega)
  have u4 := fun d => minus_v (x := m) (y := m / 2 ^ k * 2 ^ k) d q1 (by omega)
  rw [q2] at u4
  have u5 := fun d => small_v (n := 5) d (by omega)
  have e5 : ((5 : Nat) : Int) = 5 := rfl
  rw [e5] at u5
  have l5 : (D 5).length ≤ 1 := len_small (by omega)
  have pl := powR_len (a := 5) (w := 3) (by omega) k
  have u6 := fun d => powerR_v (a := 5) (k := k) d (by omega) (by omega) (by omega) (by omega)
  have u7 := fun d => times_v (x := m % 2 ^ k) (y := 5 ^ k) d (by omega) (by omega)
  have m4 := len_mul (m % 2 ^ k) (5 ^ k)
  have u8 := fun d => digitsOf_v (n := m / 2 ^ k) d (by omega)
  have u9 := fun d => digitsOf_v (n := m % 2 ^ k * 5 ^ k) d (by omega)
  have t1 := text_le2 (n := m / 2 ^ k) (by omega)
  have hR := odd_rest (k := k) ho (by omega)
  have t2 : (text (m % 2 ^ k * 5 ^ k)).length ≤ k := by
    rw [text_len hR]
    refine nd_le_of ?_
    rw [show (10 : Nat) ^ k = 2 ^ k * 5 ^ k by rw [← Nat.mul_pow]]
    exact Nat.mul_lt_mul_of_pos_right (Nat.mod_lt _ (Nat.pow_pos (by omega))) (Nat.pow_pos (by omega))
  have t3 := text_pos (m % 2 ^ k * 5 ^ k)
  have hx : dyTx neg m (-(k : Int)) = (if neg then [45] else []) ++ (text (m / 2 ^ k) ++ (46 :: (List.replicate (k - (text (m % 2 ^ k * 5 ^ k)).length) 48 ++ text (m % 2 ^ k * 5 ^ k)))) := by
    unfold dyTx
    rw [if_neg (show ¬ (0 : Int) ≤ -(k : Int) by omega), Int.neg_neg, Int.toNat_natCast]
  rw [hx]
  clear hx hR q1 q2 ho
  generalize D (m % 2 ^ k * 5 ^ k) = N1 at *
  generalize text (m % 2 ^ k * 5 ^ k) = T2 at *
  generalize text (m / 2 ^ k) = T at *
  generalize D (m / 2 ^ k * 2 ^ k) = N2 at *
  generalize D (m / 2 ^ k) = N3 at *
  generalize D (m % 2 ^ k) = N4 at *
  generalize D (5 ^ k) = N5 at *
  generalize D 5 = N6 at *
  generalize D m = M at *
  obtain ⟨c, hc⟩ : ∃ c, k - T2.length = c := ⟨_, rfl⟩
  have hc2 : (k : Int) - T2.length = c := by omega
  have ub := fun d => Repeat_v (c := 48) (L := c) d (by omega)
  have rl : (List.replicate c (48 : Int)).length = c := List.length_replicate
  rw [hc]
  generalize List.replicate c (48 : Int) = W at *
  have uc := fun A B C d => signedText3_s (b := T) (A := A) (B := B) (C := C) d (by omega)
  have ud := fun A B C d => signedText3_f (b := T) (A := A) (B := B) (C := C) d (by omega)
  have w1 := wu8' (x := 46) (by omega) (by omega)
  have w2 := wu8' (x := 48) (by omega) (by omega)
  cases neg with
  | false =>
    rw [vrun_v Try.func51 rfl rfl rfl]; simp only [Try.f51]
    simp (implicitDefEqProofs := false) (disch := omega) [go_sem, tab51, nil51, u1, u2, u3, u4, u5, u6, u7, u8, u9, ub, ud, hc2, rl, w1, w2, tk3 rl]
  | true =>
    have hs : (45 :: T).length = T.length + 1 := List.length_cons
    show _ = some (V.sl 0 0 ((45 :: T) ++ (46 :: (W ++ T2))).length 1, [VO.ints true .u8 ((45 :: T) ++ (46 :: (W ++ T2)))])
    generalize 45 :: T = S at *
    rw [vrun_v Try.func51 rfl rfl rfl]; simp only [Try.f51]
    simp (implicitDefEqProofs := false) (disch := omega) [go_sem, tab51, nil51, u1, u2, u3, u4, u5, u6, u7, u8, u9, ub, uc, hc2, rl, w1, w2, tk3 rl]
end
end
section
open Num
section
variable {x : DyT}
def dyTok (x : DyT) : Bool := dyOkB x && (decide (-100 ≤ x.e) && decide (x.e ≤ 1000))
def dyR (x : DyT) : List Int := if dyTok x then dyTx x.neg x.n x.e else []
theorem dyTok_t (h : dyTok x = true) : dyOkB x = true ∧ x.l = D x.n ∧ (D x.n).length ≤ 100 ∧ -100 ≤ x.e ∧ x.e ≤ 1000 ∧ (x.e < 0 → x.n % 2 = 1) := by
  unfold dyTok at h
  simp only [Bool.and_eq_true, decide_eq_true_eq] at h
  obtain ⟨h0, h1, h2⟩ := h
  obtain ⟨g1, g2, _, _, _⟩ := okD h0
  obtain ⟨a, ha, _, _, _, h6⟩ := (dyOkB_iff x).1 h0
  have hn : x.n = a := by unfold DyT.n; rw [ha, val_D]; rfl
  refine ⟨h0, g1, g2, h1, h2, fun he => ?_⟩
  rcases h6 with ⟨_, _, h7⟩ | h7
  · omega
  · rw [hn]; exact h7
theorem dyText_v (d : Nat) (h : dyTok x = true) : vrun Try.prog kn (d + 4) 51 [.agg [.bool x.neg, .ints .i64 x.l, .int .i64 x.e]] [] = some (.sl 0 0 (dyTx x.neg x.n x.e).length 1, [.ints true .u8 (dyTx x.neg x.n x.e)]) := by
  obtain ⟨_, h1, h2, h3, h4, h5⟩ := dyTok_t h
  rw [h1]
  by_cases he : 0 ≤ x.e
  · obtain ⟨k, hk⟩ : ∃ k : Nat, x.e = k := ⟨x.e.toNat, by omega⟩
    rw [hk]
    exact dyText_p d h2 (by omega)
  · obtain ⟨k, hk⟩ : ∃ k : Nat, x.e = -(k : Int) := ⟨(-x.e).toNat, by omega⟩
    rw [hk]
    exact dyText_n d h2 (h5 (by omega)) (by omega) (by omega)
theorem DyText_v (d : Nat) (hx : x.sz) : vrun Try.prog kn (d + 10) 19 [.agg [.bool x.neg, .ints .i64 x.l, .int .i64 x.e]] [] = some (.tup [.sl 0 0 (dyR x).length 1, .bool (dyTok x)], [.ints true .u8 (dyR x)]) := by
  have h1 := fun d => DyOk_v d x.neg (l := x.l) x.e (by unfold DyT.sz at hx; omega)
  rw [show (⟨x.neg, x.l, x.e⟩ : DyT) = x from rfl] at h1
  have h2 := fun d => within_v d x.e (-100) 1000
  unfold dyR
  cases hq : dyTok x with
  | false =>
    unfold dyTok at hq
    simp only [Bool.false_eq_true, if_false]
    cases ho : dyOkB x with
    | false =>
      rw [ho] at h1
      rw [vrun_v Try.func19 rfl rfl rfl]; simp only [Try.f19]
      simp (implicitDefEqProofs := false) (disch := omega) [go_sem, tab19, nil19, h1]
    | true =>
      rw [ho] at h1 hq
      rw [Bool.true_and] at hq
      rw [hq] at h2
      rw [vrun_v Try.func19 rfl rfl rfl]; simp only [Try.f19]
      simp (implicitDefEqProofs := false) (disch := omega) [go_sem, tab19, nil19, h1, h2]
  | true =>
    have h3 := fun d => dyText_v (x := x) d hq
    have ho := (dyTok_t hq).1
    have hw : (decide (-100 ≤ x.e) && decide (x.e ≤ 1000)) = true := by unfold dyTok at hq; rw [ho, Bool.true_and] at hq; exact hq
    rw [ho] at h1
    rw [hw] at h2
    simp only [if_true]
    generalize dyTx x.neg x.n x.e = T at *
    have htk : List.take T.length T = T := List.take_of_length_le (Nat.le_refl _)
    rw [vrun_v Try.func19 rfl rfl rfl]; simp only [Try.f19]
    simp (implicitDefEqProofs := false) (disch := omega) [go_sem, tab19, nil19, h1, h2, h3, htk]
end
end
/- The reference's text of a dyadic number. No conditions. -/
section
open Num
section
variable {m k : Nat}
/-- What is ahead of the digits. -/
def sgT (neg : Bool) : V := if neg then .sl 0 0 1 1 else .nil
def sgH (neg : Bool) (t : VH) : VH := if neg then .ints true .u8 [45] :: t else t
def sgI (neg : Bool) : Nat := if neg then 1 else 0
def decS (neg : Bool) (m k i : Nat) : VE × VH := ([(3, some (sgT neg)), (4, some (.int .i64 k)), (5, some (.ptr (sgI neg) 0)), (6, some (.int .i64 i))], sgH neg [.vals true [.ints .i64 (D (m * 5 ^ i))]])
theorem dec_r (d : Nat) {neg : Bool} {i : Nat} (hm : (D m).length ≤ 100) (hk : k ≤ 100) (hi : i < k) : vCode Try.prog kn (vrun Try.prog kn (d + 3)) 48 (loopAt Try.f48 0) (decS neg m k i).1 (decS neg m k i).2 = some (.norm, decS neg m k (i + 1)) := by
  have u5 := fun d => l2of_v (n := 5) d (by omega)
  have e5 : ((5 : Nat) : Int) = 5 := rfl
  rw [e5] at u5
  have l5 : (D 5).length ≤ 1 := len_small (by omega)
  have pl := powR_len (a := 5) (w := 3) (by omega) i
  have l1 := len_mul m (5 ^ i)
  have u6 := fun d => l2mul_v (x := m * 5 ^ i) (y := 5) d (by omega) (by omega)
  rw [Nat.mul_assoc, ← Nat.pow_succ] at u6
  rw [round_v]; simp only [loopAt, nthC, bodyC, loops, List.nil_append, List.cons_append, List.append_nil, Try.f48, decS, sgT, sgH, sgI]
  generalize D (m * 5 ^ (i + 1)) = N' at *
  generalize D (m * 5 ^ i) = N at *
  generalize D 5 = F at *
  cases neg <;> simp (implicitDefEqProofs := false) (disch := omega) [go_sem, tab48, u5, u6]
theorem dec_x (call : CallV) {neg : Bool} : vCode Try.prog kn call 48 (loopAt Try.f48 0) (decS neg m k k).1 (decS neg m k k).2 = some (.exit 0, (decS neg m k k).1 ++ [(34, some (.bool false))], (decS neg m k k).2) := by
  rw [round_v]; simp only [loopAt, nthC, bodyC, loops, List.nil_append, List.cons_append, List.append_nil, Try.f48, decS, sgT, sgH, sgI]
  generalize D (m * 5 ^ k) = N at *
  cases neg <;> simp (implicitDefEqProofs := false) (disch := omega) [go_sem, tab48]
def pdS (neg : Bool) (t : List Int) (k j : Nat) : VE × VH := ([(3, some (sgT neg)), (4, some (.int .i64 k)), (7, some (.sl (sgI neg) 0 (j + t.length) 1))], sgH neg [.ints true .u8 (List.replicate j 48 ++ t)])
theorem pd_r (call : CallV) {neg : Bool} {t : List Int} {j : Nat} (ht : t.length < 1000000) (hk : k ≤ 100) (hj : j < k + 1 - t.length) : vCode Try.prog kn call 48 (loopAt Try.f48 1) (pdS neg t k j).1 (pdS neg t k j).2 = some (.norm, pdS neg t k (j + 1)) := by
  have w2 := wu8' (x := 48) (by omega) (by omega)
  have hl : (List.replicate j (48 : Int) ++ t).length = j + t.length := by simp
  have hn : List.replicate (j + 1) (48 : Int) ++ t = 48 :: (List.replicate j 48 ++ t) := by rw [List.replicate_succ]; rfl
  rw [round_v]; simp only [loopAt, nthC, bodyC, loops, List.nil_append, List.cons_append, List.append_nil, Try.f48, pdS, sgT, sgH, sgI]
  rw [hn]
  generalize List.replicate j (48 : Int) ++ t = M at *
  have e1 : (j : Int) + t.length ≤ k := by omega
  have e2 : 1 + (j + t.length) = j + 1 + t.length := by omega
  generalize t.length = q at *
  cases neg <;> simp (implicitDefEqProofs := false) (disch := omega) [go_sem, tab48, hl, e1, e2, w2]
theorem pd_x (call : CallV) {neg : Bool} {t : List Int} {j : Nat} (ht : t.length < 1000000) (hk : k ≤ 100) (hj : k < j + t.length) : vCode Try.prog kn call 48 (loopAt Try.f48 1) (pdS neg t k j).1 (pdS neg t k j).2 = some (.exit 2, (pdS neg t k j).1 ++ [(45, some (.bool false))], (pdS neg t k j).2) := by
  have hl : (List.replicate j (48 : Int) ++ t).length = j + t.length := by simp
  have e1 : ¬ (j : Int) + t.length ≤ k := by omega
  rw [round_v]; simp only [loopAt, nthC, bodyC, loops, List.nil_append, List.cons_append, List.append_nil, Try.f48, pdS, sgT, sgH, sgI]
  generalize List.replicate j (48 : Int) ++ t = M at *
  generalize t.length = q at *
  cases neg <;> simp (implicitDefEqProofs := false) (disch := omega) [go_sem, tab48, hl, e1]
end
end
end Go.Eng
