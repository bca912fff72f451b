/- What the functions of this seat do, one after another, told by plain values. No conditions. -/
import Derived.Test.YtkfeofjgdijbeaaSeat
import Derived.Test.YtkfeofjgdijbeaaVb
import Derived.Test.YtkfeofjgdijbeaaVc
import Derived.Test.YtkfeofjgdijbeaaT2
set_option linter.unusedVariables false
set_option linter.unusedSimpArgs false
namespace Go.Eng
open Go.Proofs
set_option maxRecDepth 100000
set_option linter.unusedSimpArgs false
attribute [local go_sem] r_seq r_skip r_retC r_exitC r_label r_block r_region r_regionW r_xWt r_xW r_cond r_Bt r_Bf r_Ncode r_Nret r_Nexit r_Nblk r_Nblkr r_Nblke r_Nnil r_Es r_Onil r_Oop r_Oif r_Xs r_Gt r_Gf r_wtt r_wtf r_wft r_wff r_wu r_gO r_putS r_putN r_get r_keepN r_keepC r_fr r_fn r_fi r_ff r_fo r_l1 r_l2t r_cun r_cul r_cub r_cui r_cus r_cuis r_cuc r_cusl r_cuti r_cutv r_ven r_vec r_l2f r_l3 r_t1 r_t2 r_t0 r_rt r_rc r_en r_ec r_cM r_oN r_oC r_end r_endt r_endf r_nob0 r_nobN r_nobC r_nobE r_nb0 r_nbi r_nbs r_nbsl r_nbin r_nbce r_nLn r_nLv r_nLc r_nAa r_nAn r_nAk_b r_nAk_i r_nAk_s r_nAk_n r_nAk_is r_nAk_ce r_nAk_fp r_nAk_sl r_nAk_pt r_nAk_fn r_nsn r_nsv r_nsc r_m0 r_mi r_ms r_msl r_min r_mce r_mLn r_mLv r_mLc r_mAa r_mAn r_mAk_b r_mAk_i r_mAk_s r_mAk_n r_mAk_is r_mAk_ce r_mAk_fp r_mAk_sl r_mAk_pt r_mAk_fn r_msn r_msv r_msc r_atb r_ati r_ats r_atn r_atis r_atc r_atf r_atl r_atp r_atfn r_gcn r_gcc r_gLn r_gLc r_gIt r_ndn r_ndc r_gcB r_gLB r_two r_rea r_rea0 r_re1n r_re1c r_ori r_orv r_ord r_orn r_adn r_adc r_ad1 r_ern r_ers r_er0 r_rsl r_rptr r_rb r_ri r_rs r_rn r_ris r_rce r_rfp r_ra4 r_ra3 r_rt4 r_rf4 r_rf3 r_idS r_idc r_nS r_nP r_nF r_nT r_vsl r_vptr r_vb r_vi r_vs r_vn r_vis r_vce r_vfp r_va4 r_va3 r_vt4 r_vf4 r_vf3 r_rV r_Oi r_Ov r_Od r_rE r_rE0 r_En r_Ec r_E0 r_pO r_pk r_agL r_cO r_fO r_fSi r_fSv r_fPv r_fsl r_fptr r_ffn r_fag r_fb r_fint r_fstr r_fnil r_fis r_fce r_ffp r_res r_move r_assign r_pick r_pickt r_pickf r_alloc r_box r_al r_build r_bslice r_load r_store r_nlc r_nl1 r_nl2 r_bin r_un r_conv r_mkf r_mks r_slc r_fad r_fld r_iad r_idx r_ext r_ex1 r_callf r_callt r_callen r_calapp r_calmax r_calmin r_vt r_vcb r_vci r_vcs r_vcnp r_vcn r_vca r_vcf r_vcg r_ofb r_ofi r_ofs r_ofn r_evs r_pn r_prt r_pc r_one_a r_one_b r_one_i r_one_s r_one_n r_one_is r_one_ce r_one_fp r_one_sl r_one_pt r_one_fn r_cs_a r_cs_b r_cs_i r_cs_s r_cs_n r_cs_is r_cs_ce r_cs_fp r_cs_sl r_cs_pt r_cs_fn r_tov r_tovA r_toc r_toa r_tb r_ti r_ts r_tn r_bd r_bd2 r_filn r_fp1 r_filc r_fsn r_fsc r_san r_sac r_bs2 r_bs1 r_nE r_newO r_mkq r_mkI r_mkOi r_mkOv r_tIn r_tIc r_repz r_repn r_ldp r_ldf r_l1t r_l1f r_lFt r_lFf r_aggO r_obj r_at r_ati' r_atv r_celli r_cellv r_subi r_subv r_sto r_sto1 r_sto2 r_sets r_setR r_setn r_setc r_s1i r_s1v r_bin1 r_bin2 r_tv1 r_cb r_ci r_cst r_cn r_csl r_cis r_cce r_uni r_unb r_cv r_cvO r_cvN r_cv0 r_cvS r_wB r_cvi r_cvs r_cvb r_cvl r_sO r_rdn r_rdi r_rdl r_rdO r_vsub r_vfn r_mk r_mk1 r_mk2 r_zoi r_zov r_leni r_lenv r_bn r_bndV r_bo r_sl0 r_sl1 r_vsz r_ct1 r_cts r_cti r_ctc r_ctn r_lnl r_lni r_lnc r_lnn r_fa r_fap r_faf r_fi1 r_fit r_fif r_ixi r_ixs r_ixc r_ixf r_ixF r_ixF2 r_ix1 r_ixsl r_ixin r_ixce r_len1 r_lenA r_lTs r_lTn r_lTl r_lTi r_lTc r_app0 r_app9 r_paf r_pat r_frn r_fre r_tt1 r_tt2 r_tt3 r_app r_app1 r_app2 r_app3 r_catO r_cati r_catv r_newt r_newf r_pair r_pairK r_trip r_kis r_kiv r_srn r_srl r_sri r_src r_srs r_oln r_ole r_oll r_vw r_wi r_wv r_mm r_max r_min' r_str r_cF r_c2t r_c3f r_c3t r_ab r_c2f r_cV r_p1 r_la r_la2t r_la2f r_la3 r_sh r_z_is r_z_ce r_z_fp r_z_b r_z_i r_z_s r_z_n r_z_l r_z_p r_z_a4 r_z_a3 r_z_t4 r_zoI r_zoV r_roN r_roC r_roi r_rod r_zod r_rov r_aR r_trOi r_trOv r_trPv r_trl r_trp r_trf r_tra r_trb r_tri r_trs r_trn r_tris r_trce r_trfp r_vJ r_vJs r_vJn
attribute [local go_sem] b_add b_sub b_mul b_quo b_rem b_shl b_shr b_eql b_neq b_lss b_leq b_gtr b_geq eqB_s b_eqB b_neB u_neg u_not b_nn b_nn' eqS_s zerosT_s zerosT_n zt_i zt_sl zt_st dstOf_z dstOf_n iltT iltF ileT ileF ieqT ieqF nltT nltF nleT nleF neqT neqF tdiv_pos tmod_pos w64 idx0 List.take_of_length_le
/- The laws of a ring for dyadic numbers. Plain law. No conditions. -/
section
open Num
theorem sg_zero (n : Bool) (a : Nat) : sg n a = 0 ↔ a = 0 := by unfold sg; cases n <;> simp
theorem sg_inj {n m : Bool} {a b : Nat} (h0 : a ≠ 0) (h : sg n a = sg m b) : n = m ∧ a = b := by
  unfold sg at h; cases n <;> cases m <;> simp at h ⊢ <;> omega
theorem sg_pow (n : Bool) (a k : Nat) : sg n a * ((2 ^ k : Nat) : Int) = sg n (a * 2 ^ k) := (sg_mul n a (2 ^ k)).symm
theorem oddq : ∀ (i j : Nat) {a b : Nat}, a % 2 = 1 → b % 2 = 1 → a * 2 ^ i = b * 2 ^ j → a = b ∧ i = j
  | 0, 0, a, b, _, _, h => by simpa using h
  | 0, j + 1, a, b, ha, _, h => by
    rw [Nat.pow_zero, Nat.mul_one, Nat.pow_succ, ← Nat.mul_assoc] at h; omega
  | i + 1, 0, a, b, _, hb, h => by
    rw [Nat.pow_zero, Nat.mul_one, Nat.pow_succ, ← Nat.mul_assoc] at h; omega
  | i + 1, j + 1, a, b, ha, hb, h => by
    rw [Nat.pow_succ, ← Nat.mul_assoc, Nat.pow_succ, ← Nat.mul_assoc] at h
    obtain ⟨h1, h2⟩ := oddq i j ha hb (Nat.eq_of_mul_eq_mul_right (by omega) h)
    exact ⟨h1, by omega⟩
theorem tz_split {a : Nat} (h : a ≠ 0) : a = a / 2 ^ tz a * 2 ^ tz a := by
  obtain ⟨o, ho⟩ := tz_spec h
  have hd : a / 2 ^ tz a = 2 * o + 1 := by
    conv => lhs; lhs; rw [ho]
    exact Nat.mul_div_cancel_left _ (Nat.two_pow_pos _)
  rw [hd, Nat.mul_comm]; exact ho
theorem mkD_uniq {n m : Bool} {a b : Nat} {e f K : Int} (he : K ≤ e) (hf : K ≤ f) (h : sg n a * ((2 ^ (e - K).toNat : Nat) : Int) = sg m b * ((2 ^ (f - K).toNat : Nat) : Int)) : mkD n a e = mkD m b f := by
  rw [sg_pow, sg_pow] at h
  by_cases h0 : a = 0
  · subst h0
    rw [Nat.zero_mul] at h
    have hb : b = 0 := by
      have := (sg_zero m (b * 2 ^ (f - K).toNat)).1 (by rw [← h]; exact (sg_zero n 0).2 rfl)
      rcases Nat.mul_eq_zero.1 this with h | h
      · exact h
      · have := Nat.two_pow_pos (f - K).toNat; omega
    subst hb
    unfold mkD
    rw [if_pos rfl, if_pos rfl]
  · have hp := Nat.two_pow_pos (e - K).toNat
    obtain ⟨h1, h2⟩ := sg_inj (Nat.mul_ne_zero h0 (by omega)) h
    have hb : b ≠ 0 := by
      rintro rfl
      rw [Nat.zero_mul] at h2
      rcases Nat.mul_eq_zero.1 h2 with h | h <;> omega
    subst h1
    unfold mkD
    rw [if_neg h0, if_neg hb]
    have ha2 := tz_split h0
    have hb2 := tz_split hb
    have oa := tz_bit h0
    have ob := tz_bit hb
    generalize a / 2 ^ tz a = A at *
    generalize b / 2 ^ tz b = B at *
    rw [ha2, hb2, Nat.mul_assoc, Nat.mul_assoc, ← Nat.pow_add, ← Nat.pow_add] at h2
    obtain ⟨h3, h4⟩ := oddq _ _ oa ob h2
    rw [h3]
    have h5 : e + (tz a : Int) = f + (tz b : Int) := by omega
    rw [h5]
theorem ss_sum (n m : Bool) (a b : Nat) : sg (ssN n a m b) (ssV n a m b) = sg n a + sg m b := by
  unfold ssN ssV sg
  by_cases h : b ≤ a <;> cases n <;> cases m <;> simp [h] <;> omega
section
variable {x y z : DyT}
/-- A valid one is its own one form. -/
theorem mkD_self (hx : dyOkB x = true) : mkD x.neg x.n x.e = x := by
  obtain ⟨n, h1, h2, h3, h4, h5⟩ := (dyOkB_iff x).1 hx
  have hn : x.n = n := by unfold DyT.n; rw [h1, val_D]; rfl
  rw [hn]
  unfold mkD
  rcases h5 with ⟨k1, k2, k3⟩ | k
  · subst k1
    rw [if_pos rfl]
    cases x
    simp only at h1 k2 k3
    rw [D_zero] at h1
    rw [h1, k2, k3]
  · have h0 : n ≠ 0 := by omega
    rw [if_neg h0]
    have ha2 := tz_split h0
    have ob := tz_bit h0
    have hz : n / 2 ^ tz n = n ∧ tz n = 0 := oddq (tz n) 0 ob k (by rw [Nat.pow_zero, Nat.mul_one]; exact ha2.symm)
    rw [hz.1, hz.2, ← h1]
    cases x
    simp
theorem addR_sv (hx : dyOkB x = true) (hy : dyOkB y = true) (K : Int) (hK : K ≤ -3000) : ∃ n a e, addR x y = mkD n a e ∧ -3000 ≤ e ∧ sg n a * ((2 ^ (e - K).toNat : Nat) : Int) = x.sv K + y.sv K := by
  obtain ⟨_, x1, x2, x3, _⟩ := okD hx
  obtain ⟨_, y1, y2, y3, _⟩ := okD hy
  obtain ⟨_, _, e3, _⟩ := al_small x1 y1 x2 x3 y2 y3
  refine ⟨_, _, _, rfl, e3, ?_⟩
  rw [ss_sum, Int.add_mul, sg_pow, sg_pow]
  obtain ⟨h1, h2⟩ := al_sv (a := x.n) (ex := x.e) (ey := y.e) (b := y.n) (K := K) (by omega) (by omega)
  rw [← h1, ← h2, ← sg_pow, ← sg_pow]
  rfl
theorem addR_comm (hx : dyOkB x = true) (hy : dyOkB y = true) : addR x y = addR y x := by
  obtain ⟨n, a, e, h1, h2, h3⟩ := addR_sv hx hy (-3000) (by omega)
  obtain ⟨m, b, f, k1, k2, k3⟩ := addR_sv hy hx (-3000) (by omega)
  rw [h1, k1]
  exact mkD_uniq h2 k2 (by rw [h3, k3, Int.add_comm])
theorem mulR_comm : mulR x y = mulR y x := by
  unfold mulR
  rw [Nat.mul_comm, Int.add_comm, show (x.neg != y.neg) = (y.neg != x.neg) by cases x.neg <;> cases y.neg <;> rfl]
theorem negT_ok (hy : dyOkB y = true) : dyOkB (negT y) = true ∧ ∀ K, (negT y).sv K = -(y.sv K) := by
  obtain ⟨n, h1, h2, h3, h4, h5⟩ := (dyOkB_iff y).1 hy
  have hn : y.n = n := by unfold DyT.n; rw [h1, val_D]; rfl
  have hn' : (negT y).n = y.n := rfl
  refine ⟨(dyOkB_iff _).2 ⟨n, h1, h2, h3, h4, ?_⟩, fun K => ?_⟩
  · rcases h5 with ⟨k1, k2, k3⟩ | k
    · exact .inl ⟨k1, by unfold negT; simp [hn, k1], k3⟩
    · exact .inr k
  · unfold DyT.sv
    rw [hn']
    have e1 : (negT y).e = y.e := rfl
    rw [e1]
    have : sg (negT y).neg y.n = -(sg y.neg y.n) := by
      unfold negT sg
      by_cases h0 : y.n = 0
      · rw [h0]; cases y.neg <;> simp
      · cases y.neg <;> simp [h0]
    rw [this, Int.neg_mul]
theorem mkD_sv {n : Bool} {a : Nat} {e K : Int} (h : K ≤ e) : (mkD n a e).sv K = sg n a * ((2 ^ (e - K).toNat : Nat) : Int) := by
  unfold mkD
  by_cases h0 : a = 0
  · subst h0
    rw [if_pos rfl]
    unfold DyT.sv DyT.n
    rw [(sg_zero n 0).2 rfl]
    simp [sg, val]
  · rw [if_neg h0]
    have ha2 := tz_split h0
    have hv : (DyT.n ⟨n, D (a / 2 ^ tz a), e + tz a⟩) = a / 2 ^ tz a := by unfold DyT.n; rw [val_D]; rfl
    unfold DyT.sv
    rw [hv]
    simp only
    rw [sg_pow, sg_pow]
    generalize a / 2 ^ tz a = A at *
    rw [show (e + (tz a : Int) - K).toNat = tz a + (e - K).toNat by omega, Nat.pow_add, ← Nat.mul_assoc, ← ha2]
theorem subR_addR (hx : dyOkB x = true) (hy : dyOkB y = true) (hs : dyFit (addR x y) = true) : subR (addR x y) y = x := by
  obtain ⟨n, a, e, h1, h2, h3⟩ := addR_sv hx hy (-3000) (by omega)
  have hok : dyOkB (addR x y) = true := by rw [h1] at hs ⊢; rw [dyOkB_mkD]; exact hs
  obtain ⟨q1, q2⟩ := negT_ok hy
  obtain ⟨m, b, f, k1, k2, k3⟩ := addR_sv hok q1 (-3000) (by omega)
  unfold subR
  rw [k1, ← mkD_self hx]
  refine mkD_uniq k2 (dyOk_e hx) ?_
  rw [k3, q2, h1, mkD_sv h2, h3]
  unfold DyT.sv
  omega
theorem mulR_sv (hx : dyOkB x = true) (hy : dyOkB y = true) : ∃ n a e, mulR x y = mkD n a e ∧ -6000 ≤ e ∧ sg n a * ((2 ^ (e - (-6000)).toNat : Nat) : Int) = x.sv (-3000) * y.sv (-3000) := by
  have x2 := dyOk_e hx
  have y2 := dyOk_e hy
  refine ⟨_, _, _, rfl, by omega, ?_⟩
  unfold DyT.sv
  rw [sg_pow, sg_pow, sg_pow, show (x.e + y.e - -6000).toNat = (x.e - -3000).toNat + (y.e - -3000).toNat by omega, Nat.pow_add]
  generalize 2 ^ (x.e - -3000).toNat = P
  generalize 2 ^ (y.e - -3000).toNat = Q
  generalize x.n = A
  generalize y.n = B
  unfold sg
  have e1 : ((A * B * (P * Q) : Nat) : Int) = ((A * P : Nat) : Int) * ((B * Q : Nat) : Int) := by
    rw [← Int.natCast_mul]; congr 1
    rw [Nat.mul_mul_mul_comm]
  cases x.neg <;> cases y.neg <;> simp only [bne, Bool.false_eq_true, if_false, if_true, Bool.not_true, Bool.not_false, BEq.rfl, show (false == true) = false from rfl, show (true == false) = false from rfl] <;> rw [e1]
  · rw [Int.mul_neg]
  · rw [Int.neg_mul]
  · rw [Int.neg_mul_neg]
theorem sv_shift (hx : dyOkB x = true) : x.sv (-6000) = x.sv (-3000) * ((2 ^ 3000 : Nat) : Int) := by
  have x2 := dyOk_e hx
  unfold DyT.sv
  rw [show (x.e - -6000).toNat = (x.e - -3000).toNat + 3000 by omega, Nat.pow_add, Int.natCast_mul, Int.mul_assoc]
theorem distr (hx : dyOkB x = true) (hy : dyOkB y = true) (hz : dyOkB z = true) (hs : dyFit (addR x y) = true) (h1 : dyFit (mulR x z) = true) (h2 : dyFit (mulR y z) = true) : mulR (addR x y) z = addR (mulR x z) (mulR y z) := by
  obtain ⟨n, a, e, s1, s2, s3⟩ := addR_sv hx hy (-3000) (by omega)
  have hok : dyOkB (addR x y) = true := by rw [s1] at hs ⊢; rw [dyOkB_mkD]; exact hs
  obtain ⟨n1, a1, e1, p1, p2, p3⟩ := mulR_sv hok hz
  obtain ⟨n2, a2, e2, q1, q2, q3⟩ := mulR_sv hx hz
  obtain ⟨n3, a3, e3, r1, r2, r3⟩ := mulR_sv hy hz
  have ok2 : dyOkB (mulR x z) = true := by rw [q1] at h1 ⊢; rw [dyOkB_mkD]; exact h1
  have ok3 : dyOkB (mulR y z) = true := by rw [r1] at h2 ⊢; rw [dyOkB_mkD]; exact h2
  obtain ⟨n4, a4, e4, t1, t2, t3⟩ := addR_sv ok2 ok3 (-6000) (by omega)
  rw [p1, t1]
  refine mkD_uniq p2 (by omega) ?_
  rw [p3, t3, s1, mkD_sv s2, s3, q1, r1, mkD_sv q2, mkD_sv r2, q3, r3, Int.add_mul]
end
end
/- The numbers that the elimination of a matrix makes: what they are, how long they are. No program in sight. No conditions. -/
section
open Num
def eMul (x y : DyT) : DyT := ⟨(x.neg != y.neg) && decide (x.n * y.n ≠ 0), D (x.n * y.n), x.e + y.e⟩
def eSub (x y : DyT) : DyT := ⟨ssN x.neg (alA x.n x.e y.n y.e) (!y.neg && decide (y.n ≠ 0)) (alB x.n x.e y.n y.e) && decide (ssV x.neg (alA x.n x.e y.n y.e) (!y.neg && decide (y.n ≠ 0)) (alB x.n x.e y.n y.e) ≠ 0), D (ssV x.neg (alA x.n x.e y.n y.e) (!y.neg && decide (y.n ≠ 0)) (alB x.n x.e y.n y.e)), alE x.n x.e y.n y.e⟩
/-- How long a number is, and its exponent. -/
structure EF (B E : Nat) (x : DyT) : Prop where
  l : x.l = D x.n
  b : (D x.n).length ≤ B
  e0 : -(E : Int) ≤ x.e
  e1 : x.e ≤ E
theorem mk_n (n : Bool) (a : Nat) (e : Int) : (⟨n, D a, e⟩ : DyT).n = a := by show (val (D a)).toNat = a; rw [val_D]; rfl
theorem eMul_n (x y : DyT) : (eMul x y).n = x.n * y.n := mk_n _ _ _
theorem eSub_n (x y : DyT) : (eSub x y).n = ssV x.neg (alA x.n x.e y.n y.e) (!y.neg && decide (y.n ≠ 0)) (alB x.n x.e y.n y.e) := mk_n _ _ _
theorem sg_and (n : Bool) (a : Nat) : sg (n && decide (a ≠ 0)) a = sg n a := by
  unfold sg
  by_cases h : a = 0
  · subst h; cases n <;> simp
  · cases n <;> simp [h]
theorem sg_notn (n : Bool) (a : Nat) : sg (!n && decide (a ≠ 0)) a = -sg n a := by
  rw [sg_and]; unfold sg; cases n <;> simp
theorem sg_mul2 (n m : Bool) (a b : Nat) : sg (n != m) (a * b) = sg n a * sg m b := by
  unfold sg
  cases n <;> cases m <;> simp [Int.neg_mul, Int.mul_neg]
theorem sv_zero {K : Int} {x : DyT} : x.sv K = 0 ↔ x.n = 0 := by
  unfold DyT.sv
  have h : ((2 ^ (x.e - K).toNat : Nat) : Int) ≠ 0 := by
    have := Nat.pow_pos (n := (x.e - K).toNat) (show 0 < 2 by omega)
    omega
  constructor
  · intro hz
    rcases Int.mul_eq_zero.1 hz with h1 | h1
    · exact (sg_zero _ _).1 h1
    · exact absurd h1 h
  · intro hz; rw [(sg_zero _ _).2 hz, Int.zero_mul]
theorem sv_mul {K K' : Int} {x y : DyT} (hx : K ≤ x.e) (hy : K' ≤ y.e) : (eMul x y).sv (K + K') = x.sv K * y.sv K' := by
  unfold DyT.sv
  rw [eMul_n]
  show sg ((x.neg != y.neg) && decide (x.n * y.n ≠ 0)) (x.n * y.n) * ((2 ^ (x.e + y.e - (K + K')).toNat : Nat) : Int) = _
  rw [sg_and, sg_mul2, show (x.e + y.e - (K + K')).toNat = (x.e - K).toNat + (y.e - K').toNat by omega, Nat.pow_add, Int.natCast_mul]
  generalize sg x.neg x.n = a
  generalize sg y.neg y.n = b
  generalize ((2 ^ (x.e - K).toNat : Nat) : Int) = c
  generalize ((2 ^ (y.e - K').toNat : Nat) : Int) = d
  grind
theorem al_ge {a b : Nat} {ex ey K : Int} (hx : K ≤ ex) (hy : K ≤ ey) : K ≤ alE a ex b ey := by unfold alE; split <;> (try split) <;> (try split) <;> omega
theorem al_le {a b : Nat} {ex ey K : Int} (hx : ex ≤ K) (hy : ey ≤ K) : alE a ex b ey ≤ K := by unfold alE; split <;> (try split) <;> (try split) <;> omega
theorem sum_sv (n m : Bool) {a b : Nat} {ex ey K : Int} (hx : K ≤ ex) (hy : K ≤ ey) : sg (ssN n (alA a ex b ey) m (alB a ex b ey)) (ssV n (alA a ex b ey) m (alB a ex b ey)) * ((2 ^ (alE a ex b ey - K).toNat : Nat) : Int) = sg n a * ((2 ^ (ex - K).toNat : Nat) : Int) + sg m b * ((2 ^ (ey - K).toNat : Nat) : Int) := by
  obtain ⟨h1, h2⟩ := al_sv (a := a) (b := b) hx hy
  rw [ss_sum, Int.add_mul, ← sg_mul, ← sg_mul, ← h1, ← h2, sg_mul, sg_mul]
theorem sv_sub {K : Int} {x y : DyT} (hx : K ≤ x.e) (hy : K ≤ y.e) : (eSub x y).sv K = x.sv K - y.sv K := by
  have h := sum_sv x.neg (!y.neg && decide (y.n ≠ 0)) (a := x.n) (b := y.n) hx hy
  rw [sg_notn] at h
  unfold DyT.sv
  rw [eSub_n]
  show sg (_ && decide (_ ≠ 0)) _ * ((2 ^ (alE x.n x.e y.n y.e - K).toNat : Nat) : Int) = _
  rw [sg_and, h]; grind
theorem EF.mul {B E : Nat} {x y : DyT} (hx : EF B E x) (hy : EF B E y) : EF (2 * B) (2 * E) (eMul x y) where
  l := by rw [eMul_n]; rfl
  b := by rw [eMul_n]; have := len_mul x.n y.n; have := hx.b; have := hy.b; omega
  e0 := by have := hx.e0; have := hy.e0; show _ ≤ x.e + y.e; omega
  e1 := by have := hx.e1; have := hy.e1; show x.e + y.e ≤ _; omega
theorem EF.sub {B E : Nat} {x y : DyT} (hx : EF B E x) (hy : EF B E y) : EF (B + E / 8 + 3) E (eSub x y) where
  l := by rw [eSub_n]; rfl
  b := by
    rw [eSub_n]
    have h0 := al_ge (a := x.n) (b := y.n) hx.e0 hy.e0
    have h1 := len_shl x.n (x.e - alE x.n x.e y.n y.e).toNat
    have h2 := len_shl y.n (y.e - alE x.n x.e y.n y.e).toNat
    have := hx.b; have := hy.b; have := hx.e1; have := hy.e1
    have h3 : (D (alA x.n x.e y.n y.e)).length < B + E / 8 + 2 := by unfold alA; omega
    have h4 : (D (alB x.n x.e y.n y.e)).length < B + E / 8 + 2 := by unfold alB; omega
    have := ssV_len (n := x.neg) (m := !y.neg && decide (y.n ≠ 0)) h3 h4
    omega
  e0 := al_ge hx.e0 hy.e0
  e1 := al_le hx.e1 hy.e1
/-- A row of numbers, each times a power of two: whole numbers. -/
def rF (K : Int) (row : List DyT) : Row := fun c => match row[c]? with
  | some x => x.sv K
  | none => 0
theorem rF_at {K : Int} {row : List DyT} {c : Nat} {x : DyT} (h : row[c]? = some x) : rF K row c = x.sv K := by unfold rF; rw [h]
def eComb (P own x q : DyT) : DyT := eSub (eMul x P) (eMul q own)
def rkRow (P own : DyT) (p row : List DyT) : List DyT := List.zipWith (eComb P own) row p
theorem rkRow_len {P own : DyT} {p row : List DyT} (h : p.length = row.length) : (rkRow P own p row).length = row.length := by unfold rkRow; rw [List.length_zipWith]; omega
theorem rF_comb {E : Nat} {P own : DyT} {p row : List DyT} {j : Nat} (h : p.length = row.length) (hp : p[j]? = some P) (hr : row[j]? = some own) (h1 : ∀ x ∈ p, -(E : Int) ≤ x.e) (h2 : ∀ x ∈ row, -(E : Int) ≤ x.e) :
    rF (-((2 * E : Nat) : Int)) (rkRow P own p row) = comb (rF (-(E : Int)) p) j (rF (-(E : Int)) row) := by
  funext c
  unfold comb
  rw [rF_at hp, rF_at hr]
  unfold rF rkRow
  rw [List.getElem?_zipWith]
  by_cases hc : c < row.length
  · rw [List.getElem?_eq_getElem hc, List.getElem?_eq_getElem (show c < p.length by omega)]
    have a1 := h2 _ (List.getElem_mem hc)
    have a2 := h1 _ (List.getElem_mem (show c < p.length by omega))
    have a3 := h1 _ (List.mem_of_getElem? hp)
    have a4 := h2 _ (List.mem_of_getElem? hr)
    show (eComb P own _ _).sv _ = _
    unfold eComb
    rw [show -((2 * E : Nat) : Int) = -(E : Int) + -(E : Int) by omega, sv_sub (by show _ ≤ _ + _; omega) (by show _ ≤ _ + _; omega), sv_mul a1 a3, sv_mul a2 a4]
  · rw [List.getElem?_eq_none (by omega), List.getElem?_eq_none (by omega)]
    simp
/-- How long, and of which exponents, after so many steps. -/
def rE (t : Nat) : Nat := 3000 * 2 ^ t
def rB : Nat → Nat
  | 0 => 100
  | t + 1 => 2 * rB t + (2 * rE t) / 8 + 3
theorem rE_s (t : Nat) : rE (t + 1) = 2 * rE t := by unfold rE; rw [Nat.pow_succ]; omega
theorem EF.step {t : Nat} {P own x q : DyT} (h1 : EF (rB t) (rE t) P) (h2 : EF (rB t) (rE t) own) (h3 : EF (rB t) (rE t) x) (h4 : EF (rB t) (rE t) q) : EF (rB (t + 1)) (rE (t + 1)) (eComb P own x q) := by
  have := (h3.mul h1).sub (h4.mul h2)
  rw [rE_s]; exact this
theorem rkRow_all {t : Nat} {P own : DyT} {p row : List DyT} (h1 : EF (rB t) (rE t) P) (h2 : EF (rB t) (rE t) own) (hp : ∀ x ∈ p, EF (rB t) (rE t) x) (hr : ∀ x ∈ row, EF (rB t) (rE t) x) : ∀ x ∈ rkRow P own p row, EF (rB (t + 1)) (rE (t + 1)) x := by
  intro x hx
  unfold rkRow at hx
  obtain ⟨i, hi, rfl⟩ := List.mem_iff_getElem.1 hx
  rw [List.getElem_zipWith]
  exact .step h1 h2 (hr _ (List.getElem_mem _)) (hp _ (List.getElem_mem _))
theorem rB_le {t : Nat} (h : t ≤ 3) : 2 * rB t < 100000 ∧ 2 * rE t ≤ 100000 := by
  have : t = 0 ∨ t = 1 ∨ t = 2 ∨ t = 3 := by omega
  rcases this with rfl | rfl | rfl | rfl <;> decide
end
/- What the exact laws do beside: sizes and equality of whole numbers' lists, naturals, wholes, dyadics. No conditions. -/
section
open Num
section
variable {l a b : List Int} {left e : Int} {n : Bool}
theorem szIntS_v (d : Nat) (hl : l.length ≤ 9223372036854775807) (h0 : 0 ≤ left) (h1 : left ≤ 1048576) : ∃ r : Int, vrun Try.prog kn (d + 1) 116 [.ints .i64 l, .int .i64 left] [] = some (.int .i64 r, []) ∧ r ≤ left ∧ (0 ≤ r → l.length ≤ 1048576) := by
  by_cases h : left < l.length
  · refine ⟨-1, ?_, by omega, fun h => by omega⟩
    rw [vrun_v Try.func116 rfl rfl rfl]; simp only [Try.f116]
    simp (disch := omega) [go_sem, tab116]
  · refine ⟨left - l.length, ?_, by omega, fun h => by omega⟩
    rw [vrun_v Try.func116 rfl rfl rfl]; simp only [Try.f116]
    simp (disch := omega) [go_sem, tab116]
theorem szNat_v (d : Nat) (hl : l.length ≤ 9223372036854775807) (h0 : 0 ≤ left) (h1 : left ≤ 1048576) : ∃ r : Int, vrun Try.prog kn (d + 2) 78 [.agg [.ints .i64 l], .int .i64 left] [] = some (.int .i64 r, []) ∧ r ≤ left ∧ (0 ≤ r → l.length ≤ 1048576) := by
  obtain ⟨r, hr, h2, h3⟩ := szIntS_v d hl h0 h1
  by_cases h : r < 0
  · refine ⟨-1, ?_, by omega, fun h => by omega⟩
    rw [vrun_v Try.func78 rfl rfl rfl]; simp only [Try.f78]
    simp (disch := omega) [go_sem, tab78, hr]
  · refine ⟨r, ?_, by omega, h3⟩
    rw [vrun_v Try.func78 rfl rfl rfl]; simp only [Try.f78]
    simp (disch := omega) [go_sem, tab78, hr]
theorem szWhole_v (d : Nat) (hl : l.length ≤ 9223372036854775807) (h0 : 0 ≤ left) (h1 : left ≤ 1048576) : ∃ r : Int, vrun Try.prog kn (d + 3) 46 [.agg [.bool n, .ints .i64 l], .int .i64 left] [] = some (.int .i64 r, []) ∧ r ≤ left ∧ (0 ≤ r → l.length ≤ 1048576) := by
  obtain ⟨r, hr, h2, h3⟩ := szNat_v d hl h0 h1
  by_cases h : r < 0
  · refine ⟨-1, ?_, by omega, fun h => by omega⟩
    rw [vrun_v Try.func46 rfl rfl rfl]; simp only [Try.f46]
    simp (disch := omega) [go_sem, tab46, hr]
  · refine ⟨r, ?_, by omega, h3⟩
    rw [vrun_v Try.func46 rfl rfl rfl]; simp only [Try.f46]
    simp (disch := omega) [go_sem, tab46, hr]
theorem szDy_v (d : Nat) (hl : l.length ≤ 9223372036854775807) (h0 : 0 ≤ left) (h1 : left ≤ 1048576) : ∃ r : Int, vrun Try.prog kn (d + 4) 16 [.agg [.bool n, .ints .i64 l, .int .i64 e], .int .i64 left] [] = some (.int .i64 r, []) ∧ r ≤ left ∧ (0 ≤ r → l.length ≤ 1048576) := by
  obtain ⟨r, hr, h2, h3⟩ := szWhole_v (n := n) d hl h0 h1
  by_cases h : r < 0
  · refine ⟨-1, ?_, by omega, fun h => by omega⟩
    rw [vrun_v Try.func16 rfl rfl rfl]; simp only [Try.f16]
    simp (disch := omega) [go_sem, tab16, hr]
  · refine ⟨r, ?_, by omega, h3⟩
    rw [vrun_v Try.func16 rfl rfl rfl]; simp only [Try.f16]
    simp (disch := omega) [go_sem, tab16, hr]
def eqIS (a b : List Int) (j : Nat) : VE × VH := ([(0, some (.ints .i64 a)), (1, some (.ints .i64 b)), (5, some (.int .i64 j))], [])
theorem eqIntS_v (d : Nat) (ha : a.length < 1000000000) (hb : b.length < 1000000000) : vrun Try.prog kn (d + 1) 123 [.ints .i64 a, .ints .i64 b] [] = some (.bool (decide (a = b)), []) := by
  by_cases hl : ¬ a.length = b.length
  · have : ¬ a = b := fun h => hl (by rw [h])
    have h' : ¬ (a.length : Int) = b.length := by omega
    rw [vrun_v Try.func123 rfl rfl rfl]; simp only [Try.f123]
    simp (disch := omega) [go_sem, tab123, h', this, hl]
  rw [Decidable.not_not] at hl
  have key := vi_inv (n := kn.cf.rounds) (body := vCode Try.prog kn (vrun Try.prog kn d) 123 (loopAt Try.f123 0)) (fun j s => s = eqIS a b j ∧ a.take j = b.take j)
    (fun r => (r = some (.exit 0, (eqIS a b a.length).1 ++ [(14, some (.bool false))], []) ∧ a = b) ∨ (r = some (.ret, [(4, some (.bool false))], []) ∧ ¬ a = b)) a.length (by rw [k_cf, c_rounds]; omega)
    (fun j s hj hI => by
      obtain ⟨rfl, hI⟩ := hI
      have hja : a[j]? = some (gt a j) := by rw [gt]; simp [hj]
      have hjb : b[j]? = some (gt b j) := by rw [gt]; simp [show j < b.length by omega]
      by_cases hq : gt a j = gt b j
      · left
        refine ⟨eqIS a b (j + 1), ?_, rfl, ?_⟩
        · rw [round_v]; simp only [loopAt, nthC, bodyC, loops, List.nil_append, List.cons_append, List.append_nil, Try.f123, eqIS]
          simp (disch := omega) [go_sem, tab123, hq]
        · rw [List.take_add_one, List.take_add_one, hI, hja, hjb, hq]
      · right; intro m; right
        refine ⟨vi_ret ?_, fun h => hq (by rw [h])⟩
        rw [round_v]; simp only [loopAt, nthC, bodyC, loops, List.nil_append, List.cons_append, List.append_nil, Try.f123, eqIS]
        simp (disch := omega) [go_sem, tab123, hq])
    (fun s hI m => by
      obtain ⟨rfl, hI⟩ := hI
      left
      refine ⟨vi_exit ?_, by rwa [List.take_length, hl, List.take_length] at hI⟩
      rw [round_v]; simp only [loopAt, nthC, bodyC, loops, List.nil_append, List.cons_append, List.append_nil, Try.f123, eqIS]
      simp (disch := omega) [go_sem, tab123])
    (eqIS a b 0) ⟨rfl, by simp⟩
  rcases key with ⟨hv, hq⟩ | ⟨hv, hq⟩
  · rw [decide_eq_true hq]
    have hl0 := fun ks => loop_v (P := Try.prog) (K := kn) (ks := ks) hv
    simp only [loopAt, nthC, bodyC, loops, List.nil_append, List.cons_append, List.append_nil, Try.f123, eqIS, Int.natCast_zero, List.cons_append, List.nil_append] at hl0
    rw [vrun_v Try.func123 rfl rfl rfl]; simp only [Try.f123]
    simp (disch := omega) [go_sem, tab123, hl, hl0]
  · rw [decide_eq_false hq]
    have hl0 := fun ks => loop_v (P := Try.prog) (K := kn) (ks := ks) hv
    simp only [loopAt, nthC, bodyC, loops, List.nil_append, List.cons_append, List.append_nil, Try.f123, eqIS, Int.natCast_zero, List.cons_append, List.nil_append] at hl0
    rw [vrun_v Try.func123 rfl rfl rfl]; simp only [Try.f123]
    simp (disch := omega) [go_sem, tab123, hl, hl0]
theorem eqNat_v (d : Nat) (ha : a.length < 1000000000) (hb : b.length < 1000000000) : vrun Try.prog kn (d + 2) 94 [.agg [.ints .i64 a], .agg [.ints .i64 b]] [] = some (.bool (decide (a = b)), []) := by
  have h1 := fun d => eqIntS_v d ha hb
  by_cases h : a = b <;> simp only [h, decide_true, decide_false] at h1 ⊢
  all_goals
    rw [vrun_v Try.func94 rfl rfl rfl]; simp only [Try.f94]
    simp (disch := omega) [go_sem, tab94, h1]
theorem eqWhole_v (d : Nat) {n1 n2 : Bool} (ha : a.length < 1000000000) (hb : b.length < 1000000000) : vrun Try.prog kn (d + 3) 52 [.agg [.bool n1, .ints .i64 a], .agg [.bool n2, .ints .i64 b]] [] = some (.bool (decide (n1 = n2) && decide (a = b)), []) := by
  have h1 := fun d => eqNat_v d ha hb
  by_cases h : a = b <;> simp only [h, decide_true, decide_false, Bool.and_true, Bool.and_false] at h1 ⊢
  all_goals
    rw [vrun_v Try.func52 rfl rfl rfl]; simp only [Try.f52]
    cases n1 <;> cases n2 <;> simp (disch := omega) [go_sem, tab52, h1]
theorem eqDy_v (d : Nat) {n1 n2 : Bool} {e1 e2 : Int} (ha : a.length < 1000000000) (hb : b.length < 1000000000) : vrun Try.prog kn (d + 4) 21 [.agg [.bool n1, .ints .i64 a, .int .i64 e1], .agg [.bool n2, .ints .i64 b, .int .i64 e2]] [] = some (.bool (decide (n1 = n2) && decide (a = b) && decide (e1 = e2)), []) := by
  have h1 := fun d => eqWhole_v (n1 := n1) (n2 := n2) d ha hb
  cases hc : (decide (n1 = n2) && decide (a = b)) <;> rw [hc] at h1 <;> by_cases he : e1 = e2
  all_goals
    rw [vrun_v Try.func21 rfl rfl rfl]; simp only [Try.f21]
    simp (disch := omega) [go_sem, tab21, h1, he]
end
end
/- Equality of dyadics is decidable. No conditions. -/
section
instance : DecidableEq DyT := fun a b => match a, b with
  | ⟨n, l, e⟩, ⟨m, k, f⟩ => if h : n = m ∧ l = k ∧ e = f then .isTrue (by obtain ⟨rfl, rfl, rfl⟩ := h; rfl) else .isFalse (fun q => h (by cases q; exact ⟨rfl, rfl, rfl⟩))
end
/- Sizes and equality of lists of dyadics. No conditions. -/
section
open Num
section
variable {ds es : List DyT} {left : Int}
def szDSS (ds : List DyT) (r : Int) (j : Nat) : VE × VH := ([(0, some (.cells 3 ds.length (flat DyT.v ds))), (1, some (.int .i64 r)), (5, some (.int .i64 j))], [])
theorem szDyS_v (d : Nat) (hl : ds.length ≤ 9223372036854775807) (hs : ∀ x ∈ ds, x.l.length ≤ 9223372036854775807) (h0 : 0 ≤ left) (h1 : left ≤ 1048576) : ∃ r : Int, vrun Try.prog kn (d + 5) 54 [.cells 3 ds.length (flat DyT.v ds), .int .i64 left] [] = some (.int .i64 r, []) ∧ r ≤ left ∧ (0 ≤ r → ds.length ≤ 1048576 ∧ ∀ x ∈ ds, x.l.length ≤ 1048576) := by
  by_cases hlt : left < ds.length
  · refine ⟨-1, ?_, by omega, fun h => by omega⟩
    rw [vrun_v Try.func54 rfl rfl rfl]; simp only [Try.f54]
    simp (disch := omega) [go_sem, tab54]
  have key := vi_inv (n := kn.cf.rounds) (body := vCode Try.prog kn (vrun Try.prog kn (d + 4)) 54 (loopAt Try.f54 0)) (fun j s => ∃ r : Int, s = szDSS ds r j ∧ 0 ≤ r ∧ r ≤ left ∧ ∀ x ∈ ds.take j, x.l.length ≤ 1048576)
    (fun v => (∃ r : Int, v = some (.exit 0, (szDSS ds r ds.length).1 ++ [(15, some (.bool false))], []) ∧ 0 ≤ r ∧ r ≤ left ∧ ∀ x ∈ ds, x.l.length ≤ 1048576) ∨ v = some (.ret, [(4, some (.int .i64 (-1)))], [])) ds.length (by rw [k_cf, c_rounds]; omega)
    (fun j s hj hI => by
      obtain ⟨r, rfl, hr0, hr1, hI⟩ := hI
      have hget : ds[j]? = some ds[j] := List.getElem?_eq_getElem hj
      have hlen := hs _ (List.getElem_mem hj)
      have hsub : ((flat DyT.v ds).drop (j * 3)).take 3 = [.bool ds[j].neg, .ints .i64 ds[j].l, .int .i64 ds[j].e] := flat_sub DyT.len ds j _ hget
      generalize ds[j] = x at *
      obtain ⟨r', hr', h2, h3⟩ := szDy_v (n := x.neg) (e := x.e) d hlen hr0 (by omega)
      by_cases h : r' < 0
      · right; intro m; right
        refine vi_ret ?_
        rw [round_v]; simp only [loopAt, nthC, bodyC, loops, List.nil_append, List.cons_append, List.append_nil, Try.f54, szDSS]
        simp (disch := omega) [go_sem, tab54, hsub, hr']
      · left
        refine ⟨szDSS ds r' (j + 1), ?_, r', rfl, by omega, by omega, ?_⟩
        · rw [round_v]; simp only [loopAt, nthC, bodyC, loops, List.nil_append, List.cons_append, List.append_nil, Try.f54, szDSS]
          simp (disch := omega) [go_sem, tab54, hsub, hr']
        · rw [List.take_add_one, hget]
          intro y hy
          rcases List.mem_append.1 hy with hy | hy
          · exact hI y hy
          · simp at hy; subst hy; exact h3 (by omega))
    (fun s hI m => by
      obtain ⟨r, rfl, hr0, hr1, hI⟩ := hI
      left
      refine ⟨r, vi_exit ?_, hr0, hr1, by rwa [List.take_length] at hI⟩
      rw [round_v]; simp only [loopAt, nthC, bodyC, loops, List.nil_append, List.cons_append, List.append_nil, Try.f54, szDSS]
      simp (disch := omega) [go_sem, tab54])
    (szDSS ds (left - ds.length) 0) ⟨_, rfl, by omega, by omega, by simp⟩
  rcases key with ⟨r, hv, h2, h3, h4⟩ | hv
  · have hl0 := fun ks => loop_v (P := Try.prog) (K := kn) (ks := ks) hv
    simp only [loopAt, nthC, bodyC, loops, List.nil_append, List.cons_append, List.append_nil, Try.f54, szDSS, Int.natCast_zero, List.cons_append, List.nil_append] at hl0
    refine ⟨r, ?_, by omega, fun _ => ⟨by omega, h4⟩⟩
    rw [vrun_v Try.func54 rfl rfl rfl]; simp only [Try.f54]
    simp (disch := omega) [go_sem, tab54, hl0]
  · have hl0 := fun ks => loop_v (P := Try.prog) (K := kn) (ks := ks) hv
    simp only [loopAt, nthC, bodyC, loops, List.nil_append, List.cons_append, List.append_nil, Try.f54, szDSS, Int.natCast_zero, List.cons_append, List.nil_append] at hl0
    refine ⟨-1, ?_, by omega, fun _ => by omega⟩
    rw [vrun_v Try.func54 rfl rfl rfl]; simp only [Try.f54]
    simp (disch := omega) [go_sem, tab54, hl0]
def eqDSS (ds es : List DyT) (j : Nat) : VE × VH := ([(0, some (.cells 3 ds.length (flat DyT.v ds))), (1, some (.cells 3 es.length (flat DyT.v es))), (5, some (.int .i64 j))], [])
theorem eqDyS_v (d : Nat) (hd : ds.length < 1000000000) (he : es.length < 1000000000) (hsd : ∀ x ∈ ds, x.l.length < 1000000000) (hse : ∀ x ∈ es, x.l.length < 1000000000) : vrun Try.prog kn (d + 5) 61 [.cells 3 ds.length (flat DyT.v ds), .cells 3 es.length (flat DyT.v es)] [] = some (.bool (decide (ds = es)), []) := by
  by_cases hl : ¬ ds.length = es.length
  · have : ¬ ds = es := fun h => hl (by rw [h])
    have h' : ¬ (ds.length : Int) = es.length := by omega
    rw [vrun_v Try.func61 rfl rfl rfl]; simp only [Try.f61]
    simp (disch := omega) [go_sem, tab61, h', this, hl]
  rw [Decidable.not_not] at hl
  have key := vi_inv (n := kn.cf.rounds) (body := vCode Try.prog kn (vrun Try.prog kn (d + 4)) 61 (loopAt Try.f61 0)) (fun j s => s = eqDSS ds es j ∧ ds.take j = es.take j)
    (fun r => (r = some (.exit 0, (eqDSS ds es ds.length).1 ++ [(14, some (.bool false))], []) ∧ ds = es) ∨ (r = some (.ret, [(4, some (.bool false))], []) ∧ ¬ ds = es)) ds.length (by rw [k_cf, c_rounds]; omega)
    (fun j s hj hI => by
      obtain ⟨rfl, hI⟩ := hI
      have hj' : j < es.length := by omega
      have hget : ds[j]? = some ds[j] := List.getElem?_eq_getElem hj
      have hget2 : es[j]? = some es[j] := List.getElem?_eq_getElem hj'
      have hlen := hsd _ (List.getElem_mem hj)
      have hlen2 := hse _ (List.getElem_mem hj')
      have hsub : ((flat DyT.v ds).drop (j * 3)).take 3 = [.bool ds[j].neg, .ints .i64 ds[j].l, .int .i64 ds[j].e] := flat_sub DyT.len ds j _ hget
      have hsub2 : ((flat DyT.v es).drop (j * 3)).take 3 = [.bool es[j].neg, .ints .i64 es[j].l, .int .i64 es[j].e] := flat_sub DyT.len es j _ hget2
      have hne : ds[j] ≠ es[j] → ¬ ds = es := fun hq h => hq (by subst h; rfl)
      generalize ds[j] = x at *
      generalize es[j] = y at *
      have h1 := eqDy_v (n1 := x.neg) (n2 := y.neg) (e1 := x.e) (e2 := y.e) d hlen hlen2
      by_cases hq : x = y
      · left
        refine ⟨eqDSS ds es (j + 1), ?_, rfl, ?_⟩
        · subst hq
          rw [round_v]; simp only [loopAt, nthC, bodyC, loops, List.nil_append, List.cons_append, List.append_nil, Try.f61, eqDSS]
          simp only [decide_true, Bool.and_true] at h1
          simp (disch := omega) [go_sem, tab61, hsub, hsub2, h1]
        · rw [List.take_add_one, List.take_add_one, hI, hget, hget2, hq]
      · right; intro m; right
        refine ⟨vi_ret ?_, hne hq⟩
        have hz : (decide (x.neg = y.neg) && decide (x.l = y.l) && decide (x.e = y.e)) = false := by
          cases hz : (decide (x.neg = y.neg) && decide (x.l = y.l) && decide (x.e = y.e)) with
          | false => rfl
          | true =>
            simp at hz; obtain ⟨x1, x2, x3⟩ := x; obtain ⟨y1, y2, y3⟩ := y
            simp at hz hq; obtain ⟨⟨rfl, rfl⟩, rfl⟩ := hz; simp at hq
        rw [hz] at h1
        rw [round_v]; simp only [loopAt, nthC, bodyC, loops, List.nil_append, List.cons_append, List.append_nil, Try.f61, eqDSS]
        simp (disch := omega) [go_sem, tab61, hsub, hsub2, h1])
    (fun s hI m => by
      obtain ⟨rfl, hI⟩ := hI
      left
      refine ⟨vi_exit ?_, by rwa [List.take_length, hl, List.take_length] at hI⟩
      rw [round_v]; simp only [loopAt, nthC, bodyC, loops, List.nil_append, List.cons_append, List.append_nil, Try.f61, eqDSS]
      simp (disch := omega) [go_sem, tab61])
    (eqDSS ds es 0) ⟨rfl, by simp⟩
  rcases key with ⟨hv, hq⟩ | ⟨hv, hq⟩
  · rw [decide_eq_true hq]
    have hl0 := fun ks => loop_v (P := Try.prog) (K := kn) (ks := ks) hv
    simp only [loopAt, nthC, bodyC, loops, List.nil_append, List.cons_append, List.append_nil, Try.f61, eqDSS, hl, Int.natCast_zero, List.cons_append, List.nil_append] at hl0
    rw [vrun_v Try.func61 rfl rfl rfl]; simp only [Try.f61]
    simp (disch := omega) [go_sem, tab61, hl, hl0]
  · rw [decide_eq_false hq]
    have hl0 := fun ks => loop_v (P := Try.prog) (K := kn) (ks := ks) hv
    simp only [loopAt, nthC, bodyC, loops, List.nil_append, List.cons_append, List.append_nil, Try.f61, eqDSS, hl, Int.natCast_zero, List.cons_append, List.nil_append] at hl0
    rw [vrun_v Try.func61 rfl rfl rfl]; simp only [Try.f61]
    simp (disch := omega) [go_sem, tab61, hl, hl0]
theorem szMat_v (d : Nat) {N : Int} (hl : ds.length ≤ 9223372036854775807) (hs : ∀ x ∈ ds, x.l.length ≤ 9223372036854775807) (h0 : 0 ≤ left) (h1 : left ≤ 1048576) : ∃ r : Int, vrun Try.prog kn (d + 6) 25 [.agg [.int .i64 N, .cells 3 ds.length (flat DyT.v ds)], .int .i64 left] [] = some (.int .i64 r, []) ∧ r ≤ left ∧ (0 ≤ r → ds.length ≤ 1048576 ∧ ∀ x ∈ ds, x.l.length ≤ 1048576) := by
  obtain ⟨r, hr, h2, h3⟩ := szDyS_v d hl hs h0 h1
  by_cases h : r < 0
  · refine ⟨-1, ?_, by omega, fun h => by omega⟩
    rw [vrun_v Try.func25 rfl rfl rfl]; simp only [Try.f25]
    simp (disch := omega) [go_sem, tab25, hr]
  · refine ⟨r, ?_, by omega, h3⟩
    rw [vrun_v Try.func25 rfl rfl rfl]; simp only [Try.f25]
    simp (disch := omega) [go_sem, tab25, hr]
theorem eqMat_v (d : Nat) {N M : Int} (hd : ds.length < 1000000000) (he : es.length < 1000000000) (hsd : ∀ x ∈ ds, x.l.length < 1000000000) (hse : ∀ x ∈ es, x.l.length < 1000000000) : vrun Try.prog kn (d + 6) 29 [.agg [.int .i64 N, .cells 3 ds.length (flat DyT.v ds)], .agg [.int .i64 M, .cells 3 es.length (flat DyT.v es)]] [] = some (.bool (decide (N = M) && decide (ds = es)), []) := by
  have h1 := fun d => eqDyS_v d hd he hsd hse
  cases hc : decide (ds = es) <;> rw [hc] at h1 <;> by_cases he : N = M
  all_goals
    rw [vrun_v Try.func29 rfl rfl rfl]; simp only [Try.f29]
    simp (disch := omega) [go_sem, tab29, h1, he]
end
end
/- MatOk: program, reference, law. No conditions. -/
section
open Num
section
variable {ds : List DyT} {N : Int}
def matOkB (N : Int) (ds : List DyT) : Bool := decide (1 ≤ N) && decide (N ≤ 4) && decide (ds.length = N * N) && ds.all dyOkB
theorem MatOk_v (d : Nat) (hl : ds.length < 100000000) (hs : ∀ x ∈ ds, x.sz) : vrun Try.prog kn (d + 15) 58 [.agg [.int .i64 N, .cells 3 ds.length (flat DyT.v ds)]] [] = some (.bool (matOkB N ds), []) := by
  have h1 := fun d => areDys_v d hl hs
  have h2 := fun d => within_v d N 1 4
  unfold matOkB
  by_cases h : 1 ≤ N ∧ N ≤ 4
  · have e : N = 1 ∨ N = 2 ∨ N = 3 ∨ N = 4 := by omega
    by_cases hq : (ds.length : Int) = N * N
    · rcases e with rfl | rfl | rfl | rfl <;> simp at hq h2
      all_goals
        rw [vrun_v Try.func58 rfl rfl rfl]; simp only [Try.f58]
        simp (disch := omega) [go_sem, tab58, h1, h2, hq]
    · rcases e with rfl | rfl | rfl | rfl <;> simp at hq h2
      all_goals
        rw [vrun_v Try.func58 rfl rfl rfl]; simp only [Try.f58]
        simp (disch := omega) [go_sem, tab58, h1, h2, hq]
  · have hb : (decide (1 ≤ N) && decide (N ≤ 4)) = false := by simp; omega
    rw [hb] at h2 ⊢
    rw [vrun_v Try.func58 rfl rfl rfl]; simp only [Try.f58]
    simp (disch := omega) [go_sem, tab58, h2]
def sMOS (N : Int) (ds : List DyT) (j : Nat) : VE × VH := ([(1, some (.ptr 0 0)), (3, some (.int .i64 j))], [.vals true [.int .i64 N, .cells 3 ds.length (flat DyT.v ds)]])
theorem sMatOk_v (d : Nat) (hl : ds.length < 100000000) (hs : ∀ x ∈ ds, x.sz) : vrun Try.prog kn (d + 4) 55 [.agg [.int .i64 N, .cells 3 ds.length (flat DyT.v ds)]] [] = some (.bool (matOkB N ds), []) := by
  unfold matOkB
  by_cases h : ¬ (1 ≤ N ∧ N ≤ 4)
  · have hb : (decide (1 ≤ N) && decide (N ≤ 4)) = false := by simp; omega
    rw [hb]
    by_cases h1 : N < 1
    · rw [vrun_v Try.func55 rfl rfl rfl]; simp only [Try.f55]
      simp (disch := omega) [go_sem, tab55, h1]
    · rw [vrun_v Try.func55 rfl rfl rfl]; simp only [Try.f55]
      simp (disch := omega) [go_sem, tab55, h1]
  rw [Decidable.not_not] at h
  have hb : (decide (1 ≤ N) && decide (N ≤ 4)) = true := by simp; omega
  rw [hb]
  have e : N = 1 ∨ N = 2 ∨ N = 3 ∨ N = 4 := by omega
  have key := vi_inv (n := kn.cf.rounds) (body := vCode Try.prog kn (vrun Try.prog kn (d + 3)) 55 (loopAt Try.f55 0)) (fun j s => s = sMOS N ds j ∧ (ds.take j).all dyOkB = true)
    (fun r => (r = some (.exit 0, (sMOS N ds ds.length).1 ++ [(27, some (.bool false))], (sMOS N ds ds.length).2) ∧ ds.all dyOkB = true) ∨ (r = some (.ret, [(2, some (.bool false))], []) ∧ ds.all dyOkB = false)) ds.length (by rw [k_cf, c_rounds]; omega)
    (fun j s hj hI => by
      obtain ⟨rfl, hI⟩ := hI
      have hget : ds[j]? = some ds[j] := List.getElem?_eq_getElem hj
      have hmem : ds[j] ∈ ds := List.getElem_mem hj
      have hsub : ((flat DyT.v ds).drop (j * 3)).take 3 = [.bool ds[j].neg, .ints .i64 ds[j].l, .int .i64 ds[j].e] := flat_sub DyT.len ds j _ hget
      have hsz := hs _ hmem
      generalize ds[j] = x at *
      unfold DyT.sz at hsz
      have h1 := sDyOk_v d x.neg (l := x.l) x.e (by omega)
      rw [show (⟨x.neg, x.l, x.e⟩ : DyT) = x from rfl] at h1
      cases hq : dyOkB x with
      | true =>
        left
        rw [hq] at h1
        refine ⟨sMOS N ds (j + 1), ?_, rfl, ?_⟩
        · rw [round_v]; simp only [loopAt, nthC, bodyC, loops, List.nil_append, List.cons_append, List.append_nil, Try.f55, sMOS]
          simp (disch := omega) [go_sem, tab55, hsub, h1]
        · rw [List.take_add_one, hget, List.all_append, hI]; simp [hq]
      | false =>
        right; intro m; right
        rw [hq] at h1
        refine ⟨vi_ret ?_, by
          cases hz : ds.all dyOkB with
          | false => rfl
          | true => rw [List.all_eq_true] at hz; rw [hz _ hmem] at hq; cases hq⟩
        rw [round_v]; simp only [loopAt, nthC, bodyC, loops, List.nil_append, List.cons_append, List.append_nil, Try.f55, sMOS]
        simp (disch := omega) [go_sem, tab55, hsub, h1])
    (fun s hI m => by
      obtain ⟨rfl, hI⟩ := hI
      left
      refine ⟨vi_exit ?_, by rwa [List.take_length] at hI⟩
      rw [round_v]; simp only [loopAt, nthC, bodyC, loops, List.nil_append, List.cons_append, List.append_nil, Try.f55, sMOS]
      simp (disch := omega) [go_sem, tab55])
    (sMOS N ds 0) ⟨rfl, by simp⟩
  by_cases hq : (ds.length : Int) = N * N
  · rcases key with ⟨hv, ha⟩ | ⟨hv, ha⟩ <;> rw [ha]
    all_goals
      have hl0 := fun ks => loop_v (P := Try.prog) (K := kn) (ks := ks) hv
      clear hv
      simp only [loopAt, nthC, bodyC, loops, List.nil_append, List.cons_append, List.append_nil, Try.f55, sMOS, Int.natCast_zero, List.cons_append, List.nil_append] at hl0
      rcases e with rfl | rfl | rfl | rfl <;> simp at hq
      all_goals
        simp only [hq] at hl0 ⊢
        rw [vrun_v Try.func55 rfl rfl rfl]; simp only [Try.f55]
        simp (disch := omega) [go_sem, tab55, hl0]
  · clear key
    rcases e with rfl | rfl | rfl | rfl <;> simp at hq
    all_goals
      rw [vrun_v Try.func55 rfl rfl rfl]; simp only [Try.f55]
      simp (disch := omega) [go_sem, tab55, hq]
end
end
/- Intervals: membership and inclusion, program and reference. No conditions. -/
section
open Num
section
variable {x : DyT} {v : IvT}
theorem ivOk_and {v : IvT} (h : ivOkB v = true) : dyOkB v.lo = true ∧ dyOkB v.hi = true := by
  unfold ivOkB at h
  rw [Bool.and_eq_true, Bool.and_eq_true] at h
  exact h.1
end
end
/- Intervals that are made: a number's one form, two of them as an interval, program and reference. No conditions. -/
section
open Num
theorem okFit {x : DyT} (hx : dyOkB x = true) : dyFit x = true := by
  have := dyOkB_mkD (n := x.neg) (a := x.n) (e := x.e)
  rw [mkD_self hx] at this
  rw [← this]; exact hx
section
variable {x y : DyT} {v : IvT}
/-- Two ends as an interval: both fit, or nothing is told. -/
def ivFit (v : IvT) : Bool := dyFit v.lo && dyFit v.hi
def ivRes (v : IvT) : IvT := if ivFit v then v else ⟨zT, zT⟩
/-! ### IvOf -/
def ivOfR (x y : DyT) : IvT := if ivOkB ⟨x, y⟩ then ⟨x, y⟩ else ⟨zT, zT⟩
end
end
/- Matrices as lists of numbers, program: copied into a grid; a place. No conditions. -/
section
open Num
section
variable {ds : List DyT} {N : Int}
def grH (N : Int) (ds : List DyT) (j : Nat) : VH := if j = 0 then [.vals true [.int .i64 0, .nil], .vals true [.int .i64 N, .nil]] else [.vals true [.int .i64 0, .nil], .vals true [.int .i64 N, .sl 2 0 j 3], .vals true (flat DyT.v (ds.take j))]
def grS (N : Int) (ds : List DyT) (j : Nat) : VE × VH := ([(2, some (.ptr 0 0)), (3, some (.ptr 1 0)), (10, some (.cells 3 ds.length (flat DyT.v ds))), (11, some (.int .i64 ds.length)), (12, some (.int .i64 j))], grH N ds j)
theorem flat_len3 : ∀ ds : List DyT, (flat DyT.v ds).length = ds.length * 3
  | [] => rfl
  | x :: r => by rw [flat, List.length_append, flat_len3 r, List.length_cons]; simp [DyT.v]; omega
theorem flat_snoc {j : Nat} {x : DyT} (hx : ds[j]? = some x) : flat DyT.v (ds.take (j + 1)) = flat DyT.v (ds.take j) ++ [.bool x.neg, .ints .i64 x.l, .int .i64 x.e] := by
  rw [List.take_add_one, hx]
  have : ∀ a b : List DyT, flat DyT.v (a ++ b) = flat DyT.v a ++ flat DyT.v b := fun a b => by
    induction a with
    | nil => rfl
    | cons y a ih => rw [List.cons_append, flat, flat, ih, List.append_assoc]
  rw [this]; simp [flat, DyT.v]
theorem fl_refs (n : Nat) : ∀ ds : List DyT, (flat DyT.v ds).flatMap (vrefs n) = []
  | [] => rfl
  | x :: r => by rw [flat, List.flatMap_append, fl_refs n r]; simp [DyT.v, r_rb, r_ri, r_ris]
theorem fl_ren (ρ : Nat → Option Nat) (n : Nat) : ∀ ds : List DyT, omap (vren ρ n) (flat DyT.v ds) = some (flat DyT.v ds)
  | [] => rfl
  | x :: r => by
    rw [flat]
    exact omap_app _ (by simp [DyT.v, r_oC, r_vb, r_vi, r_vis, omap, consM]) (fl_ren ρ n r)
theorem fl_frz (h : VH) (n : Nat) : ∀ ds : List DyT, omap (vfrz h (n + 1)) (flat DyT.v ds) = some (flat DyT.v ds)
  | [] => rfl
  | x :: r => by
    rw [flat]
    exact omap_app _ (by simp [DyT.v, go_sem]) (fl_frz h n r)
theorem gr_r (d : Nat) (hl : ds.length < 1000000) {j : Nat} (hj : j < ds.length) : vCode Try.prog kn (vrun Try.prog kn (d + 1)) 59 (loopAt Try.f59 0) (grS N ds j).1 (grS N ds j).2 = some (.norm, grS N ds (j + 1)) := by
  have hget : ds[j]? = some ds[j] := List.getElem?_eq_getElem hj
  have hsub : ((flat DyT.v ds).drop (j * 3)).take 3 = [.bool ds[j].neg, .ints .i64 ds[j].l, .int .i64 ds[j].e] := flat_sub DyT.len ds j _ hget
  have hsn := flat_snoc hget
  have hln := flat_len3 (ds.take j)
  rw [List.length_take, Nat.min_eq_left (by omega)] at hln
  have e1 := fun d => exactOf_v (n := ds[j].neg) (ex := ds[j].e) d ds[j].l
  rw [round_v]; simp only [loopAt, nthC, bodyC, loops, List.nil_append, List.cons_append, List.append_nil, Try.f59, grS, grH]
  rw [if_neg (show ¬ j + 1 = 0 by omega), hsn]
  by_cases h0 : j = 0
  · subst h0
    simp only [List.take_zero, flat, List.nil_append]
    rw [Nat.zero_mul, List.drop_zero] at hsub
    have hFl := flat_len3 ds
    generalize ds[0] = x at *
    generalize flat DyT.v ds = F at *
    have hm : 3 ≤ min 3 F.length := by omega
    simp (implicitDefEqProofs := false) (disch := omega) [go_sem, tab59, hsub, e1, hFl, hm]
  · rw [if_neg h0]
    have hG1 := fun n => fl_refs n (ds.take j)
    have hG2 := fun ρ n => fl_ren ρ n (ds.take j)
    have hA1 := fun n => fl_refs n (ds.take (j + 1))
    have hA2 := fun ρ n => fl_ren ρ n (ds.take (j + 1))
    rw [hsn] at hA1 hA2
    generalize ds[j] = x at *
    generalize flat DyT.v (ds.take j) = G at *
    generalize flat DyT.v ds = F at *
    have ht : G.take (j * 3) = G := List.take_of_length_le (by omega)
    simp (implicitDefEqProofs := false) (disch := omega) [go_sem, tab59, hsub, e1, hln, ht, hG1, hG2, hA1, hA2]
theorem gr_x (call : CallV) (hl : ds.length < 1000000) : vCode Try.prog kn call 59 (loopAt Try.f59 0) (grS N ds ds.length).1 (grS N ds ds.length).2 = some (.exit 0, (grS N ds ds.length).1 ++ [(13, some (.bool false))], (grS N ds ds.length).2) := by
  rw [round_v]; simp only [loopAt, nthC, bodyC, loops, List.nil_append, List.cons_append, List.append_nil, Try.f59, grS, grH, List.take_length]
  have hln := flat_len3 ds
  have ht : (flat DyT.v ds).take (ds.length * 3) = flat DyT.v ds := List.take_of_length_le (by omega)
  have hG1 := fun n => fl_refs n ds
  have hG2 := fun ρ n => fl_ren ρ n ds
  generalize flat DyT.v ds = F at *
  by_cases h0 : ds.length = 0
  · rw [if_pos h0, h0]
    simp (implicitDefEqProofs := false) (disch := omega) [go_sem, tab59]
  · rw [if_neg h0]
    simp (implicitDefEqProofs := false) (disch := omega) [go_sem, tab59, hln, ht, hG1, hG2]
/-- The numbers of a matrix. -/
theorem grid_v (d : Nat) (hl : ds.length < 1000000) (h0 : 0 < ds.length) (hnz : ∀ x ∈ ds, x.l.length < 1000000000) : vrun Try.prog kn (d + 2) 59 [.agg [.int .i64 N, .cells 3 ds.length (flat DyT.v ds)]] [] = some (.agg [.int .i64 N, .cells 3 ds.length (flat DyT.v ds)], []) := by
  have hl0 := fun ks => loop_v (P := Try.prog) (K := kn) (ks := ks) (vi_for (grS N ds) ds.length (n := kn.cf.rounds) (by rw [k_cf, c_rounds]; omega) (fun j hj => gr_r d hl hj) fun m => vi_exit (gr_x _ hl))
  have ef : grH N ds ds.length = [.vals true [.int .i64 0, .nil], .vals true [.int .i64 N, .sl 2 0 ds.length 3], .vals true (flat DyT.v ds)] := by
    unfold grH; rw [if_neg (by omega), List.take_length]
  have e0 : grH N ds 0 = [.vals true [.int .i64 0, .nil], .vals true [.int .i64 N, .nil]] := rfl
  simp only [loopAt, nthC, bodyC, loops, List.nil_append, List.cons_append, List.append_nil, Try.f59, grS, Int.natCast_zero, List.cons_append, List.nil_append, ef, e0] at hl0
  have hln := flat_len3 ds
  have ht : (flat DyT.v ds).take (ds.length * 3) = flat DyT.v ds := List.take_of_length_le (by omega)
  have hfz := fun h n => fl_frz h n ds
  have hG1 := fun n => fl_refs n ds
  have hG2 := fun ρ n => fl_ren ρ n ds
  generalize flat DyT.v ds = F at *
  rw [vrun_v Try.func59 rfl rfl rfl]; simp only [Try.f59]
  simp (implicitDefEqProofs := false) (disch := omega) [go_sem, tab59, hl0, hln, ht, hfz, hG1, hG2]
end
end
/- How many bits a limb has, as the library counts them; division by a small number. No conditions. -/
section
open Num
theorem nb_shift : ∀ (k : Nat) {x : Nat}, x / 2 ^ k ≠ 0 → nb x = k + nb (x / 2 ^ k)
  | 0, x, _ => by simp
  | k + 1, x, h => by
    rw [Nat.pow_succ, ← Nat.div_div_eq_div_mul] at h
    have h1 : x / 2 ^ k ≠ 0 := fun e => h (by rw [e])
    rw [nb_shift k h1, nb_half h1, Nat.pow_succ, ← Nat.div_div_eq_div_mul]; omega
theorem nb_16 {x : Nat} (h : x < 65536) : nb x ≤ 16 := by
  by_cases h0 : x = 0
  · subst h0; simp [nb, nbG]
  · have h1 := (nb_le h0).1
    have : nb x - 1 < 16 := (Nat.pow_lt_pow_iff_right (a := 2) (by omega)).1 (Nat.lt_of_le_of_lt h1 (by omega : x < 2 ^ 16))
    omega
def len8 : ByteArray := { data := #[0, 1, 2, 2, 3, 3, 3, 3, 4, 4, 4, 4, 4, 4, 4, 4, 5, 5, 5, 5, 5, 5, 5, 5, 5, 5, 5, 5, 5, 5, 5, 5, 6, 6, 6, 6, 6, 6, 6, 6, 6, 6, 6, 6, 6, 6, 6, 6, 6, 6, 6, 6, 6, 6, 6, 6, 6, 6, 6, 6, 6, 6, 6, 6, 7, 7, 7, 7, 7, 7, 7, 7, 7, 7, 7, 7, 7, 7, 7, 7, 7, 7, 7, 7, 7, 7, 7, 7, 7, 7, 7, 7, 7, 7, 7, 7, 7, 7, 7, 7, 7, 7, 7, 7, 7, 7, 7, 7, 7, 7, 7, 7, 7, 7, 7, 7, 7, 7, 7, 7, 7, 7, 7, 7, 7, 7, 7, 7, 8, 8, 8, 8, 8, 8, 8, 8, 8, 8, 8, 8, 8, 8, 8, 8, 8, 8, 8, 8, 8, 8, 8, 8, 8, 8, 8, 8, 8, 8, 8, 8, 8, 8, 8, 8, 8, 8, 8, 8, 8, 8, 8, 8, 8, 8, 8, 8, 8, 8, 8, 8, 8, 8, 8, 8, 8, 8, 8, 8, 8, 8, 8, 8, 8, 8, 8, 8, 8, 8, 8, 8, 8, 8, 8, 8, 8, 8, 8, 8, 8, 8, 8, 8, 8, 8, 8, 8, 8, 8, 8, 8, 8, 8, 8, 8, 8, 8, 8, 8, 8, 8, 8, 8, 8, 8, 8, 8, 8, 8, 8, 8, 8, 8, 8, 8, 8, 8, 8, 8, 8, 8, 8, 8, 8, 8, 8, 8] }
theorem len8_all : ((List.range 256).all fun n => (len8.data.getD n 0).toNat == nb n) = true := by decide +kernel
theorem len8_at {n : Nat} (h : n < 256) : (len8.data.getD n 0).toNat = nb n := eq_of_beq (List.all_eq_true.1 len8_all n (List.mem_range.2 h))
theorem len8_idx (P : Program) {t : TypeId} (ht : P.underlying t = some .string) {n : Nat} (h : n < 256) : vindex P t (some (.str { data := #[0, 1, 2, 2, 3, 3, 3, 3, 4, 4, 4, 4, 4, 4, 4, 4, 5, 5, 5, 5, 5, 5, 5, 5, 5, 5, 5, 5, 5, 5, 5, 5, 6, 6, 6, 6, 6, 6, 6, 6, 6, 6, 6, 6, 6, 6, 6, 6, 6, 6, 6, 6, 6, 6, 6, 6, 6, 6, 6, 6, 6, 6, 6, 6, 7, 7, 7, 7, 7, 7, 7, 7, 7, 7, 7, 7, 7, 7, 7, 7, 7, 7, 7, 7, 7, 7, 7, 7, 7, 7, 7, 7, 7, 7, 7, 7, 7, 7, 7, 7, 7, 7, 7, 7, 7, 7, 7, 7, 7, 7, 7, 7, 7, 7, 7, 7, 7, 7, 7, 7, 7, 7, 7, 7, 7, 7, 7, 7, 8, 8, 8, 8, 8, 8, 8, 8, 8, 8, 8, 8, 8, 8, 8, 8, 8, 8, 8, 8, 8, 8, 8, 8, 8, 8, 8, 8, 8, 8, 8, 8, 8, 8, 8, 8, 8, 8, 8, 8, 8, 8, 8, 8, 8, 8, 8, 8, 8, 8, 8, 8, 8, 8, 8, 8, 8, 8, 8, 8, 8, 8, 8, 8, 8, 8, 8, 8, 8, 8, 8, 8, 8, 8, 8, 8, 8, 8, 8, 8, 8, 8, 8, 8, 8, 8, 8, 8, 8, 8, 8, 8, 8, 8, 8, 8, 8, 8, 8, 8, 8, 8, 8, 8, 8, 8, 8, 8, 8, 8, 8, 8, 8, 8, 8, 8, 8, 8, 8, 8, 8, 8, 8, 8, 8, 8, 8, 8] })) (some (.int .u8 (n : Int))) = some (.int .u8 (nb n : Nat)) := by
  show toV1 (indexA P t (.str len8) (.int .u8 (n : Int))) = _
  have h1 := len8_at h
  have h2 : len8.size = 256 := rfl
  unfold indexA
  have h3 : (0 : Int) ≤ n ∧ (n : Int) < ((256 : Nat) : Int) := ⟨by omega, by omega⟩
  simp only [ht, h2, if_true, if_pos h3, Int.toNat_natCast, h1]; rfl
theorem conv_u8 {n : Nat} (h : n < 256) : IntKind.wrap .u8 (n : Int) = n := by
  simp [IntKind.wrap, IntKind.bits, IntKind.signed]; omega
section
variable {z m : Nat}
def dsS (z m : Nat) (i : Nat) : VE × VH := ([(0, some (.ints .i64 (D z))), (1, some (.int .i64 m)), (6, some (.sl 0 0 (D z).length 1)), (7, some (.int .i64 ((z / 65536 ^ i % m : Nat) : Int))), (8, some (.int .i64 ((i : Int) - 1)))], [.ints true .i64 (hi (z / m) (D z).length i)])
end
end
/- Division, digit by digit: the guess of a digit; taking a multiple away; adding once. No conditions. -/
section
open Num
section
variable {u v : List Int} {j n : Nat} {P vr ur : Int}
def doS (u v : List Int) (j n : Nat) (q r : Int) (x : VE) : VE × VH := ((0, some (.ints .i64 u)) :: (1, some (.ints .i64 v)) :: (2, some (.int .i64 j)) :: (7, some (.int .i64 n)) :: (9, some (.int .i64 q)) :: (10, some (.int .i64 r)) :: x, [])
theorem mul_q {q b : Int} (q0 : 0 ≤ q) (q1 : q ≤ 65537) (b0 : 0 ≤ b) (b1 : b < 65536) : 0 ≤ q * b ∧ q * b ≤ 4295032832 := by
  refine ⟨Int.mul_nonneg q0 b0, ?_⟩
  have : q * b ≤ 65537 * 65536 := Int.mul_le_mul q1 (by omega) b0 (by omega)
  omega
end
end
/- Division, digit by digit: taking a multiple away; adding once. No conditions. -/
section
open Num
/-- What a multiple's taking away leaves: the list, the borrow. -/
def tkS (u v : List Int) (j : Nat) (q : Int) : Nat → List Int × Int
  | 0 => (u, 0)
  | i + 1 => ((tkS u v j q i).1.set (j + i) ((gt (tkS u v j q i).1 (j + i) - q * gt v i - (tkS u v j q i).2) % 65536), -((gt (tkS u v j q i).1 (j + i) - q * gt v i - (tkS u v j q i).2) / 65536))
def adS (u v : List Int) (j : Nat) : Nat → List Int × Int
  | 0 => (u, 0)
  | i + 1 => ((adS u v j i).1.set (j + i) (((adS u v j i).2 + (gt (adS u v j i).1 (j + i) + gt v i)) % 65536), ((adS u v j i).2 + (gt (adS u v j i).1 (j + i) + gt v i)) / 65536)
theorem take_succ' {l : List Int} {i : Nat} (h : i < l.length) : l.take (i + 1) = l.take i ++ [gt l i] := by
  rw [List.take_add_one, gt_some h]; rfl
theorem val_take_succ {l : List Int} {i : Nat} (h : i < l.length) : val (l.take (i + 1)) = val (l.take i) + 65536 ^ i * gt l i := by
  rw [take_succ' h, val_snoc, List.length_take, Nat.min_eq_left (by omega)]
section
variable {u v : List Int} {j n : Nat} {q : Int}
theorem tk_len : ∀ i, (tkS u v j q i).1.length = u.length
  | 0 => rfl
  | i + 1 => by rw [tkS, List.length_set]; exact tk_len i
theorem tk_hi : ∀ i k, j + i ≤ k → gt (tkS u v j q i).1 k = gt u k
  | 0, _, _ => rfl
  | i + 1, k, h => by rw [tkS, gt_set_ne (by omega)]; exact tk_hi i k (by omega)
theorem tk_good (hu : GoodL u) : ∀ i, GoodL (tkS u v j q i).1
  | 0 => hu
  | i + 1 => by rw [tkS]; exact (tk_good hu i).set _ (by omega) (by omega)
theorem tk_bd (hu : GoodL u) (hv : GoodL v) (q0 : 0 ≤ q) (q1 : q < 65536) : ∀ i, 0 ≤ (tkS u v j q i).2 ∧ (tkS u v j q i).2 < 65536
  | 0 => by simp [tkS]
  | i + 1 => by
    have h1 := tk_bd hu hv q0 q1 i
    have h2 := (tk_good hu i (v := v) (j := j) (q := q)).gtB (j + i)
    have h3 := hv.gtB i
    have h4 : 0 ≤ q * gt v i ∧ q * gt v i ≤ 4294836225 := mul_bd ⟨q0, q1⟩ h3
    simp only [tkS]
    omega
theorem tk_val (hj : j + n ≤ u.length) (hn : n ≤ v.length) : ∀ i, i ≤ n → val (tkS u v j q i).1 - 65536 ^ j * 65536 ^ i * (tkS u v j q i).2 = val u - q * 65536 ^ j * val (v.take i)
  | 0, _ => by simp [tkS, val]
  | i + 1, h => by
    have h1 := tk_val hj hn i (by omega)
    rw [val_take_succ (by omega), Int.pow_succ]
    refine take_step h1 rfl ?_
    simp only [tkS]
    rw [val_setG (by rw [tk_len]; omega), Int.pow_add, tk_hi i (j + i) (Nat.le_refl _)]
theorem ad_len : ∀ i, (adS u v j i).1.length = u.length
  | 0 => rfl
  | i + 1 => by rw [adS, List.length_set]; exact ad_len i
theorem ad_hi : ∀ i k, j + i ≤ k → gt (adS u v j i).1 k = gt u k
  | 0, _, _ => rfl
  | i + 1, k, h => by rw [adS, gt_set_ne (by omega)]; exact ad_hi i k (by omega)
theorem ad_good (hu : GoodL (u.set (j + n) 0)) : ∀ i, i ≤ n → GoodL ((adS u v j i).1.set (j + n) 0)
  | 0, _ => hu
  | i + 1, h => by
    rw [adS]
    simp only
    rw [List.set_comm _ _ (by omega)]
    exact (ad_good hu i (by omega)).set _ (by omega) (by omega)
theorem ad_at (hu : GoodL (u.set (j + n) 0)) {i k : Nat} (hi : i ≤ n) (hk : k ≠ j + n) : 0 ≤ gt (adS u v j i).1 k ∧ gt (adS u v j i).1 k < 65536 := by
  have := (ad_good (v := v) hu i hi).gtB k
  rwa [gt_set_ne (Ne.symm hk)] at this
theorem ad_bd (hu : GoodL (u.set (j + n) 0)) (hv : GoodL v) : ∀ i, i ≤ n → 0 ≤ (adS u v j i).2 ∧ (adS u v j i).2 < 65536
  | 0, _ => by simp [adS]
  | i + 1, h => by
    have h1 := ad_bd hu hv i (by omega)
    have h2 := ad_at (v := v) hu (i := i) (k := j + i) (by omega) (by omega)
    have h3 := hv.gtB i
    simp only [adS]
    omega
theorem ad_val (hj : j + n ≤ u.length) (hn : n ≤ v.length) : ∀ i, i ≤ n → val (adS u v j i).1 + 65536 ^ j * 65536 ^ i * (adS u v j i).2 = val u + 65536 ^ j * val (v.take i)
  | 0, _ => by simp [adS, val]
  | i + 1, h => by
    have h1 := ad_val hj hn i (by omega)
    rw [val_take_succ (by omega), Int.pow_succ]
    refine add_step h1 rfl ?_
    simp only [adS]
    rw [val_setG (by rw [ad_len]; omega), Int.pow_add, ad_hi i (j + i) (Nat.le_refl _)]
end
section
variable {u v : List Int} {j n : Nat} {q : Int}
def takeT (v u o : List Int) (j : Nat) (q b : Int) (i : Nat) : VE × VH := ([(0, some (.sl 1 0 u.length 1)), (1, some (.sl 0 0 v.length 1)), (2, some (.int .i64 j)), (3, some (.int .i64 q)), (9, some (.int .i64 b)), (13, some (.sl 0 0 v.length 1)), (14, some (.int .i64 v.length)), (15, some (.int .i64 i))], [.ints true .i64 v, .ints true .i64 u, .ints true .i64 o])
def addT (v u o : List Int) (j : Nat) (c : Int) (i : Nat) : VE × VH := ([(0, some (.sl 1 0 u.length 1)), (1, some (.sl 0 0 v.length 1)), (2, some (.int .i64 j)), (6, some (.int .i64 c)), (9, some (.sl 0 0 v.length 1)), (10, some (.int .i64 v.length)), (11, some (.int .i64 i))], [.ints true .i64 v, .ints true .i64 u, .ints true .i64 o])
end
end
/- Division, digit by digit: one round, in numbers. No conditions. -/
section
open Num
/-- A list whose digits above one place are nought. -/
theorem val_top {l : List Int} {k : Nat} (hk : k < l.length) (hz : ∀ i, k < i → gt l i = 0) : val l = val (l.take k) + 65536 ^ k * gt l k := by
  have e : l = l.take k ++ (gt l k :: l.drop (k + 1)) := by
    conv => lhs; rw [← List.take_append_drop k l]
    rw [List.drop_eq_getElem_cons hk, gt_get]
  have hd : val (l.drop (k + 1)) = 0 := by
    have : ∀ (m : List Int), (∀ i, gt m i = 0) → val m = 0 := by
      intro m
      induction m with
      | nil => intro _; rfl
      | cons a r ih =>
        intro h
        have h0 : a = 0 := h 0
        rw [val_cons, h0, ih fun i => h (i + 1)]; rfl
    refine this _ fun i => ?_
    have := hz (k + 1 + i) (by omega)
    unfold gt at this ⊢
    rw [List.getD_eq_getElem?_getD] at this ⊢
    rw [List.getElem?_drop]; exact this
  conv => lhs; rw [e]
  rw [val_append, val_cons, hd, List.length_take, Nat.min_eq_left (by omega), Int.mul_zero, Int.add_zero]
theorem val_take_bd {l : List Int} {k : Nat} (hk : k ≤ l.length) (hg : GoodL (l.take k)) : 0 ≤ val (l.take k) ∧ val (l.take k) < 65536 ^ k := by
  refine ⟨val_nonneg hg, ?_⟩
  have := val_lt hg
  rwa [List.length_take, Nat.min_eq_left hk] at this
theorem take_set_ge {l : List Int} {k : Nat} (x : Int) : (l.set k x).take k = l.take k := List.take_set_of_le (Nat.le_refl k)
theorem good_of_set {l : List Int} {k : Nat} (hk : k < l.length) (h : GoodL (l.set k 0)) (h0 : 0 ≤ gt l k) (h1 : gt l k < 65536) : GoodL l := by
  have e : l = (l.set k 0).set k (gt l k) := by
    rw [List.set_set, ← gt_get l k hk]; exact (List.set_getElem_self hk).symm
  rw [e]; exact h.set _ h0 h1
theorem gt_dgs0 {q n i : Nat} (h : n ≤ i) : gt (dgs q n) i = 0 := by
  unfold gt; rw [List.getD_eq_getElem?_getD, List.getElem?_eq_none (by rw [dgs_len]; exact h)]; rfl
section
variable {X V n L j : Nat} {q : Int}
/-- How the numbers of a round lie. -/
structure Rdv (X V n L j : Nat) : Prop where
  n2 : 2 ≤ n
  Vl : (D V).length = n
  Vh : 32768 ≤ dg V (n - 1)
  jl : j + n < L
  Xl : X % (V * 65536 ^ (j + 1)) < 65536 ^ L
namespace Rdv
theorem Vp (h : Rdv X V n L j) : 0 < V := by
  rcases Nat.eq_zero_or_pos V with e | e
  · have := h.Vl; rw [e, D_zero] at this; have := h.n2; simp at *; omega
  · exact e
theorem Ul (h : Rdv X V n L j) : X % (V * 65536 ^ (j + 1)) < V * 65536 ^ (j + 1) := Nat.mod_lt _ (Nat.mul_pos h.Vp (powN_pos _))
theorem Wl (h : Rdv X V n L j) : X % (V * 65536 ^ (j + 1)) / 65536 ^ j < V * 65536 := by
  rw [Nat.div_lt_iff_lt_mul (powN_pos j), Nat.mul_assoc, Nat.mul_comm 65536, ← Nat.pow_succ]
  exact h.Ul
theorem Vlt (h : Rdv X V n L j) : V < 65536 ^ n := by have := lt_len_D V; rwa [h.Vl] at this
theorem digit (h : Rdv X V n L j) : dg (X / V) j = ((X % (V * 65536 ^ (j + 1)) / 65536 ^ j / V : Nat) : Int) := by
  unfold dg
  congr 1
  rw [Nat.div_div_eq_div_mul _ _ V, Nat.mul_comm (65536 ^ j) V, Nat.pow_succ, ← Nat.mul_assoc, Nat.mod_mul_right_div_self, Nat.div_div_eq_div_mul]
theorem three (h : Rdv X V n L j) {W : Nat} (hW : W < V * 65536) : (W : Int) = ((dg W n * 65536 + dg W (n - 1)) * 65536 + dg W (n - 2)) * ((65536 ^ (n - 2) : Nat) : Int) + ((W % 65536 ^ (n - 2) : Nat) : Int) := by
  have hlt : W < 65536 ^ (n + 1) := Nat.lt_of_lt_of_le hW (by rw [Nat.pow_succ]; exact Nat.mul_le_mul_right _ (Nat.le_of_lt h.Vlt))
  have hn := h.n2
  have e1 := Nat.div_add_mod W (65536 ^ (n - 2))
  have e2 : W / 65536 ^ (n - 2) / 65536 = W / 65536 ^ (n - 1) := by rw [Nat.div_div_eq_div_mul, ← Nat.pow_succ]; congr 2; omega
  have e3 : W / 65536 ^ (n - 1) / 65536 = W / 65536 ^ n := by rw [Nat.div_div_eq_div_mul, ← Nat.pow_succ]; congr 2; omega
  have e4 : W / 65536 ^ n / 65536 = 0 := by rw [Nat.div_div_eq_div_mul, ← Nat.pow_succ]; exact Nat.div_eq_of_lt hlt
  have e5 : W / 65536 ^ (n - 2) = (W / 65536 ^ n % 65536 * 65536 + W / 65536 ^ (n - 1) % 65536) * 65536 + W / 65536 ^ (n - 2) % 65536 := by omega
  unfold dg
  generalize W / 65536 ^ (n - 2) = a at *
  have : W = ((W / 65536 ^ n % 65536 * 65536 + W / 65536 ^ (n - 1) % 65536) * 65536 + a % 65536) * 65536 ^ (n - 2) + W % 65536 ^ (n - 2) := by
    rw [← e5, Nat.mul_comm]; exact e1.symm
  exact congrArg Int.ofNat this
theorem two (h : Rdv X V n L j) : (V : Int) = (dg V (n - 1) * 65536 + dg V (n - 2)) * ((65536 ^ (n - 2) : Nat) : Int) + ((V % 65536 ^ (n - 2) : Nat) : Int) := by
  have hn := h.n2
  have e1 := Nat.div_add_mod V (65536 ^ (n - 2))
  have e2 : V / 65536 ^ (n - 2) / 65536 = V / 65536 ^ (n - 1) := by rw [Nat.div_div_eq_div_mul, ← Nat.pow_succ]; congr 2; omega
  have e4 : V / 65536 ^ (n - 1) / 65536 = 0 := by
    rw [Nat.div_div_eq_div_mul, ← Nat.pow_succ, show (n - 1).succ = n by omega]; exact Nat.div_eq_of_lt h.Vlt
  have e5 : V / 65536 ^ (n - 2) = V / 65536 ^ (n - 1) % 65536 * 65536 + V / 65536 ^ (n - 2) % 65536 := by omega
  unfold dg
  generalize V / 65536 ^ (n - 2) = a at *
  have : V = (V / 65536 ^ (n - 1) % 65536 * 65536 + a % 65536) * 65536 ^ (n - 2) + V % 65536 ^ (n - 2) := by
    rw [← e5, Nat.mul_comm]; exact e1.symm
  exact congrArg Int.ofNat this
theorem at_u (h : Rdv X V n L j) {i : Nat} (hi : i ≤ n) : gt (dgs (X % (V * 65536 ^ (j + 1))) L) (j + i) = dg (X % (V * 65536 ^ (j + 1)) / 65536 ^ j) i := by
  have := h.jl
  rw [gt_dgs2 (by omega)]
  unfold dg
  rw [Nat.div_div_eq_div_mul, ← Nat.pow_add]
theorem kt (h : Rdv X V n L j) : Kt ((65536 ^ (n - 2) : Nat) : Int) (gt (D V) (n - 1)) (gt (D V) (n - 2)) ((V % 65536 ^ (n - 2) : Nat) : Int)
    (gt (dgs (X % (V * 65536 ^ (j + 1))) L) (j + n) * 65536 + gt (dgs (X % (V * 65536 ^ (j + 1))) L) (j + n - 1)) (gt (dgs (X % (V * 65536 ^ (j + 1))) L) (j + n - 2)) ((X % (V * 65536 ^ (j + 1)) / 65536 ^ j % 65536 ^ (n - 2) : Nat) : Int) := by
  have hn := h.n2
  have a0 := h.at_u (i := n) (Nat.le_refl _)
  have a1 := h.at_u (i := n - 1) (by omega)
  have a2 := h.at_u (i := n - 2) (by omega)
  rw [show j + (n - 1) = j + n - 1 by omega] at a1
  rw [show j + (n - 2) = j + n - 2 by omega] at a2
  have hW := h.Wl
  have t3 := h.three hW
  have t2 := h.two
  rw [a0, a1, a2, gt_D, gt_D]
  generalize X % (V * 65536 ^ (j + 1)) / 65536 ^ j = W at *
  have b0 := dg_bd W n
  have b1 := dg_bd W (n - 1)
  have b2 := dg_bd W (n - 2)
  have c1 := dg_bd V (n - 1)
  have c2 := dg_bd V (n - 2)
  refine ⟨by have := powN_pos (n - 2); omega, h.Vh, c1.2, c2.1, c2.2, Int.natCast_nonneg _, ?_, by omega, b2.1, b2.2, Int.natCast_nonneg _, ?_, ?_⟩
  · exact Int.ofNat_lt.2 (Nat.mod_lt _ (powN_pos _))
  · exact Int.ofNat_lt.2 (Nat.mod_lt _ (powN_pos _))
  · rw [← t3, ← t2]; omega
/-- What the guess says. -/
theorem gs (h : Rdv X V n L j) (h1 : ((gt (dgs (X % (V * 65536 ^ (j + 1))) L) (j + n) * 65536 + gt (dgs (X % (V * 65536 ^ (j + 1))) L) (j + n - 1)) * 65536 + gt (dgs (X % (V * 65536 ^ (j + 1))) L) (j + n - 2)) * ((65536 ^ (n - 2) : Nat) : Int) + ((X % (V * 65536 ^ (j + 1)) / 65536 ^ j % 65536 ^ (n - 2) : Nat) : Int) < (q + 1) * ((gt (D V) (n - 1) * 65536 + gt (D V) (n - 2)) * ((65536 ^ (n - 2) : Nat) : Int) + ((V % 65536 ^ (n - 2) : Nat) : Int)))
    (h2 : (q - 1) * ((gt (D V) (n - 1) * 65536 + gt (D V) (n - 2)) * ((65536 ^ (n - 2) : Nat) : Int) + ((V % 65536 ^ (n - 2) : Nat) : Int)) ≤ ((gt (dgs (X % (V * 65536 ^ (j + 1))) L) (j + n) * 65536 + gt (dgs (X % (V * 65536 ^ (j + 1))) L) (j + n - 1)) * 65536 + gt (dgs (X % (V * 65536 ^ (j + 1))) L) (j + n - 2)) * ((65536 ^ (n - 2) : Nat) : Int) + ((X % (V * 65536 ^ (j + 1)) / 65536 ^ j % 65536 ^ (n - 2) : Nat) : Int)) :
    q = dg (X / V) j ∨ q = dg (X / V) j + 1 := by
  have hn := h.n2
  have a0 := h.at_u (i := n) (Nat.le_refl _)
  have a1 := h.at_u (i := n - 1) (by omega)
  have a2 := h.at_u (i := n - 2) (by omega)
  rw [show j + (n - 1) = j + n - 1 by omega] at a1
  rw [show j + (n - 2) = j + n - 2 by omega] at a2
  have t3 := h.three h.Wl
  have t2 := h.two
  rw [a0, a1, a2, gt_D, gt_D, ← t3, ← t2] at h1 h2
  have hV := h.Vp
  have hd := h.digit
  generalize X % (V * 65536 ^ (j + 1)) / 65536 ^ j = W at *
  obtain ⟨g1, g2⟩ := guess (t := dg (X / V) j) (U := (W : Int)) (V := (V : Int)) (q := q) (by omega) (by rw [hd, Int.natCast_ediv]) h1 h2
  omega
theorem Uval (h : Rdv X V n L j) : val (dgs (X % (V * 65536 ^ (j + 1))) L) = ((X % (V * 65536 ^ (j + 1)) : Nat) : Int) := by
  rw [dgs_val, lo_len (lt_pow_len h.Xl)]
theorem Unext (h : Rdv X V n L j) : ((X % (V * 65536 ^ (j + 1)) : Nat) : Int) = ((X % (V * 65536 ^ j) : Nat) : Int) + dg (X / V) j * 65536 ^ j * V := by
  have e1 : X % (V * 65536 ^ (j + 1)) % (V * 65536 ^ j) = X % (V * 65536 ^ j) := by
    rw [Nat.pow_succ, ← Nat.mul_assoc]; exact Nat.mod_mul_right_mod _ _ _
  have e2 := Nat.div_add_mod (X % (V * 65536 ^ (j + 1))) (V * 65536 ^ j)
  rw [e1] at e2
  have e3 : X % (V * 65536 ^ (j + 1)) / (V * 65536 ^ j) = X % (V * 65536 ^ (j + 1)) / 65536 ^ j / V := by rw [Nat.div_div_eq_div_mul _ _ V, Nat.mul_comm (65536 ^ j) V]
  rw [e3] at e2
  have e4 := congrArg (fun z : Nat => (z : Int)) e2
  simp only [Int.natCast_add, Int.natCast_mul, pow_cast] at e4
  rw [h.digit, ← e4]
  generalize ((X % (V * 65536 ^ (j + 1)) / 65536 ^ j / V : Nat) : Int) = a
  generalize ((X % (V * 65536 ^ j) : Nat) : Int) = R
  generalize (65536 : Int) ^ j = b
  generalize (V : Int) = w
  clear e1 e2 e3 e4
  grind
theorem Uhi (h : Rdv X V n L j) {i : Nat} (hi : j + n < i) : gt (dgs (X % (V * 65536 ^ (j + 1))) L) i = 0 := by
  by_cases hl : i < L
  · rw [gt_dgs2 hl]
    refine dg_len ?_
    rw [len_D_le]
    refine Nat.lt_of_lt_of_le h.Ul ?_
    have h1 : V * 65536 ^ (j + 1) ≤ 65536 ^ n * 65536 ^ (j + 1) := Nat.mul_le_mul_right _ (Nat.le_of_lt h.Vlt)
    rw [← Nat.pow_add] at h1
    exact Nat.le_trans h1 (Nat.pow_le_pow_right (by omega) (by omega))
  · exact gt_dgs0 (by omega)
theorem Rl (h : Rdv X V n L j) : X % (V * 65536 ^ j) < 65536 ^ (j + n) := by
  have h1 := Nat.mod_lt X (Nat.mul_pos h.Vp (powN_pos j))
  refine Nat.lt_of_lt_of_le h1 ?_
  rw [Nat.pow_add, Nat.mul_comm]
  exact Nat.mul_le_mul_left _ (Nat.le_of_lt h.Vlt)
/-- What a round leaves. -/
theorem out (h : Rdv X V n L j) (q0 : 0 ≤ q) (q1 : q < 65536) (hq : q = dg (X / V) j ∨ q = dg (X / V) j + 1) {u Z : List Int} {z : Int} (hu : u = dgs (X % (V * 65536 ^ (j + 1))) L)
    (hz : z = gt u (j + n) - (tkS u (D V) j q n).2) (hZ : Z = (tkS u (D V) j q n).1.set (j + n) z) :
    Z.length = L ∧ GoodL (Z.set (j + n) 0) ∧ gt Z (j + n) = z ∧ -65536 ≤ z ∧ z < 65536 ∧
    ((q = dg (X / V) j ∧ ¬ z < 0 ∧ Z = dgs (X % (V * 65536 ^ j)) L) ∨
      (q - 1 = dg (X / V) j ∧ z < 0 ∧ (adS Z (D V) j n).1.set (j + n) (z + (adS Z (D V) j n).2) = dgs (X % (V * 65536 ^ j)) L)) := by
  have hjl := h.jl
  have hul : u.length = L := by rw [hu, dgs_len]
  have hgu : GoodL u := by rw [hu]; exact dgs_good _ _
  have hgv := good_D V
  have hvl := h.Vl
  have tl := tk_len (u := u) (v := D V) (j := j) (q := q) n
  have tg := tk_good hgu n (v := D V) (j := j) (q := q)
  have tb := tk_bd hgu hgv q0 q1 n (j := j)
  have tv := tk_val (u := u) (v := D V) (j := j) (q := q) (n := n) (by omega) (by omega) n (Nat.le_refl _)
  have th := fun k => tk_hi (u := u) (v := D V) (j := j) (q := q) n k
  have gu := hgu.gtB (j + n)
  have hV : val ((D V).take n) = V := by rw [List.take_of_length_le (by omega), val_D]
  have hUv : val u = ((X % (V * 65536 ^ (j + 1)) : Nat) : Int) := by rw [hu]; exact h.Uval
  rw [hV, hUv, h.Unext] at tv
  have hhi : ∀ i, j + n < i → gt u i = 0 := fun i hi => by rw [hu]; exact h.Uhi hi
  generalize (tkS u (D V) j q n).1 = T at *
  generalize (tkS u (D V) j q n).2 = b at *
  have hZl : Z.length = L := by rw [hZ, List.length_set, tl, hul]
  have hZg : GoodL (Z.set (j + n) 0) := by rw [hZ, List.set_set]; exact tg.set _ (by omega) (by omega)
  have hZz : gt Z (j + n) = z := by rw [hZ]; exact gt_set_eq (by omega) _
  have hZv : val Z = ((X % (V * 65536 ^ j) : Nat) : Int) + (dg (X / V) j - q) * 65536 ^ j * V := by
    rw [hZ, val_setG (by omega), th (j + n) (Nat.le_refl _), hz, Int.pow_add]
    generalize (65536 : Int) ^ j = p at *
    generalize (65536 : Int) ^ n = r at *
    generalize ((X % (V * 65536 ^ j) : Nat) : Int) = R at *
    generalize dg (X / V) j = t at *
    grind
  have hZhi : ∀ i, j + n < i → gt Z i = 0 := fun i hi => by rw [hZ, gt_set_ne (by omega), th i (by omega)]; exact hhi i hi
  have hZt := val_top (l := Z) (k := j + n) (by omega) hZhi
  have hZb := val_take_bd (l := Z) (k := j + n) (by omega) (by rw [← take_set_ge 0]; exact hZg.take _)
  have hp := pow_pos' (j + n)
  have hRl : ((X % (V * 65536 ^ j) : Nat) : Int) < 65536 ^ (j + n) := by rw [← pow_cast]; exact Int.ofNat_lt.2 h.Rl
  refine ⟨hZl, hZg, hZz, by omega, by omega, ?_⟩
  rw [hZz] at hZt
  rcases hq with hq | hq
  · left
    rw [← hq, Int.sub_self, Int.zero_mul, Int.zero_mul, Int.add_zero] at hZv
    have hz0 : ¬ z < 0 := fun hc => by
      have h5 : 65536 ^ (j + n) * z ≤ 65536 ^ (j + n) * (-1) := Int.mul_le_mul_of_nonneg_left (by omega) (by omega)
      have h6 : (0 : Int) ≤ ((X % (V * 65536 ^ j) : Nat) : Int) := Int.natCast_nonneg _
      omega
    exact ⟨hq, hz0, good_dgs (good_of_set (k := j + n) (by omega) hZg (by omega) (by omega)) hZl hZv⟩
  · right
    have hq' : q - 1 = dg (X / V) j := by omega
    rw [show dg (X / V) j - q = -1 by omega] at hZv
    have hVj : ((X % (V * 65536 ^ j) : Nat) : Int) < 65536 ^ j * V := by
      rw [← pow_cast, ← Int.natCast_mul]
      exact Int.ofNat_lt.2 (Nat.lt_of_lt_of_eq (Nat.mod_lt X (Nat.mul_pos h.Vp (powN_pos j))) (Nat.mul_comm _ _))
    have hzn : z < 0 := by
      rcases Int.lt_or_le z 0 with hc | hc
      · exact hc
      · have h5 : 0 ≤ 65536 ^ (j + n) * z := Int.mul_nonneg (by omega) hc
        have h6 : -1 * 65536 ^ j * (V : Int) = -(65536 ^ j * V) := by grind
        omega
    refine ⟨hq', hzn, ?_⟩
    have al := ad_len (u := Z) (v := D V) (j := j) n
    have ag := ad_good (v := D V) hZg n (Nat.le_refl _)
    have ab := ad_bd (v := D V) hZg hgv n (Nat.le_refl _)
    have av := ad_val (u := Z) (v := D V) (j := j) (n := n) (by omega) (by omega) n (Nat.le_refl _)
    have ah := fun k => ad_hi (u := Z) (v := D V) (j := j) n k
    rw [hV, hZv] at av
    generalize (adS Z (D V) j n).1 = A at *
    generalize (adS Z (D V) j n).2 = c at *
    have az : gt A (j + n) = z := by rw [ah _ (Nat.le_refl _), hZz]
    generalize hY : A.set (j + n) (z + c) = Y
    have hYl : Y.length = L := by rw [← hY, List.length_set, al, hZl]
    have hYg : GoodL (Y.set (j + n) 0) := by rw [← hY, List.set_set]; exact ag
    have hYz : gt Y (j + n) = z + c := by rw [← hY]; exact gt_set_eq (by omega) _
    have hYv : val Y = ((X % (V * 65536 ^ j) : Nat) : Int) := by
      rw [← hY, val_setG (by omega), az, Int.pow_add]
      generalize (65536 : Int) ^ j = p at *
      generalize (65536 : Int) ^ n = r at *
      generalize ((X % (V * 65536 ^ j) : Nat) : Int) = R at *
      grind
    have hYhi : ∀ i, j + n < i → gt Y i = 0 := fun i hi => by rw [← hY, gt_set_ne (by omega), ah i (by omega)]; exact hZhi i hi
    have hYt := val_top (l := Y) (k := j + n) (by omega) hYhi
    have hYb := val_take_bd (l := Y) (k := j + n) (by omega) (by rw [← take_set_ge 0]; exact hYg.take _)
    rw [hYz, hYv] at hYt
    have hzc : z + c = 0 := by
      have h6 : (0 : Int) ≤ ((X % (V * 65536 ^ j) : Nat) : Int) := Int.natCast_nonneg _
      rcases Int.lt_trichotomy (z + c) 0 with hc | hc | hc
      · have h5 : 65536 ^ (j + n) * (z + c) ≤ 65536 ^ (j + n) * (-1) := Int.mul_le_mul_of_nonneg_left (by omega) (by omega)
        omega
      · exact hc
      · have h5 : 65536 ^ (j + n) * 1 ≤ 65536 ^ (j + n) * (z + c) := Int.mul_le_mul_of_nonneg_left (by omega) (by omega)
        omega
    exact good_dgs (good_of_set (k := j + n) (by omega) hYg (by omega) (by omega)) hYl hYv
end Rdv
end
end
/- Division: the whole. No conditions. -/
section
open Num
section
variable {X V n L M j : Nat} {s : Int}
def divS (X V L M : Nat) (s : Int) (j : Nat) : VE × VH := ([(8, some (.int .i64 s)), (9, some (.sl 0 0 (D V).length 1)), (10, some (.sl 1 0 L 1)), (11, some (.sl 2 0 M 1)), (12, some (.int .i64 ((j : Int) - 1)))], [.ints true .i64 (D V), .ints true .i64 (dgs (X % (V * 65536 ^ j)) L), .ints true .i64 (hi (X / V) M j)])
end
theorem trim1_v (d : Nat) {l : List Int} {n v : Nat} (hl : l.length < 1000000000) (hn : n = l.length) (hg : GoodL l) (hv : val l = v) (a b : VO) :
    vrun Try.prog kn (d + 1) 114 [.sl 1 0 n 1] [a, .ints false .i64 l, b] = some (.sl 1 0 (D v).length 1, [a, .ints false .i64 l, b]) := by
  rw [trim_v d (h := [a, .ints false .i64 l, b]) (i := 1) (w := false) (l := l) rfl hl n hn, (tl_D hg hv).1]
section
variable {x y : Nat}
theorem dgs_pad {X L : Nat} (h : X < 65536 ^ L) : D X ++ List.replicate (L - (D X).length) 0 = dgs X L := by
  have hl : (D X).length ≤ L := len_D_le.2 h
  refine good_dgs ((good_D X).append (GoodL.zeros _)) (by simp; omega) ?_
  rw [val_append, val_zeros, val_D]; omega
set_option maxHeartbeats 4000000 in
end
end
end Go.Eng
