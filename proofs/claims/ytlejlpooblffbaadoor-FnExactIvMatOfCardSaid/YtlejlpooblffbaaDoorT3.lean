/- What the functions of this seat do, one after another, told by plain values. No conditions. -/
import Derived.Test.YtlejlpooblffbaaDoorSeat
import Derived.Test.YtlejlpooblffbaaDoorVb
import Derived.Test.YtlejlpooblffbaaDoorVc
import Derived.Test.YtlejlpooblffbaaDoorT2
set_option linter.unusedVariables false
set_option linter.unusedSimpArgs false
namespace Go.Eng
open Go.Proofs
set_option maxRecDepth 100000
set_option linter.unusedSimpArgs false
attribute [local go_sem] r_seq r_skip r_retC r_exitC r_label r_block r_region r_regionW r_xWt r_xW r_cond r_Bt r_Bf r_Ncode r_Nret r_Nexit r_Nblk r_Nblkr r_Nblke r_Nnil r_Es r_Onil r_Oop r_Oif r_Xs r_Gt r_Gf r_wtt r_wtf r_wft r_wff r_wu r_gO r_putS r_putN r_get r_keepN r_keepC r_fr r_fn r_fi r_ff r_fo r_l1 r_l2t r_cun r_cul r_cub r_cui r_cus r_cuis r_cuc r_cusl r_cuti r_cutv r_ven r_vec r_l2f r_l3 r_t1 r_t2 r_t0 r_rt r_rc r_en r_ec r_cM r_oN r_oC r_end r_endt r_endf r_nob0 r_nobN r_nobC r_nobE r_nb0 r_nbi r_nbs r_nbsl r_nbin r_nbce r_nLn r_nLv r_nLc r_nAa r_nAn r_nAk_b r_nAk_i r_nAk_s r_nAk_n r_nAk_is r_nAk_ce r_nAk_fp r_nAk_sl r_nAk_pt r_nAk_fn r_nsn r_nsv r_nsc r_m0 r_mi r_ms r_msl r_min r_mce r_mLn r_mLv r_mLc r_mAa r_mAn r_mAk_b r_mAk_i r_mAk_s r_mAk_n r_mAk_is r_mAk_ce r_mAk_fp r_mAk_sl r_mAk_pt r_mAk_fn r_msn r_msv r_msc r_atb r_ati r_ats r_atn r_atis r_atc r_atf r_atl r_atp r_atfn r_gcn r_gcc r_gLn r_gLc r_gIt r_ndn r_ndc r_gcB r_gLB r_two r_rea r_rea0 r_re1n r_re1c r_ori r_orv r_ord r_orn r_adn r_adc r_ad1 r_ern r_ers r_er0 r_rsl r_rptr r_rb r_ri r_rs r_rn r_ris r_rce r_rfp r_ra4 r_ra3 r_rt4 r_rf4 r_rf3 r_idS r_idc r_nS r_nP r_nF r_nT r_vsl r_vptr r_vb r_vi r_vs r_vn r_vis r_vce r_vfp r_va4 r_va3 r_vt4 r_vf4 r_vf3 r_rV r_Oi r_Ov r_Od r_rE r_rE0 r_En r_Ec r_E0 r_pO r_pk r_agL r_cO r_fO r_fSi r_fSv r_fPv r_fsl r_fptr r_ffn r_fag r_fb r_fint r_fstr r_fnil r_fis r_fce r_ffp r_res r_move r_assign r_pick r_pickt r_pickf r_alloc r_box r_al r_build r_bslice r_load r_store r_nlc r_nl1 r_nl2 r_bin r_un r_conv r_mkf r_mks r_slc r_fad r_fld r_iad r_idx r_ext r_ex1 r_callf r_callt r_callen r_calapp r_calmax r_calmin r_vt r_vcb r_vci r_vcs r_vcnp r_vcn r_vca r_vcf r_vcg r_ofb r_ofi r_ofs r_ofn r_evs r_pn r_prt r_pc r_one_a r_one_b r_one_i r_one_s r_one_n r_one_is r_one_ce r_one_fp r_one_sl r_one_pt r_one_fn r_cs_a r_cs_b r_cs_i r_cs_s r_cs_n r_cs_is r_cs_ce r_cs_fp r_cs_sl r_cs_pt r_cs_fn r_tov r_tovA r_toc r_toa r_tb r_ti r_ts r_tn r_bd r_bd2 r_filn r_fp1 r_filc r_fsn r_fsc r_san r_sac r_bs2 r_bs1 r_newO r_mkq r_mkI r_mkOi r_mkOv r_tIn r_tIc r_repz r_repn r_ldp r_ldf r_l1t r_l1f r_lFt r_lFf r_aggO r_obj r_at r_ati' r_atv r_celli r_cellv r_subi r_subv r_sto r_sto1 r_sto2 r_sets r_setR r_setn r_setc r_s1i r_s1v r_bin1 r_bin2 r_tv1 r_cb r_ci r_cst r_cn r_csl r_cis r_cce r_uni r_unb r_cv r_cvO r_cvN r_cv0 r_cvS r_wB r_cvi r_cvs r_cvb r_cvl r_sO r_rdn r_rdi r_rdl r_rdO r_vsub r_vfn r_mk r_mk1 r_mk2 r_zoi r_zov r_leni r_lenv r_bn r_bndV r_bo r_sl0 r_sl1 r_vsz r_ct1 r_cts r_cti r_ctc r_ctn r_lnl r_lni r_lnc r_lnn r_fa r_fap r_faf r_fi1 r_fit r_fif r_ixi r_ixs r_ixc r_ixf r_ixF r_ixF2 r_ix1 r_ixsl r_ixin r_ixce r_len1 r_lenA r_lTs r_lTn r_lTl r_lTi r_lTc r_app0 r_app r_app1 r_app2 r_app3 r_catO r_cati r_catv r_newt r_newf r_pair r_pairK r_trip r_kis r_kiv r_srn r_srl r_sri r_src r_srs r_oln r_oll r_vw r_wi r_wv r_mm r_max r_min' r_str r_cF r_c2t r_c3f r_c3t r_ab r_c2f r_cV r_p1 r_la r_la2t r_la2f r_la3 r_sh r_z_is r_z_ce r_z_fp r_z_b r_z_i r_z_s r_z_n r_z_l r_z_p r_z_a4 r_z_a3 r_z_t4 r_zoI r_zoV r_roN r_roC r_roi r_rod r_zod r_rov r_aR r_trOi r_trOv r_trPv r_trl r_trp r_trf r_tra r_trb r_tri r_trs r_trn r_tris r_trce r_trfp r_vJ r_vJs r_vJn
attribute [local go_sem] b_add b_sub b_mul b_quo b_rem b_shl b_shr b_eql b_neq b_lss b_leq b_gtr b_geq eqB_s b_eqB b_neB u_neg u_not b_nn b_nn' eqS_s zerosT_s zerosT_n zt_i zt_sl zt_st dstOf_z dstOf_n iltT iltF ileT ileF ieqT ieqF nltT nltF nleT nleF neqT neqF tdiv_pos tmod_pos w64 idx0 List.take_of_length_le
/- Equality of dyadics is decidable. No conditions. -/
section
instance : DecidableEq DyT := fun a b => match a, b with
  | ⟨n, l, e⟩, ⟨m, k, f⟩ => if h : n = m ∧ l = k ∧ e = f then .isTrue (by obtain ⟨rfl, rfl, rfl⟩ := h; rfl) else .isFalse (fun q => h (by cases q; exact ⟨rfl, rfl, rfl⟩))
end
/- Intervals: membership and inclusion, program and reference. No conditions. -/
section
open Num
section
variable {x : DyT} {v : IvT}
theorem ivOk_and {v : IvT} (h : ivOkB v = true) : dyOkB v.lo = true ∧ dyOkB v.hi = true := by
  unfold ivOkB at h
  rw [Bool.and_eq_true, Bool.and_eq_true] at h
  exact h.1
end
end
/- The laws of a ring for dyadic numbers. Plain law. No conditions. -/
section
open Num
theorem sg_zero (n : Bool) (a : Nat) : sg n a = 0 ↔ a = 0 := by unfold sg; cases n <;> simp
theorem sg_inj {n m : Bool} {a b : Nat} (h0 : a ≠ 0) (h : sg n a = sg m b) : n = m ∧ a = b := by
  unfold sg at h; cases n <;> cases m <;> simp at h ⊢ <;> omega
theorem sg_pow (n : Bool) (a k : Nat) : sg n a * ((2 ^ k : Nat) : Int) = sg n (a * 2 ^ k) := (sg_mul n a (2 ^ k)).symm
theorem oddq : ∀ (i j : Nat) {a b : Nat}, a % 2 = 1 → b % 2 = 1 → a * 2 ^ i = b * 2 ^ j → a = b ∧ i = j
  | 0, 0, a, b, _, _, h => by simpa using h
  | 0, j + 1, a, b, ha, _, h => by
    rw [Nat.pow_zero, Nat.mul_one, Nat.pow_succ, ← Nat.mul_assoc] at h; omega
  | i + 1, 0, a, b, _, hb, h => by
    rw [Nat.pow_zero, Nat.mul_one, Nat.pow_succ, ← Nat.mul_assoc] at h; omega
  | i + 1, j + 1, a, b, ha, hb, h => by
    rw [Nat.pow_succ, ← Nat.mul_assoc, Nat.pow_succ, ← Nat.mul_assoc] at h
    obtain ⟨h1, h2⟩ := oddq i j ha hb (Nat.eq_of_mul_eq_mul_right (by omega) h)
    exact ⟨h1, by omega⟩
theorem tz_split {a : Nat} (h : a ≠ 0) : a = a / 2 ^ tz a * 2 ^ tz a := by
  obtain ⟨o, ho⟩ := tz_spec h
  have hd : a / 2 ^ tz a = 2 * o + 1 := by
    conv => lhs; lhs; rw [ho]
    exact Nat.mul_div_cancel_left _ (Nat.two_pow_pos _)
  rw [hd, Nat.mul_comm]; exact ho
theorem mkD_uniq {n m : Bool} {a b : Nat} {e f K : Int} (he : K ≤ e) (hf : K ≤ f) (h : sg n a * ((2 ^ (e - K).toNat : Nat) : Int) = sg m b * ((2 ^ (f - K).toNat : Nat) : Int)) : mkD n a e = mkD m b f := by
  rw [sg_pow, sg_pow] at h
  by_cases h0 : a = 0
  · subst h0
    rw [Nat.zero_mul] at h
    have hb : b = 0 := by
      have := (sg_zero m (b * 2 ^ (f - K).toNat)).1 (by rw [← h]; exact (sg_zero n 0).2 rfl)
      rcases Nat.mul_eq_zero.1 this with h | h
      · exact h
      · have := Nat.two_pow_pos (f - K).toNat; omega
    subst hb
    unfold mkD
    rw [if_pos rfl, if_pos rfl]
  · have hp := Nat.two_pow_pos (e - K).toNat
    obtain ⟨h1, h2⟩ := sg_inj (Nat.mul_ne_zero h0 (by omega)) h
    have hb : b ≠ 0 := by
      rintro rfl
      rw [Nat.zero_mul] at h2
      rcases Nat.mul_eq_zero.1 h2 with h | h <;> omega
    subst h1
    unfold mkD
    rw [if_neg h0, if_neg hb]
    have ha2 := tz_split h0
    have hb2 := tz_split hb
    have oa := tz_bit h0
    have ob := tz_bit hb
    generalize a / 2 ^ tz a = A at *
    generalize b / 2 ^ tz b = B at *
    rw [ha2, hb2, Nat.mul_assoc, Nat.mul_assoc, ← Nat.pow_add, ← Nat.pow_add] at h2
    obtain ⟨h3, h4⟩ := oddq _ _ oa ob h2
    rw [h3]
    have h5 : e + (tz a : Int) = f + (tz b : Int) := by omega
    rw [h5]
theorem ss_sum (n m : Bool) (a b : Nat) : sg (ssN n a m b) (ssV n a m b) = sg n a + sg m b := by
  unfold ssN ssV sg
  by_cases h : b ≤ a <;> cases n <;> cases m <;> simp [h] <;> omega
section
variable {x y z : DyT}
/-- A valid one is its own one form. -/
theorem mkD_self (hx : dyOkB x = true) : mkD x.neg x.n x.e = x := by
  obtain ⟨n, h1, h2, h3, h4, h5⟩ := (dyOkB_iff x).1 hx
  have hn : x.n = n := by unfold DyT.n; rw [h1, val_D]; rfl
  rw [hn]
  unfold mkD
  rcases h5 with ⟨k1, k2, k3⟩ | k
  · subst k1
    rw [if_pos rfl]
    cases x
    simp only at h1 k2 k3
    rw [D_zero] at h1
    rw [h1, k2, k3]
  · have h0 : n ≠ 0 := by omega
    rw [if_neg h0]
    have ha2 := tz_split h0
    have ob := tz_bit h0
    have hz : n / 2 ^ tz n = n ∧ tz n = 0 := oddq (tz n) 0 ob k (by rw [Nat.pow_zero, Nat.mul_one]; exact ha2.symm)
    rw [hz.1, hz.2, ← h1]
    cases x
    simp
theorem addR_sv (hx : dyOkB x = true) (hy : dyOkB y = true) (K : Int) (hK : K ≤ -3000) : ∃ n a e, addR x y = mkD n a e ∧ -3000 ≤ e ∧ sg n a * ((2 ^ (e - K).toNat : Nat) : Int) = x.sv K + y.sv K := by
  obtain ⟨_, x1, x2, x3, _⟩ := okD hx
  obtain ⟨_, y1, y2, y3, _⟩ := okD hy
  obtain ⟨_, _, e3, _⟩ := al_small x1 y1 x2 x3 y2 y3
  refine ⟨_, _, _, rfl, e3, ?_⟩
  rw [ss_sum, Int.add_mul, sg_pow, sg_pow]
  obtain ⟨h1, h2⟩ := al_sv (a := x.n) (ex := x.e) (ey := y.e) (b := y.n) (K := K) (by omega) (by omega)
  rw [← h1, ← h2, ← sg_pow, ← sg_pow]
  rfl
theorem addR_comm (hx : dyOkB x = true) (hy : dyOkB y = true) : addR x y = addR y x := by
  obtain ⟨n, a, e, h1, h2, h3⟩ := addR_sv hx hy (-3000) (by omega)
  obtain ⟨m, b, f, k1, k2, k3⟩ := addR_sv hy hx (-3000) (by omega)
  rw [h1, k1]
  exact mkD_uniq h2 k2 (by rw [h3, k3, Int.add_comm])
theorem mulR_comm : mulR x y = mulR y x := by
  unfold mulR
  rw [Nat.mul_comm, Int.add_comm, show (x.neg != y.neg) = (y.neg != x.neg) by cases x.neg <;> cases y.neg <;> rfl]
theorem negT_ok (hy : dyOkB y = true) : dyOkB (negT y) = true ∧ ∀ K, (negT y).sv K = -(y.sv K) := by
  obtain ⟨n, h1, h2, h3, h4, h5⟩ := (dyOkB_iff y).1 hy
  have hn : y.n = n := by unfold DyT.n; rw [h1, val_D]; rfl
  have hn' : (negT y).n = y.n := rfl
  refine ⟨(dyOkB_iff _).2 ⟨n, h1, h2, h3, h4, ?_⟩, fun K => ?_⟩
  · rcases h5 with ⟨k1, k2, k3⟩ | k
    · exact .inl ⟨k1, by unfold negT; simp [hn, k1], k3⟩
    · exact .inr k
  · unfold DyT.sv
    rw [hn']
    have e1 : (negT y).e = y.e := rfl
    rw [e1]
    have : sg (negT y).neg y.n = -(sg y.neg y.n) := by
      unfold negT sg
      by_cases h0 : y.n = 0
      · rw [h0]; cases y.neg <;> simp
      · cases y.neg <;> simp [h0]
    rw [this, Int.neg_mul]
theorem mkD_sv {n : Bool} {a : Nat} {e K : Int} (h : K ≤ e) : (mkD n a e).sv K = sg n a * ((2 ^ (e - K).toNat : Nat) : Int) := by
  unfold mkD
  by_cases h0 : a = 0
  · subst h0
    rw [if_pos rfl]
    unfold DyT.sv DyT.n
    rw [(sg_zero n 0).2 rfl]
    simp [sg, val]
  · rw [if_neg h0]
    have ha2 := tz_split h0
    have hv : (DyT.n ⟨n, D (a / 2 ^ tz a), e + tz a⟩) = a / 2 ^ tz a := by unfold DyT.n; rw [val_D]; rfl
    unfold DyT.sv
    rw [hv]
    simp only
    rw [sg_pow, sg_pow]
    generalize a / 2 ^ tz a = A at *
    rw [show (e + (tz a : Int) - K).toNat = tz a + (e - K).toNat by omega, Nat.pow_add, ← Nat.mul_assoc, ← ha2]
theorem subR_addR (hx : dyOkB x = true) (hy : dyOkB y = true) (hs : dyFit (addR x y) = true) : subR (addR x y) y = x := by
  obtain ⟨n, a, e, h1, h2, h3⟩ := addR_sv hx hy (-3000) (by omega)
  have hok : dyOkB (addR x y) = true := by rw [h1] at hs ⊢; rw [dyOkB_mkD]; exact hs
  obtain ⟨q1, q2⟩ := negT_ok hy
  obtain ⟨m, b, f, k1, k2, k3⟩ := addR_sv hok q1 (-3000) (by omega)
  unfold subR
  rw [k1, ← mkD_self hx]
  refine mkD_uniq k2 (dyOk_e hx) ?_
  rw [k3, q2, h1, mkD_sv h2, h3]
  unfold DyT.sv
  omega
theorem mulR_sv (hx : dyOkB x = true) (hy : dyOkB y = true) : ∃ n a e, mulR x y = mkD n a e ∧ -6000 ≤ e ∧ sg n a * ((2 ^ (e - (-6000)).toNat : Nat) : Int) = x.sv (-3000) * y.sv (-3000) := by
  have x2 := dyOk_e hx
  have y2 := dyOk_e hy
  refine ⟨_, _, _, rfl, by omega, ?_⟩
  unfold DyT.sv
  rw [sg_pow, sg_pow, sg_pow, show (x.e + y.e - -6000).toNat = (x.e - -3000).toNat + (y.e - -3000).toNat by omega, Nat.pow_add]
  generalize 2 ^ (x.e - -3000).toNat = P
  generalize 2 ^ (y.e - -3000).toNat = Q
  generalize x.n = A
  generalize y.n = B
  unfold sg
  have e1 : ((A * B * (P * Q) : Nat) : Int) = ((A * P : Nat) : Int) * ((B * Q : Nat) : Int) := by
    rw [← Int.natCast_mul]; congr 1
    rw [Nat.mul_mul_mul_comm]
  cases x.neg <;> cases y.neg <;> simp only [bne, Bool.false_eq_true, if_false, if_true, Bool.not_true, Bool.not_false, BEq.rfl, show (false == true) = false from rfl, show (true == false) = false from rfl] <;> rw [e1]
  · rw [Int.mul_neg]
  · rw [Int.neg_mul]
  · rw [Int.neg_mul_neg]
theorem sv_shift (hx : dyOkB x = true) : x.sv (-6000) = x.sv (-3000) * ((2 ^ 3000 : Nat) : Int) := by
  have x2 := dyOk_e hx
  unfold DyT.sv
  rw [show (x.e - -6000).toNat = (x.e - -3000).toNat + 3000 by omega, Nat.pow_add, Int.natCast_mul, Int.mul_assoc]
theorem distr (hx : dyOkB x = true) (hy : dyOkB y = true) (hz : dyOkB z = true) (hs : dyFit (addR x y) = true) (h1 : dyFit (mulR x z) = true) (h2 : dyFit (mulR y z) = true) : mulR (addR x y) z = addR (mulR x z) (mulR y z) := by
  obtain ⟨n, a, e, s1, s2, s3⟩ := addR_sv hx hy (-3000) (by omega)
  have hok : dyOkB (addR x y) = true := by rw [s1] at hs ⊢; rw [dyOkB_mkD]; exact hs
  obtain ⟨n1, a1, e1, p1, p2, p3⟩ := mulR_sv hok hz
  obtain ⟨n2, a2, e2, q1, q2, q3⟩ := mulR_sv hx hz
  obtain ⟨n3, a3, e3, r1, r2, r3⟩ := mulR_sv hy hz
  have ok2 : dyOkB (mulR x z) = true := by rw [q1] at h1 ⊢; rw [dyOkB_mkD]; exact h1
  have ok3 : dyOkB (mulR y z) = true := by rw [r1] at h2 ⊢; rw [dyOkB_mkD]; exact h2
  obtain ⟨n4, a4, e4, t1, t2, t3⟩ := addR_sv ok2 ok3 (-6000) (by omega)
  rw [p1, t1]
  refine mkD_uniq p2 (by omega) ?_
  rw [p3, t3, s1, mkD_sv s2, s3, q1, r1, mkD_sv q2, mkD_sv r2, q3, r3, Int.add_mul]
end
end
/- Intervals that are made: a number's one form, two of them as an interval, program and reference. No conditions. -/
section
open Num
theorem okFit {x : DyT} (hx : dyOkB x = true) : dyFit x = true := by
  have := dyOkB_mkD (n := x.neg) (a := x.n) (e := x.e)
  rw [mkD_self hx] at this
  rw [← this]; exact hx
section
variable {x y : DyT} {v : IvT}
/-- Two ends as an interval: both fit, or nothing is told. -/
def ivFit (v : IvT) : Bool := dyFit v.lo && dyFit v.hi
def ivRes (v : IvT) : IvT := if ivFit v then v else ⟨zT, zT⟩
theorem iv_v (d : Nat) {n m : Bool} {a b : Nat} {e f : Int} (ha : (D a).length < 60000) (he : -1000000000 ≤ e) (he' : e ≤ 1000000000) (hb : (D b).length < 60000) (hf : -1000000000 ≤ f) (hf' : f ≤ 1000000000) :
    vrun Tryd.prog kn (d + 6) 100 [.agg [.bool n, .ints .i64 (D a), .int .i64 e, .bool m, .ints .i64 (D b), .int .i64 f]] [] = some (.tup [.agg [.bool (ivRes ⟨mkD n a e, mkD m b f⟩).lo.neg, .sl 0 0 (ivRes ⟨mkD n a e, mkD m b f⟩).lo.l.length 1, .int .i64 (ivRes ⟨mkD n a e, mkD m b f⟩).lo.e, .bool (ivRes ⟨mkD n a e, mkD m b f⟩).hi.neg, .sl 1 0 (ivRes ⟨mkD n a e, mkD m b f⟩).hi.l.length 1, .int .i64 (ivRes ⟨mkD n a e, mkD m b f⟩).hi.e], .bool (ivFit ⟨mkD n a e, mkD m b f⟩)], [.ints true .i64 (ivRes ⟨mkD n a e, mkD m b f⟩).lo.l, .ints true .i64 (ivRes ⟨mkD n a e, mkD m b f⟩).hi.l]) := by
  have h1 := fun d => dy_v (n := n) d ha he he'
  have h2 := fun d => dy_v (n := m) d hb hf hf'
  have l1 := fitT_len (mkD n a e)
  have l2 := fitT_len (mkD m b f)
  unfold ivRes ivFit
  have f1 : dyFit (mkD n a e) = true → fitT (mkD n a e) = mkD n a e := fun h => by unfold fitT; rw [h]; rfl
  have f2 : dyFit (mkD m b f) = true → fitT (mkD m b f) = mkD m b f := fun h => by unfold fitT; rw [h]; rfl
  generalize D a = A at *
  generalize D b = B at *
  generalize fitT (mkD n a e) = F at *
  generalize fitT (mkD m b f) = G at *
  generalize mkD n a e = r at *
  generalize mkD m b f = s at *
  cases q1 : dyFit r with
  | false =>
    rw [q1] at h1
    rw [vrun_v Tryd.func100 rfl rfl rfl]; simp only [Tryd.f100]
    simp (disch := omega) [go_sem, tab100, h1, h2, zT, q1]
  | true =>
    rw [q1] at h1
    obtain rfl := f1 q1
    cases q2 : dyFit s with
    | false =>
      rw [q2] at h2
      rw [vrun_v Tryd.func100 rfl rfl rfl]; simp only [Tryd.f100]
      simp (disch := omega) [go_sem, tab100, h1, h2, zT, q1, q2]
    | true =>
      rw [q2] at h2
      obtain rfl := f2 q2
      rw [vrun_v Tryd.func100 rfl rfl rfl]; simp only [Tryd.f100]
      simp (disch := omega) [go_sem, tab100, h1, h2, q1, q2]
/-- A valid number stands as it is. -/
theorem ivOk_iv (d : Nat) (h1 : dyOkB v.lo = true) (h2 : dyOkB v.hi = true) : vrun Tryd.prog kn (d + 6) 100 [.agg [.bool v.lo.neg, .ints .i64 v.lo.l, .int .i64 v.lo.e, .bool v.hi.neg, .ints .i64 v.hi.l, .int .i64 v.hi.e]] [] = some (.tup [.agg [.bool v.lo.neg, .sl 0 0 v.lo.l.length 1, .int .i64 v.lo.e, .bool v.hi.neg, .sl 1 0 v.hi.l.length 1, .int .i64 v.hi.e], .bool true], [.ints true .i64 v.lo.l, .ints true .i64 v.hi.l]) := by
  obtain ⟨e1, x1, x2, x3, x4⟩ := okD h1
  obtain ⟨e2, y1, y2, y3, y4⟩ := okD h2
  have := iv_v d (n := v.lo.neg) (m := v.hi.neg) (a := v.lo.n) (b := v.hi.n) (e := v.lo.e) (f := v.hi.e) (by omega) (by omega) (by omega) (by omega) (by omega) (by omega)
  rw [mkD_self h1, mkD_self h2, ← e1, ← e2] at this
  have hf : ivFit v = true := by unfold ivFit; rw [okFit h1, okFit h2]; rfl
  have hr : ivRes v = v := by unfold ivRes; rw [if_pos hf]
  have hv : (⟨v.lo, v.hi⟩ : IvT) = v := rfl
  rw [hv, hr, hf] at this
  exact this
theorem l7own_v (d : Nat) (h : dyOkB x = true) : vrun Tryd.prog kn (d + 3) 36 [.agg [.bool x.neg, .ints .i64 x.l, .int .i64 x.e]] [] = some (.agg [.bool x.neg, .ints .i64 x.l, .int .i64 x.e], []) := by
  obtain ⟨e1, x1, x2, x3, x4⟩ := okD h
  have h1 := fun d => l3make_v (n := x.neg) (a := x.n) d (by omega)
  have hn : (x.neg && decide (x.n ≠ 0)) = x.neg := by
    by_cases h0 : x.n = 0
    · rw [x4 h0]; rfl
    · simp [h0]
  rw [hn, ← e1] at h1
  rw [vrun_v Tryd.func36 rfl rfl rfl]; simp only [Tryd.f36]
  simp (disch := omega) [go_sem, tab36, h1]
/-! ### IvOf -/
def ivOfR (x y : DyT) : IvT := if ivOkB ⟨x, y⟩ then ⟨x, y⟩ else ⟨zT, zT⟩
end
end
/- Sizes and equality of lists of dyadics. No conditions. -/
section
open Num
section
variable {ds es : List DyT} {left : Int}
def szDSS (ds : List DyT) (r : Int) (j : Nat) : VE × VH := ([(0, some (.cells 3 ds.length (flat DyT.v ds))), (1, some (.int .i64 r)), (5, some (.int .i64 j))], [])
theorem szDyS_v (d : Nat) (hl : ds.length ≤ 9223372036854775807) (hs : ∀ x ∈ ds, x.l.length ≤ 9223372036854775807) (h0 : 0 ≤ left) (h1 : left ≤ 1048576) : ∃ r : Int, vrun Tryd.prog kn (d + 5) 34 [.cells 3 ds.length (flat DyT.v ds), .int .i64 left] [] = some (.int .i64 r, []) ∧ r ≤ left ∧ (0 ≤ r → ds.length ≤ 1048576 ∧ ∀ x ∈ ds, x.l.length ≤ 1048576) := by
  by_cases hlt : left < ds.length
  · refine ⟨-1, ?_, by omega, fun h => by omega⟩
    rw [vrun_v Tryd.func34 rfl rfl rfl]; simp only [Tryd.f34]
    simp (disch := omega) [go_sem, tab34]
  have key := vi_inv (n := kn.cf.rounds) (body := vCode Tryd.prog kn (vrun Tryd.prog kn (d + 4)) 34 (loopAt Tryd.f34 0)) (fun j s => ∃ r : Int, s = szDSS ds r j ∧ 0 ≤ r ∧ r ≤ left ∧ ∀ x ∈ ds.take j, x.l.length ≤ 1048576)
    (fun v => (∃ r : Int, v = some (.exit 0, (szDSS ds r ds.length).1 ++ [(15, some (.bool false))], []) ∧ 0 ≤ r ∧ r ≤ left ∧ ∀ x ∈ ds, x.l.length ≤ 1048576) ∨ v = some (.ret, [(4, some (.int .i64 (-1)))], [])) ds.length (by rw [k_cf, c_rounds]; omega)
    (fun j s hj hI => by
      obtain ⟨r, rfl, hr0, hr1, hI⟩ := hI
      have hget : ds[j]? = some ds[j] := List.getElem?_eq_getElem hj
      have hlen := hs _ (List.getElem_mem hj)
      have hsub : ((flat DyT.v ds).drop (j * 3)).take 3 = [.bool ds[j].neg, .ints .i64 ds[j].l, .int .i64 ds[j].e] := flat_sub DyT.len ds j _ hget
      generalize ds[j] = x at *
      obtain ⟨r', hr', h2, h3⟩ := szDy_v (n := x.neg) (e := x.e) d hlen hr0 (by omega)
      by_cases h : r' < 0
      · right; intro m; right
        refine vi_ret ?_
        rw [round_v]; simp only [loopAt, nthC, bodyC, loops, List.nil_append, List.cons_append, List.append_nil, Tryd.f34, szDSS]
        simp (disch := omega) [go_sem, tab34, hsub, hr']
      · left
        refine ⟨szDSS ds r' (j + 1), ?_, r', rfl, by omega, by omega, ?_⟩
        · rw [round_v]; simp only [loopAt, nthC, bodyC, loops, List.nil_append, List.cons_append, List.append_nil, Tryd.f34, szDSS]
          simp (disch := omega) [go_sem, tab34, hsub, hr']
        · rw [List.take_add_one, hget]
          intro y hy
          rcases List.mem_append.1 hy with hy | hy
          · exact hI y hy
          · simp at hy; subst hy; exact h3 (by omega))
    (fun s hI m => by
      obtain ⟨r, rfl, hr0, hr1, hI⟩ := hI
      left
      refine ⟨r, vi_exit ?_, hr0, hr1, by rwa [List.take_length] at hI⟩
      rw [round_v]; simp only [loopAt, nthC, bodyC, loops, List.nil_append, List.cons_append, List.append_nil, Tryd.f34, szDSS]
      simp (disch := omega) [go_sem, tab34])
    (szDSS ds (left - ds.length) 0) ⟨_, rfl, by omega, by omega, by simp⟩
  rcases key with ⟨r, hv, h2, h3, h4⟩ | hv
  · have hl0 := fun ks => loop_v (P := Tryd.prog) (K := kn) (ks := ks) hv
    simp only [loopAt, nthC, bodyC, loops, List.nil_append, List.cons_append, List.append_nil, Tryd.f34, szDSS, Int.natCast_zero, List.cons_append, List.nil_append] at hl0
    refine ⟨r, ?_, by omega, fun _ => ⟨by omega, h4⟩⟩
    rw [vrun_v Tryd.func34 rfl rfl rfl]; simp only [Tryd.f34]
    simp (disch := omega) [go_sem, tab34, hl0]
  · have hl0 := fun ks => loop_v (P := Tryd.prog) (K := kn) (ks := ks) hv
    simp only [loopAt, nthC, bodyC, loops, List.nil_append, List.cons_append, List.append_nil, Tryd.f34, szDSS, Int.natCast_zero, List.cons_append, List.nil_append] at hl0
    refine ⟨-1, ?_, by omega, fun _ => by omega⟩
    rw [vrun_v Tryd.func34 rfl rfl rfl]; simp only [Tryd.f34]
    simp (disch := omega) [go_sem, tab34, hl0]
def eqDSS (ds es : List DyT) (j : Nat) : VE × VH := ([(0, some (.cells 3 ds.length (flat DyT.v ds))), (1, some (.cells 3 es.length (flat DyT.v es))), (5, some (.int .i64 j))], [])
theorem eqDyS_v (d : Nat) (hd : ds.length < 1000000000) (he : es.length < 1000000000) (hsd : ∀ x ∈ ds, x.l.length < 1000000000) (hse : ∀ x ∈ es, x.l.length < 1000000000) : vrun Tryd.prog kn (d + 5) 43 [.cells 3 ds.length (flat DyT.v ds), .cells 3 es.length (flat DyT.v es)] [] = some (.bool (decide (ds = es)), []) := by
  by_cases hl : ¬ ds.length = es.length
  · have : ¬ ds = es := fun h => hl (by rw [h])
    have h' : ¬ (ds.length : Int) = es.length := by omega
    rw [vrun_v Tryd.func43 rfl rfl rfl]; simp only [Tryd.f43]
    simp (disch := omega) [go_sem, tab43, h', this, hl]
  rw [Decidable.not_not] at hl
  have key := vi_inv (n := kn.cf.rounds) (body := vCode Tryd.prog kn (vrun Tryd.prog kn (d + 4)) 43 (loopAt Tryd.f43 0)) (fun j s => s = eqDSS ds es j ∧ ds.take j = es.take j)
    (fun r => (r = some (.exit 0, (eqDSS ds es ds.length).1 ++ [(14, some (.bool false))], []) ∧ ds = es) ∨ (r = some (.ret, [(4, some (.bool false))], []) ∧ ¬ ds = es)) ds.length (by rw [k_cf, c_rounds]; omega)
    (fun j s hj hI => by
      obtain ⟨rfl, hI⟩ := hI
      have hj' : j < es.length := by omega
      have hget : ds[j]? = some ds[j] := List.getElem?_eq_getElem hj
      have hget2 : es[j]? = some es[j] := List.getElem?_eq_getElem hj'
      have hlen := hsd _ (List.getElem_mem hj)
      have hlen2 := hse _ (List.getElem_mem hj')
      have hsub : ((flat DyT.v ds).drop (j * 3)).take 3 = [.bool ds[j].neg, .ints .i64 ds[j].l, .int .i64 ds[j].e] := flat_sub DyT.len ds j _ hget
      have hsub2 : ((flat DyT.v es).drop (j * 3)).take 3 = [.bool es[j].neg, .ints .i64 es[j].l, .int .i64 es[j].e] := flat_sub DyT.len es j _ hget2
      have hne : ds[j] ≠ es[j] → ¬ ds = es := fun hq h => hq (by subst h; rfl)
      generalize ds[j] = x at *
      generalize es[j] = y at *
      have h1 := eqDy_v (n1 := x.neg) (n2 := y.neg) (e1 := x.e) (e2 := y.e) d hlen hlen2
      by_cases hq : x = y
      · left
        refine ⟨eqDSS ds es (j + 1), ?_, rfl, ?_⟩
        · subst hq
          rw [round_v]; simp only [loopAt, nthC, bodyC, loops, List.nil_append, List.cons_append, List.append_nil, Tryd.f43, eqDSS]
          simp only [decide_true, Bool.and_true] at h1
          simp (disch := omega) [go_sem, tab43, hsub, hsub2, h1]
        · rw [List.take_add_one, List.take_add_one, hI, hget, hget2, hq]
      · right; intro m; right
        refine ⟨vi_ret ?_, hne hq⟩
        have hz : (decide (x.neg = y.neg) && decide (x.l = y.l) && decide (x.e = y.e)) = false := by
          cases hz : (decide (x.neg = y.neg) && decide (x.l = y.l) && decide (x.e = y.e)) with
          | false => rfl
          | true =>
            simp at hz; obtain ⟨x1, x2, x3⟩ := x; obtain ⟨y1, y2, y3⟩ := y
            simp at hz hq; obtain ⟨⟨rfl, rfl⟩, rfl⟩ := hz; simp at hq
        rw [hz] at h1
        rw [round_v]; simp only [loopAt, nthC, bodyC, loops, List.nil_append, List.cons_append, List.append_nil, Tryd.f43, eqDSS]
        simp (disch := omega) [go_sem, tab43, hsub, hsub2, h1])
    (fun s hI m => by
      obtain ⟨rfl, hI⟩ := hI
      left
      refine ⟨vi_exit ?_, by rwa [List.take_length, hl, List.take_length] at hI⟩
      rw [round_v]; simp only [loopAt, nthC, bodyC, loops, List.nil_append, List.cons_append, List.append_nil, Tryd.f43, eqDSS]
      simp (disch := omega) [go_sem, tab43])
    (eqDSS ds es 0) ⟨rfl, by simp⟩
  rcases key with ⟨hv, hq⟩ | ⟨hv, hq⟩
  · rw [decide_eq_true hq]
    have hl0 := fun ks => loop_v (P := Tryd.prog) (K := kn) (ks := ks) hv
    simp only [loopAt, nthC, bodyC, loops, List.nil_append, List.cons_append, List.append_nil, Tryd.f43, eqDSS, hl, Int.natCast_zero, List.cons_append, List.nil_append] at hl0
    rw [vrun_v Tryd.func43 rfl rfl rfl]; simp only [Tryd.f43]
    simp (disch := omega) [go_sem, tab43, hl, hl0]
  · rw [decide_eq_false hq]
    have hl0 := fun ks => loop_v (P := Tryd.prog) (K := kn) (ks := ks) hv
    simp only [loopAt, nthC, bodyC, loops, List.nil_append, List.cons_append, List.append_nil, Tryd.f43, eqDSS, hl, Int.natCast_zero, List.cons_append, List.nil_append] at hl0
    rw [vrun_v Tryd.func43 rfl rfl rfl]; simp only [Tryd.f43]
    simp (disch := omega) [go_sem, tab43, hl, hl0]
theorem szMat_v (d : Nat) {N : Int} (hl : ds.length ≤ 9223372036854775807) (hs : ∀ x ∈ ds, x.l.length ≤ 9223372036854775807) (h0 : 0 ≤ left) (h1 : left ≤ 1048576) : ∃ r : Int, vrun Tryd.prog kn (d + 6) 9 [.agg [.int .i64 N, .cells 3 ds.length (flat DyT.v ds)], .int .i64 left] [] = some (.int .i64 r, []) ∧ r ≤ left ∧ (0 ≤ r → ds.length ≤ 1048576 ∧ ∀ x ∈ ds, x.l.length ≤ 1048576) := by
  obtain ⟨r, hr, h2, h3⟩ := szDyS_v d hl hs h0 h1
  by_cases h : r < 0
  · refine ⟨-1, ?_, by omega, fun h => by omega⟩
    rw [vrun_v Tryd.func9 rfl rfl rfl]; simp only [Tryd.f9]
    simp (disch := omega) [go_sem, tab9, hr]
  · refine ⟨r, ?_, by omega, h3⟩
    rw [vrun_v Tryd.func9 rfl rfl rfl]; simp only [Tryd.f9]
    simp (disch := omega) [go_sem, tab9, hr]
theorem eqMat_v (d : Nat) {N M : Int} (hd : ds.length < 1000000000) (he : es.length < 1000000000) (hsd : ∀ x ∈ ds, x.l.length < 1000000000) (hse : ∀ x ∈ es, x.l.length < 1000000000) : vrun Tryd.prog kn (d + 6) 14 [.agg [.int .i64 N, .cells 3 ds.length (flat DyT.v ds)], .agg [.int .i64 M, .cells 3 es.length (flat DyT.v es)]] [] = some (.bool (decide (N = M) && decide (ds = es)), []) := by
  have h1 := fun d => eqDyS_v d hd he hsd hse
  cases hc : decide (ds = es) <;> rw [hc] at h1 <;> by_cases he : N = M
  all_goals
    rw [vrun_v Tryd.func14 rfl rfl rfl]; simp only [Tryd.f14]
    simp (disch := omega) [go_sem, tab14, h1, he]
end
end
/- The exact laws copy an argument (each in memory of its own): lists, naturals, wholes, dyadics. No conditions. -/
section
open Num
section
variable {l : List Int}
def cpL (l : List Int) (j : Nat) : List Int := l.take j ++ List.replicate (l.length - j) 0
theorem cpL_len {j : Nat} (h : j ≤ l.length) : (cpL l j).length = l.length := by unfold cpL; simp; omega
theorem cpL_set {j : Nat} (h : j < l.length) : (cpL l j).set j (gt l j) = cpL l (j + 1) := by
  have hj : l[j]? = some (gt l j) := by rw [gt]; simp [h]
  unfold cpL
  rw [List.set_append_right _ _ (by simp; omega), List.take_add_one, hj, show l.length - j = (l.length - (j + 1)) + 1 by omega, List.replicate_succ]
  simp [show j - min j l.length = 0 by omega]
theorem cpL_end : cpL l l.length = l := by unfold cpL; simp
theorem cpL_0 : cpL l 0 = List.replicate l.length 0 := by unfold cpL; simp
def toIS (l : List Int) (j : Nat) : VE × VH := ([(0, some (.ints .i64 l)), (3, some (.sl 0 0 l.length 1)), (4, some (.int .i64 j))], [.ints true .i64 (cpL l j)])
theorem toI_r (d : Nat) {j : Nat} (hl : l.length < 1000000000) (hj : j < l.length) : vCode Tryd.prog kn (vrun Tryd.prog kn d) 116 (loopAt Tryd.f116 0) (toIS l j).1 (toIS l j).2 = some (.norm, toIS l (j + 1)) := by
  have h1 := cpL_len (l := l) (Nat.le_of_lt hj)
  rw [round_v]; simp only [loopAt, nthC, bodyC, loops, List.nil_append, List.cons_append, List.append_nil, Tryd.f116, toIS]
  simp (disch := omega) [go_sem, tab116, nil116, h1, cpL_set hj]
theorem toI_x (d : Nat) (hl : l.length < 1000000000) : vCode Tryd.prog kn (vrun Tryd.prog kn d) 116 (loopAt Tryd.f116 0) (toIS l l.length).1 (toIS l l.length).2 = some (.exit 0, (toIS l l.length).1 ++ [(11, some (.bool false))], (toIS l l.length).2) := by
  rw [round_v]; simp only [loopAt, nthC, bodyC, loops, List.nil_append, List.cons_append, List.append_nil, Tryd.f116, toIS]
  simp (disch := omega) [go_sem, tab116, nil116]
theorem toIntS_v (d : Nat) (hl : l.length < 1000000000) : vrun Tryd.prog kn (d + 1) 116 [.ints .i64 l] [] = some (.sl 0 0 l.length 1, [.ints true .i64 l]) := by
  have hl0 := fun ks => loop_v (P := Tryd.prog) (K := kn) (ks := ks) (vi_for (toIS l) l.length (n := kn.cf.rounds) (by rw [k_cf, c_rounds]; omega) (fun j hj => toI_r d hl hj) fun m => vi_exit (toI_x d hl))
  simp only [loopAt, nthC, bodyC, loops, List.nil_append, List.cons_append, List.append_nil, Tryd.f116, toIS, Int.natCast_zero, List.cons_append, List.nil_append, cpL_0, cpL_end] at hl0
  rw [vrun_v Tryd.func116 rfl rfl rfl]; simp only [Tryd.f116]
  simp (disch := omega) [go_sem, tab116, nil116, hl0]
theorem toNat_v (d : Nat) (hl : l.length < 1000000000) : vrun Tryd.prog kn (d + 2) 93 [.agg [.ints .i64 l]] [] = some (.agg [.sl 0 0 l.length 1], [.ints true .i64 l]) := by
  have h1 := fun d => toIntS_v d hl
  rw [vrun_v Tryd.func93 rfl rfl rfl]; simp only [Tryd.f93]
  simp (disch := omega) [go_sem, tab93, h1]
theorem toWhole_v (d : Nat) {n : Bool} (hl : l.length < 1000000000) : vrun Tryd.prog kn (d + 3) 63 [.agg [.bool n, .ints .i64 l]] [] = some (.agg [.bool n, .sl 0 0 l.length 1], [.ints true .i64 l]) := by
  have h1 := fun d => toNat_v d hl
  rw [vrun_v Tryd.func63 rfl rfl rfl]; simp only [Tryd.f63]
  simp (disch := omega) [go_sem, tab63, h1]
theorem toDy_v (d : Nat) {n : Bool} {e : Int} (hl : l.length < 1000000000) : vrun Tryd.prog kn (d + 4) 27 [.agg [.bool n, .ints .i64 l, .int .i64 e]] [] = some (.agg [.bool n, .sl 0 0 l.length 1, .int .i64 e], [.ints true .i64 l]) := by
  have h1 := fun d => toWhole_v (n := n) d hl
  rw [vrun_v Tryd.func27 rfl rfl rfl]; simp only [Tryd.f27]
  simp (disch := omega) [go_sem, tab27, h1]
end
end
/- The exact laws write marks into what they hold, and look whether the marks stand: lists, naturals, wholes, dyadics. No conditions. -/
section
open Num
section
variable {h : VH} {i : Nat} {l : List Int} {k : Int}
def mkL (l : List Int) (k : Int) (j : Nat) : List Int := iota k j ++ l.drop j
theorem mkL_len {j : Nat} (hj : j ≤ l.length) : (mkL l k j).length = l.length := by unfold mkL; rw [List.length_append, iota_len, List.length_drop]; omega
theorem mkL_set {j : Nat} (hj : j < l.length) : (mkL l k j).set j (k + j) = mkL l k (j + 1) := by
  unfold mkL
  rw [List.set_append_right _ _ (by rw [iota_len]; omega), iota_len, Nat.sub_self, List.drop_eq_getElem_cons hj, iota, List.append_assoc]; rfl
theorem mkL_end : mkL l k l.length = iota k l.length := by unfold mkL; simp
theorem mkL_0 : mkL l k 0 = l := by unfold mkL; simp [iota]
theorem set_self (hi : h[i]? = some (.ints true .i64 l)) : h.set i (.ints true .i64 l) = h := by
  obtain ⟨h1, h2⟩ := List.getElem?_eq_some_iff.1 hi
  rw [← h2]; exact List.set_getElem_self _
def mkS (h : VH) (i : Nat) (l : List Int) (k : Int) (j : Nat) : VE × VH := ([(0, some (.sl i 0 l.length 1)), (1, some (.int .i64 (k + j))), (5, some (.int .i64 j))], h.set i (.ints true .i64 (mkL l k j)))
theorem mkI_r (call : CallV) (hi : i < h.length) (hl : l.length < 100000000) (hk : 0 ≤ k) (hk' : k < 1000000000) {j : Nat} (hj : j < l.length) :
    vCode Tryd.prog kn call 78 (loopAt Tryd.f78 0) (mkS h i l k j).1 (mkS h i l k j).2 = some (.norm, mkS h i l k (j + 1)) := by
  have h1 := mkL_len (k := k) (Nat.le_of_lt hj)
  have h2 := mkL_set (k := k) hj
  have h3 : k + j + 1 = k + ((j + 1 : Nat) : Int) := by omega
  have hs : ∀ a : VO, (h.set i a)[i]? = some a := fun a => by simp [hi]
  rw [round_v]; simp only [loopAt, nthC, bodyC, loops, List.nil_append, List.cons_append, List.append_nil, Tryd.f78, mkS, ← h3, ← h2]
  simp (disch := omega) [go_sem, tab78, h1, hs, List.set_set]
theorem mkI_x (call : CallV) (hl : l.length < 100000000) :
    vCode Tryd.prog kn call 78 (loopAt Tryd.f78 0) (mkS h i l k l.length).1 (mkS h i l k l.length).2 = some (.exit 0, (mkS h i l k l.length).1 ++ [(9, some (.bool false))], (mkS h i l k l.length).2) := by
  rw [round_v]; simp only [loopAt, nthC, bodyC, loops, List.nil_append, List.cons_append, List.append_nil, Tryd.f78, mkS]
  simp (disch := omega) [go_sem, tab78]
theorem markIntS_v (d : Nat) (hi : h[i]? = some (.ints true .i64 l)) (hl : l.length < 100000000) (hk : 0 ≤ k) (hk' : k < 1000000000) :
    vrun Tryd.prog kn (d + 1) 78 [.sl i 0 l.length 1, .int .i64 k] h = some (.int .i64 (k + l.length), h.set i (.ints true .i64 (iota k l.length))) := by
  have hi' : i < h.length := (List.getElem?_eq_some_iff.1 hi).1
  have hl0 := fun ks => loop_v (P := Tryd.prog) (K := kn) (ks := ks) (vi_for (mkS h i l k) l.length (n := kn.cf.rounds) (by rw [k_cf, c_rounds]; omega) (fun j hj => mkI_r (vrun Tryd.prog kn d) hi' hl hk hk' hj) fun m => vi_exit (mkI_x _ hl))
  simp only [loopAt, nthC, bodyC, loops, List.nil_append, List.cons_append, List.append_nil, Tryd.f78, mkS, Int.natCast_zero, Int.add_zero, List.cons_append, List.nil_append, mkL_0, mkL_end, set_self hi] at hl0
  rw [vrun_v Tryd.func78 rfl rfl rfl]; simp only [Tryd.f78]
  simp (disch := omega) [go_sem, tab78, hl0]
theorem ge_app {n : Nat} {o : VO} (a : List VO) (hn : h[n]? = some o) : (h ++ a)[n]? = some o := by
  rw [List.getElem?_append_left (List.getElem?_eq_some_iff.1 hn).1]; exact hn
theorem set_app {n : Nat} {o : VO} (a : List VO) (q : VO) (hn : h[n]? = some o) : (h ++ a).set n q = h.set n q ++ a := List.set_append_left _ _ (List.getElem?_eq_some_iff.1 hn).1
theorem markNat_v (d : Nat) (hi : h[i]? = some (.ints true .i64 l)) (hl : l.length < 100000000) (hk : 0 ≤ k) (hk' : k < 1000000000) :
    vrun Tryd.prog kn (d + 2) 79 [.agg [.sl i 0 l.length 1], .int .i64 k] h = some (.int .i64 (k + l.length), h.set i (.ints true .i64 (iota k l.length)) ++ [.vals true [.sl i 0 l.length 1]]) := by
  have h1 := markIntS_v (h := h ++ [.vals true [.sl i 0 l.length 1]]) d (ge_app _ hi) hl hk hk'
  rw [set_app _ _ hi] at h1
  rw [vrun_v Tryd.func79 rfl rfl rfl]; simp only [Tryd.f79]
  simp (disch := omega) [go_sem, tab79, h1, List.getElem?_concat_length]
theorem markWhole_v (d : Nat) {n : Bool} (hi : h[i]? = some (.ints true .i64 l)) (hl : l.length < 100000000) (hk : 0 ≤ k) (hk' : k < 1000000000) :
    vrun Tryd.prog kn (d + 3) 45 [.agg [.bool n, .sl i 0 l.length 1], .int .i64 k] h = some (.int .i64 (k + l.length), h.set i (.ints true .i64 (iota k l.length)) ++ [.vals true [.bool n, .sl i 0 l.length 1], .vals true [.sl i 0 l.length 1]]) := by
  have h1 := markNat_v (h := h ++ [.vals true [.bool n, .sl i 0 l.length 1]]) d (ge_app _ hi) hl hk hk'
  rw [set_app _ _ hi, List.append_assoc] at h1
  rw [vrun_v Tryd.func45 rfl rfl rfl]; simp only [Tryd.f45]
  simp (disch := omega) [go_sem, tab45, h1, List.getElem?_concat_length]
theorem markDy_v (d : Nat) {n : Bool} {e : Int} (hi : h[i]? = some (.ints true .i64 l)) (hl : l.length < 100000000) (hk : 0 ≤ k) (hk' : k < 1000000000) :
    vrun Tryd.prog kn (d + 4) 16 [.agg [.bool n, .sl i 0 l.length 1, .int .i64 e], .int .i64 k] h = some (.int .i64 (k + l.length), h.set i (.ints true .i64 (iota k l.length)) ++ [.vals true [.bool n, .sl i 0 l.length 1, .int .i64 e], .vals true [.bool n, .sl i 0 l.length 1], .vals true [.sl i 0 l.length 1]]) := by
  have h1 := markWhole_v (n := n) (h := h ++ [.vals true [.bool n, .sl i 0 l.length 1, .int .i64 e]]) d (ge_app _ hi) hl hk hk'
  rw [set_app _ _ hi, List.append_assoc] at h1
  rw [vrun_v Tryd.func16 rfl rfl rfl]; simp only [Tryd.f16]
  simp (disch := omega) [go_sem, tab16, h1, List.getElem?_concat_length]
/-! ### as rules that read the heap -/
def mkStep (r : Option (V × VH)) (i m : Nat) (k : Int) (h : VH) (tail : List VO) : Option VO → Option (V × VH)
  | some (.ints true .i64 l) => if l.length = m ∧ l.length < 100000000 ∧ 0 ≤ k ∧ k < 1000000000 then some (.int .i64 (k + m), h.set i (.ints true .i64 (iota k m)) ++ tail) else r
  | _ => r
theorem mkStep_i (r : Option (V × VH)) (i m : Nat) (k : Int) (h : VH) (tail : List VO) (l : List Int) : mkStep r i m k h tail (some (.ints true .i64 l)) = if l.length = m ∧ l.length < 100000000 ∧ 0 ≤ k ∧ k < 1000000000 then some (.int .i64 (k + m), h.set i (.ints true .i64 (iota k m)) ++ tail) else r := rfl
theorem mkStep_of {r : Option (V × VH)} {i m : Nat} {k : Int} {h : VH} {tail : List VO} (hr : ∀ l, h[i]? = some (.ints true .i64 l) → l.length = m → l.length < 100000000 → 0 ≤ k → k < 1000000000 → r = some (.int .i64 (k + m), h.set i (.ints true .i64 (iota k m)) ++ tail)) : r = mkStep r i m k h tail h[i]? := by
  unfold mkStep
  split
  · rename_i l hl
    split
    · rename_i hc
      exact hr l hl hc.1 hc.2.1 hc.2.2.1 hc.2.2.2
    · rfl
  · rfl
noncomputable def xMarkIntS (d i m : Nat) (k : Int) (h : VH) := vrun Tryd.prog kn (d + 1) 78 [.sl i 0 m 1, .int .i64 k] h
noncomputable def xMarkNat (d i m : Nat) (k : Int) (h : VH) := vrun Tryd.prog kn (d + 2) 79 [.agg [.sl i 0 m 1], .int .i64 k] h
noncomputable def xMarkWhole (d : Nat) (n : Bool) (i m : Nat) (k : Int) (h : VH) := vrun Tryd.prog kn (d + 3) 45 [.agg [.bool n, .sl i 0 m 1], .int .i64 k] h
noncomputable def xMarkDy (d : Nat) (n : Bool) (i m : Nat) (e k : Int) (h : VH) := vrun Tryd.prog kn (d + 4) 16 [.agg [.bool n, .sl i 0 m 1, .int .i64 e], .int .i64 k] h
theorem markIntS_s (d i m : Nat) (k : Int) (h : VH) : vrun Tryd.prog kn (d + 1) 78 [.sl i 0 m 1, .int .i64 k] h = mkStep (xMarkIntS d i m k h) i m k h [] h[i]? :=
  mkStep_of (r := xMarkIntS d i m k h) fun l hi hm h1 h2 h3 => by subst hm; rw [List.append_nil]; exact markIntS_v d hi h1 h2 h3
theorem markNat_s (d i m : Nat) (k : Int) (h : VH) : vrun Tryd.prog kn (d + 2) 79 [.agg [.sl i 0 m 1], .int .i64 k] h = mkStep (xMarkNat d i m k h) i m k h [.vals true [.sl i 0 m 1]] h[i]? :=
  mkStep_of (r := xMarkNat d i m k h) fun l hi hm h1 h2 h3 => by subst hm; exact markNat_v d hi h1 h2 h3
theorem markWhole_s (d : Nat) (n : Bool) (i m : Nat) (k : Int) (h : VH) : vrun Tryd.prog kn (d + 3) 45 [.agg [.bool n, .sl i 0 m 1], .int .i64 k] h = mkStep (xMarkWhole d n i m k h) i m k h [.vals true [.bool n, .sl i 0 m 1], .vals true [.sl i 0 m 1]] h[i]? :=
  mkStep_of (r := xMarkWhole d n i m k h) fun l hi hm h1 h2 h3 => by subst hm; exact markWhole_v d hi h1 h2 h3
theorem markDy_s (d : Nat) (n : Bool) (i m : Nat) (e k : Int) (h : VH) : vrun Tryd.prog kn (d + 4) 16 [.agg [.bool n, .sl i 0 m 1, .int .i64 e], .int .i64 k] h = mkStep (xMarkDy d n i m e k h) i m k h [.vals true [.bool n, .sl i 0 m 1, .int .i64 e], .vals true [.bool n, .sl i 0 m 1], .vals true [.sl i 0 m 1]] h[i]? :=
  mkStep_of (r := xMarkDy d n i m e k h) fun l hi hm h1 h2 h3 => by subst hm; exact markDy_v d hi h1 h2 h3
end
section
variable {k : Int} {n : Nat}
def heS (k : Int) (n j : Nat) : VE × VH := ([(0, some (.ints .i64 (iota k n))), (1, some (.int .i64 (k + j))), (5, some (.int .i64 j))], [])
theorem he_r (call : CallV) (hn : n < 100000000) (hk : 0 ≤ k) (hk' : k < 1000000000) {j : Nat} (hj : j < n) : vCode Tryd.prog kn call 87 (loopAt Tryd.f87 0) (heS k n j).1 (heS k n j).2 = some (.norm, heS k n (j + 1)) := by
  have h1 := gt_iota (k := k) hj
  have h2 := iota_len k n
  have h3 : k + j + 1 = k + ((j + 1 : Nat) : Int) := by omega
  rw [round_v]; simp only [loopAt, nthC, bodyC, loops, List.nil_append, List.cons_append, List.append_nil, Tryd.f87, heS, ← h3]
  simp (disch := omega) [go_sem, tab87, h1, h2]
theorem he_x (call : CallV) (hn : n < 100000000) : vCode Tryd.prog kn call 87 (loopAt Tryd.f87 0) (heS k n n).1 (heS k n n).2 = some (.exit 0, (heS k n n).1 ++ [(9, some (.bool false))], (heS k n n).2) := by
  have h2 := iota_len k n
  rw [round_v]; simp only [loopAt, nthC, bodyC, loops, List.nil_append, List.cons_append, List.append_nil, Tryd.f87, heS]
  simp (disch := omega) [go_sem, tab87, h2]
theorem heldIntS_v (d : Nat) (hn : n < 100000000) (hk : 0 ≤ k) (hk' : k < 1000000000) : vrun Tryd.prog kn (d + 1) 87 [.ints .i64 (iota k n), .int .i64 k] [] = some (.int .i64 (k + n), []) := by
  have hl0 := fun ks => loop_v (P := Tryd.prog) (K := kn) (ks := ks) (vi_for (heS k n) n (n := kn.cf.rounds) (by rw [k_cf, c_rounds]; omega) (fun j hj => he_r (vrun Tryd.prog kn d) hn hk hk' hj) fun m => vi_exit (he_x _ hn))
  simp only [loopAt, nthC, bodyC, loops, List.nil_append, List.cons_append, List.append_nil, Tryd.f87, heS, Int.natCast_zero, Int.add_zero, List.cons_append, List.nil_append] at hl0
  rw [vrun_v Tryd.func87 rfl rfl rfl]; simp only [Tryd.f87]
  simp (disch := omega) [go_sem, tab87, hl0]
theorem heldNat_v (d : Nat) (hn : n < 100000000) (hk : 0 ≤ k) (hk' : k < 1000000000) : vrun Tryd.prog kn (d + 2) 80 [.agg [.ints .i64 (iota k n)], .int .i64 k] [] = some (.int .i64 (k + n), []) := by
  have h1 := fun d => heldIntS_v d hn hk hk'
  rw [vrun_v Tryd.func80 rfl rfl rfl]; simp only [Tryd.f80]
  simp (disch := omega) [go_sem, tab80, h1]
theorem heldWhole_v (d : Nat) {b : Bool} (hn : n < 100000000) (hk : 0 ≤ k) (hk' : k < 1000000000) : vrun Tryd.prog kn (d + 3) 46 [.agg [.bool b, .ints .i64 (iota k n)], .int .i64 k] [] = some (.int .i64 (k + n), []) := by
  have h1 := fun d => heldNat_v d hn hk hk'
  rw [vrun_v Tryd.func46 rfl rfl rfl]; simp only [Tryd.f46]
  simp (disch := omega) [go_sem, tab46, h1]
theorem heldDy_v (d : Nat) {b : Bool} {e : Int} (hn : n < 100000000) (hk : 0 ≤ k) (hk' : k < 1000000000) : vrun Tryd.prog kn (d + 4) 17 [.agg [.bool b, .ints .i64 (iota k n), .int .i64 e], .int .i64 k] [] = some (.int .i64 (k + n), []) := by
  have h1 := fun d => heldWhole_v (b := b) d hn hk hk'
  rw [vrun_v Tryd.func17 rfl rfl rfl]; simp only [Tryd.f17]
  simp (disch := omega) [go_sem, tab17, h1]
end
end
/- How large a matrix is, told to the number. No conditions. -/
section
open Num
section
variable {l : List Int} {left e : Int} {n : Bool}
def szR (left : Int) (m : Nat) : Int := if left < m then -1 else left - m
theorem szIntS_e (d : Nat) (hl : l.length ≤ 9223372036854775807) (h0 : 0 ≤ left) (h1 : left ≤ 1048576) : vrun Tryd.prog kn (d + 1) 113 [.ints .i64 l, .int .i64 left] [] = some (.int .i64 (szR left l.length), []) := by
  unfold szR
  by_cases h : left < l.length
  · rw [vrun_v Tryd.func113 rfl rfl rfl]; simp only [Tryd.f113]
    simp (disch := omega) [go_sem, tab113, h]
  · rw [vrun_v Tryd.func113 rfl rfl rfl]; simp only [Tryd.f113]
    simp (disch := omega) [go_sem, tab113, h]
theorem szNat_e (d : Nat) (hl : l.length ≤ 9223372036854775807) (h0 : 0 ≤ left) (h1 : left ≤ 1048576) : vrun Tryd.prog kn (d + 2) 89 [.agg [.ints .i64 l], .int .i64 left] [] = some (.int .i64 (szR left l.length), []) := by
  have hr := fun d => szIntS_e d hl h0 h1
  unfold szR at hr ⊢
  by_cases h : left < l.length
  · simp only [h, if_true] at hr ⊢
    rw [vrun_v Tryd.func89 rfl rfl rfl]; simp only [Tryd.f89]
    simp (disch := omega) [go_sem, tab89, hr]
  · simp only [h, if_false] at hr ⊢
    rw [vrun_v Tryd.func89 rfl rfl rfl]; simp only [Tryd.f89]
    simp (disch := omega) [go_sem, tab89, hr]
theorem szWhole_e (d : Nat) (hl : l.length ≤ 9223372036854775807) (h0 : 0 ≤ left) (h1 : left ≤ 1048576) : vrun Tryd.prog kn (d + 3) 59 [.agg [.bool n, .ints .i64 l], .int .i64 left] [] = some (.int .i64 (szR left l.length), []) := by
  have hr := fun d => szNat_e d hl h0 h1
  unfold szR at hr ⊢
  by_cases h : left < l.length
  · simp only [h, if_true] at hr ⊢
    rw [vrun_v Tryd.func59 rfl rfl rfl]; simp only [Tryd.f59]
    simp (disch := omega) [go_sem, tab59, hr]
  · simp only [h, if_false] at hr ⊢
    rw [vrun_v Tryd.func59 rfl rfl rfl]; simp only [Tryd.f59]
    simp (disch := omega) [go_sem, tab59, hr]
theorem szDy_e (d : Nat) (hl : l.length ≤ 9223372036854775807) (h0 : 0 ≤ left) (h1 : left ≤ 1048576) : vrun Tryd.prog kn (d + 4) 25 [.agg [.bool n, .ints .i64 l, .int .i64 e], .int .i64 left] [] = some (.int .i64 (szR left l.length), []) := by
  have hr := fun d => szWhole_e (n := n) d hl h0 h1
  unfold szR at hr ⊢
  by_cases h : left < l.length
  · simp only [h, if_true] at hr ⊢
    rw [vrun_v Tryd.func25 rfl rfl rfl]; simp only [Tryd.f25]
    simp (disch := omega) [go_sem, tab25, hr]
  · simp only [h, if_false] at hr ⊢
    rw [vrun_v Tryd.func25 rfl rfl rfl]; simp only [Tryd.f25]
    simp (disch := omega) [go_sem, tab25, hr]
end
section
variable {ds : List DyT} {left : Int}
theorem szDyS_w (d : Nat) (hl : ds.length ≤ 9223372036854775807) (hs : ∀ x ∈ ds, x.l.length ≤ 9223372036854775807) (h0 : 0 ≤ left) (h1 : left ≤ 1048576) : ∃ r : Int, vrun Tryd.prog kn (d + 5) 34 [.cells 3 ds.length (flat DyT.v ds), .int .i64 left] [] = some (.int .i64 r, []) ∧ r ≤ left ∧ (0 ≤ r → (wt ds : Int) ≤ 2 * left) := by
  by_cases hlt : left < ds.length
  · refine ⟨-1, ?_, by omega, fun h => by omega⟩
    rw [vrun_v Tryd.func34 rfl rfl rfl]; simp only [Tryd.f34]
    simp (disch := omega) [go_sem, tab34]
  have key := vi_inv (n := kn.cf.rounds) (body := vCode Tryd.prog kn (vrun Tryd.prog kn (d + 4)) 34 (loopAt Tryd.f34 0)) (fun j s => ∃ r : Int, s = szDSS ds r j ∧ 0 ≤ r ∧ r + wt (ds.take j) = left - ds.length + 2 * j ∧ j ≤ ds.length)
    (fun v => (∃ r : Int, v = some (.exit 0, (szDSS ds r ds.length).1 ++ [(15, some (.bool false))], []) ∧ 0 ≤ r ∧ r + wt ds = left + ds.length) ∨ v = some (.ret, [(4, some (.int .i64 (-1)))], [])) ds.length (by rw [k_cf, c_rounds]; omega)
    (fun j s hj hI => by
      obtain ⟨r, rfl, hr0, hr1, hI⟩ := hI
      have hget : ds[j]? = some ds[j] := List.getElem?_eq_getElem hj
      have hlen := hs _ (List.getElem_mem hj)
      have hsub : ((flat DyT.v ds).drop (j * 3)).take 3 = [.bool ds[j].neg, .ints .i64 ds[j].l, .int .i64 ds[j].e] := flat_sub DyT.len ds j _ hget
      have hwt : wt (ds.take (j + 1)) = wt (ds.take j) + (ds[j].l.length + 2) := by
        rw [List.take_add_one, hget, wt_app]; simp [wt]
      have hwm : (ds.take j).length * 2 ≤ wt (ds.take j) := by
        generalize ds.take j = L
        induction L with
        | nil => simp
        | cons x L ih => rw [wt, List.length_cons]; omega
      rw [List.length_take] at hwm
      generalize ds[j] = x at *
      have hr' := szDy_e (n := x.neg) (e := x.e) (left := r) d hlen hr0 (by omega)
      unfold szR at hr'
      by_cases h : r < x.l.length
      · right; intro m; right
        rw [if_pos h] at hr'
        refine vi_ret ?_
        rw [round_v]; simp only [loopAt, nthC, bodyC, loops, List.nil_append, List.cons_append, List.append_nil, Tryd.f34, szDSS]
        simp (disch := omega) [go_sem, tab34, hsub, hr']
      · left
        rw [if_neg h] at hr'
        refine ⟨szDSS ds (r - x.l.length) (j + 1), ?_, _, rfl, by omega, by rw [hwt]; omega, hj⟩
        rw [round_v]; simp only [loopAt, nthC, bodyC, loops, List.nil_append, List.cons_append, List.append_nil, Tryd.f34, szDSS]
        simp (disch := omega) [go_sem, tab34, hsub, hr'])
    (fun s hI m => by
      obtain ⟨r, rfl, hr0, hr1, hI⟩ := hI
      left
      rw [List.take_length] at hr1
      refine ⟨r, vi_exit ?_, hr0, by omega⟩
      rw [round_v]; simp only [loopAt, nthC, bodyC, loops, List.nil_append, List.cons_append, List.append_nil, Tryd.f34, szDSS]
      simp (disch := omega) [go_sem, tab34])
    (szDSS ds (left - ds.length) 0) ⟨_, rfl, by omega, by simp [wt], by omega⟩
  rcases key with ⟨r, hv, h2, h3⟩ | hv
  · have hl0 := fun ks => loop_v (P := Tryd.prog) (K := kn) (ks := ks) hv
    simp only [loopAt, nthC, bodyC, loops, List.nil_append, List.cons_append, List.append_nil, Tryd.f34, szDSS, Int.natCast_zero, List.cons_append, List.nil_append] at hl0
    have hwm : ds.length * 2 ≤ wt ds := by
      clear hl0 hv h3 hlt hl hs
      induction ds with
      | nil => simp
      | cons x L ih => rw [wt, List.length_cons]; omega
    refine ⟨r, ?_, by omega, fun _ => by omega⟩
    rw [vrun_v Tryd.func34 rfl rfl rfl]; simp only [Tryd.f34]
    simp (disch := omega) [go_sem, tab34, hl0]
  · have hl0 := fun ks => loop_v (P := Tryd.prog) (K := kn) (ks := ks) hv
    simp only [loopAt, nthC, bodyC, loops, List.nil_append, List.cons_append, List.append_nil, Tryd.f34, szDSS, Int.natCast_zero, List.cons_append, List.nil_append] at hl0
    refine ⟨-1, ?_, by omega, fun _ => by omega⟩
    rw [vrun_v Tryd.func34 rfl rfl rfl]; simp only [Tryd.f34]
    simp (disch := omega) [go_sem, tab34, hl0]
theorem wt_facts : ∀ {ds : List DyT} {m : Nat}, wt ds ≤ m → ds.length ≤ m ∧ ∀ x ∈ ds, x.l.length ≤ m
  | [], m, _ => ⟨by simp, fun _ h => by simp at h⟩
  | x :: r, m, h => by
    rw [wt] at h
    obtain ⟨h1, h2⟩ := wt_facts (ds := r) (m := m - (x.l.length + 2)) (by omega)
    refine ⟨by rw [List.length_cons]; omega, fun y hy => ?_⟩
    rcases List.mem_cons.1 hy with rfl | hy
    · omega
    · have := h2 y hy; omega
theorem szMat_w (d : Nat) {N : Int} (hl : ds.length ≤ 9223372036854775807) (hs : ∀ x ∈ ds, x.l.length ≤ 9223372036854775807) (h0 : 0 ≤ left) (h1 : left ≤ 1048576) : ∃ r : Int, vrun Tryd.prog kn (d + 6) 9 [.agg [.int .i64 N, .cells 3 ds.length (flat DyT.v ds)], .int .i64 left] [] = some (.int .i64 r, []) ∧ r ≤ left ∧ (0 ≤ r → (wt ds : Int) ≤ 2 * left) := by
  obtain ⟨r, hr, h2, h3⟩ := szDyS_w d hl hs h0 h1
  by_cases h : r < 0
  · refine ⟨-1, ?_, by omega, fun h => by omega⟩
    rw [vrun_v Tryd.func9 rfl rfl rfl]; simp only [Tryd.f9]
    simp (disch := omega) [go_sem, tab9, hr]
  · refine ⟨r, ?_, by omega, h3⟩
    rw [vrun_v Tryd.func9 rfl rfl rfl]; simp only [Tryd.f9]
    simp (disch := omega) [go_sem, tab9, hr]
end
end
/- MatOk: program, reference, law. No conditions. -/
section
open Num
section
variable {ds : List DyT} {N : Int}
def matOkB (N : Int) (ds : List DyT) : Bool := decide (1 ≤ N) && decide (N ≤ 4) && decide (ds.length = N * N) && ds.all dyOkB
theorem MatOk_v (d : Nat) (hl : ds.length < 100000000) (hs : ∀ x ∈ ds, x.sz) : vrun Tryd.prog kn (d + 15) 54 [.agg [.int .i64 N, .cells 3 ds.length (flat DyT.v ds)]] [] = some (.bool (matOkB N ds), []) := by
  have h1 := fun d => areDys_v d hl hs
  have h2 := fun d => within_v d N 1 4
  unfold matOkB
  by_cases h : 1 ≤ N ∧ N ≤ 4
  · have e : N = 1 ∨ N = 2 ∨ N = 3 ∨ N = 4 := by omega
    by_cases hq : (ds.length : Int) = N * N
    · rcases e with rfl | rfl | rfl | rfl <;> simp at hq h2
      all_goals
        rw [vrun_v Tryd.func54 rfl rfl rfl]; simp only [Tryd.f54]
        simp (disch := omega) [go_sem, tab54, h1, h2, hq]
    · rcases e with rfl | rfl | rfl | rfl <;> simp at hq h2
      all_goals
        rw [vrun_v Tryd.func54 rfl rfl rfl]; simp only [Tryd.f54]
        simp (disch := omega) [go_sem, tab54, h1, h2, hq]
  · have hb : (decide (1 ≤ N) && decide (N ≤ 4)) = false := by simp; omega
    rw [hb] at h2 ⊢
    rw [vrun_v Tryd.func54 rfl rfl rfl]; simp only [Tryd.f54]
    simp (disch := omega) [go_sem, tab54, h2]
def sMOS (N : Int) (ds : List DyT) (j : Nat) : VE × VH := ([(1, some (.ptr 0 0)), (3, some (.int .i64 j))], [.vals true [.int .i64 N, .cells 3 ds.length (flat DyT.v ds)]])
theorem sMatOk_v (d : Nat) (hl : ds.length < 100000000) (hs : ∀ x ∈ ds, x.sz) : vrun Tryd.prog kn (d + 4) 35 [.agg [.int .i64 N, .cells 3 ds.length (flat DyT.v ds)]] [] = some (.bool (matOkB N ds), []) := by
  unfold matOkB
  by_cases h : ¬ (1 ≤ N ∧ N ≤ 4)
  · have hb : (decide (1 ≤ N) && decide (N ≤ 4)) = false := by simp; omega
    rw [hb]
    by_cases h1 : N < 1
    · rw [vrun_v Tryd.func35 rfl rfl rfl]; simp only [Tryd.f35]
      simp (disch := omega) [go_sem, tab35, h1]
    · rw [vrun_v Tryd.func35 rfl rfl rfl]; simp only [Tryd.f35]
      simp (disch := omega) [go_sem, tab35, h1]
  rw [Decidable.not_not] at h
  have hb : (decide (1 ≤ N) && decide (N ≤ 4)) = true := by simp; omega
  rw [hb]
  have e : N = 1 ∨ N = 2 ∨ N = 3 ∨ N = 4 := by omega
  have key := vi_inv (n := kn.cf.rounds) (body := vCode Tryd.prog kn (vrun Tryd.prog kn (d + 3)) 35 (loopAt Tryd.f35 0)) (fun j s => s = sMOS N ds j ∧ (ds.take j).all dyOkB = true)
    (fun r => (r = some (.exit 0, (sMOS N ds ds.length).1 ++ [(27, some (.bool false))], (sMOS N ds ds.length).2) ∧ ds.all dyOkB = true) ∨ (r = some (.ret, [(2, some (.bool false))], []) ∧ ds.all dyOkB = false)) ds.length (by rw [k_cf, c_rounds]; omega)
    (fun j s hj hI => by
      obtain ⟨rfl, hI⟩ := hI
      have hget : ds[j]? = some ds[j] := List.getElem?_eq_getElem hj
      have hmem : ds[j] ∈ ds := List.getElem_mem hj
      have hsub : ((flat DyT.v ds).drop (j * 3)).take 3 = [.bool ds[j].neg, .ints .i64 ds[j].l, .int .i64 ds[j].e] := flat_sub DyT.len ds j _ hget
      have hsz := hs _ hmem
      generalize ds[j] = x at *
      unfold DyT.sz at hsz
      have h1 := sDyOk_v d x.neg (l := x.l) x.e (by omega)
      rw [show (⟨x.neg, x.l, x.e⟩ : DyT) = x from rfl] at h1
      cases hq : dyOkB x with
      | true =>
        left
        rw [hq] at h1
        refine ⟨sMOS N ds (j + 1), ?_, rfl, ?_⟩
        · rw [round_v]; simp only [loopAt, nthC, bodyC, loops, List.nil_append, List.cons_append, List.append_nil, Tryd.f35, sMOS]
          simp (disch := omega) [go_sem, tab35, hsub, h1]
        · rw [List.take_add_one, hget, List.all_append, hI]; simp [hq]
      | false =>
        right; intro m; right
        rw [hq] at h1
        refine ⟨vi_ret ?_, by
          cases hz : ds.all dyOkB with
          | false => rfl
          | true => rw [List.all_eq_true] at hz; rw [hz _ hmem] at hq; cases hq⟩
        rw [round_v]; simp only [loopAt, nthC, bodyC, loops, List.nil_append, List.cons_append, List.append_nil, Tryd.f35, sMOS]
        simp (disch := omega) [go_sem, tab35, hsub, h1])
    (fun s hI m => by
      obtain ⟨rfl, hI⟩ := hI
      left
      refine ⟨vi_exit ?_, by rwa [List.take_length] at hI⟩
      rw [round_v]; simp only [loopAt, nthC, bodyC, loops, List.nil_append, List.cons_append, List.append_nil, Tryd.f35, sMOS]
      simp (disch := omega) [go_sem, tab35])
    (sMOS N ds 0) ⟨rfl, by simp⟩
  by_cases hq : (ds.length : Int) = N * N
  · rcases key with ⟨hv, ha⟩ | ⟨hv, ha⟩ <;> rw [ha]
    all_goals
      have hl0 := fun ks => loop_v (P := Tryd.prog) (K := kn) (ks := ks) hv
      clear hv
      simp only [loopAt, nthC, bodyC, loops, List.nil_append, List.cons_append, List.append_nil, Tryd.f35, sMOS, Int.natCast_zero, List.cons_append, List.nil_append] at hl0
      rcases e with rfl | rfl | rfl | rfl <;> simp at hq
      all_goals
        simp only [hq] at hl0 ⊢
        rw [vrun_v Tryd.func35 rfl rfl rfl]; simp only [Tryd.f35]
        simp (disch := omega) [go_sem, tab35, hl0]
  · clear key
    rcases e with rfl | rfl | rfl | rfl <;> simp at hq
    all_goals
      rw [vrun_v Tryd.func35 rfl rfl rfl]; simp only [Tryd.f35]
      simp (disch := omega) [go_sem, tab35, hq]
end
end
/- The exact laws copy lists of dyadics into memory of their own, write marks into them, and look whether the marks stand. No conditions. -/
section
open Num
theorem vreps_len (cs : List V) : ∀ n, (vreps n cs).length = n * cs.length
  | 0 => by simp [vreps]
  | n + 1 => by rw [r_repn, List.length_append, vreps_len cs n, Nat.add_mul]; omega
section
variable {ds : List DyT}
def tdL (ds : List DyT) (j : Nat) : VH := (ds.take j).map fun x => VO.ints true .i64 x.l
theorem tdL_len {j : Nat} (hj : j ≤ ds.length) : (tdL ds j).length = j := by unfold tdL; simp; omega
theorem tdL_succ {j : Nat} {x : DyT} (hx : ds[j]? = some x) : tdL ds (j + 1) = tdL ds j ++ [.ints true .i64 x.l] := by
  unfold tdL; rw [List.take_add_one, hx, List.map_append]; rfl
def tdC (ds : List DyT) (j : Nat) : List V := cellsP (fun q => q + 1) 0 (ds.take j) ++ vreps (ds.length - j) [.bool false, .nil, .int .i64 0]
theorem tdC_len {j : Nat} (hj : j ≤ ds.length) : (tdC ds j).length = ds.length * 3 := by
  unfold tdC; rw [List.length_append, cellsP_len, vreps_len, List.length_take, Nat.min_eq_left hj]; simp; omega
theorem tdC_set {j : Nat} {x : DyT} (hx : ds[j]? = some x) : (((tdC ds j).set (j * 3) (.bool x.neg)).set (j * 3 + 1) (.sl (j + 1) 0 x.l.length 1)).set (j * 3 + 2) (.int .i64 x.e) = tdC ds (j + 1) := by
  have hj := (List.getElem?_eq_some_iff.1 hx).1
  have hA : (cellsP (fun q => q + 1) 0 (ds.take j)).length = j * 3 := by rw [cellsP_len, List.length_take, Nat.min_eq_left (by omega)]
  unfold tdC
  rw [List.take_add_one, hx, cellsP_app, List.length_take, Nat.min_eq_left (by omega), show ds.length - j = (ds.length - (j + 1)) + 1 by omega, r_repn]
  generalize cellsP (fun q => q + 1) 0 (ds.take j) = A at *
  generalize vreps (ds.length - (j + 1)) _ = Z
  rw [List.set_append_right _ _ (by omega), List.set_append_right _ _ (by omega), List.set_append_right _ _ (by omega), hA, show j * 3 - j * 3 = 0 by omega, show j * 3 + 1 - j * 3 = 1 by omega, show j * 3 + 2 - j * 3 = 2 by omega]
  simp [cellsP]
def tdS (ds : List DyT) (j : Nat) : VE × VH := ([(0, some (.cells 3 ds.length (flat DyT.v ds))), (3, some (.sl 0 0 ds.length 3)), (4, some (.int .i64 j))], .vals true (tdC ds j) :: tdL ds j)
theorem td_r (d : Nat) (hl : ds.length < 100000000) (hs : ∀ x ∈ ds, x.l.length < 100000000) {j : Nat} (hj : j < ds.length) : vCode Tryd.prog kn (vrun Tryd.prog kn (d + 4)) 37 (loopAt Tryd.f37 0) (tdS ds j).1 (tdS ds j).2 = some (.norm, tdS ds (j + 1)) := by
  have hget : ds[j]? = some ds[j] := List.getElem?_eq_getElem hj
  have hlen := hs _ (List.getElem_mem hj)
  have hsub : ((flat DyT.v ds).drop (j * 3)).take 3 = [.bool ds[j].neg, .ints .i64 ds[j].l, .int .i64 ds[j].e] := flat_sub DyT.len ds j _ hget
  have hC := tdC_len (ds := ds) (Nat.le_of_lt hj)
  have hL := tdL_len (ds := ds) (Nat.le_of_lt hj)
  have hset := tdC_set hget
  have hLs := tdL_succ hget
  generalize ds[j] = x at *
  have h1 := toDy_v (n := x.neg) (e := x.e) d (l := x.l) (by omega)
  rw [round_v]; simp only [loopAt, nthC, bodyC, loops, List.nil_append, List.cons_append, List.append_nil, Tryd.f37, tdS, hLs, ← hset]
  generalize tdC ds j = C at *
  generalize tdL ds j = L at *
  simp (implicitDefEqProofs := false) (disch := omega) [go_sem, tab37, nil37, hsub, h1, hC, hL]
theorem td_x (call : CallV) (hl : ds.length < 100000000) : vCode Tryd.prog kn call 37 (loopAt Tryd.f37 0) (tdS ds ds.length).1 (tdS ds ds.length).2 = some (.exit 0, (tdS ds ds.length).1 ++ [(11, some (.bool false))], (tdS ds ds.length).2) := by
  rw [round_v]; simp only [loopAt, nthC, bodyC, loops, List.nil_append, List.cons_append, List.append_nil, Tryd.f37, tdS]
  simp (implicitDefEqProofs := false) (disch := omega) [go_sem, tab37, nil37]
theorem td_0 : tdC ds 0 = vreps ds.length [.bool false, .nil, .int .i64 0] := by unfold tdC; simp [cellsP]
theorem td_end : VO.vals true (tdC ds ds.length) :: tdL ds ds.length = mblk 0 ds := by
  unfold tdC tdL mblk
  rw [List.take_length, Nat.sub_self, r_repz, List.append_nil]
  congr 3; funext j; omega
theorem toDyS_v (d : Nat) (hl : ds.length < 100000000) (hs : ∀ x ∈ ds, x.l.length < 100000000) : vrun Tryd.prog kn (d + 5) 37 [.cells 3 ds.length (flat DyT.v ds)] [] = some (.sl 0 0 ds.length 3, mblk 0 ds) := by
  have hl0 := fun ks => loop_v (P := Tryd.prog) (K := kn) (ks := ks) (vi_for (tdS ds) ds.length (n := kn.cf.rounds) (by rw [k_cf, c_rounds]; omega) (fun j hj => td_r d hl hs hj) fun m => vi_exit (td_x _ hl))
  simp only [loopAt, nthC, bodyC, loops, List.nil_append, List.cons_append, List.append_nil, Tryd.f37, tdS, Int.natCast_zero, List.cons_append, List.nil_append, td_0] at hl0
  rw [← td_end]
  have hC := tdC_len (ds := ds) (Nat.le_refl _)
  have hz := vreps_len [.bool false, .nil, .int .i64 0] ds.length
  simp only [List.length_cons, List.length_nil, Nat.zero_add, Nat.reduceAdd] at hz
  have e0 : tdL ds 0 = [] := rfl
  rw [e0] at hl0
  clear e0
  generalize tdC ds ds.length = C at *
  generalize tdL ds ds.length = L at *
  rw [vrun_v Tryd.func37 rfl rfl rfl]; simp only [Tryd.f37]
  simp (implicitDefEqProofs := false) (disch := omega) [go_sem, tab37, nil37, hl0, hC, hz]
theorem toMat_v (d : Nat) {N : Int} (hl : ds.length < 100000000) (hs : ∀ x ∈ ds, x.l.length < 100000000) : vrun Tryd.prog kn (d + 6) 11 [.agg [.int .i64 N, .cells 3 ds.length (flat DyT.v ds)]] [] = some (.agg [.int .i64 N, .sl 3 0 ds.length 3], [.vals true [.int .i64 N, .cells 3 ds.length (flat DyT.v ds)], .vals true [.int .i64 N, .sl 3 0 ds.length 3], .vals true [.int .i64 N, .sl 3 0 ds.length 3]] ++ mblk 3 ds) := by
  have h1 := fun d => toDyS_v d hl hs
  have h2 := fun n => pl_sh (n := n) (pl_mblk 0 ds)
  simp only [sh_mblk, Nat.add_zero] at h2
  have h3 := nf_mblk 0 ds
  generalize mblk 0 ds = M at *
  generalize flat DyT.v ds = F at *
  rw [vrun_v Tryd.func11 rfl rfl rfl]; simp only [Tryd.f11]
  simp (implicitDefEqProofs := false) (disch := omega) [go_sem, tab11, h1, h2, h3]
end
section
variable {h : VH} {i lo hi : Nat} {p : Nat → Nat} {ds : List DyT} {k : Int}
def mkDS (i n : Nat) (kj : Int) (j : Nat) : VE := [(0, some (.sl i 0 n 3)), (1, some (.int .i64 kj)), (5, some (.int .i64 j))]
theorem markDyS_v (d : Nat) (a : HM lo hi h i p ds) (hl : ds.length < 10000000) (hs : ∀ x ∈ ds, x.l.length < 10000000) (hk : 0 ≤ k) (hw : k + wt ds < 100000000) :
    ∃ g, vrun Tryd.prog kn (d + 2) 44 [.sl i 0 ds.length 3, .int .i64 k] h = some (.int .i64 (mkE ds k), g) ∧ HM lo hi g i p (mkds ds k) ∧ g.length = h.length ∧ ∀ q, q < lo ∨ hi ≤ q → g[q]? = h[q]? := by
  have key := vi_inv (n := kn.cf.rounds) (body := vCode Tryd.prog kn (vrun Tryd.prog kn (d + 1)) 44 (loopAt Tryd.f44 0))
    (fun j s => ∃ g, s = (mkDS i ds.length (mkE (ds.take j) k) j, g) ∧ HM lo hi g i p (mkds (ds.take j) k ++ ds.drop j) ∧ g.length = h.length ∧ ∀ q, q < lo ∨ hi ≤ q → g[q]? = h[q]?)
    (fun r => ∃ g, r = some (.exit 0, mkDS i ds.length (mkE ds k) ds.length ++ [(9, some (.bool false))], g) ∧ HM lo hi g i p (mkds ds k) ∧ g.length = h.length ∧ ∀ q, q < lo ∨ hi ≤ q → g[q]? = h[q]?) ds.length (by rw [k_cf, c_rounds]; omega)
    (fun j s hj hI => by
      obtain ⟨g, rfl, b, hgl, hfr⟩ := hI
      left
      have hget : ds[j]? = some ds[j] := List.getElem?_eq_getElem hj
      have hlen := hs _ (List.getElem_mem hj)
      have hwj := wt_take (ds := ds) (j + 1)
      have hkj := mkE_wt (ds.take j) k
      rw [List.take_add_one, hget, wt_app] at hwj
      simp only [Option.toList_some, wt] at hwj
      rw [List.drop_eq_getElem_cons hj] at b
      have hA : (mkds (ds.take j) k).length = j := by rw [mkds_len, List.length_take]; omega
      have e1 : mkE (ds.take (j + 1)) k = mkE (ds.take j) k + 1 + ds[j].l.length + 1 := by
        rw [List.take_add_one, hget, mkE_app]; rfl
      have e2 : mkds (ds.take (j + 1)) k = mkds (ds.take j) k ++ [mkO1 ds[j] (mkE (ds.take j) k)] := by
        rw [List.take_add_one, hget, mkds_app]; rfl
      rw [e1, e2]
      generalize mkds (ds.take j) k = A at *
      generalize mkE (ds.take j) k = kj at *
      generalize ds.drop (j + 1) = R at *
      generalize ds[j] = x at *
      have st := b.step (y := mkO1 x kj) (iota_len _ _)
      refine ⟨(mkDS i ds.length (kj + 1 + x.l.length + 1) (j + 1), stp g i p A x (mkO1 x kj) R), ?_, _, rfl, by rw [List.append_assoc]; exact st, by rw [stp_len]; exact hgl, fun q hq => by rw [b.stp_frame hq]; exact hfr q hq⟩
      have hc := b.c
      rw [cellsP_app, cellsP, Nat.zero_add, hA] at hc
      have hpj := b.e j x (by rw [List.getElem?_append_right (by omega), hA, Nat.sub_self]; rfl)
      have hne : p j ≠ i := b.ne (by simp; omega)
      have hCA : (cellsP p 0 A).length = j * 3 := by rw [cellsP_len, hA]
      have hpl := (List.getElem?_eq_some_iff.1 hpj).1
      have hil := (List.getElem?_eq_some_iff.1 hc).1
      unfold stp mkO1
      simp only
      rw [cellsP_app, cellsP, Nat.zero_add, hA]
      simp only [iota_len]
      generalize cellsP p 0 A = C at *
      generalize cellsP p (j + 1) R = Z at *
      have m1 := fun X => markIntS_v (h := g.set i X) (i := p j) (l := x.l) (k := kj + 1) d (by rw [List.getElem?_set_ne (Ne.symm hne)]; exact hpj) (by omega) (by omega) (by omega)
      have s0 : ∀ (u v : V) (r : List V), (C ++ u :: r).set (j * 3) v = C ++ v :: r := fun u v r => by rw [List.set_append_right _ _ (by omega), hCA, Nat.sub_self]; rfl
      have s2 : ∀ (u w y v : V) (r : List V), (C ++ u :: w :: y :: r).set (j * 3 + 2) v = C ++ u :: w :: v :: r := fun u w y v r => by rw [List.set_append_right _ _ (by omega), hCA, show j * 3 + 2 - j * 3 = 2 by omega]; rfl
      have g1 : ∀ (u w : V) (r : List V), (C ++ u :: w :: r)[j * 3 + 1]? = some w := fun u w r => by rw [List.getElem?_append_right (by omega), hCA, show j * 3 + 1 - j * 3 = 1 by omega]; rfl
      have gx : ∀ X, (g.set i X)[i]? = some X := fun X => by simp [hil]
      have gy : ∀ X Y, ((g.set i X).set (p j) Y)[i]? = some X := fun X Y => by rw [List.getElem?_set_ne hne]; exact gx X
      have gn : (C ++ V.bool x.neg :: .sl (p j) 0 x.l.length 1 :: .int .i64 x.e :: Z).length = j * 3 + (3 + Z.length) := by simp [hCA]; omega
      clear hil hpl st b hfr
      rw [round_v]; simp only [loopAt, nthC, bodyC, loops, List.nil_append, List.cons_append, List.append_nil, Tryd.f44, mkDS]
      simp (implicitDefEqProofs := false) (disch := omega) [go_sem, tab44, hc, hpj, m1, s0, s2, g1, gx, gy, gn, hCA])
    (fun s hI m => by
      obtain ⟨g, rfl, b, hgl, hfr⟩ := hI
      rw [List.take_length, List.drop_length, List.append_nil] at b
      refine ⟨g, vi_exit ?_, b, hgl, hfr⟩
      rw [List.take_length]
      clear b hfr
      rw [round_v]; simp only [loopAt, nthC, bodyC, loops, List.nil_append, List.cons_append, List.append_nil, Tryd.f44, mkDS]
      simp (implicitDefEqProofs := false) (disch := omega) [go_sem, tab44])
    (mkDS i ds.length k 0, h) ⟨h, rfl, by simpa [mkds] using a, rfl, fun _ _ => rfl⟩
  obtain ⟨g, hv, b, hgl, hfr⟩ := key
  have hl0 := fun ks => loop_v (P := Tryd.prog) (K := kn) (ks := ks) hv
  simp only [loopAt, nthC, bodyC, loops, List.nil_append, List.cons_append, List.append_nil, Tryd.f44, mkDS, Int.natCast_zero, List.cons_append, List.nil_append] at hl0
  refine ⟨g, ?_, b, hgl, hfr⟩
  clear hv b hfr a
  rw [vrun_v Tryd.func44 rfl rfl rfl]; simp only [Tryd.f44]
  simp (implicitDefEqProofs := false) (disch := omega) [go_sem, tab44, hl0]
end
section
variable {ds : List DyT} {k : Int}
def hdS (ds : List DyT) (k : Int) (j : Nat) : VE × VH := ([(0, some (.cells 3 ds.length (flat DyT.v (mkds ds k)))), (1, some (.int .i64 (mkE (ds.take j) k))), (5, some (.int .i64 j))], [])
theorem mkds_at : ∀ {ds : List DyT} {k : Int} {j : Nat} {x : DyT}, ds[j]? = some x → (mkds ds k)[j]? = some (mkO1 x (mkE (ds.take j) k))
  | y :: r, k, 0, x, h => by
    simp only [List.getElem?_cons_zero, Option.some.injEq] at h
    subst h; rfl
  | y :: r, k, j + 1, x, h => by
    rw [List.getElem?_cons_succ] at h
    rw [mkds, List.getElem?_cons_succ, mkds_at h]; rfl
theorem heldDyS_v (d : Nat) (hl : ds.length < 10000000) (hs : ∀ x ∈ ds, x.l.length < 10000000) (hk : 0 ≤ k) (hw : k + wt ds < 100000000) : vrun Tryd.prog kn (d + 2) 51 [.cells 3 ds.length (flat DyT.v (mkds ds k)), .int .i64 k] [] = some (.int .i64 (mkE ds k), []) := by
  have hr : ∀ j, j < ds.length → vCode Tryd.prog kn (vrun Tryd.prog kn (d + 1)) 51 (loopAt Tryd.f51 0) (hdS ds k j).1 (hdS ds k j).2 = some (.norm, hdS ds k (j + 1)) := fun j hj => by
    have hget : ds[j]? = some ds[j] := List.getElem?_eq_getElem hj
    have hlen := hs _ (List.getElem_mem hj)
    have hwj := wt_take (ds := ds) (j + 1)
    have hkj := mkE_wt (ds.take j) k
    rw [List.take_add_one, hget, wt_app] at hwj
    simp only [Option.toList_some, wt] at hwj
    have e1 : mkE (ds.take (j + 1)) k = mkE (ds.take j) k + 1 + ds[j].l.length + 1 := by
      rw [List.take_add_one, hget, mkE_app]; rfl
    have hsub := flat_sub DyT.len (mkds ds k) j _ (mkds_at hget)
    unfold hdS
    rw [e1]
    generalize flat DyT.v (mkds ds k) = F at *
    generalize mkE (ds.take j) k = kj at *
    generalize ds[j] = x at *
    unfold mkO1 DyT.v at hsub
    simp only at hsub
    have h1 := heldIntS_v (k := kj + 1) (n := x.l.length) d (by omega) (by omega) (by omega)
    rw [round_v]; simp only [loopAt, nthC, bodyC, loops, List.nil_append, List.cons_append, List.append_nil, Tryd.f51]
    by_cases hz : kj % 3 = 0
    all_goals
      simp only [hz, decide_true, decide_false] at hsub
      simp (implicitDefEqProofs := false) (disch := omega) [go_sem, tab51, hsub, h1, hz]
  have hx : ∀ call, vCode Tryd.prog kn call 51 (loopAt Tryd.f51 0) (hdS ds k ds.length).1 (hdS ds k ds.length).2 = some (.exit 0, (hdS ds k ds.length).1 ++ [(9, some (.bool false))], (hdS ds k ds.length).2) := fun call => by
    rw [round_v]; simp only [loopAt, nthC, bodyC, loops, List.nil_append, List.cons_append, List.append_nil, Tryd.f51, hdS]
    simp (implicitDefEqProofs := false) (disch := omega) [go_sem, tab51]
  have hl0 := fun ks => loop_v (P := Tryd.prog) (K := kn) (ks := ks) (vi_for (hdS ds k) ds.length (n := kn.cf.rounds) (by rw [k_cf, c_rounds]; omega) hr fun m => vi_exit (hx _))
  simp only [loopAt, nthC, bodyC, loops, List.nil_append, List.cons_append, List.append_nil, Tryd.f51, hdS, Int.natCast_zero, List.cons_append, List.nil_append, List.take_zero, List.take_length, mkE] at hl0
  generalize flat DyT.v (mkds ds k) = F at *
  rw [vrun_v Tryd.func51 rfl rfl rfl]; simp only [Tryd.f51]
  simp (implicitDefEqProofs := false) (disch := omega) [go_sem, tab51, hl0]
end
end
/- The exact laws copy, mark and look at matrices that lie in memory of their own, as calls. No conditions. -/
section
open Num
section
variable {ds : List DyT} {N : Int} {h : VH} {i lo hi : Nat} {p : Nat → Nat} {k : Int}
/-- What is kept of a heap. -/
def Sub (h g : VH) : Prop := h.length ≤ g.length ∧ ∀ (q : Nat) (o : VO), h[q]? = some o → g[q]? = some o
theorem Sub.app (h a : VH) : Sub h (h ++ a) := ⟨by simp, fun q o hq => by rw [List.getElem?_append_left (List.getElem?_eq_some_iff.1 hq).1]; exact hq⟩
theorem HM.sub {g : VH} (a : HM lo hi h i p ds) (s : Sub h g) : HM lo hi g i p ds :=
  ⟨s.2 _ _ a.c, fun j x hx => s.2 _ _ (a.e j x hx), a.inj, a.li, a.lp⟩
theorem HM.app (a : HM lo hi h i p ds) (t : VH) : HM lo hi (h ++ t) i p ds := a.sub (Sub.app h t)
theorem HM.frzM (a : HM lo hi h i p ds) (m : Nat) : vfrz h (m + 3) (.agg [.int .i64 N, .sl i 0 ds.length 3]) = some (.agg [.int .i64 N, .cells 3 ds.length (flat DyT.v ds)]) := by
  have h1 := a.frz (n := ds.length) (sz := 3) (m := m) rfl
  rw [r_fag, r_oC, r_fint, r_oC, h1]; rfl
theorem HM.trcM (a : HM lo hi h i p ds) {m q : Nat} (hq : q ∈ vtrc h (m + 3) (.agg [.int .i64 N, .sl i 0 ds.length 3])) : lo ≤ q ∧ q < hi := by
  rw [r_tra] at hq
  simp only [List.flatMap_cons, List.flatMap_nil, List.append_nil] at hq
  rcases List.mem_append.1 hq with h1 | h1
  · rw [r_tri] at h1; cases h1
  · exact a.trc (n := ds.length) (sz := 3) rfl h1
theorem toMat_c (d : Nat) (h : VH) (N : Int) (hl : ds.length < 100000000) (hs : ∀ x ∈ ds, x.l.length < 100000000) : ∃ (G : VH) (i : Nat) (p : Nat → Nat), vcallF kn (vrun Tryd.prog kn (d + 6)) h 11 (some [.agg [.int .i64 N, .cells 3 ds.length (flat DyT.v ds)]]) = some (.agg [.int .i64 N, .sl i 0 ds.length 3], G) ∧ HM h.length G.length G i p ds ∧ Sub h G := by
  have h1 := toMat_v d (N := N) hl hs
  have hpl : ([.vals true [.int .i64 N, .cells 3 ds.length (flat DyT.v ds)], .vals true [.int .i64 N, .sl 3 0 ds.length 3], .vals true [.int .i64 N, .sl 3 0 ds.length 3]] ++ mblk 3 ds : VH).all plO = true := by
    rw [List.all_append, pl_mblk]; rfl
  have hc := callF_land (K := kn) (call := vrun Tryd.prog kn (d + 6)) (h := h) (args := [.agg [.int .i64 N, .cells 3 ds.length (flat DyT.v ds)]]) (fa := [.agg [.int .i64 N, .cells 3 ds.length (flat DyT.v ds)]]) (g := 11) (r' := .agg [.int .i64 N, .sl (h.length + 3) 0 ds.length 3]) c_pure11 rfl (by simp [go_sem]) (by simpa [go_sem] using h1) (by simp [go_sem]) hpl (by simp [go_sem])
  refine ⟨_, h.length + 3, fun j => h.length + (3 + 1 + j), hc, ?_, Sub.app _ _⟩
  have hm : HM 0 (ds.length + 4) ([.vals true [.int .i64 N, .cells 3 ds.length (flat DyT.v ds)], .vals true [.int .i64 N, .sl 3 0 ds.length 3], .vals true [.int .i64 N, .sl 3 0 ds.length 3]] ++ mblk 3 ds) 3 (fun j => 3 + 1 + j) ds := by
    refine ⟨rfl, fun j x hx => ?_, fun j k _ _ h => by omega, by omega, fun j hj => by omega⟩
    rw [List.getElem?_append_right (by simp; omega)]
    unfold mblk
    rw [show 3 + 1 + j - _ = j + 1 by simp; omega, List.getElem?_cons_succ, List.getElem?_map, hx]; rfl
  have hlen : ([.vals true [.int .i64 N, .cells 3 ds.length (flat DyT.v ds)], .vals true [.int .i64 N, .sl 3 0 ds.length 3], .vals true [.int .i64 N, .sl 3 0 ds.length 3]] ++ mblk 3 ds : VH).length = ds.length + 4 := by
    rw [List.length_append, mblk_len]; simp; omega
  rw [← hlen] at hm
  exact (Own.mk hm hpl).land h
theorem markMat_c (d : Nat) (a : HM lo hi h i p ds) (hl : ds.length < 10000000) (hs : ∀ x ∈ ds, x.l.length < 10000000) (hk : 0 ≤ k) (hw : k + wt ds < 100000000) (hh : hi ≤ h.length) :
    ∃ g, vcallF kn (vrun Tryd.prog kn (d + 3)) h 15 (some [.agg [.int .i64 N, .sl i 0 ds.length 3], .int .i64 k]) = some (.int .i64 (mkE ds k), g) ∧ HM lo hi g i p (mkds ds k) ∧ h.length ≤ g.length ∧ ∀ (q : Nat) (o : VO), q < lo ∨ hi ≤ q → h[q]? = some o → g[q]? = some o := by
  obtain ⟨g, hg, b, hgl, hfr⟩ := markDyS_v (h := h ++ [.vals true [.int .i64 N, .sl i 0 ds.length 3]]) (d + 0) (a.app _) hl hs hk hw
  refine ⟨g, ?_, b, by rw [hgl]; simp, fun q o hq ho => by rw [hfr q hq]; exact (Sub.app _ _).2 _ _ ho⟩
  have h1 : vrun Tryd.prog kn (d + 3) 15 [.agg [.int .i64 N, .sl i 0 ds.length 3], .int .i64 k] h = some (.int .i64 (mkE ds k), g) := by
    clear a b hfr hs
    rw [vrun_v Tryd.func15 rfl rfl rfl]; simp only [Tryd.f15]
    simp (implicitDefEqProofs := false) (disch := omega) [go_sem, tab15, hg, List.getElem?_concat_length]
  rw [r_cF]
  simpa [go_sem] using h1
theorem heldMat_v (d : Nat) (hl : ds.length < 10000000) (hs : ∀ x ∈ ds, x.l.length < 10000000) (hk : 0 ≤ k) (hw : k + wt ds < 100000000) : vrun Tryd.prog kn (d + 3) 20 [.agg [.int .i64 N, .cells 3 ds.length (flat DyT.v (mkds ds k))], .int .i64 k] [] = some (.int .i64 (mkE ds k), []) := by
  have h1 := fun d => heldDyS_v d hl hs hk hw
  have h2 := mkE_wt ds k
  generalize flat DyT.v (mkds ds k) = F at *
  rw [vrun_v Tryd.func20 rfl rfl rfl]; simp only [Tryd.f20]
  simp (implicitDefEqProofs := false) (disch := omega) [go_sem, tab20, h1]
end
end
/- Matrices as lists of numbers, program: copied into a grid; a place. No conditions. -/
section
open Num
section
variable {ds : List DyT} {N : Int}
def grH (N : Int) (ds : List DyT) (j : Nat) : VH := if j = 0 then [.vals true [.int .i64 0, .nil], .vals true [.int .i64 N, .nil]] else [.vals true [.int .i64 0, .nil], .vals true [.int .i64 N, .sl 2 0 j 3], .vals true (flat DyT.v (ds.take j))]
def grS (N : Int) (ds : List DyT) (j : Nat) : VE × VH := ([(2, some (.ptr 0 0)), (3, some (.ptr 1 0)), (10, some (.cells 3 ds.length (flat DyT.v ds))), (11, some (.int .i64 ds.length)), (12, some (.int .i64 j))], grH N ds j)
theorem flat_len3 : ∀ ds : List DyT, (flat DyT.v ds).length = ds.length * 3
  | [] => rfl
  | x :: r => by rw [flat, List.length_append, flat_len3 r, List.length_cons]; simp [DyT.v]; omega
theorem flat_snoc {j : Nat} {x : DyT} (hx : ds[j]? = some x) : flat DyT.v (ds.take (j + 1)) = flat DyT.v (ds.take j) ++ [.bool x.neg, .ints .i64 x.l, .int .i64 x.e] := by
  rw [List.take_add_one, hx]
  have : ∀ a b : List DyT, flat DyT.v (a ++ b) = flat DyT.v a ++ flat DyT.v b := fun a b => by
    induction a with
    | nil => rfl
    | cons y a ih => rw [List.cons_append, flat, flat, ih, List.append_assoc]
  rw [this]; simp [flat, DyT.v]
theorem fl_refs (n : Nat) : ∀ ds : List DyT, (flat DyT.v ds).flatMap (vrefs n) = []
  | [] => rfl
  | x :: r => by rw [flat, List.flatMap_append, fl_refs n r]; simp [DyT.v, r_rb, r_ri, r_ris]
theorem fl_ren (ρ : Nat → Option Nat) (n : Nat) : ∀ ds : List DyT, omap (vren ρ n) (flat DyT.v ds) = some (flat DyT.v ds)
  | [] => rfl
  | x :: r => by
    rw [flat]
    exact omap_app _ (by simp [DyT.v, r_oC, r_vb, r_vi, r_vis, omap, consM]) (fl_ren ρ n r)
theorem fl_frz (h : VH) (n : Nat) : ∀ ds : List DyT, omap (vfrz h (n + 1)) (flat DyT.v ds) = some (flat DyT.v ds)
  | [] => rfl
  | x :: r => by
    rw [flat]
    exact omap_app _ (by simp [DyT.v, go_sem]) (fl_frz h n r)
theorem gr_r (d : Nat) (hl : ds.length < 1000000) {j : Nat} (hj : j < ds.length) : vCode Tryd.prog kn (vrun Tryd.prog kn (d + 1)) 39 (loopAt Tryd.f39 0) (grS N ds j).1 (grS N ds j).2 = some (.norm, grS N ds (j + 1)) := by
  have hget : ds[j]? = some ds[j] := List.getElem?_eq_getElem hj
  have hsub : ((flat DyT.v ds).drop (j * 3)).take 3 = [.bool ds[j].neg, .ints .i64 ds[j].l, .int .i64 ds[j].e] := flat_sub DyT.len ds j _ hget
  have hsn := flat_snoc hget
  have hln := flat_len3 (ds.take j)
  rw [List.length_take, Nat.min_eq_left (by omega)] at hln
  have e1 := fun d => exactOf_v (n := ds[j].neg) (ex := ds[j].e) d ds[j].l
  rw [round_v]; simp only [loopAt, nthC, bodyC, loops, List.nil_append, List.cons_append, List.append_nil, Tryd.f39, grS, grH]
  rw [if_neg (show ¬ j + 1 = 0 by omega), hsn]
  by_cases h0 : j = 0
  · subst h0
    simp only [List.take_zero, flat, List.nil_append]
    rw [Nat.zero_mul, List.drop_zero] at hsub
    have hFl := flat_len3 ds
    generalize ds[0] = x at *
    generalize flat DyT.v ds = F at *
    have hm : 3 ≤ min 3 F.length := by omega
    simp (implicitDefEqProofs := false) (disch := omega) [go_sem, tab39, hsub, e1, hFl, hm]
  · rw [if_neg h0]
    have hG1 := fun n => fl_refs n (ds.take j)
    have hG2 := fun ρ n => fl_ren ρ n (ds.take j)
    have hA1 := fun n => fl_refs n (ds.take (j + 1))
    have hA2 := fun ρ n => fl_ren ρ n (ds.take (j + 1))
    rw [hsn] at hA1 hA2
    generalize ds[j] = x at *
    generalize flat DyT.v (ds.take j) = G at *
    generalize flat DyT.v ds = F at *
    have ht : G.take (j * 3) = G := List.take_of_length_le (by omega)
    simp (implicitDefEqProofs := false) (disch := omega) [go_sem, tab39, hsub, e1, hln, ht, hG1, hG2, hA1, hA2]
theorem gr_x (call : CallV) (hl : ds.length < 1000000) : vCode Tryd.prog kn call 39 (loopAt Tryd.f39 0) (grS N ds ds.length).1 (grS N ds ds.length).2 = some (.exit 0, (grS N ds ds.length).1 ++ [(13, some (.bool false))], (grS N ds ds.length).2) := by
  rw [round_v]; simp only [loopAt, nthC, bodyC, loops, List.nil_append, List.cons_append, List.append_nil, Tryd.f39, grS, grH, List.take_length]
  have hln := flat_len3 ds
  have ht : (flat DyT.v ds).take (ds.length * 3) = flat DyT.v ds := List.take_of_length_le (by omega)
  have hG1 := fun n => fl_refs n ds
  have hG2 := fun ρ n => fl_ren ρ n ds
  generalize flat DyT.v ds = F at *
  by_cases h0 : ds.length = 0
  · rw [if_pos h0, h0]
    simp (implicitDefEqProofs := false) (disch := omega) [go_sem, tab39]
  · rw [if_neg h0]
    simp (implicitDefEqProofs := false) (disch := omega) [go_sem, tab39, hln, ht, hG1, hG2]
/-- The numbers of a matrix. -/
theorem grid_v (d : Nat) (hl : ds.length < 1000000) (h0 : 0 < ds.length) (hnz : ∀ x ∈ ds, x.l.length < 1000000000) : vrun Tryd.prog kn (d + 2) 39 [.agg [.int .i64 N, .cells 3 ds.length (flat DyT.v ds)]] [] = some (.agg [.int .i64 N, .cells 3 ds.length (flat DyT.v ds)], []) := by
  have hl0 := fun ks => loop_v (P := Tryd.prog) (K := kn) (ks := ks) (vi_for (grS N ds) ds.length (n := kn.cf.rounds) (by rw [k_cf, c_rounds]; omega) (fun j hj => gr_r d hl hj) fun m => vi_exit (gr_x _ hl))
  have ef : grH N ds ds.length = [.vals true [.int .i64 0, .nil], .vals true [.int .i64 N, .sl 2 0 ds.length 3], .vals true (flat DyT.v ds)] := by
    unfold grH; rw [if_neg (by omega), List.take_length]
  have e0 : grH N ds 0 = [.vals true [.int .i64 0, .nil], .vals true [.int .i64 N, .nil]] := rfl
  simp only [loopAt, nthC, bodyC, loops, List.nil_append, List.cons_append, List.append_nil, Tryd.f39, grS, Int.natCast_zero, List.cons_append, List.nil_append, ef, e0] at hl0
  have hln := flat_len3 ds
  have ht : (flat DyT.v ds).take (ds.length * 3) = flat DyT.v ds := List.take_of_length_le (by omega)
  have hfz := fun h n => fl_frz h n ds
  have hG1 := fun n => fl_refs n ds
  have hG2 := fun ρ n => fl_ren ρ n ds
  generalize flat DyT.v ds = F at *
  rw [vrun_v Tryd.func39 rfl rfl rfl]; simp only [Tryd.f39]
  simp (implicitDefEqProofs := false) (disch := omega) [go_sem, tab39, hl0, hln, ht, hfz, hG1, hG2]
/-- A number of a grid. -/
theorem at_v (d : Nat) {i j n : Nat} (hN : N = n) (hn : n ≤ 4) (hi : i < n) (hj : j < n) (hl : ds.length = n * n) {x : DyT} (hx : ds[i * n + j]? = some x) : vrun Tryd.prog kn (d + 1) 40 [.agg [.int .i64 N, .cells 3 ds.length (flat DyT.v ds)], .int .i64 i, .int .i64 j] [] = some (.agg [.bool x.neg, .ints .i64 x.l, .int .i64 x.e], []) := by
  subst hN
  have hsub : ((flat DyT.v ds).drop ((i * n + j) * 3)).take 3 = [.bool x.neg, .ints .i64 x.l, .int .i64 x.e] := flat_sub DyT.len ds _ _ hx
  have hb : i * n + j < ds.length := (List.getElem?_eq_some_iff.1 hx).1
  have hnn : n * n ≤ 16 := Nat.mul_le_mul hn hn
  have hI : (i : Int) * n = ((i * n : Nat) : Int) := by simp
  generalize i * n = q at *
  generalize (n : Int) = N at *
  generalize n * n = M at *
  clear hx
  generalize ds.length = L at *
  generalize flat DyT.v ds = F at *
  have e2 : ((q : Int) + j).toNat = q + j := by omega
  rw [vrun_v Tryd.func40 rfl rfl rfl]; simp only [Tryd.f40]
  simp (implicitDefEqProofs := false) (disch := omega) [go_sem, tab40, hsub, hI, e2]
end
end
/- MatAt: program, reference. No conditions. -/
section
open Num
section
variable {ds : List DyT} {N i j : Int} {x : DyT}
theorem dyOk_v (d : Nat) (h : dyOkB x = true) : vrun Tryd.prog kn (d + 5) 41 [.agg [.bool x.neg, .ints .i64 x.l, .int .i64 x.e]] [] = some (.tup [.agg [.bool x.neg, .sl 0 0 x.l.length 1, .int .i64 x.e], .bool true], [.ints true .i64 x.l]) := by
  obtain ⟨e1, x1, x2, x3, x4⟩ := okD h
  have := dy_v (n := x.neg) (a := x.n) (e := x.e) d (by omega) (by omega) (by omega)
  have hf : fitT x = x := by unfold fitT; rw [if_pos (okFit h)]
  rw [mkD_self h, hf, okFit h, ← e1] at this
  exact this
def atB (N : Int) (ds : List DyT) (i j : Int) : Bool := matOkB N ds && (decide (0 ≤ i) && decide (i ≤ N - 1)) && (decide (0 ≤ j) && decide (j ≤ N - 1))
def atT (N : Int) (ds : List DyT) (i j : Int) : DyT := if atB N ds i j then (ds[(i * N + j).toNat]?).getD zT else zT
theorem matOk_t (h : matOkB N ds = true) : ∃ n : Nat, N = n ∧ 1 ≤ n ∧ n ≤ 4 ∧ ds.length = n * n ∧ ∀ x ∈ ds, dyOkB x = true := by
  unfold matOkB at h
  simp only [Bool.and_eq_true, decide_eq_true_eq] at h
  obtain ⟨⟨⟨h1, h2⟩, h3⟩, h4⟩ := h
  refine ⟨N.toNat, by omega, by omega, by omega, ?_, List.all_eq_true.1 h4⟩
  obtain ⟨n, rfl⟩ : ∃ n : Nat, N = n := ⟨N.toNat, by omega⟩
  have : ((ds.length : Nat) : Int) = ((n * n : Nat) : Int) := by rw [h3]; simp
  simp only [Int.toNat_natCast]; omega
theorem atB_t (h : atB N ds i j = true) : ∃ n a b : Nat, N = n ∧ i = a ∧ j = b ∧ 1 ≤ n ∧ n ≤ 4 ∧ a < n ∧ b < n ∧ ds.length = n * n ∧ (∀ x ∈ ds, dyOkB x = true) ∧ ∃ x, ds[a * n + b]? = some x ∧ dyOkB x = true ∧ atT N ds i j = x := by
  have h' := h
  unfold atB at h
  simp only [Bool.and_eq_true, decide_eq_true_eq] at h
  obtain ⟨⟨h1, h2, h3⟩, h4, h5⟩ := h
  obtain ⟨n, rfl, n1, n2, hl, ho⟩ := matOk_t h1
  obtain ⟨a, rfl⟩ : ∃ a : Nat, i = a := ⟨i.toNat, by omega⟩
  obtain ⟨b, rfl⟩ : ∃ b : Nat, j = b := ⟨j.toNat, by omega⟩
  have hlt : a * n + b < n * n := by
    have : a * n + n ≤ n * n := by rw [← Nat.succ_mul]; exact Nat.mul_le_mul_right _ (by omega)
    omega
  have hget : ds[a * n + b]? = some ds[a * n + b] := List.getElem?_eq_getElem (by omega)
  refine ⟨n, a, b, rfl, rfl, rfl, n1, n2, by omega, by omega, hl, ho, _, hget, ho _ (List.getElem_mem _), ?_⟩
  unfold atT
  have e : ((a : Int) * n + b).toNat = a * n + b := by
    have : (a : Int) * n + b = ((a * n + b : Nat) : Int) := by simp
    rw [this]; rfl
  rw [if_pos h', e, hget]; rfl
theorem isPlace_v (d : Nat) (hl : ds.length < 100000000) (hs : ∀ x ∈ ds, x.sz) : vrun Tryd.prog kn (d + 16) 38 [.agg [.int .i64 N, .cells 3 ds.length (flat DyT.v ds)], .int .i64 i, .int .i64 j] [] = some (.bool (atB N ds i j), []) := by
  have h1 := fun d => MatOk_v (N := N) d hl hs
  have h2 := fun n d => within_v d n 0 (N - 1)
  unfold atB
  cases hq : matOkB N ds with
  | false =>
    rw [hq] at h1
    rw [vrun_v Tryd.func38 rfl rfl rfl]; simp only [Tryd.f38]
    simp (implicitDefEqProofs := false) (disch := omega) [go_sem, tab38, h1]
  | true =>
    obtain ⟨n, rfl, n1, n2, _, _⟩ := matOk_t hq
    rw [hq] at h1
    have h2i := h2 i
    have h2j := h2 j
    clear h2
    cases c1 : (decide (0 ≤ i) && decide (i ≤ (n : Int) - 1)) <;> rw [c1] at h2i
    · rw [vrun_v Tryd.func38 rfl rfl rfl]; simp only [Tryd.f38]
      simp (implicitDefEqProofs := false) (disch := omega) [go_sem, tab38, h1, h2i]
    · cases c2 : (decide (0 ≤ j) && decide (j ≤ (n : Int) - 1)) <;> rw [c2] at h2j
      all_goals
        rw [vrun_v Tryd.func38 rfl rfl rfl]; simp only [Tryd.f38]
        simp (implicitDefEqProofs := false) (disch := omega) [go_sem, tab38, h1, h2i, h2j]
theorem MatAt_v (d : Nat) (hl : ds.length < 100000000) (hs : ∀ x ∈ ds, x.sz) : vrun Tryd.prog kn (d + 17) 12 [.agg [.int .i64 N, .cells 3 ds.length (flat DyT.v ds)], .int .i64 i, .int .i64 j] [] = some (.tup [.agg [.bool (atT N ds i j).neg, .sl 0 0 (atT N ds i j).l.length 1, .int .i64 (atT N ds i j).e], .bool (atB N ds i j)], [.ints true .i64 (atT N ds i j).l]) := by
  have h1 := fun d => isPlace_v (N := N) (i := i) (j := j) d (by omega) hs
  cases hq : atB N ds i j with
  | false =>
    rw [hq] at h1
    have e : atT N ds i j = zT := by unfold atT; rw [hq]; rfl
    rw [e]
    rw [vrun_v Tryd.func12 rfl rfl rfl]; simp only [Tryd.f12]
    simp (implicitDefEqProofs := false) (disch := omega) [go_sem, tab12, h1, zT]
  | true =>
    rw [hq] at h1
    obtain ⟨n, a, b, rfl, rfl, rfl, n1, n2, ha, hb, hlen, ho, x, hx, hox, e⟩ := atB_t hq
    rw [e]
    have hnn : n * n ≤ 16 := Nat.mul_le_mul n2 n2
    have h2 := fun d => grid_v (N := (n : Int)) d (ds := ds) (by omega) (by have := (List.getElem?_eq_some_iff.1 hx).1; omega) (fun y hy => by obtain ⟨e1, x1, _⟩ := okD (ho y hy); rw [e1]; omega)
    have h3 := fun d => at_v (N := (n : Int)) d rfl n2 ha hb hlen hx
    have h4 := fun d => dyOk_v (x := x) d hox
    generalize flat DyT.v ds = F at *
    clear hx hlen ho hq e hs
    rw [vrun_v Tryd.func12 rfl rfl rfl]; simp only [Tryd.f12]
    simp (implicitDefEqProofs := false) (disch := omega) [go_sem, tab12, h1, h2, h3, h4]
theorem sMatAt_v (d : Nat) (hi : -9223372036854775808 ≤ i ∧ i ≤ 9223372036854775807) (hj : -9223372036854775808 ≤ j ∧ j ≤ 9223372036854775807) (hl : ds.length < 100000000) (hs : ∀ x ∈ ds, x.sz) : vrun Tryd.prog kn (d + 5) 10 [.agg [.int .i64 N, .cells 3 ds.length (flat DyT.v ds)], .int .i64 i, .int .i64 j] [] = some (.tup [.agg [.bool (atT N ds i j).neg, .ints .i64 (atT N ds i j).l, .int .i64 (atT N ds i j).e], .bool (atB N ds i j)], []) := by
  have h1 := fun d => sMatOk_v (N := N) d (by omega) hs
  cases hq : atB N ds i j with
  | false =>
    have e : atT N ds i j = zT := by unfold atT; rw [hq]; rfl
    rw [e]
    cases hm : matOkB N ds with
    | false =>
      rw [hm] at h1
      rw [vrun_v Tryd.func10 rfl rfl rfl]; simp only [Tryd.f10]
      simp (implicitDefEqProofs := false) (disch := omega) [go_sem, tab10, h1, zT]
    | true =>
      rw [hm] at h1
      unfold atB at hq
      rw [hm, Bool.true_and] at hq
      have hq2 : ¬ ((0 ≤ i ∧ i ≤ N - 1) ∧ (0 ≤ j ∧ j ≤ N - 1)) := fun h => by simp [h] at hq
      by_cases c1 : i < 0
      · rw [vrun_v Tryd.func10 rfl rfl rfl]; simp only [Tryd.f10]
        simp (implicitDefEqProofs := false) (disch := omega) [go_sem, tab10, h1, zT, c1]
      by_cases c2 : N ≤ i
      · rw [vrun_v Tryd.func10 rfl rfl rfl]; simp only [Tryd.f10]
        simp (implicitDefEqProofs := false) (disch := omega) [go_sem, tab10, h1, zT, c1, c2]
      by_cases c3 : j < 0
      · rw [vrun_v Tryd.func10 rfl rfl rfl]; simp only [Tryd.f10]
        simp (implicitDefEqProofs := false) (disch := omega) [go_sem, tab10, h1, zT, c1, c2, c3]
      have c4 : N ≤ j := by omega
      rw [vrun_v Tryd.func10 rfl rfl rfl]; simp only [Tryd.f10]
      simp (implicitDefEqProofs := false) (disch := omega) [go_sem, tab10, h1, zT, c1, c2, c3, c4]
  | true =>
    have hm : matOkB N ds = true := by unfold atB at hq; simp only [Bool.and_eq_true] at hq; exact hq.1.1
    rw [hm] at h1
    obtain ⟨n, a, b, rfl, rfl, rfl, n1, n2, ha, hb, hlen, ho, x, hx, hox, e⟩ := atB_t hq
    rw [e]
    have h4 := fun d => l7own_v (x := x) d hox
    have hsub : ((flat DyT.v ds).drop ((a * n + b) * 3)).take 3 = [.bool x.neg, .ints .i64 x.l, .int .i64 x.e] := flat_sub DyT.len ds _ _ hx
    have hb2 : a * n + b < ds.length := (List.getElem?_eq_some_iff.1 hx).1
    have hnn : n * n ≤ 16 := Nat.mul_le_mul n2 n2
    have hI : (a : Int) * n = ((a * n : Nat) : Int) := by simp
    have k1 : ¬ (n : Int) ≤ a := by omega
    have k2 : ¬ (n : Int) ≤ b := by omega
    generalize a * n = q at *
    generalize n * n = M at *
    clear hx ho hq e hs
    generalize ds.length = L at *
    generalize flat DyT.v ds = F at *
    have e2 : ((q : Int) + b).toNat = q + b := by omega
    rw [vrun_v Tryd.func10 rfl rfl rfl]; simp only [Tryd.f10]
    simp (implicitDefEqProofs := false) (disch := omega) [go_sem, tab10, h1, h4, hsub, hI, e2, k1, k2]
end
end
end Go.Eng
