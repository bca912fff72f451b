/- What the functions of this seat do, one after another, told by plain values. No conditions. -/
import Derived.Test.YtidlnhhaegojjaaGreatDoorSeat
import Derived.Test.YtidlnhhaegojjaaGreatDoorVb
import Derived.Test.YtidlnhhaegojjaaGreatDoorT2
set_option linter.unusedVariables false
set_option linter.unusedSimpArgs false
namespace Go.Eng
open Go.Proofs
set_option maxRecDepth 100000
set_option linter.unusedSimpArgs false
attribute [local go_sem] r_seq r_skip r_retC r_exitC r_label r_block r_region r_regionW r_xWt r_xW r_cond r_Bt r_Bf r_Ncode r_Nret r_Nexit r_Nblk r_Nblkr r_Nblke r_Nnil r_Es r_Onil r_Oop r_Oif r_Xs r_Gt r_Gf r_wtt r_wtf r_wft r_wff r_wu r_gO r_putS r_putN r_get r_keepN r_keepC r_fr r_fn r_fi r_ff r_fo r_l1 r_l2t r_cun r_cul r_cub r_cui r_cus r_cuis r_cuc r_cusl r_cuti r_cutv r_ven r_vec r_l2f r_l3 r_t1 r_t2 r_t0 r_rt r_rc r_en r_ec r_cM r_oN r_oC r_end r_endt r_endf r_nob0 r_nobN r_nobC r_nobE r_nb0 r_nbi r_nbs r_nbsl r_nbin r_nbce r_nLn r_nLv r_nLc r_nAa r_nAn r_nAk_b r_nAk_i r_nAk_s r_nAk_n r_nAk_is r_nAk_ce r_nAk_fp r_nAk_sl r_nAk_pt r_nAk_fn r_nsn r_nsv r_nsc r_m0 r_mi r_ms r_msl r_min r_mce r_mLn r_mLv r_mLc r_mAa r_mAn r_mAk_b r_mAk_i r_mAk_s r_mAk_n r_mAk_is r_mAk_ce r_mAk_fp r_mAk_sl r_mAk_pt r_mAk_fn r_msn r_msv r_msc r_atb r_ati r_ats r_atn r_atis r_atc r_atf r_atl r_atp r_atfn r_gcn r_gcc r_gLn r_gLc r_gIt r_ndn r_ndc r_gcB r_gLB r_two r_rea r_rea0 r_re1n r_re1c r_ori r_orv r_ord r_orn r_adn r_adc r_ad1 r_ern r_ers r_er0 r_rsl r_rptr r_rb r_ri r_rs r_rn r_ris r_rce r_rfp r_ra4 r_ra3 r_rt4 r_rf4 r_rf3 r_idS r_idc r_nS r_nP r_nF r_nT r_vsl r_vptr r_vb r_vi r_vs r_vn r_vis r_vce r_vfp r_va4 r_va3 r_vt4 r_vf4 r_vf3 r_rV r_Oi r_Ov r_Od r_rE r_rE0 r_En r_Ec r_E0 r_pO r_pk r_agL r_cO r_fO r_fSi r_fSv r_fPv r_fsl r_fptr r_ffn r_fag r_fb r_fint r_fstr r_fnil r_fis r_fce r_ffp r_res r_move r_assign r_pick r_pickt r_pickf r_alloc r_box r_al r_build r_bslice r_load r_store r_nlc r_nl1 r_nl2 r_bin r_un r_conv r_mkf r_mks r_slc r_fad r_fld r_iad r_idx r_ext r_ex1 r_callf r_callt r_callen r_calapp r_calmax r_calmin r_vt r_vcb r_vci r_vcs r_vcnp r_vcn r_vca r_vcf r_vcg r_ofb r_ofi r_ofs r_ofn r_evs r_pn r_prt r_pc r_one_a r_one_b r_one_i r_one_s r_one_n r_one_is r_one_ce r_one_fp r_one_sl r_one_pt r_one_fn r_cs_a r_cs_b r_cs_i r_cs_s r_cs_n r_cs_is r_cs_ce r_cs_fp r_cs_sl r_cs_pt r_cs_fn r_tov r_tovA r_toc r_toa r_tb r_ti r_ts r_tn r_bd r_bd2 r_filn r_fp1 r_filc r_fsn r_fsc r_san r_sac r_bs2 r_bs1 r_newO r_mkq r_mkI r_mkOi r_mkOv r_tIn r_tIc r_repz r_repn r_ldp r_ldf r_l1t r_l1f r_lFt r_lFf r_aggO r_obj r_at r_ati' r_atv r_celli r_cellv r_subi r_subv r_sto r_sto1 r_sto2 r_sets r_setR r_setn r_setc r_s1i r_s1v r_bin1 r_bin2 r_tv1 r_cb r_ci r_cst r_cn r_csl r_cis r_cce r_uni r_unb r_cv r_cvi r_cvs r_cvb r_cvl r_sO r_rdn r_rdi r_rdl r_rdO r_vsub r_vfn r_mk r_mk1 r_mk2 r_zoi r_zov r_leni r_lenv r_bn r_bndV r_bo r_sl0 r_sl1 r_vsz r_ct1 r_cts r_cti r_ctc r_ctn r_lnl r_lni r_lnc r_lnn r_fa r_fap r_faf r_fi1 r_fit r_fif r_ixi r_ixs r_ixc r_ixf r_ixF r_ixF2 r_ix1 r_ixsl r_ixin r_ixce r_len1 r_lenA r_lTs r_lTn r_lTl r_lTi r_lTc r_app0 r_app r_app1 r_app2 r_app3 r_catO r_cati r_catv r_newt r_newf r_pair r_pairK r_trip r_kis r_kiv r_srn r_srl r_sri r_src r_srs r_oln r_oll r_vw r_wi r_wv r_mm r_max r_min' r_str r_cF r_c2t r_c3f r_c3t r_ab r_c2f r_cV r_p1 r_la r_la2t r_la2f r_la3 r_sh r_z_is r_z_ce r_z_fp r_z_b r_z_i r_z_s r_z_n r_z_l r_z_p r_z_a4 r_z_a3 r_z_t4 r_zoI r_zoV r_roN r_roC r_roi r_rod r_zod r_rov r_aR r_trOi r_trOv r_trPv r_trl r_trp r_trf r_tra r_trb r_tri r_trs r_trn r_tris r_trce r_trfp r_vJ r_vJs r_vJn
attribute [local go_sem] b_add b_sub b_mul b_quo b_rem b_shl b_shr b_eql b_neq b_lss b_leq b_gtr b_geq eqB_s b_eqB b_neB u_neg u_not b_nn b_nn' eqS_s zerosT_s zerosT_n zt_i zt_sl zt_st dstOf_z dstOf_n iltT iltF ileT ileF ieqT ieqF nltT nltF nleT nleF neqT neqF tdiv_pos tmod_pos w64 idx0 List.take_of_length_le
/- Intervals: membership and inclusion, program and reference. No conditions. -/
section
open Num
section
variable {x : DyT} {v : IvT}
theorem span_v (d : Nat) (v : IvT) : vrun Tryz.prog kn (d + 2) 17 [.agg [.bool v.lo.neg, .ints .i64 v.lo.l, .int .i64 v.lo.e, .bool v.hi.neg, .ints .i64 v.hi.l, .int .i64 v.hi.e]] [] = some (.agg [.bool v.lo.neg, .ints .i64 v.lo.l, .int .i64 v.lo.e, .bool v.hi.neg, .ints .i64 v.hi.l, .int .i64 v.hi.e], []) := by
  have e1 := fun (x : DyT) d => exactOf_v (n := x.neg) (ex := x.e) d x.l
  rw [vrun_v Tryz.func17 rfl rfl rfl]; simp only [Tryz.f17]
  simp (disch := omega) [go_sem, tab17, e1]
theorem ivOk_and {v : IvT} (h : ivOkB v = true) : dyOkB v.lo = true ∧ dyOkB v.hi = true := by
  unfold ivOkB at h
  rw [Bool.and_eq_true, Bool.and_eq_true] at h
  exact h.1
end
end
/- The laws of a ring for dyadic numbers. Plain law. No conditions. -/
section
open Num
theorem sg_zero (n : Bool) (a : Nat) : sg n a = 0 ↔ a = 0 := by unfold sg; cases n <;> simp
theorem sg_inj {n m : Bool} {a b : Nat} (h0 : a ≠ 0) (h : sg n a = sg m b) : n = m ∧ a = b := by
  unfold sg at h; cases n <;> cases m <;> simp at h ⊢ <;> omega
theorem sg_pow (n : Bool) (a k : Nat) : sg n a * ((2 ^ k : Nat) : Int) = sg n (a * 2 ^ k) := (sg_mul n a (2 ^ k)).symm
theorem oddq : ∀ (i j : Nat) {a b : Nat}, a % 2 = 1 → b % 2 = 1 → a * 2 ^ i = b * 2 ^ j → a = b ∧ i = j
  | 0, 0, a, b, _, _, h => by simpa using h
  | 0, j + 1, a, b, ha, _, h => by
    rw [Nat.pow_zero, Nat.mul_one, Nat.pow_succ, ← Nat.mul_assoc] at h; omega
  | i + 1, 0, a, b, _, hb, h => by
    rw [Nat.pow_zero, Nat.mul_one, Nat.pow_succ, ← Nat.mul_assoc] at h; omega
  | i + 1, j + 1, a, b, ha, hb, h => by
    rw [Nat.pow_succ, ← Nat.mul_assoc, Nat.pow_succ, ← Nat.mul_assoc] at h
    obtain ⟨h1, h2⟩ := oddq i j ha hb (Nat.eq_of_mul_eq_mul_right (by omega) h)
    exact ⟨h1, by omega⟩
theorem tz_split {a : Nat} (h : a ≠ 0) : a = a / 2 ^ tz a * 2 ^ tz a := by
  obtain ⟨o, ho⟩ := tz_spec h
  have hd : a / 2 ^ tz a = 2 * o + 1 := by
    conv => lhs; lhs; rw [ho]
    exact Nat.mul_div_cancel_left _ (Nat.two_pow_pos _)
  rw [hd, Nat.mul_comm]; exact ho
theorem mkD_uniq {n m : Bool} {a b : Nat} {e f K : Int} (he : K ≤ e) (hf : K ≤ f) (h : sg n a * ((2 ^ (e - K).toNat : Nat) : Int) = sg m b * ((2 ^ (f - K).toNat : Nat) : Int)) : mkD n a e = mkD m b f := by
  rw [sg_pow, sg_pow] at h
  by_cases h0 : a = 0
  · subst h0
    rw [Nat.zero_mul] at h
    have hb : b = 0 := by
      have := (sg_zero m (b * 2 ^ (f - K).toNat)).1 (by rw [← h]; exact (sg_zero n 0).2 rfl)
      rcases Nat.mul_eq_zero.1 this with h | h
      · exact h
      · have := Nat.two_pow_pos (f - K).toNat; omega
    subst hb
    unfold mkD
    rw [if_pos rfl, if_pos rfl]
  · have hp := Nat.two_pow_pos (e - K).toNat
    obtain ⟨h1, h2⟩ := sg_inj (Nat.mul_ne_zero h0 (by omega)) h
    have hb : b ≠ 0 := by
      rintro rfl
      rw [Nat.zero_mul] at h2
      rcases Nat.mul_eq_zero.1 h2 with h | h <;> omega
    subst h1
    unfold mkD
    rw [if_neg h0, if_neg hb]
    have ha2 := tz_split h0
    have hb2 := tz_split hb
    have oa := tz_bit h0
    have ob := tz_bit hb
    generalize a / 2 ^ tz a = A at *
    generalize b / 2 ^ tz b = B at *
    rw [ha2, hb2, Nat.mul_assoc, Nat.mul_assoc, ← Nat.pow_add, ← Nat.pow_add] at h2
    obtain ⟨h3, h4⟩ := oddq _ _ oa ob h2
    rw [h3]
    have h5 : e + (tz a : Int) = f + (tz b : Int) := by omega
    rw [h5]
theorem ss_sum (n m : Bool) (a b : Nat) : sg (ssN n a m b) (ssV n a m b) = sg n a + sg m b := by
  unfold ssN ssV sg
  by_cases h : b ≤ a <;> cases n <;> cases m <;> simp [h] <;> omega
section
variable {x y z : DyT}
/-- A valid one is its own one form. -/
theorem mkD_self (hx : dyOkB x = true) : mkD x.neg x.n x.e = x := by
  obtain ⟨n, h1, h2, h3, h4, h5⟩ := (dyOkB_iff x).1 hx
  have hn : x.n = n := by unfold DyT.n; rw [h1, val_D]; rfl
  rw [hn]
  unfold mkD
  rcases h5 with ⟨k1, k2, k3⟩ | k
  · subst k1
    rw [if_pos rfl]
    cases x
    simp only at h1 k2 k3
    rw [D_zero] at h1
    rw [h1, k2, k3]
  · have h0 : n ≠ 0 := by omega
    rw [if_neg h0]
    have ha2 := tz_split h0
    have ob := tz_bit h0
    have hz : n / 2 ^ tz n = n ∧ tz n = 0 := oddq (tz n) 0 ob k (by rw [Nat.pow_zero, Nat.mul_one]; exact ha2.symm)
    rw [hz.1, hz.2, ← h1]
    cases x
    simp
theorem addR_sv (hx : dyOkB x = true) (hy : dyOkB y = true) (K : Int) (hK : K ≤ -3000) : ∃ n a e, addR x y = mkD n a e ∧ -3000 ≤ e ∧ sg n a * ((2 ^ (e - K).toNat : Nat) : Int) = x.sv K + y.sv K := by
  obtain ⟨_, x1, x2, x3, _⟩ := okD hx
  obtain ⟨_, y1, y2, y3, _⟩ := okD hy
  obtain ⟨_, _, e3, _⟩ := al_small x1 y1 x2 x3 y2 y3
  refine ⟨_, _, _, rfl, e3, ?_⟩
  rw [ss_sum, Int.add_mul, sg_pow, sg_pow]
  obtain ⟨h1, h2⟩ := al_sv (a := x.n) (ex := x.e) (ey := y.e) (b := y.n) (K := K) (by omega) (by omega)
  rw [← h1, ← h2, ← sg_pow, ← sg_pow]
  rfl
theorem addR_comm (hx : dyOkB x = true) (hy : dyOkB y = true) : addR x y = addR y x := by
  obtain ⟨n, a, e, h1, h2, h3⟩ := addR_sv hx hy (-3000) (by omega)
  obtain ⟨m, b, f, k1, k2, k3⟩ := addR_sv hy hx (-3000) (by omega)
  rw [h1, k1]
  exact mkD_uniq h2 k2 (by rw [h3, k3, Int.add_comm])
theorem mulR_comm : mulR x y = mulR y x := by
  unfold mulR
  rw [Nat.mul_comm, Int.add_comm, show (x.neg != y.neg) = (y.neg != x.neg) by cases x.neg <;> cases y.neg <;> rfl]
theorem negT_ok (hy : dyOkB y = true) : dyOkB (negT y) = true ∧ ∀ K, (negT y).sv K = -(y.sv K) := by
  obtain ⟨n, h1, h2, h3, h4, h5⟩ := (dyOkB_iff y).1 hy
  have hn : y.n = n := by unfold DyT.n; rw [h1, val_D]; rfl
  have hn' : (negT y).n = y.n := rfl
  refine ⟨(dyOkB_iff _).2 ⟨n, h1, h2, h3, h4, ?_⟩, fun K => ?_⟩
  · rcases h5 with ⟨k1, k2, k3⟩ | k
    · exact .inl ⟨k1, by unfold negT; simp [hn, k1], k3⟩
    · exact .inr k
  · unfold DyT.sv
    rw [hn']
    have e1 : (negT y).e = y.e := rfl
    rw [e1]
    have : sg (negT y).neg y.n = -(sg y.neg y.n) := by
      unfold negT sg
      by_cases h0 : y.n = 0
      · rw [h0]; cases y.neg <;> simp
      · cases y.neg <;> simp [h0]
    rw [this, Int.neg_mul]
theorem mkD_sv {n : Bool} {a : Nat} {e K : Int} (h : K ≤ e) : (mkD n a e).sv K = sg n a * ((2 ^ (e - K).toNat : Nat) : Int) := by
  unfold mkD
  by_cases h0 : a = 0
  · subst h0
    rw [if_pos rfl]
    unfold DyT.sv DyT.n
    rw [(sg_zero n 0).2 rfl]
    simp [sg, val]
  · rw [if_neg h0]
    have ha2 := tz_split h0
    have hv : (DyT.n ⟨n, D (a / 2 ^ tz a), e + tz a⟩) = a / 2 ^ tz a := by unfold DyT.n; rw [val_D]; rfl
    unfold DyT.sv
    rw [hv]
    simp only
    rw [sg_pow, sg_pow]
    generalize a / 2 ^ tz a = A at *
    rw [show (e + (tz a : Int) - K).toNat = tz a + (e - K).toNat by omega, Nat.pow_add, ← Nat.mul_assoc, ← ha2]
theorem subR_addR (hx : dyOkB x = true) (hy : dyOkB y = true) (hs : dyFit (addR x y) = true) : subR (addR x y) y = x := by
  obtain ⟨n, a, e, h1, h2, h3⟩ := addR_sv hx hy (-3000) (by omega)
  have hok : dyOkB (addR x y) = true := by rw [h1] at hs ⊢; rw [dyOkB_mkD]; exact hs
  obtain ⟨q1, q2⟩ := negT_ok hy
  obtain ⟨m, b, f, k1, k2, k3⟩ := addR_sv hok q1 (-3000) (by omega)
  unfold subR
  rw [k1, ← mkD_self hx]
  refine mkD_uniq k2 (dyOk_e hx) ?_
  rw [k3, q2, h1, mkD_sv h2, h3]
  unfold DyT.sv
  omega
theorem mulR_sv (hx : dyOkB x = true) (hy : dyOkB y = true) : ∃ n a e, mulR x y = mkD n a e ∧ -6000 ≤ e ∧ sg n a * ((2 ^ (e - (-6000)).toNat : Nat) : Int) = x.sv (-3000) * y.sv (-3000) := by
  have x2 := dyOk_e hx
  have y2 := dyOk_e hy
  refine ⟨_, _, _, rfl, by omega, ?_⟩
  unfold DyT.sv
  rw [sg_pow, sg_pow, sg_pow, show (x.e + y.e - -6000).toNat = (x.e - -3000).toNat + (y.e - -3000).toNat by omega, Nat.pow_add]
  generalize 2 ^ (x.e - -3000).toNat = P
  generalize 2 ^ (y.e - -3000).toNat = Q
  generalize x.n = A
  generalize y.n = B
  unfold sg
  have e1 : ((A * B * (P * Q) : Nat) : Int) = ((A * P : Nat) : Int) * ((B * Q : Nat) : Int) := by
    rw [← Int.natCast_mul]; congr 1
    rw [Nat.mul_mul_mul_comm]
  cases x.neg <;> cases y.neg <;> simp only [bne, Bool.false_eq_true, if_false, if_true, Bool.not_true, Bool.not_false, BEq.rfl, show (false == true) = false from rfl, show (true == false) = false from rfl] <;> rw [e1]
  · rw [Int.mul_neg]
  · rw [Int.neg_mul]
  · rw [Int.neg_mul_neg]
theorem sv_shift (hx : dyOkB x = true) : x.sv (-6000) = x.sv (-3000) * ((2 ^ 3000 : Nat) : Int) := by
  have x2 := dyOk_e hx
  unfold DyT.sv
  rw [show (x.e - -6000).toNat = (x.e - -3000).toNat + 3000 by omega, Nat.pow_add, Int.natCast_mul, Int.mul_assoc]
theorem distr (hx : dyOkB x = true) (hy : dyOkB y = true) (hz : dyOkB z = true) (hs : dyFit (addR x y) = true) (h1 : dyFit (mulR x z) = true) (h2 : dyFit (mulR y z) = true) : mulR (addR x y) z = addR (mulR x z) (mulR y z) := by
  obtain ⟨n, a, e, s1, s2, s3⟩ := addR_sv hx hy (-3000) (by omega)
  have hok : dyOkB (addR x y) = true := by rw [s1] at hs ⊢; rw [dyOkB_mkD]; exact hs
  obtain ⟨n1, a1, e1, p1, p2, p3⟩ := mulR_sv hok hz
  obtain ⟨n2, a2, e2, q1, q2, q3⟩ := mulR_sv hx hz
  obtain ⟨n3, a3, e3, r1, r2, r3⟩ := mulR_sv hy hz
  have ok2 : dyOkB (mulR x z) = true := by rw [q1] at h1 ⊢; rw [dyOkB_mkD]; exact h1
  have ok3 : dyOkB (mulR y z) = true := by rw [r1] at h2 ⊢; rw [dyOkB_mkD]; exact h2
  obtain ⟨n4, a4, e4, t1, t2, t3⟩ := addR_sv ok2 ok3 (-6000) (by omega)
  rw [p1, t1]
  refine mkD_uniq p2 (by omega) ?_
  rw [p3, t3, s1, mkD_sv s2, s3, q1, r1, mkD_sv q2, mkD_sv r2, q3, r3, Int.add_mul]
end
end
/- Intervals that are made: a number's one form, two of them as an interval, program and reference. No conditions. -/
section
open Num
theorem okFit {x : DyT} (hx : dyOkB x = true) : dyFit x = true := by
  have := dyOkB_mkD (n := x.neg) (a := x.n) (e := x.e)
  rw [mkD_self hx] at this
  rw [← this]; exact hx
section
variable {x y : DyT} {v : IvT}
/-- Two ends as an interval: both fit, or nothing is told. -/
def ivFit (v : IvT) : Bool := dyFit v.lo && dyFit v.hi
def ivRes (v : IvT) : IvT := if ivFit v then v else ⟨zT, zT⟩
theorem iv_v (d : Nat) {n m : Bool} {a b : Nat} {e f : Int} (ha : (D a).length < 60000) (he : -1000000000 ≤ e) (he' : e ≤ 1000000000) (hb : (D b).length < 60000) (hf : -1000000000 ≤ f) (hf' : f ≤ 1000000000) :
    vrun Tryz.prog kn (d + 6) 19 [.agg [.bool n, .ints .i64 (D a), .int .i64 e, .bool m, .ints .i64 (D b), .int .i64 f]] [] = some (.tup [.agg [.bool (ivRes ⟨mkD n a e, mkD m b f⟩).lo.neg, .sl 0 0 (ivRes ⟨mkD n a e, mkD m b f⟩).lo.l.length 1, .int .i64 (ivRes ⟨mkD n a e, mkD m b f⟩).lo.e, .bool (ivRes ⟨mkD n a e, mkD m b f⟩).hi.neg, .sl 1 0 (ivRes ⟨mkD n a e, mkD m b f⟩).hi.l.length 1, .int .i64 (ivRes ⟨mkD n a e, mkD m b f⟩).hi.e], .bool (ivFit ⟨mkD n a e, mkD m b f⟩)], [.ints true .i64 (ivRes ⟨mkD n a e, mkD m b f⟩).lo.l, .ints true .i64 (ivRes ⟨mkD n a e, mkD m b f⟩).hi.l]) := by
  have h1 := fun d => dy_v (n := n) d ha he he'
  have h2 := fun d => dy_v (n := m) d hb hf hf'
  have l1 := fitT_len (mkD n a e)
  have l2 := fitT_len (mkD m b f)
  unfold ivRes ivFit
  have f1 : dyFit (mkD n a e) = true → fitT (mkD n a e) = mkD n a e := fun h => by unfold fitT; rw [h]; rfl
  have f2 : dyFit (mkD m b f) = true → fitT (mkD m b f) = mkD m b f := fun h => by unfold fitT; rw [h]; rfl
  generalize D a = A at *
  generalize D b = B at *
  generalize fitT (mkD n a e) = F at *
  generalize fitT (mkD m b f) = G at *
  generalize mkD n a e = r at *
  generalize mkD m b f = s at *
  cases q1 : dyFit r with
  | false =>
    rw [q1] at h1
    rw [vrun_v Tryz.func19 rfl rfl rfl]; simp only [Tryz.f19]
    simp (disch := omega) [go_sem, tab19, h1, h2, zT, q1]
  | true =>
    rw [q1] at h1
    obtain rfl := f1 q1
    cases q2 : dyFit s with
    | false =>
      rw [q2] at h2
      rw [vrun_v Tryz.func19 rfl rfl rfl]; simp only [Tryz.f19]
      simp (disch := omega) [go_sem, tab19, h1, h2, zT, q1, q2]
    | true =>
      rw [q2] at h2
      obtain rfl := f2 q2
      rw [vrun_v Tryz.func19 rfl rfl rfl]; simp only [Tryz.f19]
      simp (disch := omega) [go_sem, tab19, h1, h2, q1, q2]
/-- A valid number stands as it is. -/
theorem ivOk_iv (d : Nat) (h1 : dyOkB v.lo = true) (h2 : dyOkB v.hi = true) : vrun Tryz.prog kn (d + 6) 19 [.agg [.bool v.lo.neg, .ints .i64 v.lo.l, .int .i64 v.lo.e, .bool v.hi.neg, .ints .i64 v.hi.l, .int .i64 v.hi.e]] [] = some (.tup [.agg [.bool v.lo.neg, .sl 0 0 v.lo.l.length 1, .int .i64 v.lo.e, .bool v.hi.neg, .sl 1 0 v.hi.l.length 1, .int .i64 v.hi.e], .bool true], [.ints true .i64 v.lo.l, .ints true .i64 v.hi.l]) := by
  obtain ⟨e1, x1, x2, x3, x4⟩ := okD h1
  obtain ⟨e2, y1, y2, y3, y4⟩ := okD h2
  have := iv_v d (n := v.lo.neg) (m := v.hi.neg) (a := v.lo.n) (b := v.hi.n) (e := v.lo.e) (f := v.hi.e) (by omega) (by omega) (by omega) (by omega) (by omega) (by omega)
  rw [mkD_self h1, mkD_self h2, ← e1, ← e2] at this
  have hf : ivFit v = true := by unfold ivFit; rw [okFit h1, okFit h2]; rfl
  have hr : ivRes v = v := by unfold ivRes; rw [if_pos hf]
  have hv : (⟨v.lo, v.hi⟩ : IvT) = v := rfl
  rw [hv, hr, hf] at this
  exact this
theorem l7own_v (d : Nat) (h : dyOkB x = true) : vrun Tryz.prog kn (d + 3) 26 [.agg [.bool x.neg, .ints .i64 x.l, .int .i64 x.e]] [] = some (.agg [.bool x.neg, .ints .i64 x.l, .int .i64 x.e], []) := by
  obtain ⟨e1, x1, x2, x3, x4⟩ := okD h
  have h1 := fun d => l3make_v (n := x.neg) (a := x.n) d (by omega)
  have hn : (x.neg && decide (x.n ≠ 0)) = x.neg := by
    by_cases h0 : x.n = 0
    · rw [x4 h0]; rfl
    · simp [h0]
  rw [hn, ← e1] at h1
  rw [vrun_v Tryz.func26 rfl rfl rfl]; simp only [Tryz.f26]
  simp (disch := omega) [go_sem, tab26, h1]
theorem l7fits_v (d : Nat) (h1 : v.lo.l.length < 1000000000) (h2 : v.hi.l.length < 1000000000) (o1 : dyOkB v.lo = dyFit v.lo) (o2 : dyOkB v.hi = dyFit v.hi) : vrun Tryz.prog kn (d + 4) 13 [.agg [.bool v.lo.neg, .ints .i64 v.lo.l, .int .i64 v.lo.e, .bool v.hi.neg, .ints .i64 v.hi.l, .int .i64 v.hi.e]] [] = some (.tup [.agg [.bool (ivRes v).lo.neg, .ints .i64 (ivRes v).lo.l, .int .i64 (ivRes v).lo.e, .bool (ivRes v).hi.neg, .ints .i64 (ivRes v).hi.l, .int .i64 (ivRes v).hi.e], .bool (ivFit v)], []) := by
  have a1 := fun d => sDyOk_v d v.lo.neg (l := v.lo.l) v.lo.e h1
  have a2 := fun d => sDyOk_v d v.hi.neg (l := v.hi.l) v.hi.e h2
  change ∀ d, _ = some (V.bool (dyOkB v.lo), []) at a1
  change ∀ d, _ = some (V.bool (dyOkB v.hi), []) at a2
  unfold ivRes ivFit
  cases q1 : dyFit v.lo with
  | false =>
    rw [o1, q1] at a1
    rw [vrun_v Tryz.func13 rfl rfl rfl]; simp only [Tryz.f13]
    simp (disch := omega) [go_sem, tab13, a1, zT, q1]
  | true =>
    rw [q1] at o1
    have b1 := fun d => l7own_v d o1
    rw [o1] at a1
    cases q2 : dyFit v.hi with
    | false =>
      rw [o2, q2] at a2
      rw [vrun_v Tryz.func13 rfl rfl rfl]; simp only [Tryz.f13]
      simp (disch := omega) [go_sem, tab13, a1, a2, zT, q1, q2]
    | true =>
      rw [q2] at o2
      have b2 := fun d => l7own_v d o2
      rw [o2] at a2
      rw [vrun_v Tryz.func13 rfl rfl rfl]; simp only [Tryz.f13]
      simp (disch := omega) [go_sem, tab13, a1, a2, b1, b2, q1, q2]
theorem l7fits_ok (d : Nat) (h1 : dyOkB v.lo = true) (h2 : dyOkB v.hi = true) : vrun Tryz.prog kn (d + 4) 13 [.agg [.bool v.lo.neg, .ints .i64 v.lo.l, .int .i64 v.lo.e, .bool v.hi.neg, .ints .i64 v.hi.l, .int .i64 v.hi.e]] [] = some (.tup [.agg [.bool v.lo.neg, .ints .i64 v.lo.l, .int .i64 v.lo.e, .bool v.hi.neg, .ints .i64 v.hi.l, .int .i64 v.hi.e], .bool true], []) := by
  obtain ⟨e1, x1, x2, x3, x4⟩ := okD h1
  obtain ⟨e2, y1, y2, y3, y4⟩ := okD h2
  have := l7fits_v d (v := v) (by rw [e1]; omega) (by rw [e2]; omega) (by rw [h1, okFit h1]) (by rw [h2, okFit h2])
  have hf : ivFit v = true := by unfold ivFit; rw [okFit h1, okFit h2]; rfl
  have hr : ivRes v = v := by unfold ivRes; rw [if_pos hf]
  rw [hr, hf] at this
  exact this
/-! ### IvOf -/
def ivOfR (x y : DyT) : IvT := if ivOkB ⟨x, y⟩ then ⟨x, y⟩ else ⟨zT, zT⟩
end
end
/- All of some intervals are valid; inclusion. No conditions. -/
section
open Num
theorem IvT.len (x : IvT) : x.v.length = 6 := rfl
section
variable {ds : List IvT} {g : Nat} {caps : List V} {p : IvT → Bool} {call : CallV}
def ixIvS (ds : List IvT) (g : Nat) (caps : List V) (j : Nat) : VE × VH := ([(0, some (.cells 6 ds.length (flat IvT.v ds))), (1, some (.fn (.func g) [] caps)), (7, some (.int .i64 ds.length)), (8, some (.int .i64 j))], [])
theorem ixfI_v (hl : ds.length < 100000000) {d : Nat} (hg : kn.cf.pure g = true) (hg2 : kn.ali g = false) (hc : ∀ h, omap (vfrz h 6) caps = some caps) (hp : ∀ x ∈ ds, vrun Tryz.prog kn d g (vnrmAs (kn.args g) (.agg x.v :: caps)) [] = some (.bool (p x), [])) :
    ∃ v : Int, vrun Tryz.prog kn (d + 1) 73 [.cells 6 ds.length (flat IvT.v ds), .fn (.func g) [] caps] [] = some (.int .i64 v, []) ∧ decide (0 ≤ v) = ds.any p := by
  rw [k_cf] at hg
  have key := vi_inv (n := kn.cf.rounds) (body := vCode Tryz.prog kn (vrun Tryz.prog kn d) 73 (loopAt Tryz.f73 0)) (fun j s => s = ixIvS ds g caps j ∧ (ds.take j).any p = false)
    (fun r => (r = some (.exit 0, (ixIvS ds g caps ds.length).1 ++ [(9, some (.bool false))], []) ∧ ds.any p = false) ∨ ∃ k : Nat, r = some (.ret, [(4, some (.int .i64 k))], []) ∧ ds.any p = true) ds.length (by rw [k_cf, c_rounds]; omega)
    (fun j s hj hI => by
      obtain ⟨rfl, hI⟩ := hI
      have hget : ds[j]? = some ds[j] := List.getElem?_eq_getElem hj
      have hmem : ds[j] ∈ ds := List.getElem_mem hj
      have hpp := hp _ hmem
      have hsub : ((flat IvT.v ds).drop (j * 6)).take 6 = [.bool ds[j].lo.neg, .ints .i64 ds[j].lo.l, .int .i64 ds[j].lo.e, .bool ds[j].hi.neg, .ints .i64 ds[j].hi.l, .int .i64 ds[j].hi.e] := flat_sub IvT.len ds j _ hget
      generalize ds[j] = x at *
      unfold IvT.v at hpp
      cases hq : p x with
      | true =>
        right; intro m; right
        refine ⟨j, vi_ret ?_, List.any_eq_true.2 ⟨_, hmem, hq⟩⟩
        rw [hq] at hpp
        rw [round_v]; simp only [loopAt, nthC, bodyC, loops, List.nil_append, List.cons_append, List.append_nil, Tryz.f73, ixIvS]
        simp (disch := omega) [go_sem, tab73, hg, hg2, hc, hpp, hsub]
      | false =>
        left
        refine ⟨ixIvS ds g caps (j + 1), ?_, rfl, ?_⟩
        · rw [hq] at hpp
          rw [round_v]; simp only [loopAt, nthC, bodyC, loops, List.nil_append, List.cons_append, List.append_nil, Tryz.f73, ixIvS]
          simp (disch := omega) [go_sem, tab73, hg, hg2, hc, hpp, hsub]
        · rw [List.take_add_one, hget, List.any_append, hI]; simp [hq])
    (fun s hI m => by
      obtain ⟨rfl, hI⟩ := hI
      left
      refine ⟨vi_exit ?_, by rwa [List.take_length] at hI⟩
      rw [round_v]; simp only [loopAt, nthC, bodyC, loops, List.nil_append, List.cons_append, List.append_nil, Tryz.f73, ixIvS]
      simp (disch := omega) [go_sem, tab73])
    (ixIvS ds g caps 0) ⟨rfl, by simp⟩
  rcases key with ⟨hv, ha⟩ | ⟨k, hv, ha⟩
  · have hl0 := fun ks => loop_v (P := Tryz.prog) (K := kn) (ks := ks) hv
    simp only [loopAt, nthC, bodyC, loops, List.nil_append, List.cons_append, List.append_nil, Tryz.f73, ixIvS, Int.natCast_zero, List.cons_append, List.nil_append] at hl0
    refine ⟨-1, ?_, by rw [ha]; rfl⟩
    rw [vrun_v Tryz.func73 rfl rfl rfl]; simp only [Tryz.f73]
    simp (disch := omega) [go_sem, tab73, hc, hl0]
  · have hl0 := fun ks => loop_v (P := Tryz.prog) (K := kn) (ks := ks) hv
    simp only [loopAt, nthC, bodyC, loops, List.nil_append, List.cons_append, List.append_nil, Tryz.f73, ixIvS, Int.natCast_zero, List.cons_append, List.nil_append] at hl0
    refine ⟨k, ?_, by rw [ha]; simp⟩
    rw [vrun_v Tryz.func73 rfl rfl rfl]; simp only [Tryz.f73]
    simp (disch := omega) [go_sem, tab73, hc, hl0]
theorem allI_v (hl : ds.length < 100000000) {d : Nat} (hg : kn.cf.pure g = true) (hg2 : kn.ali g = false) (hp : ∀ x ∈ ds, vrun Tryz.prog kn d g (vnrmAs (kn.args g) [.agg x.v]) [] = some (.bool (p x), [])) :
    vrun Tryz.prog kn (d + 4) 31 [.cells 6 ds.length (flat IvT.v ds), .fn (.func g) [] []] [] = some (.bool (ds.all p), []) := by
  have hg' := hg
  rw [k_cf] at hg'
  have h1 : ∀ x ∈ ds, vrun Tryz.prog kn (d + 1) 52 (vnrmAs (kn.args 52) [.agg x.v, .fptr [.fn (.func g) [] []]]) [] = some (.bool (!p x), []) := fun x hx => by
    have := hp x hx
    unfold IvT.v at this ⊢
    simp only [go_sem, k_args52]
    rw [vrun_v Tryz.func52 rfl rfl rfl]; simp only [Tryz.f52]
    simp (disch := omega) [go_sem, tab52, hg', hg2, this]
  obtain ⟨v, hv, hany⟩ := ixfI_v (caps := [.fptr [.fn (.func g) [] []]]) hl (c_pure52) rfl (fun h => by simp [go_sem]) h1
  have e : ds.all p = !decide (0 ≤ v) := by
    rw [hany, List.not_any_eq_all_not]; simp
  rw [e]
  have h2 : vrun Tryz.prog kn (d + 3) 51 [.cells 6 ds.length (flat IvT.v ds), .fn (.func 52) [] [.fptr [.fn (.func g) [] []]]] [] = some (.bool (decide (0 ≤ v)), []) := by
    rw [vrun_v Tryz.func51 rfl rfl rfl]; simp only [Tryz.f51]
    simp (disch := omega) [go_sem, tab51, hv]
  rw [vrun_v Tryz.func31 rfl rfl rfl]; simp only [Tryz.f31]
  simp (disch := omega) [go_sem, tab31, h2]
def IvT.sz (x : IvT) : Prop := x.lo.sz ∧ x.hi.sz
theorem areIvs_v (d : Nat) (hl : ds.length < 100000000) (hs : ∀ x ∈ ds, x.sz) : vrun Tryz.prog kn (d + 20) 16 [.cells 6 ds.length (flat IvT.v ds)] [] = some (.bool (ds.all ivOkB), []) := by
  have h1 := fun d => allI_v (g := 32) (ds := ds) (p := ivOkB) (d := d + 15) hl c_pure32 rfl (fun x hx => by
    have hx' := hs x hx
    have := IvOk_v d hx'.1 hx'.2
    unfold IvT.v
    simp only [go_sem, k_args32]
    exact this)
  rw [vrun_v Tryz.func16 rfl rfl rfl]; simp only [Tryz.f16]
  simp (disch := omega) [go_sem, tab16, h1]
theorem areIvs2_v (d : Nat) {v w : IvT} (h1 : v.sz) (h2 : w.sz) : vrun Tryz.prog kn (d + 20) 16 [.cells 6 2 [.bool v.lo.neg, .ints .i64 v.lo.l, .int .i64 v.lo.e, .bool v.hi.neg, .ints .i64 v.hi.l, .int .i64 v.hi.e, .bool w.lo.neg, .ints .i64 w.lo.l, .int .i64 w.lo.e, .bool w.hi.neg, .ints .i64 w.hi.l, .int .i64 w.hi.e]] [] = some (.bool (ivOkB v && ivOkB w), []) := by
  have := areIvs_v d (ds := [v, w]) (by simp) (by simp [h1, h2])
  simpa [flat, IvT.v] using this
end
section
variable {v w : IvT}
end
end
/- The greatest and the least of some numbers. No conditions. -/
section
open Num
def exOk (x : DyT) : Prop := x.l = D x.n ∧ (D x.n).length < 100000 ∧ -100000 ≤ x.e ∧ x.e ≤ 100000
theorem exOk_of {x : DyT} (h : dyOkB x = true) : exOk x := by obtain ⟨h1, h2, h3, h4, _⟩ := ok_D h; exact ⟨h1, h2, h3, h4⟩
def mxF (m x : DyT) : DyT := if 0 < dcmp x m then x else m
def mnF (m x : DyT) : DyT := if dcmp x m < 0 then x else m
theorem mxF_ok {m x : DyT} (h : exOk m) (h' : exOk x) : exOk (mxF m x) := by unfold mxF; split <;> assumption
theorem mnF_ok {m x : DyT} (h : exOk m) (h' : exOk x) : exOk (mnF m x) := by unfold mnF; split <;> assumption
theorem fold_ok {f : DyT → DyT → DyT} (hf : ∀ {m x}, exOk m → exOk x → exOk (f m x)) : ∀ {r : List DyT} {a : DyT}, exOk a → (∀ x ∈ r, exOk x) → exOk (r.foldl f a)
  | [], _, h, _ => h
  | b :: r, a, h, hr => fold_ok hf (r := r) (hf h (hr b (by simp))) fun x hx => hr x (by simp [hx])
theorem dcmpE_v (d : Nat) {x y : DyT} (hx : exOk x) (hy : exOk y) : vrun Tryz.prog kn (d + 5) 54 [.agg [.bool x.neg, .ints .i64 x.l, .int .i64 x.e], .agg [.bool y.neg, .ints .i64 y.l, .int .i64 y.e]] [] = some (.int .i64 (dcmp x y), []) := by
  obtain ⟨e1, a1, a2, a3⟩ := hx
  obtain ⟨e2, b1, b2, b3⟩ := hy
  have := cmp_v (n := x.neg) (m := y.neg) d a1 b1 a2 a3 b2 b3
  rw [← e1, ← e2] at this
  exact this
section
variable {a : DyT} {r : List DyT}
def mxS (a : DyT) (r : List DyT) (i : Nat) : VE × VH := ([(0, some (.cells 3 (r.length + 1) (flat DyT.v (a :: r)))), (1, some (.fn (.func 54) [] [])), (4, some (.ptr 0 0)), (5, some (.ptr 1 0)), (6, some (.int .i64 ((i : Int) + 1)))], [.vals true [.bool false, .nil, .int .i64 0], .vals true ((r.take i).foldl mxF a).v])
theorem mx_r (d : Nat) (hr : r.length < 100000000) (ha : exOk a) (ho : ∀ x ∈ r, exOk x) {i : Nat} (hi : i < r.length) : vCode Tryz.prog kn (vrun Tryz.prog kn (d + 5)) 57 (loopAt Tryz.f57 0) (mxS a r i).1 (mxS a r i).2 = some (.norm, mxS a r (i + 1)) := by
  have hget : (a :: r)[i + 1]? = some r[i] := by simp
  have hsub : ((flat DyT.v (a :: r)).drop ((i + 1) * 3)).take 3 = [.bool r[i].neg, .ints .i64 r[i].l, .int .i64 r[i].e] := flat_sub DyT.len (a :: r) (i + 1) _ hget
  have hm : exOk ((r.take i).foldl mxF a) := fold_ok mxF_ok ha fun x hx => ho x (List.mem_of_mem_take hx)
  have c1 := dcmpE_v d (ho _ (List.getElem_mem hi)) hm
  have hfl : (r.take (i + 1)).foldl mxF a = mxF ((r.take i).foldl mxF a) r[i] := by
    rw [List.take_add_one, List.getElem?_eq_getElem hi, List.foldl_append]; rfl
  rw [round_v]; simp only [loopAt, nthC, bodyC, loops, List.nil_append, List.cons_append, List.append_nil, Tryz.f57, mxS, hfl]
  generalize (r.take i).foldl mxF a = m at *
  generalize r[i] = x at *
  have hlen := flat_len DyT.len (a :: r)
  simp only [List.length_cons] at hlen
  generalize flat DyT.v (a :: r) = F at *
  unfold mxF DyT.v
  by_cases hq : 0 < dcmp x m
  · simp (disch := omega) [go_sem, tab57, hsub, c1, hq, hlen]
  · simp (disch := omega) [go_sem, tab57, hsub, c1, hq, hlen]
theorem mx_x (d : Nat) (hr : r.length < 100000000) : vCode Tryz.prog kn (vrun Tryz.prog kn d) 57 (loopAt Tryz.f57 0) (mxS a r r.length).1 (mxS a r r.length).2 = some (.exit 0, (mxS a r r.length).1 ++ [(17, some (.bool false))], (mxS a r r.length).2) := by
  rw [round_v]; simp only [loopAt, nthC, bodyC, loops, List.nil_append, List.cons_append, List.append_nil, Tryz.f57, mxS]
  generalize flat DyT.v (a :: r) = F
  generalize (r.take r.length).foldl mxF a = m
  unfold DyT.v
  simp (disch := omega) [go_sem, tab57]
theorem MaxFunc_v (d : Nat) (hr : r.length < 100000000) (ha : exOk a) (ho : ∀ x ∈ r, exOk x) : vrun Tryz.prog kn (d + 1 + 5) 57 [.cells 3 (r.length + 1) (flat DyT.v (a :: r)), .fn (.func 54) [] []] [] = some (.agg (r.foldl mxF a).v, []) := by
  have hl0 := fun ks => loop_v (P := Tryz.prog) (K := kn) (ks := ks) (vi_for (mxS a r) r.length (n := kn.cf.rounds) (by rw [k_cf, c_rounds]; omega) (fun j hj => mx_r d hr ha ho hj) fun m => vi_exit (mx_x _ hr))
  have hsub : ((flat DyT.v (a :: r)).drop (0 * 3)).take 3 = [.bool a.neg, .ints .i64 a.l, .int .i64 a.e] := flat_sub DyT.len (a :: r) 0 _ (by simp)
  simp only [loopAt, nthC, bodyC, loops, List.nil_append, List.cons_append, List.append_nil, Tryz.f57, mxS, Int.natCast_zero, List.cons_append, List.nil_append, List.take_zero, List.foldl_nil, List.take_length, Int.zero_add] at hl0
  have hlen := flat_len DyT.len (a :: r)
  simp only [List.length_cons] at hlen
  rw [Nat.zero_mul, List.drop_zero] at hsub
  generalize flat DyT.v (a :: r) = F at *
  generalize r.foldl mxF a = m at *
  unfold DyT.v at hl0 ⊢
  rw [vrun_v Tryz.func57 rfl rfl rfl]; simp only [Tryz.f57]
  simp (disch := omega) [go_sem, tab57, hl0, hsub, hlen]
theorem most_v (d : Nat) (hr : r.length < 100000000) (ha : exOk a) (ho : ∀ x ∈ r, exOk x) : vrun Tryz.prog kn (d + 7) 37 [.cells 3 (r.length + 1) (flat DyT.v (a :: r))] [] = some (.agg (r.foldl mxF a).v, []) := by
  have h1 := fun d => MaxFunc_v d hr ha ho
  generalize flat DyT.v (a :: r) = F at *
  generalize r.foldl mxF a = m at *
  unfold DyT.v at h1 ⊢
  rw [vrun_v Tryz.func37 rfl rfl rfl]; simp only [Tryz.f37]
  simp (disch := omega) [go_sem, tab37, h1]
def mnS (a : DyT) (r : List DyT) (i : Nat) : VE × VH := ([(0, some (.cells 3 (r.length + 1) (flat DyT.v (a :: r)))), (1, some (.fn (.func 54) [] [])), (4, some (.ptr 0 0)), (5, some (.ptr 1 0)), (6, some (.int .i64 ((i : Int) + 1)))], [.vals true [.bool false, .nil, .int .i64 0], .vals true ((r.take i).foldl mnF a).v])
theorem mn_r (d : Nat) (hr : r.length < 100000000) (ha : exOk a) (ho : ∀ x ∈ r, exOk x) {i : Nat} (hi : i < r.length) : vCode Tryz.prog kn (vrun Tryz.prog kn (d + 5)) 56 (loopAt Tryz.f56 0) (mnS a r i).1 (mnS a r i).2 = some (.norm, mnS a r (i + 1)) := by
  have hget : (a :: r)[i + 1]? = some r[i] := by simp
  have hsub : ((flat DyT.v (a :: r)).drop ((i + 1) * 3)).take 3 = [.bool r[i].neg, .ints .i64 r[i].l, .int .i64 r[i].e] := flat_sub DyT.len (a :: r) (i + 1) _ hget
  have hm : exOk ((r.take i).foldl mnF a) := fold_ok mnF_ok ha fun x hx => ho x (List.mem_of_mem_take hx)
  have c1 := dcmpE_v d (ho _ (List.getElem_mem hi)) hm
  have hfl : (r.take (i + 1)).foldl mnF a = mnF ((r.take i).foldl mnF a) r[i] := by
    rw [List.take_add_one, List.getElem?_eq_getElem hi, List.foldl_append]; rfl
  rw [round_v]; simp only [loopAt, nthC, bodyC, loops, List.nil_append, List.cons_append, List.append_nil, Tryz.f56, mnS, hfl]
  generalize (r.take i).foldl mnF a = m at *
  generalize r[i] = x at *
  have hlen := flat_len DyT.len (a :: r)
  simp only [List.length_cons] at hlen
  generalize flat DyT.v (a :: r) = F at *
  unfold mnF DyT.v
  by_cases hq : dcmp x m < 0
  · simp (disch := omega) [go_sem, tab56, hsub, c1, hq, hlen]
  · simp (disch := omega) [go_sem, tab56, hsub, c1, hq, hlen]
theorem mn_x (d : Nat) (hr : r.length < 100000000) : vCode Tryz.prog kn (vrun Tryz.prog kn d) 56 (loopAt Tryz.f56 0) (mnS a r r.length).1 (mnS a r r.length).2 = some (.exit 0, (mnS a r r.length).1 ++ [(17, some (.bool false))], (mnS a r r.length).2) := by
  rw [round_v]; simp only [loopAt, nthC, bodyC, loops, List.nil_append, List.cons_append, List.append_nil, Tryz.f56, mnS]
  generalize flat DyT.v (a :: r) = F
  generalize (r.take r.length).foldl mnF a = m
  unfold DyT.v
  simp (disch := omega) [go_sem, tab56]
theorem MinFunc_v (d : Nat) (hr : r.length < 100000000) (ha : exOk a) (ho : ∀ x ∈ r, exOk x) : vrun Tryz.prog kn (d + 1 + 5) 56 [.cells 3 (r.length + 1) (flat DyT.v (a :: r)), .fn (.func 54) [] []] [] = some (.agg (r.foldl mnF a).v, []) := by
  have hl0 := fun ks => loop_v (P := Tryz.prog) (K := kn) (ks := ks) (vi_for (mnS a r) r.length (n := kn.cf.rounds) (by rw [k_cf, c_rounds]; omega) (fun j hj => mn_r d hr ha ho hj) fun m => vi_exit (mn_x _ hr))
  have hsub : ((flat DyT.v (a :: r)).drop (0 * 3)).take 3 = [.bool a.neg, .ints .i64 a.l, .int .i64 a.e] := flat_sub DyT.len (a :: r) 0 _ (by simp)
  simp only [loopAt, nthC, bodyC, loops, List.nil_append, List.cons_append, List.append_nil, Tryz.f56, mnS, Int.natCast_zero, List.cons_append, List.nil_append, List.take_zero, List.foldl_nil, List.take_length, Int.zero_add] at hl0
  have hlen := flat_len DyT.len (a :: r)
  simp only [List.length_cons] at hlen
  rw [Nat.zero_mul, List.drop_zero] at hsub
  generalize flat DyT.v (a :: r) = F at *
  generalize r.foldl mnF a = m at *
  unfold DyT.v at hl0 ⊢
  rw [vrun_v Tryz.func56 rfl rfl rfl]; simp only [Tryz.f56]
  simp (disch := omega) [go_sem, tab56, hl0, hsub, hlen]
theorem least_v (d : Nat) (hr : r.length < 100000000) (ha : exOk a) (ho : ∀ x ∈ r, exOk x) : vrun Tryz.prog kn (d + 7) 36 [.cells 3 (r.length + 1) (flat DyT.v (a :: r))] [] = some (.agg (r.foldl mnF a).v, []) := by
  have h1 := fun d => MinFunc_v d hr ha ho
  generalize flat DyT.v (a :: r) = F at *
  generalize r.foldl mnF a = m at *
  unfold DyT.v at h1 ⊢
  rw [vrun_v Tryz.func36 rfl rfl rfl]; simp only [Tryz.f36]
  simp (disch := omega) [go_sem, tab36, h1]
end
end
/- IvMatOk: program, reference. No conditions. -/
section
open Num
section
variable {ds : List IvT} {N : Int}
def ivMatOkB (N : Int) (ds : List IvT) : Bool := decide (1 ≤ N) && decide (N ≤ 4) && decide (ds.length = N * N) && ds.all ivOkB
def sIMOS (N : Int) (ds : List IvT) (j : Nat) : VE × VH := ([(1, some (.ptr 0 0)), (3, some (.int .i64 j))], [.vals true [.int .i64 N, .cells 6 ds.length (flat IvT.v ds)]])
end
end
/- What two intervals have in common; interval matrices that meet: program and reference. No conditions. -/
section
open Num
section
variable {v w : IvT}
def meetT (v w : IvT) : IvT := ⟨mxF v.lo w.lo, mnF v.hi w.hi⟩
end
section
variable {vs ws : List IvT} {N M : Int}
def meetB (v w : IvT) : Bool := decide (dcmp v.lo w.hi ≤ 0) && decide (dcmp w.lo v.hi ≤ 0)
theorem meet_eq {v w : IvT} (hv : ivOkB v = true) (hw : ivOkB w = true) : decide (dcmp (meetT v w).lo (meetT v w).hi ≤ 0) = meetB v w := by
  obtain ⟨v1, v2⟩ := ivOk_and hv
  obtain ⟨w1, w2⟩ := ivOk_and hw
  have lv : dcmp v.lo v.hi ≤ 0 := by unfold ivOkB at hv; rw [Bool.and_eq_true, decide_eq_true_eq] at hv; exact hv.2
  have lw : dcmp w.lo w.hi ≤ 0 := by unfold ivOkB at hw; rw [Bool.and_eq_true, decide_eq_true_eq] at hw; exact hw.2
  unfold meetB meetT mxF mnF
  simp only
  have pos : ∀ {x y : DyT}, dyOkB x = true → dyOkB y = true → (0 < dcmp x y ↔ y.sv (-3000) < x.sv (-3000)) := fun hx hy => by have := dcmp_le hx hy; omega
  have neg : ∀ {x y : DyT}, dyOkB x = true → dyOkB y = true → (dcmp x y < 0 ↔ x.sv (-3000) < y.sv (-3000)) := fun hx hy => by have := dcmp_le hx hy; have := dcmp_eq hx hy; omega
  rw [dcmp_le v1 v2] at lv
  rw [dcmp_le w1 w2] at lw
  have p := pos w1 v1
  have q := neg w2 v2
  have e1 := dcmp_le v1 w2
  have e2 := dcmp_le w1 v2
  have e3 := dcmp_le v1 v2
  have e4 := dcmp_le w1 w2
  rw [Bool.eq_iff_iff, Bool.and_eq_true, decide_eq_true_eq, decide_eq_true_eq, decide_eq_true_eq]
  by_cases a : 0 < dcmp w.lo v.lo <;> by_cases b : dcmp w.hi v.hi < 0 <;> simp only [a, b, if_true, if_false] <;> omega
end
end
/- Intervals: intersection and hull, program and reference. No conditions. -/
section
open Num
section
variable {v w : IvT} {x y : DyT}
theorem ge_iff (hx : dyOkB x = true) (hy : dyOkB y = true) : (0 ≤ dcmp x y) ↔ ¬ 0 < dcmp y x := by
  have h1 := dcmp_le hx hy
  have h2 := dcmp_eq hx hy
  have h3 := dcmp_le hy hx
  omega
theorem le_iff (hx : dyOkB x = true) (hy : dyOkB y = true) : (dcmp x y ≤ 0) ↔ ¬ dcmp y x < 0 := by
  have h1 := dcmp_le hx hy
  have h2 := dcmp_eq hy hx
  have h3 := dcmp_le hy hx
  omega
theorem mx_ok (hx : dyOkB x = true) (hy : dyOkB y = true) : dyOkB (mxF x y) = true := by unfold mxF; split <;> assumption
theorem mn_ok (hx : dyOkB x = true) (hy : dyOkB y = true) : dyOkB (mnF x y) = true := by unfold mnF; split <;> assumption
theorem l7more_v (d : Nat) (hx : dyOkB x = true) (hy : dyOkB y = true) : vrun Tryz.prog kn (d + 6) 29 [.agg [.bool x.neg, .ints .i64 x.l, .int .i64 x.e], .agg [.bool y.neg, .ints .i64 y.l, .int .i64 y.e]] [] = some (.agg [.bool (mxF x y).neg, .ints .i64 (mxF x y).l, .int .i64 (mxF x y).e], []) := by
  have c1 := fun d => dcmpS_v d hx hy
  have e := ge_iff hx hy
  unfold mxF
  by_cases h : 0 < dcmp y x
  · have h' : ¬ 0 ≤ dcmp x y := fun q => e.1 q h
    rw [vrun_v Tryz.func29 rfl rfl rfl]; simp only [Tryz.f29]
    simp (disch := omega) [go_sem, tab29, c1, h, h']
  · have h' : 0 ≤ dcmp x y := e.2 h
    rw [vrun_v Tryz.func29 rfl rfl rfl]; simp only [Tryz.f29]
    simp (disch := omega) [go_sem, tab29, c1, h, h']
theorem l7less_v (d : Nat) (hx : dyOkB x = true) (hy : dyOkB y = true) : vrun Tryz.prog kn (d + 6) 28 [.agg [.bool x.neg, .ints .i64 x.l, .int .i64 x.e], .agg [.bool y.neg, .ints .i64 y.l, .int .i64 y.e]] [] = some (.agg [.bool (mnF x y).neg, .ints .i64 (mnF x y).l, .int .i64 (mnF x y).e], []) := by
  have c1 := fun d => dcmpS_v d hx hy
  have e := le_iff hx hy
  unfold mnF
  by_cases h : dcmp y x < 0
  · have h' : ¬ dcmp x y ≤ 0 := fun q => e.1 q h
    rw [vrun_v Tryz.func28 rfl rfl rfl]; simp only [Tryz.f28]
    simp (disch := omega) [go_sem, tab28, c1, h, h']
  · have h' : dcmp x y ≤ 0 := e.2 h
    rw [vrun_v Tryz.func28 rfl rfl rfl]; simp only [Tryz.f28]
    simp (disch := omega) [go_sem, tab28, c1, h, h']
/-! ### IvJoin -/
def joinT (v w : IvT) : IvT := ⟨mnF v.lo w.lo, mxF v.hi w.hi⟩
def ivJoinR (v w : IvT) : IvT := if ivOkB v && ivOkB w then joinT v w else ⟨zT, zT⟩
/-! ### IvMeet -/
def ivMeetF (v w : IvT) : Bool := ivOkB v && ivOkB w && decide (dcmp (meetT v w).lo (meetT v w).hi ≤ 0)
def ivMeetR (v w : IvT) : IvT := if ivMeetF v w then meetT v w else ⟨zT, zT⟩
end
end
/- Products of intervals: the least and the greatest of four products, in any form. No conditions. -/
section
open Num
/-- A number in any form. -/
structure gOk (x : DyT) : Prop where
  l : x.l = D x.n
  len : (D x.n).length < 1000
  e0 : -10000 ≤ x.e
  e1 : x.e ≤ 10000
  z : x.n = 0 → x.neg = false
theorem gOk.ex {x : DyT} (h : gOk x) : exOk x := ⟨h.l, by have := h.len; omega, by have := h.e0; omega, by have := h.e1; omega⟩
def can (x : DyT) : DyT := mkD x.neg x.n x.e
theorem mkD_n0 (n : Bool) (a : Nat) (e : Int) : (mkD n a e).l = D (mkD n a e).n ∧ ((mkD n a e).n = 0 → (mkD n a e).neg = false) := by
  unfold mkD DyT.n
  by_cases h0 : a = 0
  · rw [if_pos h0]; exact ⟨D_zero.symm, fun _ => rfl⟩
  · rw [if_neg h0]
    have hb := tz_bit h0
    simp only
    rw [val_D]
    refine ⟨rfl, fun h => ?_⟩
    have : a / 2 ^ tz a = 0 := (Int.toNat_natCast _).symm.trans h
    rw [this] at hb; simp at hb
/-- A product in the form that the program has. -/
def prodT (x y : DyT) : DyT := ⟨(x.neg != y.neg) && decide (x.n * y.n ≠ 0), D (x.n * y.n), x.e + y.e⟩
theorem prodT_n (x y : DyT) : (prodT x y).n = x.n * y.n := by show (val (D (x.n * y.n))).toNat = _; rw [val_D]; rfl
theorem prod_ok {x y : DyT} (hx : dyOkB x = true) (hy : dyOkB y = true) : gOk (prodT x y) ∧ gOk (can (prodT x y)) := by
  obtain ⟨e1, x1, x2, x3, x4⟩ := okD hx
  obtain ⟨e2, y1, y2, y3, y4⟩ := okD hy
  have hl := len_mul x.n y.n
  refine ⟨⟨by rw [prodT_n]; rfl, by rw [prodT_n]; omega, by show -10000 ≤ x.e + y.e; omega, by show x.e + y.e ≤ 10000; omega, fun h => by rw [prodT_n] at h; show ((x.neg != y.neg) && decide (x.n * y.n ≠ 0)) = false; rw [h]; simp⟩, ?_⟩
  unfold can
  obtain ⟨h1, h2⟩ := mkD_n0 (prodT x y).neg (prodT x y).n (prodT x y).e
  have hlen : (mkD (prodT x y).neg (prodT x y).n (prodT x y).e).l.length ≤ (D (prodT x y).n).length := mkD_len
  have he : -10000 ≤ (mkD (prodT x y).neg (prodT x y).n (prodT x y).e).e ∧ (mkD (prodT x y).neg (prodT x y).n (prodT x y).e).e ≤ 10000 := by
    unfold mkD
    by_cases h0 : (prodT x y).n = 0
    · rw [if_pos h0]; simp
    · rw [if_neg h0]
      have := tz_lt h0
      rw [prodT_n] at this ⊢
      show -10000 ≤ x.e + y.e + (tz (x.n * y.n) : Int) ∧ x.e + y.e + (tz (x.n * y.n) : Int) ≤ 10000
      omega
  have hl2 : (D (prodT x y).n).length ≤ 200 := by rw [prodT_n]; omega
  refine ⟨h1, ?_, he.1, he.2, h2⟩
  rw [← h1]
  omega
theorem dcmp_svG {x y : DyT} {K : Int} (a4 : x.n = 0 → x.neg = false) (b4 : y.n = 0 → y.neg = false) (h1 : K ≤ x.e) (h2 : K ≤ y.e) : (dcmp x y ≤ 0 ↔ x.sv K ≤ y.sv K) ∧ (dcmp x y = 0 ↔ x.sv K = y.sv K) := by
  unfold dcmp DyT.sv
  have z := al_zero (a := x.n) (ex := x.e) (ey := y.e) (b := y.n)
  have za : alA x.n x.e y.n y.e = 0 → x.neg = false := fun h => a4 (z.1.1 h)
  have zb : alB x.n x.e y.n y.e = 0 → y.neg = false := fun h => b4 (z.2.1 h)
  rw [scmp_le za zb, scmp_eq za zb, ← sg_mul, ← sg_mul, (al_sv h1 h2).1, (al_sv h1 h2).2, sg_mul, sg_mul]
  have hp : (0 : Int) < (2 ^ (alE x.n x.e y.n y.e - K).toNat : Nat) := by exact_mod_cast Nat.two_pow_pos _
  exact ⟨⟨fun h => Int.mul_le_mul_of_nonneg_right h (Int.le_of_lt hp), fun h => Int.le_of_mul_le_mul_right h hp⟩, ⟨fun h => by rw [h], fun h => Int.eq_of_mul_eq_mul_right (by omega) h⟩⟩
theorem can_sv {x : DyT} {K : Int} (h : K ≤ x.e) : (can x).sv K = x.sv K := mkD_sv h
theorem can_cmp {x y : DyT} (hx : gOk x) (hy : gOk y) (hx' : gOk (can x)) (hy' : gOk (can y)) : (dcmp (can x) (can y) ≤ 0 ↔ ¬ dcmp y x < 0) ∧ (0 ≤ dcmp (can x) (can y) ↔ ¬ 0 < dcmp y x) := by
  obtain ⟨a1, a2⟩ := dcmp_svG (K := -10000) hx'.z hy'.z hx'.e0 hy'.e0
  obtain ⟨b1, b2⟩ := dcmp_svG (K := -10000) hy.z hx.z hy.e0 hx.e0
  rw [can_sv hx.e0, can_sv hy.e0] at a1 a2
  omega
section
variable {x y : DyT} {v w : IvT}
theorem dcmpG_v (d : Nat) (hx : gOk x) (hy : gOk y) : vrun Tryz.prog kn (d + 5) 25 [.agg [.bool x.neg, .ints .i64 x.l, .int .i64 x.e], .agg [.bool y.neg, .ints .i64 y.l, .int .i64 y.e]] [] = some (.int .i64 (dcmp x y), []) := by
  have := l4cmp_v (n := x.neg) (m := y.neg) (a := x.n) (b := y.n) (ex := x.e) (ey := y.e) d (by have := hx.len; omega) (by have := hy.len; omega) (by have := hx.e0; omega) (by have := hx.e1; omega) (by have := hy.e0; omega) (by have := hy.e1; omega) hx.z hy.z
  rw [← hx.l, ← hy.l] at this
  exact this
theorem mnF_can {P : DyT → Prop} (hx : P x) (hy : P y) : P (mnF x y) := by unfold mnF; split <;> assumption
theorem mxF_can {P : DyT → Prop} (hx : P x) (hy : P y) : P (mxF x y) := by unfold mxF; split <;> assumption
theorem l7lessG_v (d : Nat) (hx : gOk x ∧ gOk (can x)) (hy : gOk y ∧ gOk (can y)) : vrun Tryz.prog kn (d + 6) 28 [.agg [.bool (can x).neg, .ints .i64 (can x).l, .int .i64 (can x).e], .agg [.bool (can y).neg, .ints .i64 (can y).l, .int .i64 (can y).e]] [] = some (.agg [.bool (can (mnF x y)).neg, .ints .i64 (can (mnF x y)).l, .int .i64 (can (mnF x y)).e], []) := by
  have c1 := fun d => dcmpG_v d hx.2 hy.2
  have e := (can_cmp hx.1 hy.1 hx.2 hy.2).1
  unfold mnF
  by_cases h : dcmp y x < 0
  · have h' : ¬ dcmp (can x) (can y) ≤ 0 := fun q => e.1 q h
    rw [if_pos h]
    rw [vrun_v Tryz.func28 rfl rfl rfl]; simp only [Tryz.f28]
    simp (disch := omega) [go_sem, tab28, c1, h']
  · have h' : dcmp (can x) (can y) ≤ 0 := e.2 h
    rw [if_neg h]
    rw [vrun_v Tryz.func28 rfl rfl rfl]; simp only [Tryz.f28]
    simp (disch := omega) [go_sem, tab28, c1, h']
theorem l7moreG_v (d : Nat) (hx : gOk x ∧ gOk (can x)) (hy : gOk y ∧ gOk (can y)) : vrun Tryz.prog kn (d + 6) 29 [.agg [.bool (can x).neg, .ints .i64 (can x).l, .int .i64 (can x).e], .agg [.bool (can y).neg, .ints .i64 (can y).l, .int .i64 (can y).e]] [] = some (.agg [.bool (can (mxF x y)).neg, .ints .i64 (can (mxF x y)).l, .int .i64 (can (mxF x y)).e], []) := by
  have c1 := fun d => dcmpG_v d hx.2 hy.2
  have e := (can_cmp hx.1 hy.1 hx.2 hy.2).2
  unfold mxF
  by_cases h : 0 < dcmp y x
  · have h' : ¬ 0 ≤ dcmp (can x) (can y) := fun q => e.1 q h
    rw [if_pos h]
    rw [vrun_v Tryz.func29 rfl rfl rfl]; simp only [Tryz.f29]
    simp (disch := omega) [go_sem, tab29, c1, h']
  · have h' : 0 ≤ dcmp (can x) (can y) := e.2 h
    rw [if_neg h]
    rw [vrun_v Tryz.func29 rfl rfl rfl]; simp only [Tryz.f29]
    simp (disch := omega) [go_sem, tab29, c1, h']
end
end
/- Products of intervals, program and reference. No conditions. -/
section
open Num
section
variable {P0 P1 P2 P3 : DyT} {v w : IvT} {x y : DyT}
def lo4 (P0 P1 P2 P3 : DyT) : Nat → DyT
  | 0 => P0
  | 1 => mnF P0 P1
  | 2 => mnF (mnF P0 P1) P2
  | _ => mnF (mnF (mnF P0 P1) P2) P3
def hi4 (P0 P1 P2 P3 : DyT) : Nat → DyT
  | 0 => P0
  | 1 => mxF P0 P1
  | 2 => mxF (mxF P0 P1) P2
  | _ => mxF (mxF (mxF P0 P1) P2) P3
def m7S (P0 P1 P2 P3 : DyT) (j : Nat) : VE × VH := ([(4, some (.ptr 0 0)), (5, some (.sl 1 0 4 3)), (6, some (.ptr 2 0)), (7, some (.int .i64 ((j : Int) + 1)))], [.vals true [.bool false, .nil, .int .i64 0, .bool false, .nil, .int .i64 0], .vals true [.bool (can P0).neg, .ints .i64 (can P0).l, .int .i64 (can P0).e, .bool (can P1).neg, .ints .i64 (can P1).l, .int .i64 (can P1).e, .bool (can P2).neg, .ints .i64 (can P2).l, .int .i64 (can P2).e, .bool (can P3).neg, .ints .i64 (can P3).l, .int .i64 (can P3).e], .vals true [.bool (can (lo4 P0 P1 P2 P3 j)).neg, .ints .i64 (can (lo4 P0 P1 P2 P3 j)).l, .int .i64 (can (lo4 P0 P1 P2 P3 j)).e, .bool (can (hi4 P0 P1 P2 P3 j)).neg, .ints .i64 (can (hi4 P0 P1 P2 P3 j)).l, .int .i64 (can (hi4 P0 P1 P2 P3 j)).e]])
def G2 (x : DyT) : Prop := gOk x ∧ gOk (can x)
theorem m7_r (d : Nat) (g0 : G2 P0) (g1 : G2 P1) (g2 : G2 P2) (g3 : G2 P3) {j : Nat} (hj : j < 3) : vCode Tryz.prog kn (vrun Tryz.prog kn (d + 6)) 14 (loopAt Tryz.f14 0) (m7S P0 P1 P2 P3 j).1 (m7S P0 P1 P2 P3 j).2 = some (.norm, m7S P0 P1 P2 P3 (j + 1)) := by
  have k1 : G2 (mnF P0 P1) := mnF_can g0 g1
  have k2 : G2 (mnF (mnF P0 P1) P2) := mnF_can k1 g2
  have q1 : G2 (mxF P0 P1) := mxF_can g0 g1
  have q2 : G2 (mxF (mxF P0 P1) P2) := mxF_can q1 g2
  rcases (by omega : j = 0 ∨ j = 1 ∨ j = 2) with rfl | rfl | rfl
  · have h1 := l7lessG_v d g0 g1
    have h2 := l7moreG_v d g0 g1
    rw [round_v]; simp only [loopAt, nthC, bodyC, loops, List.nil_append, List.cons_append, List.append_nil, Tryz.f14, m7S, lo4, hi4]
    simp (implicitDefEqProofs := false) (disch := omega) [go_sem, tab14, h1, h2]
  · have h1 := l7lessG_v d k1 g2
    have h2 := l7moreG_v d q1 g2
    rw [round_v]; simp only [loopAt, nthC, bodyC, loops, List.nil_append, List.cons_append, List.append_nil, Tryz.f14, m7S, lo4, hi4]
    simp (implicitDefEqProofs := false) (disch := omega) [go_sem, tab14, h1, h2]
  · have h1 := l7lessG_v d k2 g3
    have h2 := l7moreG_v d q2 g3
    rw [round_v]; simp only [loopAt, nthC, bodyC, loops, List.nil_append, List.cons_append, List.append_nil, Tryz.f14, m7S, lo4, hi4]
    simp (implicitDefEqProofs := false) (disch := omega) [go_sem, tab14, h1, h2]
theorem m7_x (call : CallV) : vCode Tryz.prog kn call 14 (loopAt Tryz.f14 0) (m7S P0 P1 P2 P3 3).1 (m7S P0 P1 P2 P3 3).2 = some (.exit 0, (m7S P0 P1 P2 P3 3).1 ++ [(37, some (.bool false))], (m7S P0 P1 P2 P3 3).2) := by
  rw [round_v]; simp only [loopAt, nthC, bodyC, loops, List.nil_append, List.cons_append, List.append_nil, Tryz.f14, m7S]
  simp (implicitDefEqProofs := false) (disch := omega) [go_sem, tab14]
/-- The four products. -/
def mulLo (v w : IvT) : DyT := lo4 (prodT v.lo w.lo) (prodT v.lo w.hi) (prodT v.hi w.lo) (prodT v.hi w.hi) 3
def mulHi (v w : IvT) : DyT := hi4 (prodT v.lo w.lo) (prodT v.lo w.hi) (prodT v.hi w.lo) (prodT v.hi w.hi) 3
theorem mulLo_ok (h1 : ivOkB v = true) (h2 : ivOkB w = true) : G2 (mulLo v w) ∧ G2 (mulHi v w) ∧ (D (mulLo v w).n).length ≤ 200 ∧ (D (mulHi v w).n).length ≤ 200 := by
  obtain ⟨o1, o2⟩ := ivOk_and h1
  obtain ⟨o3, o4⟩ := ivOk_and h2
  have hl : ∀ {x y : DyT}, dyOkB x = true → dyOkB y = true → (D (prodT x y).n).length ≤ 200 := fun {x y} hx hy => by
    obtain ⟨_, x1, _⟩ := okD hx
    obtain ⟨_, y1, _⟩ := okD hy
    have := len_mul x.n y.n
    rw [prodT_n]; omega
  have a1 := prod_ok o1 o3
  have a2 := prod_ok o1 o4
  have a3 := prod_ok o2 o3
  have a4 := prod_ok o2 o4
  unfold mulLo mulHi lo4 hi4
  exact ⟨mnF_can (P := G2) (mnF_can (P := G2) (mnF_can (P := G2) a1 a2) a3) a4, mxF_can (P := G2) (mxF_can (P := G2) (mxF_can (P := G2) a1 a2) a3) a4,
    mnF_can (P := fun x => (D x.n).length ≤ 200) (mnF_can (P := fun x => (D x.n).length ≤ 200) (mnF_can (P := fun x => (D x.n).length ≤ 200) (hl o1 o3) (hl o1 o4)) (hl o2 o3)) (hl o2 o4),
    mxF_can (P := fun x => (D x.n).length ≤ 200) (mxF_can (P := fun x => (D x.n).length ≤ 200) (mxF_can (P := fun x => (D x.n).length ≤ 200) (hl o1 o3) (hl o1 o4)) (hl o2 o3)) (hl o2 o4)⟩
theorem l4mulG_v (d : Nat) (hx : dyOkB x = true) (hy : dyOkB y = true) : vrun Tryz.prog kn (d + 5) 27 [.agg [.bool x.neg, .ints .i64 x.l, .int .i64 x.e], .agg [.bool y.neg, .ints .i64 y.l, .int .i64 y.e]] [] = some (.agg [.bool (can (prodT x y)).neg, .ints .i64 (can (prodT x y)).l, .int .i64 (can (prodT x y)).e], []) := by
  obtain ⟨e1, x1, x2, x3, x4⟩ := okD hx
  obtain ⟨e2, y1, y2, y3, y4⟩ := okD hy
  have := l4mul_v (n := x.neg) (m := y.neg) (a := x.n) (b := y.n) (ex := x.e) (ey := y.e) d (by omega) (by omega) (by omega) (by omega) (by omega) (by omega)
  rw [← e1, ← e2] at this
  have hc : can (prodT x y) = mkD (x.neg != y.neg) (x.n * y.n) (x.e + y.e) := by
    unfold can; rw [prodT_n]; exact mkD_and
  rw [hc]; exact this
theorem timesG_v (d : Nat) (hx : dyOkB x = true) (hy : dyOkB y = true) : vrun Tryz.prog kn (d + 3) 35 [.agg [.bool x.neg, .ints .i64 x.l, .int .i64 x.e], .agg [.bool y.neg, .ints .i64 y.l, .int .i64 y.e]] [] = some (.agg [.bool (prodT x y).neg, .ints .i64 (prodT x y).l, .int .i64 (prodT x y).e], []) := by
  obtain ⟨e1, x1, x2, x3, x4⟩ := okD hx
  obtain ⟨e2, y1, y2, y3, y4⟩ := okD hy
  have := times_e (n := x.neg) (m := y.neg) (a := x.n) (b := y.n) (ex := x.e) (ey := y.e) d (by omega) (by omega) (by omega) (by omega) (by omega) (by omega)
  rw [← e1, ← e2] at this
  exact this
set_option maxHeartbeats 4000000 in
theorem l7mul_v (d : Nat) (h1 : ivOkB v = true) (h2 : ivOkB w = true) : vrun Tryz.prog kn (d + 7) 14 [.agg [.bool v.lo.neg, .ints .i64 v.lo.l, .int .i64 v.lo.e, .bool v.hi.neg, .ints .i64 v.hi.l, .int .i64 v.hi.e], .agg [.bool w.lo.neg, .ints .i64 w.lo.l, .int .i64 w.lo.e, .bool w.hi.neg, .ints .i64 w.hi.l, .int .i64 w.hi.e]] [] = some (.agg [.bool (can (mulLo v w)).neg, .ints .i64 (can (mulLo v w)).l, .int .i64 (can (mulLo v w)).e, .bool (can (mulHi v w)).neg, .ints .i64 (can (mulHi v w)).l, .int .i64 (can (mulHi v w)).e], []) := by
  obtain ⟨o1, o2⟩ := ivOk_and h1
  obtain ⟨o3, o4⟩ := ivOk_and h2
  have a1 := prod_ok o1 o3
  have a2 := prod_ok o1 o4
  have a3 := prod_ok o2 o3
  have a4 := prod_ok o2 o4
  have b1 := fun d => l4mulG_v d o1 o3
  have b2 := fun d => l4mulG_v d o1 o4
  have b3 := fun d => l4mulG_v d o2 o3
  have b4 := fun d => l4mulG_v d o2 o4
  unfold mulLo mulHi
  generalize prodT v.lo w.lo = P0 at *
  generalize prodT v.lo w.hi = P1 at *
  generalize prodT v.hi w.lo = P2 at *
  generalize prodT v.hi w.hi = P3 at *
  have hl0 := fun ks => loop_v (P := Tryz.prog) (K := kn) (ks := ks) (vi_for (m7S P0 P1 P2 P3) 3 (n := kn.cf.rounds) (by rw [k_cf, c_rounds]; omega) (fun j hj => m7_r (d + 0) a1 a2 a3 a4 hj) fun m => vi_exit (m7_x _))
  have e0 : lo4 P0 P1 P2 P3 0 = P0 := rfl
  have e1 : hi4 P0 P1 P2 P3 0 = P0 := rfl
  simp only [loopAt, nthC, bodyC, loops, List.nil_append, List.cons_append, List.append_nil, Tryz.f14, m7S, Int.natCast_zero, Int.zero_add, List.cons_append, List.nil_append, e0, e1] at hl0
  generalize lo4 P0 P1 P2 P3 3 = L at *
  generalize hi4 P0 P1 P2 P3 3 = H at *
  clear e0 e1
  rw [vrun_v Tryz.func14 rfl rfl rfl]; simp only [Tryz.f14]
  simp (implicitDefEqProofs := false) (disch := omega) [go_sem, tab14, hl0, b1, b2, b3, b4]
theorem ends_v (d : Nat) (h1 : ivOkB v = true) (h2 : ivOkB w = true) : vrun Tryz.prog kn (d + 1 + 3) 34 [.agg [.bool v.lo.neg, .ints .i64 v.lo.l, .int .i64 v.lo.e, .bool v.hi.neg, .ints .i64 v.hi.l, .int .i64 v.hi.e], .agg [.bool w.lo.neg, .ints .i64 w.lo.l, .int .i64 w.lo.e, .bool w.hi.neg, .ints .i64 w.hi.l, .int .i64 w.hi.e], .fn (.func 35) [] []] [] = some (.cells 3 4 (flat DyT.v [prodT v.lo w.lo, prodT v.lo w.hi, prodT v.hi w.lo, prodT v.hi w.hi]), []) := by
  obtain ⟨o1, o2⟩ := ivOk_and h1
  obtain ⟨o3, o4⟩ := ivOk_and h2
  have b1 := fun d => timesG_v d o1 o3
  have b2 := fun d => timesG_v d o1 o4
  have b3 := fun d => timesG_v d o2 o3
  have b4 := fun d => timesG_v d o2 o4
  simp only [flat, DyT.v, List.cons_append, List.nil_append]
  generalize prodT v.lo w.lo = P0 at *
  generalize prodT v.lo w.hi = P1 at *
  generalize prodT v.hi w.lo = P2 at *
  generalize prodT v.hi w.hi = P3 at *
  rw [vrun_v Tryz.func34 rfl rfl rfl]; simp only [Tryz.f34]
  simp (implicitDefEqProofs := false) (disch := omega) [go_sem, tab34, nil34, b1, b2, b3, b4]
theorem spanTimes_v (d : Nat) (h1 : ivOkB v = true) (h2 : ivOkB w = true) : vrun Tryz.prog kn (d + 11) 18 [.agg [.bool v.lo.neg, .ints .i64 v.lo.l, .int .i64 v.lo.e, .bool v.hi.neg, .ints .i64 v.hi.l, .int .i64 v.hi.e], .agg [.bool w.lo.neg, .ints .i64 w.lo.l, .int .i64 w.lo.e, .bool w.hi.neg, .ints .i64 w.hi.l, .int .i64 w.hi.e]] [] = some (.agg [.bool (mulLo v w).neg, .ints .i64 (mulLo v w).l, .int .i64 (mulLo v w).e, .bool (mulHi v w).neg, .ints .i64 (mulHi v w).l, .int .i64 (mulHi v w).e], []) := by
  obtain ⟨o1, o2⟩ := ivOk_and h1
  obtain ⟨o3, o4⟩ := ivOk_and h2
  have a1 := (prod_ok o1 o3).1.ex
  have a2 := (prod_ok o1 o4).1.ex
  have a3 := (prod_ok o2 o3).1.ex
  have a4 := (prod_ok o2 o4).1.ex
  have c1 := fun d => ends_v d h1 h2
  have m1 := fun d => least_v d (a := prodT v.lo w.lo) (r := [prodT v.lo w.hi, prodT v.hi w.lo, prodT v.hi w.hi]) (by simp) a1 (by simp [a2, a3, a4])
  have m2 := fun d => most_v d (a := prodT v.lo w.lo) (r := [prodT v.lo w.hi, prodT v.hi w.lo, prodT v.hi w.hi]) (by simp) a1 (by simp [a2, a3, a4])
  simp only [List.foldl_cons, List.foldl_nil, List.length_cons, List.length_nil, Nat.zero_add, Nat.reduceAdd] at m1 m2
  unfold mulLo mulHi lo4 hi4
  generalize mnF (mnF (mnF (prodT v.lo w.lo) (prodT v.lo w.hi)) (prodT v.hi w.lo)) (prodT v.hi w.hi) = L at *
  generalize mxF (mxF (mxF (prodT v.lo w.lo) (prodT v.lo w.hi)) (prodT v.hi w.lo)) (prodT v.hi w.hi) = H at *
  generalize flat DyT.v [prodT v.lo w.lo, prodT v.lo w.hi, prodT v.hi w.lo, prodT v.hi w.hi] = F at *
  unfold DyT.v at m1 m2
  rw [vrun_v Tryz.func18 rfl rfl rfl]; simp only [Tryz.f18]
  simp (implicitDefEqProofs := false) (disch := omega) [go_sem, tab18, c1, m1, m2]
/-! ### IvMul -/
def mulT (v w : IvT) : IvT := ⟨can (mulLo v w), can (mulHi v w)⟩
def ivMulF (v w : IvT) : Bool := ivOkB v && ivOkB w && ivFit (mulT v w)
def ivMulR (v w : IvT) : IvT := if ivOkB v && ivOkB w then ivRes (mulT v w) else ⟨zT, zT⟩
theorem IvMul_v (d : Nat) (h1 : v.sz) (h2 : w.sz) : vrun Tryz.prog kn (d + 21) 7 [.agg [.bool v.lo.neg, .ints .i64 v.lo.l, .int .i64 v.lo.e, .bool v.hi.neg, .ints .i64 v.hi.l, .int .i64 v.hi.e], .agg [.bool w.lo.neg, .ints .i64 w.lo.l, .int .i64 w.lo.e, .bool w.hi.neg, .ints .i64 w.hi.l, .int .i64 w.hi.e]] [] = some (.tup [.agg [.bool (ivMulR v w).lo.neg, .sl 0 0 (ivMulR v w).lo.l.length 1, .int .i64 (ivMulR v w).lo.e, .bool (ivMulR v w).hi.neg, .sl 1 0 (ivMulR v w).hi.l.length 1, .int .i64 (ivMulR v w).hi.e], .bool (ivMulF v w)], [.ints true .i64 (ivMulR v w).lo.l, .ints true .i64 (ivMulR v w).hi.l]) := by
  have a1 := fun d => areIvs2_v d h1 h2
  have a3 := fun v d => span_v d v
  unfold ivMulR ivMulF
  cases hq : ivOkB v && ivOkB w with
  | false =>
    rw [hq] at a1
    rw [vrun_v Tryz.func7 rfl rfl rfl]; simp only [Tryz.f7]
    simp (disch := omega) [go_sem, tab7, a1, zT]
  | true =>
    rw [hq] at a1
    rw [Bool.and_eq_true] at hq
    have m1 := fun d => spanTimes_v d hq.1 hq.2
    obtain ⟨g1, g2, l1, l2⟩ := mulLo_ok hq.1 hq.2
    have a4 := fun d => iv_v d (n := (mulLo v w).neg) (m := (mulHi v w).neg) (a := (mulLo v w).n) (b := (mulHi v w).n) (e := (mulLo v w).e) (f := (mulHi v w).e) (by omega) (by have := g1.1.e0; omega) (by have := g1.1.e1; omega) (by omega) (by have := g2.1.e0; omega) (by have := g2.1.e1; omega)
    rw [← g1.1.l, ← g2.1.l, show (⟨mkD (mulLo v w).neg (mulLo v w).n (mulLo v w).e, mkD (mulHi v w).neg (mulHi v w).n (mulHi v w).e⟩ : IvT) = mulT v w from rfl] at a4
    simp only [if_true, Bool.true_and]
    generalize ivRes (mulT v w) = q at *
    generalize ivFit (mulT v w) = f at *
    generalize mulLo v w = L at *
    generalize mulHi v w = H at *
    rw [vrun_v Tryz.func7 rfl rfl rfl]; simp only [Tryz.f7]
    simp (disch := omega) [go_sem, tab7, a1, a3, a4, m1]
theorem sIvMul_v (d : Nat) (h1 : v.sz) (h2 : w.sz) : vrun Tryz.prog kn (d + 8) 5 [.agg [.bool v.lo.neg, .ints .i64 v.lo.l, .int .i64 v.lo.e, .bool v.hi.neg, .ints .i64 v.hi.l, .int .i64 v.hi.e], .agg [.bool w.lo.neg, .ints .i64 w.lo.l, .int .i64 w.lo.e, .bool w.hi.neg, .ints .i64 w.hi.l, .int .i64 w.hi.e]] [] = some (.tup [.agg [.bool (ivMulR v w).lo.neg, .ints .i64 (ivMulR v w).lo.l, .int .i64 (ivMulR v w).lo.e, .bool (ivMulR v w).hi.neg, .ints .i64 (ivMulR v w).hi.l, .int .i64 (ivMulR v w).hi.e], .bool (ivMulF v w)], []) := by
  have a1 := fun d => sIvOk_v d h1.1 h1.2
  have a2 := fun d => sIvOk_v d h2.1 h2.2
  unfold ivMulR ivMulF
  cases hq : ivOkB v with
  | false =>
    rw [hq] at a1
    rw [vrun_v Tryz.func5 rfl rfl rfl]; simp only [Tryz.f5]
    simp (disch := omega) [go_sem, tab5, a1, zT]
  | true =>
  cases hr : ivOkB w with
  | false =>
    rw [hq] at a1
    rw [hr] at a2
    rw [vrun_v Tryz.func5 rfl rfl rfl]; simp only [Tryz.f5]
    simp (disch := omega) [go_sem, tab5, a1, a2, zT]
  | true =>
    rw [hq] at a1
    rw [hr] at a2
    have m1 := fun d => l7mul_v d hq hr
    obtain ⟨g1, g2, l1, l2⟩ := mulLo_ok hq hr
    have a4 := fun d => l7fits_v (v := mulT v w) d (by show (mkD _ _ _).l.length < _; exact Nat.lt_of_le_of_lt mkD_len (by omega)) (by show (mkD _ _ _).l.length < _; exact Nat.lt_of_le_of_lt mkD_len (by omega)) dyOkB_mkD dyOkB_mkD
    simp only [if_true, Bool.true_and]
    generalize ivRes (mulT v w) = q at *
    generalize ivFit (mulT v w) = f at *
    unfold mulT at a4
    simp only at a4
    generalize can (mulLo v w) = L at *
    generalize can (mulHi v w) = H at *
    rw [vrun_v Tryz.func5 rfl rfl rfl]; simp only [Tryz.f5]
    simp (disch := omega) [go_sem, tab5, a1, a2, m1, a4]
end
end
/- The exact laws write marks into what they hold, and look whether the marks stand: lists, naturals, wholes, dyadics. No conditions. -/
section
open Num
section
variable {h : VH} {i : Nat} {l : List Int} {k : Int}
def mkL (l : List Int) (k : Int) (j : Nat) : List Int := iota k j ++ l.drop j
theorem mkL_len {j : Nat} (hj : j ≤ l.length) : (mkL l k j).length = l.length := by unfold mkL; rw [List.length_append, iota_len, List.length_drop]; omega
theorem mkL_set {j : Nat} (hj : j < l.length) : (mkL l k j).set j (k + j) = mkL l k (j + 1) := by
  unfold mkL
  rw [List.set_append_right _ _ (by rw [iota_len]; omega), iota_len, Nat.sub_self, List.drop_eq_getElem_cons hj, iota, List.append_assoc]; rfl
theorem mkL_end : mkL l k l.length = iota k l.length := by unfold mkL; simp
theorem mkL_0 : mkL l k 0 = l := by unfold mkL; simp [iota]
theorem set_self (hi : h[i]? = some (.ints true .i64 l)) : h.set i (.ints true .i64 l) = h := by
  obtain ⟨h1, h2⟩ := List.getElem?_eq_some_iff.1 hi
  rw [← h2]; exact List.set_getElem_self _
def mkS (h : VH) (i : Nat) (l : List Int) (k : Int) (j : Nat) : VE × VH := ([(0, some (.sl i 0 l.length 1)), (1, some (.int .i64 (k + j))), (5, some (.int .i64 j))], h.set i (.ints true .i64 (mkL l k j)))
theorem mkI_r (call : CallV) (hi : i < h.length) (hl : l.length < 100000000) (hk : 0 ≤ k) (hk' : k < 1000000000) {j : Nat} (hj : j < l.length) :
    vCode Tryz.prog kn call 83 (loopAt Tryz.f83 0) (mkS h i l k j).1 (mkS h i l k j).2 = some (.norm, mkS h i l k (j + 1)) := by
  have h1 := mkL_len (k := k) (Nat.le_of_lt hj)
  have h2 := mkL_set (k := k) hj
  have h3 : k + j + 1 = k + ((j + 1 : Nat) : Int) := by omega
  have hs : ∀ a : VO, (h.set i a)[i]? = some a := fun a => by simp [hi]
  rw [round_v]; simp only [loopAt, nthC, bodyC, loops, List.nil_append, List.cons_append, List.append_nil, Tryz.f83, mkS, ← h3, ← h2]
  simp (disch := omega) [go_sem, tab83, h1, hs, List.set_set]
theorem mkI_x (call : CallV) (hl : l.length < 100000000) :
    vCode Tryz.prog kn call 83 (loopAt Tryz.f83 0) (mkS h i l k l.length).1 (mkS h i l k l.length).2 = some (.exit 0, (mkS h i l k l.length).1 ++ [(9, some (.bool false))], (mkS h i l k l.length).2) := by
  rw [round_v]; simp only [loopAt, nthC, bodyC, loops, List.nil_append, List.cons_append, List.append_nil, Tryz.f83, mkS]
  simp (disch := omega) [go_sem, tab83]
theorem markIntS_v (d : Nat) (hi : h[i]? = some (.ints true .i64 l)) (hl : l.length < 100000000) (hk : 0 ≤ k) (hk' : k < 1000000000) :
    vrun Tryz.prog kn (d + 1) 83 [.sl i 0 l.length 1, .int .i64 k] h = some (.int .i64 (k + l.length), h.set i (.ints true .i64 (iota k l.length))) := by
  have hi' : i < h.length := (List.getElem?_eq_some_iff.1 hi).1
  have hl0 := fun ks => loop_v (P := Tryz.prog) (K := kn) (ks := ks) (vi_for (mkS h i l k) l.length (n := kn.cf.rounds) (by rw [k_cf, c_rounds]; omega) (fun j hj => mkI_r (vrun Tryz.prog kn d) hi' hl hk hk' hj) fun m => vi_exit (mkI_x _ hl))
  simp only [loopAt, nthC, bodyC, loops, List.nil_append, List.cons_append, List.append_nil, Tryz.f83, mkS, Int.natCast_zero, Int.add_zero, List.cons_append, List.nil_append, mkL_0, mkL_end, set_self hi] at hl0
  rw [vrun_v Tryz.func83 rfl rfl rfl]; simp only [Tryz.f83]
  simp (disch := omega) [go_sem, tab83, hl0]
theorem ge_app {n : Nat} {o : VO} (a : List VO) (hn : h[n]? = some o) : (h ++ a)[n]? = some o := by
  rw [List.getElem?_append_left (List.getElem?_eq_some_iff.1 hn).1]; exact hn
theorem set_app {n : Nat} {o : VO} (a : List VO) (q : VO) (hn : h[n]? = some o) : (h ++ a).set n q = h.set n q ++ a := List.set_append_left _ _ (List.getElem?_eq_some_iff.1 hn).1
theorem markNat_v (d : Nat) (hi : h[i]? = some (.ints true .i64 l)) (hl : l.length < 100000000) (hk : 0 ≤ k) (hk' : k < 1000000000) :
    vrun Tryz.prog kn (d + 2) 62 [.agg [.sl i 0 l.length 1], .int .i64 k] h = some (.int .i64 (k + l.length), h.set i (.ints true .i64 (iota k l.length)) ++ [.vals true [.sl i 0 l.length 1]]) := by
  have h1 := markIntS_v (h := h ++ [.vals true [.sl i 0 l.length 1]]) d (ge_app _ hi) hl hk hk'
  rw [set_app _ _ hi] at h1
  rw [vrun_v Tryz.func62 rfl rfl rfl]; simp only [Tryz.f62]
  simp (disch := omega) [go_sem, tab62, h1, List.getElem?_concat_length]
theorem markWhole_v (d : Nat) {n : Bool} (hi : h[i]? = some (.ints true .i64 l)) (hl : l.length < 100000000) (hk : 0 ≤ k) (hk' : k < 1000000000) :
    vrun Tryz.prog kn (d + 3) 40 [.agg [.bool n, .sl i 0 l.length 1], .int .i64 k] h = some (.int .i64 (k + l.length), h.set i (.ints true .i64 (iota k l.length)) ++ [.vals true [.bool n, .sl i 0 l.length 1], .vals true [.sl i 0 l.length 1]]) := by
  have h1 := markNat_v (h := h ++ [.vals true [.bool n, .sl i 0 l.length 1]]) d (ge_app _ hi) hl hk hk'
  rw [set_app _ _ hi, List.append_assoc] at h1
  rw [vrun_v Tryz.func40 rfl rfl rfl]; simp only [Tryz.f40]
  simp (disch := omega) [go_sem, tab40, h1, List.getElem?_concat_length]
theorem markDy_v (d : Nat) {n : Bool} {e : Int} (hi : h[i]? = some (.ints true .i64 l)) (hl : l.length < 100000000) (hk : 0 ≤ k) (hk' : k < 1000000000) :
    vrun Tryz.prog kn (d + 4) 21 [.agg [.bool n, .sl i 0 l.length 1, .int .i64 e], .int .i64 k] h = some (.int .i64 (k + l.length), h.set i (.ints true .i64 (iota k l.length)) ++ [.vals true [.bool n, .sl i 0 l.length 1, .int .i64 e], .vals true [.bool n, .sl i 0 l.length 1], .vals true [.sl i 0 l.length 1]]) := by
  have h1 := markWhole_v (n := n) (h := h ++ [.vals true [.bool n, .sl i 0 l.length 1, .int .i64 e]]) d (ge_app _ hi) hl hk hk'
  rw [set_app _ _ hi, List.append_assoc] at h1
  rw [vrun_v Tryz.func21 rfl rfl rfl]; simp only [Tryz.f21]
  simp (disch := omega) [go_sem, tab21, h1, List.getElem?_concat_length]
/-! ### as rules that read the heap -/
def mkStep (r : Option (V × VH)) (i m : Nat) (k : Int) (h : VH) (tail : List VO) : Option VO → Option (V × VH)
  | some (.ints true .i64 l) => if l.length = m ∧ l.length < 100000000 ∧ 0 ≤ k ∧ k < 1000000000 then some (.int .i64 (k + m), h.set i (.ints true .i64 (iota k m)) ++ tail) else r
  | _ => r
theorem mkStep_i (r : Option (V × VH)) (i m : Nat) (k : Int) (h : VH) (tail : List VO) (l : List Int) : mkStep r i m k h tail (some (.ints true .i64 l)) = if l.length = m ∧ l.length < 100000000 ∧ 0 ≤ k ∧ k < 1000000000 then some (.int .i64 (k + m), h.set i (.ints true .i64 (iota k m)) ++ tail) else r := rfl
theorem mkStep_of {r : Option (V × VH)} {i m : Nat} {k : Int} {h : VH} {tail : List VO} (hr : ∀ l, h[i]? = some (.ints true .i64 l) → l.length = m → l.length < 100000000 → 0 ≤ k → k < 1000000000 → r = some (.int .i64 (k + m), h.set i (.ints true .i64 (iota k m)) ++ tail)) : r = mkStep r i m k h tail h[i]? := by
  unfold mkStep
  split
  · rename_i l hl
    split
    · rename_i hc
      exact hr l hl hc.1 hc.2.1 hc.2.2.1 hc.2.2.2
    · rfl
  · rfl
noncomputable def xMarkIntS (d i m : Nat) (k : Int) (h : VH) := vrun Tryz.prog kn (d + 1) 83 [.sl i 0 m 1, .int .i64 k] h
noncomputable def xMarkNat (d i m : Nat) (k : Int) (h : VH) := vrun Tryz.prog kn (d + 2) 62 [.agg [.sl i 0 m 1], .int .i64 k] h
noncomputable def xMarkWhole (d : Nat) (n : Bool) (i m : Nat) (k : Int) (h : VH) := vrun Tryz.prog kn (d + 3) 40 [.agg [.bool n, .sl i 0 m 1], .int .i64 k] h
noncomputable def xMarkDy (d : Nat) (n : Bool) (i m : Nat) (e k : Int) (h : VH) := vrun Tryz.prog kn (d + 4) 21 [.agg [.bool n, .sl i 0 m 1, .int .i64 e], .int .i64 k] h
theorem markIntS_s (d i m : Nat) (k : Int) (h : VH) : vrun Tryz.prog kn (d + 1) 83 [.sl i 0 m 1, .int .i64 k] h = mkStep (xMarkIntS d i m k h) i m k h [] h[i]? :=
  mkStep_of (r := xMarkIntS d i m k h) fun l hi hm h1 h2 h3 => by subst hm; rw [List.append_nil]; exact markIntS_v d hi h1 h2 h3
theorem markNat_s (d i m : Nat) (k : Int) (h : VH) : vrun Tryz.prog kn (d + 2) 62 [.agg [.sl i 0 m 1], .int .i64 k] h = mkStep (xMarkNat d i m k h) i m k h [.vals true [.sl i 0 m 1]] h[i]? :=
  mkStep_of (r := xMarkNat d i m k h) fun l hi hm h1 h2 h3 => by subst hm; exact markNat_v d hi h1 h2 h3
theorem markWhole_s (d : Nat) (n : Bool) (i m : Nat) (k : Int) (h : VH) : vrun Tryz.prog kn (d + 3) 40 [.agg [.bool n, .sl i 0 m 1], .int .i64 k] h = mkStep (xMarkWhole d n i m k h) i m k h [.vals true [.bool n, .sl i 0 m 1], .vals true [.sl i 0 m 1]] h[i]? :=
  mkStep_of (r := xMarkWhole d n i m k h) fun l hi hm h1 h2 h3 => by subst hm; exact markWhole_v d hi h1 h2 h3
theorem markDy_s (d : Nat) (n : Bool) (i m : Nat) (e k : Int) (h : VH) : vrun Tryz.prog kn (d + 4) 21 [.agg [.bool n, .sl i 0 m 1, .int .i64 e], .int .i64 k] h = mkStep (xMarkDy d n i m e k h) i m k h [.vals true [.bool n, .sl i 0 m 1, .int .i64 e], .vals true [.bool n, .sl i 0 m 1], .vals true [.sl i 0 m 1]] h[i]? :=
  mkStep_of (r := xMarkDy d n i m e k h) fun l hi hm h1 h2 h3 => by subst hm; exact markDy_v d hi h1 h2 h3
end
section
variable {k : Int} {n : Nat}
def heS (k : Int) (n j : Nat) : VE × VH := ([(0, some (.ints .i64 (iota k n))), (1, some (.int .i64 (k + j))), (5, some (.int .i64 j))], [])
theorem he_r (call : CallV) (hn : n < 100000000) (hk : 0 ≤ k) (hk' : k < 1000000000) {j : Nat} (hj : j < n) : vCode Tryz.prog kn call 84 (loopAt Tryz.f84 0) (heS k n j).1 (heS k n j).2 = some (.norm, heS k n (j + 1)) := by
  have h1 := gt_iota (k := k) hj
  have h2 := iota_len k n
  have h3 : k + j + 1 = k + ((j + 1 : Nat) : Int) := by omega
  rw [round_v]; simp only [loopAt, nthC, bodyC, loops, List.nil_append, List.cons_append, List.append_nil, Tryz.f84, heS, ← h3]
  simp (disch := omega) [go_sem, tab84, h1, h2]
theorem he_x (call : CallV) (hn : n < 100000000) : vCode Tryz.prog kn call 84 (loopAt Tryz.f84 0) (heS k n n).1 (heS k n n).2 = some (.exit 0, (heS k n n).1 ++ [(9, some (.bool false))], (heS k n n).2) := by
  have h2 := iota_len k n
  rw [round_v]; simp only [loopAt, nthC, bodyC, loops, List.nil_append, List.cons_append, List.append_nil, Tryz.f84, heS]
  simp (disch := omega) [go_sem, tab84, h2]
theorem heldIntS_v (d : Nat) (hn : n < 100000000) (hk : 0 ≤ k) (hk' : k < 1000000000) : vrun Tryz.prog kn (d + 1) 84 [.ints .i64 (iota k n), .int .i64 k] [] = some (.int .i64 (k + n), []) := by
  have hl0 := fun ks => loop_v (P := Tryz.prog) (K := kn) (ks := ks) (vi_for (heS k n) n (n := kn.cf.rounds) (by rw [k_cf, c_rounds]; omega) (fun j hj => he_r (vrun Tryz.prog kn d) hn hk hk' hj) fun m => vi_exit (he_x _ hn))
  simp only [loopAt, nthC, bodyC, loops, List.nil_append, List.cons_append, List.append_nil, Tryz.f84, heS, Int.natCast_zero, Int.add_zero, List.cons_append, List.nil_append] at hl0
  rw [vrun_v Tryz.func84 rfl rfl rfl]; simp only [Tryz.f84]
  simp (disch := omega) [go_sem, tab84, hl0]
theorem heldNat_v (d : Nat) (hn : n < 100000000) (hk : 0 ≤ k) (hk' : k < 1000000000) : vrun Tryz.prog kn (d + 2) 63 [.agg [.ints .i64 (iota k n)], .int .i64 k] [] = some (.int .i64 (k + n), []) := by
  have h1 := fun d => heldIntS_v d hn hk hk'
  rw [vrun_v Tryz.func63 rfl rfl rfl]; simp only [Tryz.f63]
  simp (disch := omega) [go_sem, tab63, h1]
theorem heldWhole_v (d : Nat) {b : Bool} (hn : n < 100000000) (hk : 0 ≤ k) (hk' : k < 1000000000) : vrun Tryz.prog kn (d + 3) 41 [.agg [.bool b, .ints .i64 (iota k n)], .int .i64 k] [] = some (.int .i64 (k + n), []) := by
  have h1 := fun d => heldNat_v d hn hk hk'
  rw [vrun_v Tryz.func41 rfl rfl rfl]; simp only [Tryz.f41]
  simp (disch := omega) [go_sem, tab41, h1]
theorem heldDy_v (d : Nat) {b : Bool} {e : Int} (hn : n < 100000000) (hk : 0 ≤ k) (hk' : k < 1000000000) : vrun Tryz.prog kn (d + 4) 22 [.agg [.bool b, .ints .i64 (iota k n), .int .i64 e], .int .i64 k] [] = some (.int .i64 (k + n), []) := by
  have h1 := fun d => heldWhole_v (b := b) d hn hk hk'
  rw [vrun_v Tryz.func22 rfl rfl rfl]; simp only [Tryz.f22]
  simp (disch := omega) [go_sem, tab22, h1]
end
end
/- The exact laws copy an argument (each in memory of its own): lists, naturals, wholes, dyadics. No conditions. -/
section
open Num
section
variable {l : List Int}
def cpL (l : List Int) (j : Nat) : List Int := l.take j ++ List.replicate (l.length - j) 0
theorem cpL_len {j : Nat} (h : j ≤ l.length) : (cpL l j).length = l.length := by unfold cpL; simp; omega
theorem cpL_set {j : Nat} (h : j < l.length) : (cpL l j).set j (gt l j) = cpL l (j + 1) := by
  have hj : l[j]? = some (gt l j) := by rw [gt]; simp [h]
  unfold cpL
  rw [List.set_append_right _ _ (by simp; omega), List.take_add_one, hj, show l.length - j = (l.length - (j + 1)) + 1 by omega, List.replicate_succ]
  simp [show j - min j l.length = 0 by omega]
theorem cpL_end : cpL l l.length = l := by unfold cpL; simp
theorem cpL_0 : cpL l 0 = List.replicate l.length 0 := by unfold cpL; simp
def toIS (l : List Int) (j : Nat) : VE × VH := ([(0, some (.ints .i64 l)), (3, some (.sl 0 0 l.length 1)), (4, some (.int .i64 j))], [.ints true .i64 (cpL l j)])
theorem toI_r (d : Nat) {j : Nat} (hl : l.length < 1000000000) (hj : j < l.length) : vCode Tryz.prog kn (vrun Tryz.prog kn d) 72 (loopAt Tryz.f72 0) (toIS l j).1 (toIS l j).2 = some (.norm, toIS l (j + 1)) := by
  have h1 := cpL_len (l := l) (Nat.le_of_lt hj)
  rw [round_v]; simp only [loopAt, nthC, bodyC, loops, List.nil_append, List.cons_append, List.append_nil, Tryz.f72, toIS]
  simp (disch := omega) [go_sem, tab72, nil72, h1, cpL_set hj]
theorem toI_x (d : Nat) (hl : l.length < 1000000000) : vCode Tryz.prog kn (vrun Tryz.prog kn d) 72 (loopAt Tryz.f72 0) (toIS l l.length).1 (toIS l l.length).2 = some (.exit 0, (toIS l l.length).1 ++ [(11, some (.bool false))], (toIS l l.length).2) := by
  rw [round_v]; simp only [loopAt, nthC, bodyC, loops, List.nil_append, List.cons_append, List.append_nil, Tryz.f72, toIS]
  simp (disch := omega) [go_sem, tab72, nil72]
theorem toIntS_v (d : Nat) (hl : l.length < 1000000000) : vrun Tryz.prog kn (d + 1) 72 [.ints .i64 l] [] = some (.sl 0 0 l.length 1, [.ints true .i64 l]) := by
  have hl0 := fun ks => loop_v (P := Tryz.prog) (K := kn) (ks := ks) (vi_for (toIS l) l.length (n := kn.cf.rounds) (by rw [k_cf, c_rounds]; omega) (fun j hj => toI_r d hl hj) fun m => vi_exit (toI_x d hl))
  simp only [loopAt, nthC, bodyC, loops, List.nil_append, List.cons_append, List.append_nil, Tryz.f72, toIS, Int.natCast_zero, List.cons_append, List.nil_append, cpL_0, cpL_end] at hl0
  rw [vrun_v Tryz.func72 rfl rfl rfl]; simp only [Tryz.f72]
  simp (disch := omega) [go_sem, tab72, nil72, hl0]
theorem toNat_v (d : Nat) (hl : l.length < 1000000000) : vrun Tryz.prog kn (d + 2) 50 [.agg [.ints .i64 l]] [] = some (.agg [.sl 0 0 l.length 1], [.ints true .i64 l]) := by
  have h1 := fun d => toIntS_v d hl
  rw [vrun_v Tryz.func50 rfl rfl rfl]; simp only [Tryz.f50]
  simp (disch := omega) [go_sem, tab50, h1]
theorem toWhole_v (d : Nat) {n : Bool} (hl : l.length < 1000000000) : vrun Tryz.prog kn (d + 3) 30 [.agg [.bool n, .ints .i64 l]] [] = some (.agg [.bool n, .sl 0 0 l.length 1], [.ints true .i64 l]) := by
  have h1 := fun d => toNat_v d hl
  rw [vrun_v Tryz.func30 rfl rfl rfl]; simp only [Tryz.f30]
  simp (disch := omega) [go_sem, tab30, h1]
theorem toDy_v (d : Nat) {n : Bool} {e : Int} (hl : l.length < 1000000000) : vrun Tryz.prog kn (d + 4) 15 [.agg [.bool n, .ints .i64 l, .int .i64 e]] [] = some (.agg [.bool n, .sl 0 0 l.length 1, .int .i64 e], [.ints true .i64 l]) := by
  have h1 := fun d => toWhole_v (n := n) d hl
  rw [vrun_v Tryz.func15 rfl rfl rfl]; simp only [Tryz.f15]
  simp (disch := omega) [go_sem, tab15, h1]
end
end
/- The laws' types as values. No conditions. -/
section
open Go.Proofs Num
def DyT.row (x : DyT) : Prop := x.l.length ≤ 9223372036854775807 ∧ (∀ y ∈ x.l, (Lit.int .i64 y).wf = true) ∧ (Lit.int .i64 x.e).wf = true
def TInt (vs : List V) : Prop := ∃ x : Int, vs = [.int .i64 x] ∧ (Lit.int .i64 x).wf = true
def TBool (vs : List V) : Prop := ∃ x : Bool, vs = [.bool x]
def TInts (vs : List V) : Prop := ∃ l : List Int, vs = [.ints .i64 l] ∧ l.length ≤ 9223372036854775807 ∧ ∀ x ∈ l, (Lit.int .i64 x).wf = true
def TDys (vs : List V) : Prop := ∃ ds : List DyT, vs = [.cells 3 ds.length (flat DyT.v ds)] ∧ ds.length ≤ 9223372036854775807 ∧ ∀ x ∈ ds, x.row
theorem opInt : OpV Tryz.prog 3 1 TInt := OpV.int Tryz.underlying3 (by kernel_rfl)
theorem opBool : OpV Tryz.prog 4 1 TBool := OpV.bool Tryz.underlying4 (by kernel_rfl)
theorem opInts : OpV Tryz.prog 22 1 TInts := OpV.ints Tryz.underlying22 (by kernel_rfl) Tryz.underlying3 (by kernel_rfl)
theorem opNat : OpV Tryz.prog 24 1 TInts := OpV.struct1 Tryz.underlying24 (by kernel_rfl) rfl opInts
theorem opWhole : OpV Tryz.prog 26 2 (fun vs => ∃ (n : Bool) (l : List Int), vs = [.bool n, .ints .i64 l] ∧ l.length ≤ 9223372036854775807 ∧ ∀ x ∈ l, (Lit.int .i64 x).wf = true) :=
  (OpV.struct2 Tryz.underlying26 (by kernel_rfl) rfl rfl opBool opNat).imp fun vs ⟨_, _, e, ⟨n, e1⟩, ⟨l, e2, h1, h2⟩⟩ => ⟨n, l, by rw [e, e1, e2]; rfl, h1, h2⟩
theorem opDy : OpV Tryz.prog 28 3 (fun vs => ∃ x : DyT, vs = x.v ∧ x.row) :=
  (OpV.struct2 Tryz.underlying28 (by kernel_rfl) rfl rfl opWhole opInt).imp fun vs ⟨_, _, e, ⟨n, l, e1, h1, h2⟩, ⟨x, e2, h3⟩⟩ => ⟨⟨n, l, x⟩, by rw [e, e1, e2]; rfl, h1, h2, h3⟩
end
/- The law's intervals as values. No conditions. -/
section
open Go.Proofs Num
def IvT.row (x : IvT) : Prop := x.lo.row ∧ x.hi.row
theorem opIv : OpV Tryz.prog 30 6 (fun vs => ∃ x : IvT, vs = x.v ∧ x.row) :=
  (OpV.struct2 Tryz.underlying30 (by kernel_rfl) rfl rfl opDy opDy).imp fun vs ⟨_, _, e, ⟨x, e1, h1⟩, ⟨y, e2, h2⟩⟩ => ⟨⟨x, y⟩, by rw [e, e1, e2]; rfl, h1, h2⟩
def TIvs (vs : List V) : Prop := ∃ ds : List IvT, vs = [.cells 6 ds.length (flat IvT.v ds)] ∧ ds.length ≤ 9223372036854775807 ∧ ∀ x ∈ ds, x.row
end
/- Sizes and equality of intervals. No conditions. -/
section
open Num
section
variable {v w : IvT} {left : Int}
def IvT.small (v : IvT) : Prop := v.lo.l.length ≤ 1048576 ∧ v.hi.l.length ≤ 1048576
theorem szIv_v (d : Nat) (hv : v.row) (h0 : 0 ≤ left) (h1 : left ≤ 1048576) : ∃ r : Int, vrun Tryz.prog kn (d + 5) 4 [.agg [.bool v.lo.neg, .ints .i64 v.lo.l, .int .i64 v.lo.e, .bool v.hi.neg, .ints .i64 v.hi.l, .int .i64 v.hi.e], .int .i64 left] [] = some (.int .i64 r, []) ∧ r ≤ left ∧ (0 ≤ r → v.small) := by
  obtain ⟨r, hr, h2, h3⟩ := szDy_v (n := v.lo.neg) (e := v.lo.e) d hv.1.1 h0 h1
  by_cases h : r < 0
  · refine ⟨-1, ?_, by omega, fun h => by omega⟩
    rw [vrun_v Tryz.func4 rfl rfl rfl]; simp only [Tryz.f4]
    simp (disch := omega) [go_sem, tab4, hr]
  · obtain ⟨s, hs, h4, h5⟩ := szDy_v (n := v.hi.neg) (e := v.hi.e) (left := r) d hv.2.1 (by omega) (by omega)
    by_cases h' : s < 0
    · refine ⟨-1, ?_, by omega, fun h => by omega⟩
      rw [vrun_v Tryz.func4 rfl rfl rfl]; simp only [Tryz.f4]
      simp (disch := omega) [go_sem, tab4, hr, hs]
    · refine ⟨s, ?_, by omega, fun h => ⟨h3 (by omega), h5 h⟩⟩
      rw [vrun_v Tryz.func4 rfl rfl rfl]; simp only [Tryz.f4]
      simp (disch := omega) [go_sem, tab4, hr, hs]
theorem eqIv_v (d : Nat) (h : v.small) : vrun Tryz.prog kn (d + 5) 8 [.agg [.bool v.lo.neg, .ints .i64 v.lo.l, .int .i64 v.lo.e, .bool v.hi.neg, .ints .i64 v.hi.l, .int .i64 v.hi.e], .agg [.bool v.lo.neg, .ints .i64 v.lo.l, .int .i64 v.lo.e, .bool v.hi.neg, .ints .i64 v.hi.l, .int .i64 v.hi.e]] [] = some (.bool true, []) := by
  have h1 := fun d => eqDy_v (n1 := v.lo.neg) (n2 := v.lo.neg) (e1 := v.lo.e) (e2 := v.lo.e) d (a := v.lo.l) (b := v.lo.l) (by have := h.1; omega) (by have := h.1; omega)
  have h2 := fun d => eqDy_v (n1 := v.hi.neg) (n2 := v.hi.neg) (e1 := v.hi.e) (e2 := v.hi.e) d (a := v.hi.l) (b := v.hi.l) (by have := h.2; omega) (by have := h.2; omega)
  simp only [decide_true, Bool.and_true] at h1 h2
  rw [vrun_v Tryz.func8 rfl rfl rfl]; simp only [Tryz.f8]
  simp (disch := omega) [go_sem, tab8, h1, h2]
end
end
/- The exact laws copy an interval, write marks into one, and look whether the marks stand. No conditions. -/
section
open Num
section
variable {v : IvT}
theorem small_sz (h : v.small) : v.lo.sz ∧ v.hi.sz := by
  have h1 := h.1; have h2 := h.2
  unfold DyT.sz; omega
theorem toIv_v (d : Nat) (h : v.small) : vrun Tryz.prog kn (d + 5) 6 [.agg [.bool v.lo.neg, .ints .i64 v.lo.l, .int .i64 v.lo.e, .bool v.hi.neg, .ints .i64 v.hi.l, .int .i64 v.hi.e]] [] = some (.agg [.bool v.lo.neg, .sl 0 0 v.lo.l.length 1, .int .i64 v.lo.e, .bool v.hi.neg, .sl 1 0 v.hi.l.length 1, .int .i64 v.hi.e], [.ints true .i64 v.lo.l, .ints true .i64 v.hi.l]) := by
  have h1 := fun d => toDy_v (n := v.lo.neg) (e := v.lo.e) d (l := v.lo.l) (by have := h.1; omega)
  have h2 := fun d => toDy_v (n := v.hi.neg) (e := v.hi.e) d (l := v.hi.l) (by have := h.2; omega)
  have l1 := h.1
  have l2 := h.2
  generalize v.lo.l = A at *
  generalize v.hi.l = B at *
  rw [vrun_v Tryz.func6 rfl rfl rfl]; simp only [Tryz.f6]
  simp (disch := omega) [go_sem, tab6, h1, h2]
end
section
variable {h : VH} {i j : Nat} {l m : List Int} {k : Int}
def mkStep2 (r : Option (V × VH)) (i m j n : Nat) (k : Int) (h : VH) (tail : List VO) : Option VO → Option VO → Option (V × VH)
  | some (.ints true .i64 l), some (.ints true .i64 l') => if i ≠ j ∧ l.length = m ∧ l'.length = n ∧ l.length < 10000000 ∧ l'.length < 10000000 ∧ 0 ≤ k ∧ k < 100000000 then some (.int .i64 (k + m + n), (h.set i (.ints true .i64 (iota k m))).set j (.ints true .i64 (iota (k + m) n)) ++ tail) else r
  | _, _ => r
theorem mkStep2_i (r : Option (V × VH)) (i m j n : Nat) (k : Int) (h : VH) (tail : List VO) (l l' : List Int) : mkStep2 r i m j n k h tail (some (.ints true .i64 l)) (some (.ints true .i64 l')) = if i ≠ j ∧ l.length = m ∧ l'.length = n ∧ l.length < 10000000 ∧ l'.length < 10000000 ∧ 0 ≤ k ∧ k < 100000000 then some (.int .i64 (k + m + n), (h.set i (.ints true .i64 (iota k m))).set j (.ints true .i64 (iota (k + m) n)) ++ tail) else r := rfl
def mkTail (n1 n2 : Bool) (i m j n : Nat) (e1 e2 : Int) : List VO := [.vals true [.bool n1, .sl i 0 m 1, .int .i64 e1, .bool n2, .sl j 0 n 1, .int .i64 e2], .vals true [.bool n1, .sl i 0 m 1, .int .i64 e1], .vals true [.bool n1, .sl i 0 m 1], .vals true [.sl i 0 m 1], .vals true [.bool n2, .sl j 0 n 1, .int .i64 e2], .vals true [.bool n2, .sl j 0 n 1], .vals true [.sl j 0 n 1]]
theorem markIv_v (d : Nat) {n1 n2 : Bool} {e1 e2 : Int} (hi : h[i]? = some (.ints true .i64 l)) (hj : h[j]? = some (.ints true .i64 m)) (hij : i ≠ j) (hl : l.length < 10000000) (hm : m.length < 10000000) (hk : 0 ≤ k) (hk' : k < 100000000) :
    vrun Tryz.prog kn (d + 5) 9 [.agg [.bool n1, .sl i 0 l.length 1, .int .i64 e1, .bool n2, .sl j 0 m.length 1, .int .i64 e2], .int .i64 k] h = some (.int .i64 (k + l.length + m.length), (h.set i (.ints true .i64 (iota k l.length))).set j (.ints true .i64 (iota (k + l.length) m.length)) ++ mkTail n1 n2 i l.length j m.length e1 e2) := by
  have h1 := fun d => markDy_v (n := n1) (e := e1) (h := h ++ [.vals true [.bool n1, .sl i 0 l.length 1, .int .i64 e1, .bool n2, .sl j 0 m.length 1, .int .i64 e2]]) (k := k) d (ge_app _ hi) (by omega) hk (by omega)
  have hj' : (h.set i (.ints true .i64 (iota k l.length)))[j]? = some (.ints true .i64 m) := by rw [List.getElem?_set_ne hij]; exact hj
  have h2 := fun t d => markDy_v (n := n2) (e := e2) (h := h.set i (.ints true .i64 (iota k l.length)) ++ t) (k := k + l.length) d (ge_app t hj') (by omega) (by omega) (by omega)
  simp only [set_app _ _ hi, List.append_assoc, List.cons_append, List.nil_append] at h1
  have h2' := h2 [.vals true [.bool n1, .sl i 0 l.length 1, .int .i64 e1, .bool n2, .sl j 0 m.length 1, .int .i64 e2], .vals true [.bool n1, .sl i 0 l.length 1, .int .i64 e1], .vals true [.bool n1, .sl i 0 l.length 1], .vals true [.sl i 0 l.length 1]]
  simp only [set_app _ _ hj', List.append_assoc, List.cons_append, List.nil_append] at h2'
  clear h2
  have hg : ∀ (X o : VO) (t : List VO), (h.set i X ++ o :: t)[h.length]? = some o := fun X o t => by rw [List.getElem?_append_right (by simp)]; simp
  unfold mkTail
  rw [vrun_v Tryz.func9 rfl rfl rfl]; simp only [Tryz.f9]
  simp (disch := omega) [go_sem, tab9, h1, h2', hg, List.getElem?_concat_length]
noncomputable def xMarkIv (d : Nat) (n1 n2 : Bool) (i m j n : Nat) (e1 e2 k : Int) (h : VH) := vrun Tryz.prog kn (d + 5) 9 [.agg [.bool n1, .sl i 0 m 1, .int .i64 e1, .bool n2, .sl j 0 n 1, .int .i64 e2], .int .i64 k] h
theorem markIv_s (d : Nat) (n1 n2 : Bool) (i m j n : Nat) (e1 e2 k : Int) (h : VH) : vrun Tryz.prog kn (d + 5) 9 [.agg [.bool n1, .sl i 0 m 1, .int .i64 e1, .bool n2, .sl j 0 n 1, .int .i64 e2], .int .i64 k] h = mkStep2 (xMarkIv d n1 n2 i m j n e1 e2 k h) i m j n k h (mkTail n1 n2 i m j n e1 e2) h[i]? h[j]? := by
  unfold mkStep2
  split
  · rename_i l l' hi hj
    split
    · rename_i hc
      obtain ⟨c1, c2, c3, c4, c5, c6, c7⟩ := hc
      subst c2 c3
      exact markIv_v d hi hj c1 c4 c5 c6 c7
    · rfl
  · rfl
end
theorem heldIv_v (d : Nat) {k k2 : Int} {n m : Nat} {b b2 : Bool} {e e2 : Int} (hk2 : k2 = k + n) (hn : n < 10000000) (hm : m < 10000000) (hk : 0 ≤ k) (hk' : k < 100000000) : vrun Tryz.prog kn (d + 5) 10 [.agg [.bool b, .ints .i64 (iota k n), .int .i64 e, .bool b2, .ints .i64 (iota k2 m), .int .i64 e2], .int .i64 k] [] = some (.int .i64 (k + n + m), []) := by
  subst hk2
  have h1 := fun d => heldDy_v (k := k) (n := n) (b := b) (e := e) d (by omega) hk (by omega)
  have h2 := fun d => heldDy_v (k := k + n) (n := m) (b := b2) (e := e2) d (by omega) (by omega) (by omega)
  rw [vrun_v Tryz.func10 rfl rfl rfl]; simp only [Tryz.f10]
  simp (disch := omega) [go_sem, tab10, h1, h2]
end
end Go.Eng
