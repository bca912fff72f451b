/- What the functions of this seat do, one after another, told by plain values. No conditions. -/
import Derived.Test.YtkfeofjgdijbeaaSeat
import Derived.Test.YtkfeofjgdijbeaaVb
import Derived.Test.YtkfeofjgdijbeaaT2
set_option linter.unusedVariables false
set_option linter.unusedSimpArgs false
namespace Go.Eng
open Go.Proofs
set_option maxRecDepth 100000
set_option linter.unusedSimpArgs false
attribute [local go_sem] r_seq r_skip r_retC r_exitC r_label r_block r_region r_regionW r_xWt r_xW r_cond r_Bt r_Bf r_Ncode r_Nret r_Nexit r_Nblk r_Nblkr r_Nblke r_Nnil r_Es r_Onil r_Oop r_Oif r_Xs r_Gt r_Gf r_wtt r_wtf r_wft r_wff r_wu r_gO r_putS r_putN r_get r_keepN r_keepC r_fr r_fn r_fi r_ff r_fo r_l1 r_l2t r_cun r_cul r_cub r_cui r_cus r_cuis r_cuc r_cusl r_cuti r_cutv r_ven r_vec r_l2f r_l3 r_t1 r_t2 r_t0 r_rt r_rc r_en r_ec r_cM r_oN r_oC r_end r_endt r_endf r_nob0 r_nobN r_nobC r_nobE r_nb0 r_nbi r_nbs r_nbsl r_nbin r_nbce r_nLn r_nLv r_nLc r_nAa r_nAn r_nAk_b r_nAk_i r_nAk_s r_nAk_n r_nAk_is r_nAk_ce r_nAk_fp r_nAk_sl r_nAk_pt r_nAk_fn r_nsn r_nsv r_nsc r_m0 r_mi r_ms r_msl r_min r_mce r_mLn r_mLv r_mLc r_mAa r_mAn r_mAk_b r_mAk_i r_mAk_s r_mAk_n r_mAk_is r_mAk_ce r_mAk_fp r_mAk_sl r_mAk_pt r_mAk_fn r_msn r_msv r_msc r_atb r_ati r_ats r_atn r_atis r_atc r_atf r_atl r_atp r_atfn r_gcn r_gcc r_gLn r_gLc r_gIt r_ndn r_ndc r_gcB r_gLB r_two r_rea r_rea0 r_re1n r_re1c r_ori r_orv r_ord r_orn r_adn r_adc r_ad1 r_ern r_ers r_er0 r_rsl r_rptr r_rb r_ri r_rs r_rn r_ris r_rce r_rfp r_ra4 r_ra3 r_rt4 r_rf4 r_rf3 r_idS r_idc r_nS r_nP r_nF r_nT r_vsl r_vptr r_vb r_vi r_vs r_vn r_vis r_vce r_vfp r_va4 r_va3 r_vt4 r_vf4 r_vf3 r_rV r_Oi r_Ov r_Od r_rE r_rE0 r_En r_Ec r_E0 r_pO r_pk r_agL r_cO r_fO r_fSi r_fSv r_fPv r_fsl r_fptr r_ffn r_fag r_fb r_fint r_fstr r_fnil r_fis r_fce r_ffp r_res r_move r_assign r_pick r_pickt r_pickf r_alloc r_box r_al r_build r_bslice r_load r_store r_nlc r_nl1 r_nl2 r_bin r_un r_conv r_mkf r_mks r_slc r_fad r_fld r_iad r_idx r_ext r_ex1 r_callf r_callt r_callen r_calapp r_calmax r_calmin r_vt r_vcb r_vci r_vcs r_vcnp r_vcn r_vca r_vcf r_vcg r_ofb r_ofi r_ofs r_ofn r_evs r_pn r_prt r_pc r_one_a r_one_b r_one_i r_one_s r_one_n r_one_is r_one_ce r_one_fp r_one_sl r_one_pt r_one_fn r_cs_a r_cs_b r_cs_i r_cs_s r_cs_n r_cs_is r_cs_ce r_cs_fp r_cs_sl r_cs_pt r_cs_fn r_tov r_tovA r_toc r_toa r_tb r_ti r_ts r_tn r_bd r_bd2 r_filn r_fp1 r_filc r_fsn r_fsc r_san r_sac r_bs2 r_bs1 r_nE r_newO r_mkq r_mkI r_mkOi r_mkOv r_tIn r_tIc r_repz r_repn r_ldp r_ldf r_l1t r_l1f r_lFt r_lFf r_aggO r_obj r_at r_ati' r_atv r_celli r_cellv r_subi r_subv r_sto r_sto1 r_sto2 r_sets r_setR r_setn r_setc r_s1i r_s1v r_bin1 r_bin2 r_tv1 r_cb r_ci r_cst r_cn r_csl r_cis r_cce r_uni r_unb r_cv r_cvO r_cvN r_cv0 r_cvS r_wB r_cvi r_cvs r_cvb r_cvl r_sO r_rdn r_rdi r_rdl r_rdO r_vsub r_vfn r_mk r_mk1 r_mk2 r_zoi r_zov r_leni r_lenv r_bn r_bndV r_bo r_sl0 r_sl1 r_vsz r_ct1 r_cts r_cti r_ctc r_ctn r_lnl r_lni r_lnc r_lnn r_fa r_fap r_faf r_fi1 r_fit r_fif r_ixi r_ixs r_ixc r_ixf r_ixF r_ixF2 r_ix1 r_ixsl r_ixin r_ixce r_len1 r_lenA r_lTs r_lTn r_lTl r_lTi r_lTc r_app0 r_app9 r_paf r_pat r_frn r_fre r_tt1 r_tt2 r_tt3 r_app r_app1 r_app2 r_app3 r_catO r_cati r_catv r_newt r_newf r_pair r_pairK r_trip r_kis r_kiv r_srn r_srl r_sri r_src r_srs r_oln r_ole r_oll r_vw r_wi r_wv r_mm r_max r_min' r_str r_cF r_c2t r_c3f r_c3t r_ab r_c2f r_cV r_p1 r_la r_la2t r_la2f r_la3 r_sh r_z_is r_z_ce r_z_fp r_z_b r_z_i r_z_s r_z_n r_z_l r_z_p r_z_a4 r_z_a3 r_z_t4 r_zoI r_zoV r_roN r_roC r_roi r_rod r_zod r_rov r_aR r_trOi r_trOv r_trPv r_trl r_trp r_trf r_tra r_trb r_tri r_trs r_trn r_tris r_trce r_trfp r_vJ r_vJs r_vJn
attribute [local go_sem] b_add b_sub b_mul b_quo b_rem b_shl b_shr b_eql b_neq b_lss b_leq b_gtr b_geq eqB_s b_eqB b_neB u_neg u_not b_nn b_nn' eqS_s zerosT_s zerosT_n zt_i zt_sl zt_st dstOf_z dstOf_n iltT iltF ileT ileF ieqT ieqF nltT nltF nleT nleF neqT neqF tdiv_pos tmod_pos w64 idx0 List.take_of_length_le
/- Intervals: validity and membership, program and reference. No conditions. -/
section
open Num
def DyT.n (x : DyT) : Nat := (val x.l).toNat
def dcmp (x y : DyT) : Int := scmp x.neg (alA x.n x.e y.n y.e) y.neg (alB x.n x.e y.n y.e)
structure IvT where
  lo : DyT
  hi : DyT
def IvT.v (x : IvT) : List V := [.bool x.lo.neg, .ints .i64 x.lo.l, .int .i64 x.lo.e, .bool x.hi.neg, .ints .i64 x.hi.l, .int .i64 x.hi.e]
def ivOkB (x : IvT) : Bool := dyOkB x.lo && dyOkB x.hi && decide (dcmp x.lo x.hi ≤ 0)
def ivHasB (v : IvT) (x : DyT) : Bool := decide (dcmp v.lo x ≤ 0) && decide (dcmp x v.hi ≤ 0)
theorem ok_D {x : DyT} (hx : dyOkB x = true) : x.l = D (x.n) ∧ (D (x.n)).length < 100000 ∧ -100000 ≤ x.e ∧ x.e ≤ 100000 ∧ (x.n = 0 → x.neg = false) := by
  obtain ⟨n, h1, h2, h3, h4, h5⟩ := (dyOkB_iff x).1 hx
  have : x.n = n := by unfold DyT.n; rw [h1, val_D]; rfl
  rw [this]
  refine ⟨h1, by omega, by omega, by omega, fun h => ?_⟩
  rcases h5 with ⟨_, h, _⟩ | h5
  · exact h
  · omega
section
variable {x y : DyT}
end
section
variable {x : DyT} {v : IvT}
end
end
/- Numbers of any size: products, sums, differences. No conditions. -/
section
open Num
def ssN (n : Bool) (a : Nat) (m : Bool) (b : Nat) : Bool := if n = m then n else if b ≤ a then n else m
def ssV (n : Bool) (a : Nat) (m : Bool) (b : Nat) : Nat := if n = m then a + b else if b ≤ a then a - b else b - a
section
variable {a b : Nat} {n m : Bool} {e ex ey : Int}
theorem cmpI_ge : (0 ≤ cmpI a b) = (b ≤ a) := by
  unfold cmpI
  by_cases h : a < b
  · rw [if_pos h]; simp; omega
  · rw [if_neg h]; split <;> (simp; omega)
theorem ssV_len {k : Nat} (ha : (D a).length < k) (hb : (D b).length < k) : (D (ssV n a m b)).length < k + 1 := by
  unfold ssV
  by_cases h : n = m
  · rw [if_pos h]; have := len_add (x := a) (y := b) (n := k - 1) (by omega) (by omega); omega
  · rw [if_neg h]
    split
    · have := len_D_mono (Nat.sub_le a b); omega
    · have := len_D_mono (Nat.sub_le b a); omega
theorem D_ne {x : Nat} : (D x = []) = (x = 0) := propext D_nil_iff
end
end
/- Dyadic numbers: products, sums, differences, program and reference. No conditions. -/
section
open Num
def mulR (x y : DyT) : DyT := mkD (x.neg != y.neg) (x.n * y.n) (x.e + y.e)
def addR (x y : DyT) : DyT := mkD (ssN x.neg (alA x.n x.e y.n y.e) y.neg (alB x.n x.e y.n y.e)) (ssV x.neg (alA x.n x.e y.n y.e) y.neg (alB x.n x.e y.n y.e)) (alE x.n x.e y.n y.e)
def negT (y : DyT) : DyT := ⟨!y.neg && decide (y.n ≠ 0), y.l, y.e⟩
def subR (x y : DyT) : DyT := addR x (negT y)
/-- What an operation answers. -/
def res2 (R : DyT → DyT → DyT) (x y : DyT) : DyT := if dyOkB x && dyOkB y && dyFit (R x y) then R x y else zT
def ok2 (R : DyT → DyT → DyT) (x y : DyT) : Bool := dyOkB x && dyOkB y && dyFit (R x y)
theorem res2_ok {R : DyT → DyT → DyT} {x y : DyT} (h : dyOkB x = true) (h' : dyOkB y = true) : res2 R x y = fitT (R x y) ∧ ok2 R x y = dyFit (R x y) := by
  unfold res2 ok2 fitT; rw [h, h']; simp
theorem res2_no {R : DyT → DyT → DyT} {x y : DyT} (h : (dyOkB x && dyOkB y) = false) : res2 R x y = zT ∧ ok2 R x y = false := by
  unfold res2 ok2; rw [h]; simp
theorem fitT_len (r : DyT) : (fitT r).l.length ≤ 100 := by
  unfold fitT
  cases h : dyFit r with
  | false => simp [zT]
  | true => unfold dyFit at h; simp at h; simp only [if_true]; omega
theorem res2_len {R : DyT → DyT → DyT} {x y : DyT} : (res2 R x y).l.length ≤ 100 := by
  cases h : (dyOkB x && dyOkB y) with
  | false => rw [(res2_no h).1]; simp [zT]
  | true => rw [Bool.and_eq_true] at h; rw [(res2_ok h.1 h.2).1]; exact fitT_len _
/-- A valid one, whole. -/
theorem okD {x : DyT} (hx : dyOkB x = true) : x.l = D x.n ∧ (D x.n).length ≤ 100 ∧ -3000 ≤ x.e ∧ x.e ≤ 3000 ∧ (x.n = 0 → x.neg = false) := by
  obtain ⟨n, h1, h2, h3, h4, h5⟩ := (dyOkB_iff x).1 hx
  have : x.n = n := by unfold DyT.n; rw [h1, val_D]; rfl
  rw [this]
  refine ⟨h1, by omega, by omega, by omega, fun h => ?_⟩
  rcases h5 with ⟨_, h, _⟩ | h5
  · exact h
  · omega
section
variable {x y : DyT}
theorem neg_dbl {b : Nat} {m : Bool} (h : b = 0 → m = false) : (!(!m && decide (b ≠ 0)) && decide (b ≠ 0)) = m := by
  by_cases h0 : b = 0
  · rw [h h0]; simp [h0]
  · cases m <;> simp [h0]
theorem al_small {a b : Nat} {ex ey : Int} (ha : (D a).length ≤ 100) (hb : (D b).length ≤ 100) (he : -3000 ≤ ex) (he' : ex ≤ 3000) (hf : -3000 ≤ ey) (hf' : ey ≤ 3000) : (D (alA a ex b ey)).length < 1000 ∧ (D (alB a ex b ey)).length < 1000 ∧ -3000 ≤ alE a ex b ey ∧ alE a ex b ey ≤ 3000 := by
  have q1 : -3000 ≤ alE a ex b ey ∧ alE a ex b ey ≤ 3000 := by unfold alE; split <;> (try split) <;> (try split) <;> omega
  have h1 := len_shl a (ex - alE a ex b ey).toNat
  have h2 := len_shl b (ey - alE a ex b ey).toNat
  unfold alA alB
  omega
end
end
/- Comparison of dyadics is comparison of numbers. Plain law. No conditions. -/
section
open Num
def sg (n : Bool) (a : Nat) : Int := if n then -(a : Int) else a
theorem cmpI_le (a b : Nat) : cmpI a b ≤ 0 ↔ a ≤ b := by
  unfold cmpI
  split
  · omega
  · split <;> omega
theorem cmpI_eq (a b : Nat) : cmpI a b = 0 ↔ a = b := by
  unfold cmpI
  split
  · omega
  · split <;> omega
theorem scmp_le {n m : Bool} {a b : Nat} (ha : a = 0 → n = false) (hb : b = 0 → m = false) : scmp n a m b ≤ 0 ↔ sg n a ≤ sg m b := by
  unfold scmp sg
  cases n <;> cases m <;> simp [cmpI_le] <;> simp at ha hb <;> omega
theorem scmp_eq {n m : Bool} {a b : Nat} (ha : a = 0 → n = false) (hb : b = 0 → m = false) : scmp n a m b = 0 ↔ sg n a = sg m b := by
  unfold scmp sg
  cases n <;> cases m <;> simp [cmpI_eq] <;> simp at ha hb <;> omega
theorem sg_mul (n : Bool) (a k : Nat) : sg n (a * k) = sg n a * k := by
  unfold sg; cases n <;> simp [Int.neg_mul]
/-- The number, scaled. -/
def DyT.sv (K : Int) (x : DyT) : Int := sg x.neg x.n * (2 ^ (x.e - K).toNat : Nat)
theorem al_sv {a : Nat} {ex ey K : Int} {b : Nat} (hx : K ≤ ex) (hy : K ≤ ey) : a * 2 ^ (ex - K).toNat = alA a ex b ey * 2 ^ (alE a ex b ey - K).toNat ∧ b * 2 ^ (ey - K).toNat = alB a ex b ey * 2 ^ (alE a ex b ey - K).toNat := by
  unfold alA alB alE
  by_cases hb : b = 0
  · subst hb
    simp
  · by_cases ha : a = 0
    · subst ha
      simp [hb]
    · rw [if_neg hb, if_neg ha]
      by_cases h : ey < ex
      · rw [if_pos h, Nat.mul_assoc, ← Nat.pow_add, Int.sub_self]
        refine ⟨by rw [show (ex - ey).toNat + (ey - K).toNat = (ex - K).toNat by omega], by simp⟩
      · rw [if_neg h, Nat.mul_assoc b, ← Nat.pow_add, Int.sub_self]
        refine ⟨by simp, by rw [show (ey - ex).toNat + (ex - K).toNat = (ey - K).toNat by omega]⟩
theorem al_zero {a : Nat} {ex ey : Int} {b : Nat} : (alA a ex b ey = 0 ↔ a = 0) ∧ (alB a ex b ey = 0 ↔ b = 0) := by
  unfold alA alB
  have h1 := Nat.two_pow_pos (ex - alE a ex b ey).toNat
  have h2 := Nat.two_pow_pos (ey - alE a ex b ey).toNat
  refine ⟨⟨fun h => ?_, fun h => by rw [h, Nat.zero_mul]⟩, ⟨fun h => ?_, fun h => by rw [h, Nat.zero_mul]⟩⟩
  · rcases Nat.mul_eq_zero.1 h with h | h <;> omega
  · rcases Nat.mul_eq_zero.1 h with h | h <;> omega
theorem dcmp_sv {x y : DyT} {K : Int} (hx : dyOkB x = true) (hy : dyOkB y = true) (h1 : K ≤ x.e) (h2 : K ≤ y.e) : (dcmp x y ≤ 0 ↔ x.sv K ≤ y.sv K) ∧ (dcmp x y = 0 ↔ x.sv K = y.sv K) := by
  obtain ⟨_, _, _, _, a4⟩ := ok_D hx
  obtain ⟨_, _, _, _, b4⟩ := ok_D hy
  unfold dcmp DyT.sv
  have z := al_zero (a := x.n) (ex := x.e) (ey := y.e) (b := y.n)
  have za : alA x.n x.e y.n y.e = 0 → x.neg = false := fun h => a4 (z.1.1 h)
  have zb : alB x.n x.e y.n y.e = 0 → y.neg = false := fun h => b4 (z.2.1 h)
  rw [scmp_le za zb, scmp_eq za zb, ← sg_mul, ← sg_mul, (al_sv h1 h2).1, (al_sv h1 h2).2, sg_mul, sg_mul]
  have hp : (0 : Int) < (2 ^ (alE x.n x.e y.n y.e - K).toNat : Nat) := by exact_mod_cast Nat.two_pow_pos _
  exact ⟨⟨fun h => Int.mul_le_mul_of_nonneg_right h (Int.le_of_lt hp), fun h => Int.le_of_mul_le_mul_right h hp⟩, ⟨fun h => by rw [h], fun h => Int.eq_of_mul_eq_mul_right (by omega) h⟩⟩
theorem dyOk_e {x : DyT} (hx : dyOkB x = true) : -3000 ≤ x.e := by
  obtain ⟨_, _, _, h, _⟩ := (dyOkB_iff x).1 hx
  exact h
theorem dcmp_le {x y : DyT} (hx : dyOkB x = true) (hy : dyOkB y = true) : dcmp x y ≤ 0 ↔ x.sv (-3000) ≤ y.sv (-3000) := (dcmp_sv hx hy (dyOk_e hx) (dyOk_e hy)).1
theorem dcmp_eq {x y : DyT} (hx : dyOkB x = true) (hy : dyOkB y = true) : dcmp x y = 0 ↔ x.sv (-3000) = y.sv (-3000) := (dcmp_sv hx hy (dyOk_e hx) (dyOk_e hy)).2
theorem dcmp_trans {x y z : DyT} (hx : dyOkB x = true) (hy : dyOkB y = true) (hz : dyOkB z = true) (h1 : dcmp x y ≤ 0) (h2 : dcmp y z ≤ 0) : dcmp x z ≤ 0 :=
  (dcmp_le hx hz).2 (Int.le_trans ((dcmp_le hx hy).1 h1) ((dcmp_le hy hz).1 h2))
end
/- The laws of a ring for dyadic numbers. Plain law. No conditions. -/
section
open Num
theorem sg_zero (n : Bool) (a : Nat) : sg n a = 0 ↔ a = 0 := by unfold sg; cases n <;> simp
theorem sg_inj {n m : Bool} {a b : Nat} (h0 : a ≠ 0) (h : sg n a = sg m b) : n = m ∧ a = b := by
  unfold sg at h; cases n <;> cases m <;> simp at h ⊢ <;> omega
theorem sg_pow (n : Bool) (a k : Nat) : sg n a * ((2 ^ k : Nat) : Int) = sg n (a * 2 ^ k) := (sg_mul n a (2 ^ k)).symm
theorem oddq : ∀ (i j : Nat) {a b : Nat}, a % 2 = 1 → b % 2 = 1 → a * 2 ^ i = b * 2 ^ j → a = b ∧ i = j
  | 0, 0, a, b, _, _, h => by simpa using h
  | 0, j + 1, a, b, ha, _, h => by
    rw [Nat.pow_zero, Nat.mul_one, Nat.pow_succ, ← Nat.mul_assoc] at h; omega
  | i + 1, 0, a, b, _, hb, h => by
    rw [Nat.pow_zero, Nat.mul_one, Nat.pow_succ, ← Nat.mul_assoc] at h; omega
  | i + 1, j + 1, a, b, ha, hb, h => by
    rw [Nat.pow_succ, ← Nat.mul_assoc, Nat.pow_succ, ← Nat.mul_assoc] at h
    obtain ⟨h1, h2⟩ := oddq i j ha hb (Nat.eq_of_mul_eq_mul_right (by omega) h)
    exact ⟨h1, by omega⟩
theorem tz_split {a : Nat} (h : a ≠ 0) : a = a / 2 ^ tz a * 2 ^ tz a := by
  obtain ⟨o, ho⟩ := tz_spec h
  have hd : a / 2 ^ tz a = 2 * o + 1 := by
    conv => lhs; lhs; rw [ho]
    exact Nat.mul_div_cancel_left _ (Nat.two_pow_pos _)
  rw [hd, Nat.mul_comm]; exact ho
theorem mkD_uniq {n m : Bool} {a b : Nat} {e f K : Int} (he : K ≤ e) (hf : K ≤ f) (h : sg n a * ((2 ^ (e - K).toNat : Nat) : Int) = sg m b * ((2 ^ (f - K).toNat : Nat) : Int)) : mkD n a e = mkD m b f := by
  rw [sg_pow, sg_pow] at h
  by_cases h0 : a = 0
  · subst h0
    rw [Nat.zero_mul] at h
    have hb : b = 0 := by
      have := (sg_zero m (b * 2 ^ (f - K).toNat)).1 (by rw [← h]; exact (sg_zero n 0).2 rfl)
      rcases Nat.mul_eq_zero.1 this with h | h
      · exact h
      · have := Nat.two_pow_pos (f - K).toNat; omega
    subst hb
    unfold mkD
    rw [if_pos rfl, if_pos rfl]
  · have hp := Nat.two_pow_pos (e - K).toNat
    obtain ⟨h1, h2⟩ := sg_inj (Nat.mul_ne_zero h0 (by omega)) h
    have hb : b ≠ 0 := by
      rintro rfl
      rw [Nat.zero_mul] at h2
      rcases Nat.mul_eq_zero.1 h2 with h | h <;> omega
    subst h1
    unfold mkD
    rw [if_neg h0, if_neg hb]
    have ha2 := tz_split h0
    have hb2 := tz_split hb
    have oa := tz_bit h0
    have ob := tz_bit hb
    generalize a / 2 ^ tz a = A at *
    generalize b / 2 ^ tz b = B at *
    rw [ha2, hb2, Nat.mul_assoc, Nat.mul_assoc, ← Nat.pow_add, ← Nat.pow_add] at h2
    obtain ⟨h3, h4⟩ := oddq _ _ oa ob h2
    rw [h3]
    have h5 : e + (tz a : Int) = f + (tz b : Int) := by omega
    rw [h5]
theorem ss_sum (n m : Bool) (a b : Nat) : sg (ssN n a m b) (ssV n a m b) = sg n a + sg m b := by
  unfold ssN ssV sg
  by_cases h : b ≤ a <;> cases n <;> cases m <;> simp [h] <;> omega
section
variable {x y z : DyT}
/-- A valid one is its own one form. -/
theorem mkD_self (hx : dyOkB x = true) : mkD x.neg x.n x.e = x := by
  obtain ⟨n, h1, h2, h3, h4, h5⟩ := (dyOkB_iff x).1 hx
  have hn : x.n = n := by unfold DyT.n; rw [h1, val_D]; rfl
  rw [hn]
  unfold mkD
  rcases h5 with ⟨k1, k2, k3⟩ | k
  · subst k1
    rw [if_pos rfl]
    cases x
    simp only at h1 k2 k3
    rw [D_zero] at h1
    rw [h1, k2, k3]
  · have h0 : n ≠ 0 := by omega
    rw [if_neg h0]
    have ha2 := tz_split h0
    have ob := tz_bit h0
    have hz : n / 2 ^ tz n = n ∧ tz n = 0 := oddq (tz n) 0 ob k (by rw [Nat.pow_zero, Nat.mul_one]; exact ha2.symm)
    rw [hz.1, hz.2, ← h1]
    cases x
    simp
theorem addR_sv (hx : dyOkB x = true) (hy : dyOkB y = true) (K : Int) (hK : K ≤ -3000) : ∃ n a e, addR x y = mkD n a e ∧ -3000 ≤ e ∧ sg n a * ((2 ^ (e - K).toNat : Nat) : Int) = x.sv K + y.sv K := by
  obtain ⟨_, x1, x2, x3, _⟩ := okD hx
  obtain ⟨_, y1, y2, y3, _⟩ := okD hy
  obtain ⟨_, _, e3, _⟩ := al_small x1 y1 x2 x3 y2 y3
  refine ⟨_, _, _, rfl, e3, ?_⟩
  rw [ss_sum, Int.add_mul, sg_pow, sg_pow]
  obtain ⟨h1, h2⟩ := al_sv (a := x.n) (ex := x.e) (ey := y.e) (b := y.n) (K := K) (by omega) (by omega)
  rw [← h1, ← h2, ← sg_pow, ← sg_pow]
  rfl
theorem addR_comm (hx : dyOkB x = true) (hy : dyOkB y = true) : addR x y = addR y x := by
  obtain ⟨n, a, e, h1, h2, h3⟩ := addR_sv hx hy (-3000) (by omega)
  obtain ⟨m, b, f, k1, k2, k3⟩ := addR_sv hy hx (-3000) (by omega)
  rw [h1, k1]
  exact mkD_uniq h2 k2 (by rw [h3, k3, Int.add_comm])
theorem mulR_comm : mulR x y = mulR y x := by
  unfold mulR
  rw [Nat.mul_comm, Int.add_comm, show (x.neg != y.neg) = (y.neg != x.neg) by cases x.neg <;> cases y.neg <;> rfl]
theorem negT_ok (hy : dyOkB y = true) : dyOkB (negT y) = true ∧ ∀ K, (negT y).sv K = -(y.sv K) := by
  obtain ⟨n, h1, h2, h3, h4, h5⟩ := (dyOkB_iff y).1 hy
  have hn : y.n = n := by unfold DyT.n; rw [h1, val_D]; rfl
  have hn' : (negT y).n = y.n := rfl
  refine ⟨(dyOkB_iff _).2 ⟨n, h1, h2, h3, h4, ?_⟩, fun K => ?_⟩
  · rcases h5 with ⟨k1, k2, k3⟩ | k
    · exact .inl ⟨k1, by unfold negT; simp [hn, k1], k3⟩
    · exact .inr k
  · unfold DyT.sv
    rw [hn']
    have e1 : (negT y).e = y.e := rfl
    rw [e1]
    have : sg (negT y).neg y.n = -(sg y.neg y.n) := by
      unfold negT sg
      by_cases h0 : y.n = 0
      · rw [h0]; cases y.neg <;> simp
      · cases y.neg <;> simp [h0]
    rw [this, Int.neg_mul]
theorem mkD_sv {n : Bool} {a : Nat} {e K : Int} (h : K ≤ e) : (mkD n a e).sv K = sg n a * ((2 ^ (e - K).toNat : Nat) : Int) := by
  unfold mkD
  by_cases h0 : a = 0
  · subst h0
    rw [if_pos rfl]
    unfold DyT.sv DyT.n
    rw [(sg_zero n 0).2 rfl]
    simp [sg, val]
  · rw [if_neg h0]
    have ha2 := tz_split h0
    have hv : (DyT.n ⟨n, D (a / 2 ^ tz a), e + tz a⟩) = a / 2 ^ tz a := by unfold DyT.n; rw [val_D]; rfl
    unfold DyT.sv
    rw [hv]
    simp only
    rw [sg_pow, sg_pow]
    generalize a / 2 ^ tz a = A at *
    rw [show (e + (tz a : Int) - K).toNat = tz a + (e - K).toNat by omega, Nat.pow_add, ← Nat.mul_assoc, ← ha2]
theorem subR_addR (hx : dyOkB x = true) (hy : dyOkB y = true) (hs : dyFit (addR x y) = true) : subR (addR x y) y = x := by
  obtain ⟨n, a, e, h1, h2, h3⟩ := addR_sv hx hy (-3000) (by omega)
  have hok : dyOkB (addR x y) = true := by rw [h1] at hs ⊢; rw [dyOkB_mkD]; exact hs
  obtain ⟨q1, q2⟩ := negT_ok hy
  obtain ⟨m, b, f, k1, k2, k3⟩ := addR_sv hok q1 (-3000) (by omega)
  unfold subR
  rw [k1, ← mkD_self hx]
  refine mkD_uniq k2 (dyOk_e hx) ?_
  rw [k3, q2, h1, mkD_sv h2, h3]
  unfold DyT.sv
  omega
theorem mulR_sv (hx : dyOkB x = true) (hy : dyOkB y = true) : ∃ n a e, mulR x y = mkD n a e ∧ -6000 ≤ e ∧ sg n a * ((2 ^ (e - (-6000)).toNat : Nat) : Int) = x.sv (-3000) * y.sv (-3000) := by
  have x2 := dyOk_e hx
  have y2 := dyOk_e hy
  refine ⟨_, _, _, rfl, by omega, ?_⟩
  unfold DyT.sv
  rw [sg_pow, sg_pow, sg_pow, show (x.e + y.e - -6000).toNat = (x.e - -3000).toNat + (y.e - -3000).toNat by omega, Nat.pow_add]
  generalize 2 ^ (x.e - -3000).toNat = P
  generalize 2 ^ (y.e - -3000).toNat = Q
  generalize x.n = A
  generalize y.n = B
  unfold sg
  have e1 : ((A * B * (P * Q) : Nat) : Int) = ((A * P : Nat) : Int) * ((B * Q : Nat) : Int) := by
    rw [← Int.natCast_mul]; congr 1
    rw [Nat.mul_mul_mul_comm]
  cases x.neg <;> cases y.neg <;> simp only [bne, Bool.false_eq_true, if_false, if_true, Bool.not_true, Bool.not_false, BEq.rfl, show (false == true) = false from rfl, show (true == false) = false from rfl] <;> rw [e1]
  · rw [Int.mul_neg]
  · rw [Int.neg_mul]
  · rw [Int.neg_mul_neg]
theorem sv_shift (hx : dyOkB x = true) : x.sv (-6000) = x.sv (-3000) * ((2 ^ 3000 : Nat) : Int) := by
  have x2 := dyOk_e hx
  unfold DyT.sv
  rw [show (x.e - -6000).toNat = (x.e - -3000).toNat + 3000 by omega, Nat.pow_add, Int.natCast_mul, Int.mul_assoc]
theorem distr (hx : dyOkB x = true) (hy : dyOkB y = true) (hz : dyOkB z = true) (hs : dyFit (addR x y) = true) (h1 : dyFit (mulR x z) = true) (h2 : dyFit (mulR y z) = true) : mulR (addR x y) z = addR (mulR x z) (mulR y z) := by
  obtain ⟨n, a, e, s1, s2, s3⟩ := addR_sv hx hy (-3000) (by omega)
  have hok : dyOkB (addR x y) = true := by rw [s1] at hs ⊢; rw [dyOkB_mkD]; exact hs
  obtain ⟨n1, a1, e1, p1, p2, p3⟩ := mulR_sv hok hz
  obtain ⟨n2, a2, e2, q1, q2, q3⟩ := mulR_sv hx hz
  obtain ⟨n3, a3, e3, r1, r2, r3⟩ := mulR_sv hy hz
  have ok2 : dyOkB (mulR x z) = true := by rw [q1] at h1 ⊢; rw [dyOkB_mkD]; exact h1
  have ok3 : dyOkB (mulR y z) = true := by rw [r1] at h2 ⊢; rw [dyOkB_mkD]; exact h2
  obtain ⟨n4, a4, e4, t1, t2, t3⟩ := addR_sv ok2 ok3 (-6000) (by omega)
  rw [p1, t1]
  refine mkD_uniq p2 (by omega) ?_
  rw [p3, t3, s1, mkD_sv s2, s3, q1, r1, mkD_sv q2, mkD_sv r2, q3, r3, Int.add_mul]
end
end
/- Whole numbers: sums, differences, products, opposites, comparison, program. No conditions. -/
section
open Num
structure WhT where
  neg : Bool
  l : List Int
def WhT.z (w : WhT) : Int := sg w.neg (nN w.l)
def wOk (w : WhT) : Bool := wholeOkB w.neg w.l
/-- The one form of an integer. -/
def wz (z : Int) : WhT := ⟨decide (z < 0), D z.natAbs⟩
theorem wOk_t {w : WhT} (h : wOk w = true) : w = wz w.z ∧ (D w.z.natAbs).length ≤ 100 ∧ w.l = D (nN w.l) ∧ (D (nN w.l)).length ≤ 100 ∧ (nN w.l = 0 → w.neg = false) := by
  unfold wOk wholeOkB at h
  rw [Bool.and_eq_true] at h
  obtain ⟨e, hl⟩ := okN h.1
  have hz : nN w.l = 0 → w.neg = false := fun h0 => by
    have : w.l = [] := by rw [e, h0, D_zero]
    have h2 := h.2
    rw [this] at h2; simpa using h2
  have hn : w.z.natAbs = nN w.l := by unfold WhT.z sg; split <;> omega
  have hs : decide (w.z < 0) = w.neg := by
    unfold WhT.z sg
    cases hw : w.neg with
    | false => simp
    | true =>
      have : nN w.l ≠ 0 := fun h0 => by rw [hz h0] at hw; cases hw
      simp; omega
  refine ⟨?_, by rw [hn]; exact hl, e, hl, hz⟩
  unfold wz
  rw [hs, hn, ← e]
theorem wz_z (z : Int) : (wz z).z = z := by
  unfold WhT.z wz
  simp only
  rw [nN_D]
  unfold sg
  by_cases h : z < 0 <;> simp [h] <;> omega
theorem wz_ok {z : Int} (h : (D z.natAbs).length ≤ 100) : wOk (wz z) = true := by
  unfold wOk wz wholeOkB
  rw [natOk_D h]
  by_cases h0 : z = 0
  · subst h0; simp
  · have : ¬ (D z.natAbs).length = 0 := fun e => by
      have := D_nil_iff.1 (List.eq_nil_of_length_eq_zero e); omega
    simp [this]
theorem sg_abs {n : Bool} {a : Nat} {z : Int} (h : sg n a = z) : a = z.natAbs ∧ (n && decide (a ≠ 0)) = decide (z < 0) := by
  subst h
  unfold sg
  cases n with
  | false => simp
  | true =>
    refine ⟨by simp, ?_⟩
    by_cases h0 : a = 0
    · subst h0; simp
    · simp [h0]; omega
def wfitB (z : Int) : Bool := decide ((D z.natAbs).length ≤ 100)
def wfit (z : Int) : WhT := if wfitB z then wz z else ⟨false, []⟩
theorem wfit_len (z : Int) : (wfit z).l.length ≤ 100 := by
  unfold wfit
  split
  · rename_i h; unfold wfitB at h; exact of_decide_eq_true h
  · simp
/-- What an operation answers. -/
def wf2 (op : Int → Int → Int) (a b : WhT) : Bool := wOk a && wOk b && wfitB (op a.z b.z)
def wr2 (op : Int → Int → Int) (a b : WhT) : WhT := if wOk a && wOk b then wfit (op a.z b.z) else ⟨false, []⟩
theorem wr2_len {op : Int → Int → Int} {a b : WhT} : (wr2 op a b).l.length ≤ 100 := by
  unfold wr2
  split
  · exact wfit_len _
  · simp
theorem wf2_t {op : Int → Int → Int} {a b : WhT} (h : wf2 op a b = true) : wOk a = true ∧ wOk b = true ∧ wr2 op a b = wz (op a.z b.z) ∧ (D (op a.z b.z).natAbs).length ≤ 100 := by
  unfold wf2 at h
  rw [Bool.and_eq_true, Bool.and_eq_true] at h
  refine ⟨h.1.1, h.1.2, ?_, of_decide_eq_true h.2⟩
  unfold wr2 wfit
  rw [h.1.1, h.1.2, h.2]; rfl
theorem wr2_comm {op : Int → Int → Int} (hc : ∀ x y, op x y = op y x) (a b : WhT) : wr2 op a b = wr2 op b a ∧ wf2 op a b = wf2 op b a := by
  unfold wr2 wf2
  rw [hc, Bool.and_comm (wOk a)]; exact ⟨rfl, rfl⟩
section
variable {a b : WhT}
/-- A sign and a magnitude, made a whole number, of an integer. -/
theorem wholeZ_v (d : Nat) {n : Bool} {v : Nat} {z : Int} (h : sg n v = z) (hl : (D v).length < 1000000000) : vrun Try.prog kn (d + 3) 40 [.bool n, .ints .i64 (D v)] [] = some (.tup [.agg [.bool (wfit z).neg, .sl 0 0 (wfit z).l.length 1], .bool (wfitB z)], [.ints true .i64 (wfit z).l]) := by
  obtain ⟨h1, h2⟩ := sg_abs h
  have hw := wholeOf_v d n (l := D v) hl
  rw [hw]
  unfold wfit wfitB
  rw [← h1]
  by_cases hc : (D v).length ≤ 100
  · have e : fitL (D v) = D v := by unfold fitL; rw [if_pos hc]
    rw [e, decide_eq_true hc]
    have e2 : (n && !decide ((D v).length = 0) && true) = (wz z).neg := by
      show _ = decide (z < 0)
      rw [← h2]
      by_cases h0 : v = 0
      · subst h0; rw [D_zero]; simp
      · have : ¬ (D v).length = 0 := fun e => h0 (D_nil_iff.1 (List.eq_nil_of_length_eq_zero e))
        simp [this, h0]
    have e3 : (wz z).l = D v := by show D z.natAbs = D v; rw [← h1]
    rw [e2]
    simp only [if_true, e3]
  · have e : fitL (D v) = [] := by unfold fitL; rw [if_neg hc]
    rw [e, decide_eq_false hc]
    simp
def wneg (a : WhT) : WhT := if wOk a then wz (-a.z) else ⟨false, []⟩
theorem wneg_len : (wneg a).l.length ≤ 100 := by
  unfold wneg
  split
  · rename_i h
    obtain ⟨_, h2, _⟩ := wOk_t h
    show (D (-a.z).natAbs).length ≤ 100
    rw [Int.natAbs_neg]; exact h2
  · simp
def icmp (x y : Int) : Int := if x < y then -1 else if x = y then 0 else 1
def wcmp (a b : WhT) : Int := if wOk a && wOk b then icmp a.z b.z else 0
theorem scmp_icmp {n m : Bool} {x y : Nat} (ha : x = 0 → n = false) (hb : y = 0 → m = false) : scmp n x m y = icmp (sg n x) (sg m y) := by
  unfold scmp icmp sg cmpI
  cases n <;> cases m <;> simp at ha hb ⊢ <;> (repeat' split) <;> omega
end
end
/- How many bits a limb has, as the library counts them; division by a small number. No conditions. -/
section
open Num
theorem nb_shift : ∀ (k : Nat) {x : Nat}, x / 2 ^ k ≠ 0 → nb x = k + nb (x / 2 ^ k)
  | 0, x, _ => by simp
  | k + 1, x, h => by
    rw [Nat.pow_succ, ← Nat.div_div_eq_div_mul] at h
    have h1 : x / 2 ^ k ≠ 0 := fun e => h (by rw [e])
    rw [nb_shift k h1, nb_half h1, Nat.pow_succ, ← Nat.div_div_eq_div_mul]; omega
theorem nb_16 {x : Nat} (h : x < 65536) : nb x ≤ 16 := by
  by_cases h0 : x = 0
  · subst h0; simp [nb, nbG]
  · have h1 := (nb_le h0).1
    have : nb x - 1 < 16 := (Nat.pow_lt_pow_iff_right (a := 2) (by omega)).1 (Nat.lt_of_le_of_lt h1 (by omega : x < 2 ^ 16))
    omega
def len8 : ByteArray := { data := #[0, 1, 2, 2, 3, 3, 3, 3, 4, 4, 4, 4, 4, 4, 4, 4, 5, 5, 5, 5, 5, 5, 5, 5, 5, 5, 5, 5, 5, 5, 5, 5, 6, 6, 6, 6, 6, 6, 6, 6, 6, 6, 6, 6, 6, 6, 6, 6, 6, 6, 6, 6, 6, 6, 6, 6, 6, 6, 6, 6, 6, 6, 6, 6, 7, 7, 7, 7, 7, 7, 7, 7, 7, 7, 7, 7, 7, 7, 7, 7, 7, 7, 7, 7, 7, 7, 7, 7, 7, 7, 7, 7, 7, 7, 7, 7, 7, 7, 7, 7, 7, 7, 7, 7, 7, 7, 7, 7, 7, 7, 7, 7, 7, 7, 7, 7, 7, 7, 7, 7, 7, 7, 7, 7, 7, 7, 7, 7, 8, 8, 8, 8, 8, 8, 8, 8, 8, 8, 8, 8, 8, 8, 8, 8, 8, 8, 8, 8, 8, 8, 8, 8, 8, 8, 8, 8, 8, 8, 8, 8, 8, 8, 8, 8, 8, 8, 8, 8, 8, 8, 8, 8, 8, 8, 8, 8, 8, 8, 8, 8, 8, 8, 8, 8, 8, 8, 8, 8, 8, 8, 8, 8, 8, 8, 8, 8, 8, 8, 8, 8, 8, 8, 8, 8, 8, 8, 8, 8, 8, 8, 8, 8, 8, 8, 8, 8, 8, 8, 8, 8, 8, 8, 8, 8, 8, 8, 8, 8, 8, 8, 8, 8, 8, 8, 8, 8, 8, 8, 8, 8, 8, 8, 8, 8, 8, 8, 8, 8, 8, 8, 8, 8, 8, 8, 8, 8] }
theorem len8_all : ((List.range 256).all fun n => (len8.data.getD n 0).toNat == nb n) = true := by decide +kernel
theorem len8_at {n : Nat} (h : n < 256) : (len8.data.getD n 0).toNat = nb n := eq_of_beq (List.all_eq_true.1 len8_all n (List.mem_range.2 h))
theorem len8_idx (P : Program) {t : TypeId} (ht : P.underlying t = some .string) {n : Nat} (h : n < 256) : vindex P t (some (.str { data := #[0, 1, 2, 2, 3, 3, 3, 3, 4, 4, 4, 4, 4, 4, 4, 4, 5, 5, 5, 5, 5, 5, 5, 5, 5, 5, 5, 5, 5, 5, 5, 5, 6, 6, 6, 6, 6, 6, 6, 6, 6, 6, 6, 6, 6, 6, 6, 6, 6, 6, 6, 6, 6, 6, 6, 6, 6, 6, 6, 6, 6, 6, 6, 6, 7, 7, 7, 7, 7, 7, 7, 7, 7, 7, 7, 7, 7, 7, 7, 7, 7, 7, 7, 7, 7, 7, 7, 7, 7, 7, 7, 7, 7, 7, 7, 7, 7, 7, 7, 7, 7, 7, 7, 7, 7, 7, 7, 7, 7, 7, 7, 7, 7, 7, 7, 7, 7, 7, 7, 7, 7, 7, 7, 7, 7, 7, 7, 7, 8, 8, 8, 8, 8, 8, 8, 8, 8, 8, 8, 8, 8, 8, 8, 8, 8, 8, 8, 8, 8, 8, 8, 8, 8, 8, 8, 8, 8, 8, 8, 8, 8, 8, 8, 8, 8, 8, 8, 8, 8, 8, 8, 8, 8, 8, 8, 8, 8, 8, 8, 8, 8, 8, 8, 8, 8, 8, 8, 8, 8, 8, 8, 8, 8, 8, 8, 8, 8, 8, 8, 8, 8, 8, 8, 8, 8, 8, 8, 8, 8, 8, 8, 8, 8, 8, 8, 8, 8, 8, 8, 8, 8, 8, 8, 8, 8, 8, 8, 8, 8, 8, 8, 8, 8, 8, 8, 8, 8, 8, 8, 8, 8, 8, 8, 8, 8, 8, 8, 8, 8, 8, 8, 8, 8, 8, 8, 8] })) (some (.int .u8 (n : Int))) = some (.int .u8 (nb n : Nat)) := by
  show toV1 (indexA P t (.str len8) (.int .u8 (n : Int))) = _
  have h1 := len8_at h
  have h2 : len8.size = 256 := rfl
  unfold indexA
  have h3 : (0 : Int) ≤ n ∧ (n : Int) < ((256 : Nat) : Int) := ⟨by omega, by omega⟩
  simp only [ht, h2, if_true, if_pos h3, Int.toNat_natCast, h1]; rfl
theorem conv_u8 {n : Nat} (h : n < 256) : IntKind.wrap .u8 (n : Int) = n := by
  simp [IntKind.wrap, IntKind.bits, IntKind.signed]; omega
section
variable {z m : Nat}
def dsS (z m : Nat) (i : Nat) : VE × VH := ([(0, some (.ints .i64 (D z))), (1, some (.int .i64 m)), (6, some (.sl 0 0 (D z).length 1)), (7, some (.int .i64 ((z / 65536 ^ i % m : Nat) : Int))), (8, some (.int .i64 ((i : Int) - 1)))], [.ints true .i64 (hi (z / m) (D z).length i)])
end
end
/- The decimal digits of a number, program. No conditions. -/
section
open Num
/-! ### a list turned round in place -/
theorem gt_ext {a b : List Int} (hl : a.length = b.length) (h : ∀ p, p < a.length → gt a p = gt b p) : a = b := by
  refine List.ext_getElem hl fun p h1 h2 => ?_
  have := h p h1
  unfold gt at this
  simpa [h1, h2] using this
theorem gt_st {l : List Int} {i j : Nat} (x : Int) : gt (l.set i x) j = if i = j ∧ i < l.length then x else gt l j := by
  unfold gt
  by_cases e : i = j
  · subst e
    by_cases h : i < l.length
    · simp [h]
    · simp [h]
  · simp [e]
def rvL (L : List Int) (k : Nat) : Nat → List Int
  | 0 => L
  | t + 1 => ((rvL L k t).set t (gt (rvL L k t) (k - 1 - t))).set (k - 1 - t) (gt (rvL L k t) t)
theorem rv_len (L : List Int) (k : Nat) : ∀ t, (rvL L k t).length = L.length
  | 0 => rfl
  | t + 1 => by rw [rvL]; simp [rv_len L k t]
theorem rv_gt {L : List Int} {k : Nat} (hk : k ≤ L.length) : ∀ t, 2 * t ≤ k → ∀ p, gt (rvL L k t) p = if p < k ∧ (p < t ∨ k - t ≤ p) then gt L (k - 1 - p) else gt L p
  | 0, _, p => by
    have : ¬ (p < k ∧ (p < 0 ∨ k - 0 ≤ p)) := by omega
    rw [if_neg this]; rfl
  | t + 1, h, p => by
    have ih := rv_gt hk t (by omega)
    have hl := rv_len L k t
    rw [rvL, gt_st, gt_st, List.length_set, hl]
    by_cases e1 : k - 1 - t = p
    · rw [if_pos ⟨e1, by omega⟩, if_pos (by omega), ih t, if_neg (by omega)]
      congr 1; omega
    · rw [if_neg (fun q => e1 q.1)]
      by_cases e2 : t = p
      · rw [if_pos ⟨e2, by omega⟩, if_pos (by omega), ih (k - 1 - t), if_neg (by omega)]
        congr 1; omega
      · rw [if_neg (fun q => e2 q.1), ih p]
        by_cases c : p < k ∧ (p < t ∨ k - t ≤ p)
        · rw [if_pos c, if_pos (by omega)]
        · rw [if_neg c, if_neg (by omega)]
theorem rv_end {L : List Int} {k : Nat} (hk : k ≤ L.length) : rvL L k (k / 2) = (L.take k).reverse ++ L.drop k := by
  have hl : (rvL L k (k / 2)).length = ((L.take k).reverse ++ L.drop k).length := by rw [rv_len]; simp; omega
  refine gt_ext hl fun p hp => ?_
  rw [rv_len] at hp
  rw [rv_gt hk _ (by omega)]
  unfold gt
  by_cases h : p < k
  · have e1 : ((L.take k).reverse ++ L.drop k)[p]? = L[k - 1 - p]? := by
      rw [List.getElem?_append_left (by simp; omega), List.getElem?_reverse (by simp; omega), List.length_take, Nat.min_eq_left hk, List.getElem?_take_of_lt (by omega)]
    rw [List.getD_eq_getElem?_getD, List.getD_eq_getElem?_getD, List.getD_eq_getElem?_getD, e1]
    by_cases c : p < k / 2 ∨ k - k / 2 ≤ p
    · rw [if_pos ⟨h, c⟩]
    · rw [if_neg (by omega)]
      have : k - 1 - p = p := by omega
      rw [this]
  · have e1 : ((L.take k).reverse ++ L.drop k)[p]? = L[p]? := by
      rw [List.getElem?_append_right (by simp; omega), List.getElem?_drop]
      congr 1; simp; omega
    rw [if_neg (by omega), List.getD_eq_getElem?_getD, List.getD_eq_getElem?_getD, e1]
section
variable {h : VH} {i k : Nat} {L : List Int}
def rvS (h : VH) (i k : Nat) (L : List Int) (t : Nat) : VE × VH := ([(0, some (.sl i 0 k 1)), (2, some (.int .i64 t)), (3, some (.int .i64 ((k : Int) - 1 - t)))], h.set i (.ints true .u8 (rvL L k t)))
end
/-! ### digits -/
section
variable {n : Nat}
def dgI (n j q : Nat) : VE × VH := ([(3, some (.sl 0 0 (4 * j + q) 1)), (4, some (.sl 1 0 (D (n / 10 ^ (4 * (j + 1)))).length 1)), (5, some (.int .i64 ((n / 10 ^ (4 * j) % 10000 / 10 ^ q : Nat) : Int))), (19, some (.int .i64 q))], [.ints true .u8 (lsd n (4 * j + q)), .ints true .i64 (D (n / 10 ^ (4 * (j + 1))))])
theorem lsd_low (n j q : Nat) (hq : q < 4) : lsd n (4 * j + (q + 1)) = lsd n (4 * j + q) ++ [48 + ((n / 10 ^ (4 * j) % 10000 / 10 ^ q : Nat) : Int) % 10] := by
  have e : n / 10 ^ (4 * j + q) % 10 = n / 10 ^ (4 * j) % 10000 / 10 ^ q % 10 := by
    rw [Nat.pow_add, ← Nat.div_div_eq_div_mul]
    generalize n / 10 ^ (4 * j) = a
    rcases (by omega : q = 0 ∨ q = 1 ∨ q = 2 ∨ q = 3) with rfl | rfl | rfl | rfl <;> simp <;> omega
  rw [show 4 * j + (q + 1) = (4 * j + q) + 1 by omega, lsd, e]
  congr 2
def dgO (n j : Nat) : VE × VH := if j = 0 then ([(0, some (.ints .i64 (D n))), (3, some (.sl 0 0 0 1))], [.ints true .u8 []]) else ([(0, some (.sl 0 0 (D (n / 10 ^ (4 * j))).length 1)), (3, some (.sl 1 0 (4 * j) 1))], [.ints true .i64 (D (n / 10 ^ (4 * j))), .ints true .u8 (lsd n (4 * j))])
/-- Noughts at the high end are taken away. -/
def dgT (E : VE × VH) (L : List Int) (k j : Nat) : VE × VH := if j = 0 then E else ([(3, some (.sl 0 0 (k - j) 1))], [.ints true .u8 L])
theorem nd_len (h : (D n).length < 10000) : nd n < 100000 := by
  by_cases h0 : n = 0
  · subst h0; rw [nd_zero]; omega
  · obtain ⟨h1, h2⟩ := nd_le h0
    have h3 := lt_len_D n
    have h4 : 65536 ^ (D n).length ≤ 10 ^ (5 * (D n).length) := by
      rw [Nat.pow_mul]; exact Nat.pow_le_pow_left (by omega) _
    have h5 : nd n - 1 < 5 * (D n).length := (Nat.pow_lt_pow_iff_right (by omega : 1 < 10)).1 (Nat.lt_of_le_of_lt h1 (Nat.lt_of_lt_of_le h3 h4))
    omega
end
end
/- Decimal texts: whether there are digits alone, the number that they stand for, program; the digits, reference. No conditions. -/
section
open Num
section
variable {l : List Int} {g : Nat} {caps : List V} {p : Int → Bool} {call : CallV}
def ixB (l : List Int) (g : Nat) (caps : List V) (j : Nat) : VE × VH := ([(0, some (.ints .u8 l)), (1, some (.fn (.func g) [] caps)), (7, some (.int .i64 l.length)), (8, some (.int .i64 j))], [])
theorem ixfB_v (hl : l.length < 1000000000) {d : Nat} (hg : kn.cf.pure g = true) (hg2 : kn.ali g = false) (hc : ∀ h, omap (vfrz h 6) caps = some caps) (hp : ∀ x ∈ l, vrun Try.prog kn d g (vnrmAs (kn.args g) (.int .u8 x :: caps)) [] = some (.bool (p x), [])) :
    ∃ v : Int, vrun Try.prog kn (d + 1) 132 [.ints .u8 l, .fn (.func g) [] caps] [] = some (.int .i64 v, []) ∧ decide (0 ≤ v) = l.any p := by
  rw [k_cf] at hg
  have key := vi_inv (n := kn.cf.rounds) (body := vCode Try.prog kn (vrun Try.prog kn d) 132 (loopAt Try.f132 0)) (fun j s => s = ixB l g caps j ∧ (l.take j).any p = false)
    (fun r => (r = some (.exit 0, (ixB l g caps l.length).1 ++ [(9, some (.bool false))], []) ∧ l.any p = false) ∨ ∃ k : Nat, r = some (.ret, [(4, some (.int .i64 k))], []) ∧ l.any p = true) l.length (by rw [k_cf, c_rounds]; omega)
    (fun j s hj hI => by
      obtain ⟨rfl, hI⟩ := hI
      have hpp := hp _ (gt_mem hj)
      cases hq : p (gt l j) with
      | true =>
        right; intro m; right
        refine ⟨j, vi_ret ?_, List.any_eq_true.2 ⟨_, gt_mem hj, hq⟩⟩
        rw [hq] at hpp
        rw [round_v]; simp only [loopAt, nthC, bodyC, loops, List.nil_append, List.cons_append, List.append_nil, Try.f132, ixB]
        simp (disch := omega) [go_sem, tab132, hg, hg2, hc, hpp]
      | false =>
        left
        refine ⟨ixB l g caps (j + 1), ?_, rfl, ?_⟩
        · rw [hq] at hpp
          rw [round_v]; simp only [loopAt, nthC, bodyC, loops, List.nil_append, List.cons_append, List.append_nil, Try.f132, ixB]
          simp (disch := omega) [go_sem, tab132, hg, hg2, hc, hpp]
        · rw [List.take_add_one, gt_some hj, List.any_append, hI]; simp [hq])
    (fun s hI m => by
      obtain ⟨rfl, hI⟩ := hI
      left
      refine ⟨vi_exit ?_, by rwa [List.take_length] at hI⟩
      rw [round_v]; simp only [loopAt, nthC, bodyC, loops, List.nil_append, List.cons_append, List.append_nil, Try.f132, ixB]
      simp (disch := omega) [go_sem, tab132])
    (ixB l g caps 0) ⟨rfl, by simp⟩
  rcases key with ⟨hv, ha⟩ | ⟨k, hv, ha⟩
  · have hl0 := fun ks => loop_v (P := Try.prog) (K := kn) (ks := ks) hv
    simp only [loopAt, nthC, bodyC, loops, List.nil_append, List.cons_append, List.append_nil, Try.f132, ixB, Int.natCast_zero, List.cons_append, List.nil_append] at hl0
    refine ⟨-1, ?_, by rw [ha]; rfl⟩
    rw [vrun_v Try.func132 rfl rfl rfl]; simp only [Try.f132]
    simp (disch := omega) [go_sem, tab132, hc, hl0]
  · have hl0 := fun ks => loop_v (P := Try.prog) (K := kn) (ks := ks) hv
    simp only [loopAt, nthC, bodyC, loops, List.nil_append, List.cons_append, List.append_nil, Try.f132, ixB, Int.natCast_zero, List.cons_append, List.nil_append] at hl0
    refine ⟨k, ?_, by rw [ha]; simp⟩
    rw [vrun_v Try.func132 rfl rfl rfl]; simp only [Try.f132]
    simp (disch := omega) [go_sem, tab132, hc, hl0]
theorem allB_v (hl : l.length < 1000000000) {d : Nat} (hg : kn.cf.pure g = true) (hg2 : kn.ali g = false) (ha : kn.args g = []) (hp : ∀ x ∈ l, vrun Try.prog kn d g [.int .u8 x] [] = some (.bool (p x), [])) :
    vrun Try.prog kn (d + 4) 70 [.ints .u8 l, .fn (.func g) [] []] [] = some (.bool (l.all p), []) := by
  have hg' := hg
  rw [k_cf] at hg'
  have h1 : ∀ x ∈ l, vrun Try.prog kn (d + 1) 112 (vnrmAs (kn.args 112) [.int .u8 x, .fptr [.fn (.func g) [] []]]) [] = some (.bool (!p x), []) := fun x hx => by
    have := hp x hx
    simp only [go_sem, k_args112]
    rw [vrun_v Try.func112 rfl rfl rfl]; simp only [Try.f112]
    simp (disch := omega) [go_sem, tab112, hg', hg2, ha, this]
  obtain ⟨v, hv, hany⟩ := ixfB_v (caps := [.fptr [.fn (.func g) [] []]]) hl (c_pure112) rfl (fun h => by simp [go_sem]) h1
  have e : l.all p = !decide (0 ≤ v) := by
    rw [hany, List.not_any_eq_all_not]; simp
  rw [e]
  have h2 : vrun Try.prog kn (d + 3) 111 [.ints .u8 l, .fn (.func 112) [] [.fptr [.fn (.func g) [] []]]] [] = some (.bool (decide (0 ≤ v)), []) := by
    rw [vrun_v Try.func111 rfl rfl rfl]; simp only [Try.f111]
    simp (disch := omega) [go_sem, tab111, hv]
  rw [vrun_v Try.func70 rfl rfl rfl]; simp only [Try.f70]
  simp (disch := omega) [go_sem, tab70, h2]
end

def digB (x : Int) : Bool := decide (48 ≤ x) && decide (x ≤ 57)
def areDigB (b : List Int) : Bool := decide (0 < b.length) && b.all digB
theorem dig_v (d : Nat) (x : Int) : vrun Try.prog kn (d + 1) 71 [.int .u8 x] [] = some (.bool (digB x), []) := by
  unfold digB
  by_cases h : 48 ≤ x
  all_goals
    rw [vrun_v Try.func71 rfl rfl rfl]; simp only [Try.f71]
    simp (disch := omega) [go_sem, tab71, h]
section
variable {b : List Int}
theorem areDigits_v (d : Nat) (hb : b.length < 1000000) : vrun Try.prog kn (d + 6) 39 [.ints .u8 b] [] = some (.bool (areDigB b), []) := by
  have h1 := fun d => allB_v (g := 71) (l := b) (p := digB) (d := d + 1) (by omega) c_pure71 rfl rfl (fun x _ => dig_v d x)
  unfold areDigB
  by_cases h : 0 < b.length
  · rw [vrun_v Try.func39 rfl rfl rfl]; simp only [Try.f39]
    simp (disch := omega) [go_sem, tab39, h1, h]
  · have : b = [] := List.eq_nil_of_length_eq_zero (by omega)
    subst this
    rw [vrun_v Try.func39 rfl rfl rfl]; simp only [Try.f39]
    simp (disch := omega) [go_sem, tab39]
theorem digs_of (h : areDigB b = true) : 0 < b.length ∧ ∀ x ∈ b, 48 ≤ x ∧ x ≤ 57 := by
  unfold areDigB at h
  rw [Bool.and_eq_true, decide_eq_true_eq, List.all_eq_true] at h
  refine ⟨h.1, fun x hx => ?_⟩
  have := h.2 x hx
  unfold digB at this
  simpa using this
theorem rdd_lt : ∀ {l : List Int}, (∀ x ∈ l, 48 ≤ x ∧ x ≤ 57) → ∀ v k : Nat, v < 10 ^ k → rdd v l < 10 ^ (k + l.length)
  | [], _, v, k, h => h
  | x :: r, hl, v, k, h => by
    have hx := hl x List.mem_cons_self
    have := rdd_lt (l := r) (fun y hy => hl y (List.mem_cons_of_mem _ hy)) (v * 10 + (x - 48).toNat) (k + 1) (by rw [Nat.pow_succ]; omega)
    rw [List.length_cons, show k + (r.length + 1) = k + 1 + r.length by omega]; exact this
theorem rdd_len {l : List Int} (hl : ∀ x ∈ l, 48 ≤ x ∧ x ≤ 57) : (D (rdd 0 l)).length ≤ l.length := by
  have h := rdd_lt hl 0 0 (by simp)
  rw [Nat.zero_add] at h
  exact len_D_le.2 (Nat.lt_of_lt_of_le h (Nat.pow_le_pow_left (by omega) _))
theorem rdd_100 {l : List Int} (hl : ∀ x ∈ l, 48 ≤ x ∧ x ≤ 57) (h4 : l.length ≤ 400) : (D (rdd 0 l)).length ≤ 100 := by
  have h := rdd_lt hl 0 0 (by simp)
  rw [Nat.zero_add] at h
  obtain ⟨k, hk⟩ : ∃ k : Nat, k = 100 := ⟨_, rfl⟩
  have h5 : (10 : Nat) ^ l.length ≤ 10 ^ (4 * k) := Nat.pow_le_pow_right (by omega) (by omega)
  have h6 : (10 : Nat) ^ (4 * k) ≤ 65536 ^ k := by rw [Nat.pow_mul]; exact Nat.pow_le_pow_left (by omega) k
  have h7 : (D (rdd 0 l)).length ≤ k := len_D_le.2 (Nat.lt_of_lt_of_le h (Nat.le_trans h5 h6))
  omega
def fdS (b : List Int) (j : Nat) : VE × VH := ([(3, some (.sl 0 0 (D (rdd 0 (b.take j))).length 1)), (6, some (.ints .u8 b)), (7, some (.int .i64 b.length)), (8, some (.int .i64 j))], [.ints true .i64 (D (rdd 0 (b.take j)))])
theorem fd_r (d : Nat) (hb : b.length ≤ 10000) (hl : ∀ x ∈ b, 48 ≤ x ∧ x ≤ 57) {j : Nat} (hj : j < b.length) : vCode Try.prog kn (vrun Try.prog kn (d + 2)) 41 (loopAt Try.f41 0) (fdS b j).1 (fdS b j).2 = some (.norm, fdS b (j + 1)) := by
  have hx := hl _ (gt_mem hj)
  have hlen := rdd_len (l := b.take j) (fun x hx => hl x (List.mem_of_mem_take hx))
  rw [List.length_take] at hlen
  have e1 : b.take (j + 1) = b.take j ++ [gt b j] := by rw [List.take_add_one, gt_some hj]; rfl
  have e2 : rdd 0 (b.take (j + 1)) = rdd 0 (b.take j) * 10 + (gt b j - 48).toNat := by rw [e1, rdd_snoc]
  unfold fdS
  rw [e2]
  generalize rdd 0 (b.take j) = v at *
  have hc : ((gt b j - 48).toNat : Int) = gt b j - 48 := by omega
  have l10 : (D 10).length ≤ 4 := len_small (by omega)
  have lc : (D (gt b j - 48).toNat).length ≤ 4 := len_small (by omega)
  have lm := len_mul v 10
  have a1 := fun d => small_v (n := 10) d (by omega)
  have a2 := fun d => times_v (x := v) (y := 10) d (by omega) (by omega)
  have a3 := fun d => small_v (n := (gt b j - 48).toNat) d (by omega)
  have a4 := fun d => plus_v (x := v * 10) (y := (gt b j - 48).toNat) d (by omega) (by omega)
  rw [hc] at a3
  rw [show ((10 : Nat) : Int) = 10 from rfl] at a1
  have hw : IntKind.wrap .u8 (gt b j - 48) = gt b j - 48 := by
    unfold IntKind.wrap; simp [IntKind.signed, IntKind.bits]; omega
  generalize D 10 = T at *
  generalize D (gt b j - 48).toNat = C at *
  generalize D (v * 10 + (gt b j - 48).toNat) = R at *
  generalize D (v * 10) = M at *
  generalize D v = V at *
  rw [round_v]; simp only [loopAt, nthC, bodyC, loops, List.nil_append, List.cons_append, List.append_nil, Try.f41]
  simp (implicitDefEqProofs := false) (disch := omega) [go_sem, tab41, nil41, a1, a2, a3, a4, hw]
theorem fd_x (call : CallV) (hb : b.length ≤ 10000) : vCode Try.prog kn call 41 (loopAt Try.f41 0) (fdS b b.length).1 (fdS b b.length).2 = some (.exit 0, (fdS b b.length).1 ++ [(9, some (.bool false))], (fdS b b.length).2) := by
  rw [round_v]; simp only [loopAt, nthC, bodyC, loops, List.nil_append, List.cons_append, List.append_nil, Try.f41, fdS]
  simp (implicitDefEqProofs := false) (disch := omega) [go_sem, tab41, nil41]
theorem fromDigits_v (d : Nat) (hb : b.length ≤ 10000) (hl : ∀ x ∈ b, 48 ≤ x ∧ x ≤ 57) : vrun Try.prog kn (d + 3) 41 [.ints .u8 b] [] = some (.sl 0 0 (D (rdd 0 b)).length 1, [.ints true .i64 (D (rdd 0 b))]) := by
  have hl0 := fun ks => loop_v (P := Try.prog) (K := kn) (ks := ks) (vi_for (fdS b) b.length (n := kn.cf.rounds) (by rw [k_cf, c_rounds]; omega) (fun j hj => fd_r (d + 0) hb hl hj) fun m => vi_exit (fd_x _ hb))
  have e0 : rdd 0 [] = 0 := rfl
  simp only [loopAt, nthC, bodyC, loops, List.nil_append, List.cons_append, List.append_nil, Try.f41, fdS, Int.natCast_zero, List.cons_append, List.nil_append, List.take_zero, List.take_length, e0, D_zero, List.length_nil] at hl0
  generalize D (rdd 0 b) = R at *
  rw [vrun_v Try.func41 rfl rfl rfl]; simp only [Try.f41]
  simp (implicitDefEqProofs := false) (disch := omega) [go_sem, tab41, nil41, hl0]
/-! ### NatRead, NatText -/
def rdOk (b : List Int) : Bool := decide (b.length ≤ 400) && areDigB b && !(decide (1 < b.length) && decide (gt b 0 = 48))
def rdR (b : List Int) : List Int := if rdOk b then D (rdd 0 b) else []
theorem rdR_len (b : List Int) : (rdR b).length ≤ 100 := by
  unfold rdR
  split
  · rename_i h
    unfold rdOk at h
    rw [Bool.and_eq_true, Bool.and_eq_true, decide_eq_true_eq] at h
    exact rdd_100 (digs_of h.1.2).2 h.1.1
  · simp
def txR (l : List Int) : List Int := if natOkB l then text (nN l) else []
theorem text_le {n : Nat} (h : (D n).length ≤ 100) : (text n).length ≤ 100000 := by
  by_cases h0 : n = 0
  · subst h0; simp [text]
  · rw [text_len h0]; have := nd_len (n := n) (by omega); omega
theorem txR_len (l : List Int) : (txR l).length ≤ 100000 := by
  unfold txR
  split
  · rename_i h; exact text_le (okN h).2
  · simp
/-! ### the reference's digits -/
def ltS (n j : Nat) : VE × VH := ([(1, some (.ptr 0 0)), (3, some (.sl 1 0 j 1))], [.vals true [.ints .i64 (D (n / 10 ^ j))], .ints true .u8 (lsd n j)])
theorem lt_r (d : Nat) {n j : Nat} (hn : (D n).length < 10000) (hj : j < nd n) : vCode Try.prog kn (vrun Try.prog kn (d + 2)) 66 (loopAt Try.f66 0) (ltS n j).1 (ltS n j).2 = some (.norm, ltS n (j + 1)) := by
  have hnd := nd_len hn
  have hp := nd_pos hj
  have hpos : 0 < n / 10 ^ j := Nat.div_pos hp (Nat.pow_pos (by omega))
  have hne : D (n / 10 ^ j) ≠ [] := fun h => by have := D_nil_iff.1 h; omega
  have hlp : 0 < (D (n / 10 ^ j)).length := List.length_pos_iff.2 hne
  have hle : (D (n / 10 ^ j)).length ≤ (D n).length := len_D_mono (Nat.div_le_self _ _)
  have a1 := l2small_v (z := n / 10 ^ j) (m := 10) d (by omega) (by omega) (by omega)
  rw [Nat.div_div_eq_div_mul, ← Nat.pow_succ, show ((10 : Nat) : Int) = 10 from rfl] at a1
  have hl := lsd_len n j
  have e1 : lsd n (j + 1) = lsd n j ++ [48 + ((n / 10 ^ j % 10 : Nat) : Int)] := by rw [lsd]; congr 2
  have hb : n / 10 ^ j % 10 < 10 := Nat.mod_lt _ (by omega)
  unfold ltS
  rw [e1]
  generalize n / 10 ^ j % 10 = r at *
  generalize D (n / 10 ^ (j + 1)) = Z at *
  generalize D (n / 10 ^ j) = X at *
  generalize lsd n j = L at *
  have htk : L.take j = L := List.take_of_length_le (by omega)
  have hw : IntKind.wrap .u8 (48 + (r : Int)) = 48 + (r : Int) := by
    unfold IntKind.wrap; simp [IntKind.signed, IntKind.bits]; omega
  clear hp hpos
  rw [round_v]; simp only [loopAt, nthC, bodyC, loops, List.nil_append, List.cons_append, List.append_nil, Try.f66]
  simp (implicitDefEqProofs := false) (disch := omega) [go_sem, tab66, nil66, a1, hne, hl, htk, hw]
theorem lt_x (call : CallV) {n : Nat} : vCode Try.prog kn call 66 (loopAt Try.f66 0) (ltS n (nd n)).1 (ltS n (nd n)).2 = some (.exit 0, (ltS n (nd n)).1 ++ [(17, some (.bool false))], (ltS n (nd n)).2) := by
  have e : D (n / 10 ^ nd n) = [] := by rw [nd_div (Nat.le_refl _), D_zero]
  unfold ltS
  rw [e]
  rw [round_v]; simp only [loopAt, nthC, bodyC, loops, List.nil_append, List.cons_append, List.append_nil, Try.f66]
  simp (implicitDefEqProofs := false) (disch := omega) [go_sem, tab66, nil66]
def lrS (L : List Int) (j : Nat) : VE × VH := ([(3, some (.sl 0 0 L.length 1)), (6, some (.sl 1 0 j 1)), (7, some (.int .i64 ((L.length : Int) - 1 - j)))], [.ints true .u8 L, .ints true .u8 (L.reverse.take j)])
theorem lr_r (call : CallV) {L : List Int} {j : Nat} (hL : L.length < 1000000) (hj : j < L.length) : vCode Try.prog kn call 66 (loopAt Try.f66 1) (lrS L j).1 (lrS L j).2 = some (.norm, lrS L (j + 1)) := by
  have e1 : L.reverse.take (j + 1) = L.reverse.take j ++ [gt L (L.length - 1 - j)] := by
    rw [List.take_add_one, List.getElem?_reverse hj, gt_some (by omega)]; rfl
  have hl : (L.reverse.take j).length = j := by simp; omega
  have e2 : ((L.length : Int) - 1 - j).toNat = L.length - 1 - j := by omega
  have e3 : (L.length : Int) - 1 - ((j + 1 : Nat) : Int) = (L.length : Int) - 1 - j - 1 := by omega
  unfold lrS
  rw [e1, e3]
  generalize L.reverse.take j = M at *
  have htk : M.take j = M := List.take_of_length_le (by omega)
  rw [round_v]; simp only [loopAt, nthC, bodyC, loops, List.nil_append, List.cons_append, List.append_nil, Try.f66]
  simp (implicitDefEqProofs := false) (disch := omega) [go_sem, tab66, nil66, hl, htk, e2]
theorem lr_x (call : CallV) {L : List Int} (hL : L.length < 1000000) : vCode Try.prog kn call 66 (loopAt Try.f66 1) (lrS L L.length).1 (lrS L L.length).2 = some (.exit 2, (lrS L L.length).1 ++ [(34, some (.bool false))], (lrS L L.length).2) := by
  rw [round_v]; simp only [loopAt, nthC, bodyC, loops, List.nil_append, List.cons_append, List.append_nil, Try.f66, lrS]
  simp (implicitDefEqProofs := false) (disch := omega) [go_sem, tab66, nil66]
theorem l2text_v (d : Nat) {n : Nat} (hn : (D n).length < 10000) : vrun Try.prog kn (d + 3) 66 [.agg [.ints .i64 (D n)]] [] = some (.sl 0 0 (text n).length 1, [.ints true .u8 (text n)]) := by
  by_cases h0 : n = 0
  · subst h0
    rw [D_zero]
    unfold text
    rw [if_pos rfl]
    rw [vrun_v Try.func66 rfl rfl rfl]; simp only [Try.f66]
    simp (implicitDefEqProofs := false) (disch := omega) [go_sem, tab66, nil66]
  · have hnd := nd_len hn
    have hl0 := fun ks => loop_v (P := Try.prog) (K := kn) (ks := ks) (vi_for (ltS n) (nd n) (n := kn.cf.rounds) (by rw [k_cf, c_rounds]; omega) (fun j hj => lt_r (d + 0) hn hj) fun m => vi_exit (lt_x _))
    have e0 : D (n / 10 ^ 0) = D n := by rw [Nat.pow_zero, Nat.div_one]
    have e1 : D (n / 10 ^ nd n) = [] := by rw [nd_div (Nat.le_refl _), D_zero]
    have hlen := lsd_len n (nd n)
    have htx : text n = (lsd n (nd n)).reverse := by unfold text; rw [if_neg h0]
    simp only [loopAt, nthC, bodyC, loops, List.nil_append, List.cons_append, List.append_nil, Try.f66, ltS, Int.natCast_zero, List.cons_append, List.nil_append, e0, e1, lsd] at hl0
    rw [htx]
    generalize lsd n (nd n) = L at *
    have hl1 := fun ks => loop_v (P := Try.prog) (K := kn) (ks := ks) (vi_for (lrS L) L.length (n := kn.cf.rounds) (by rw [k_cf, c_rounds]; omega) (fun j hj => lr_r (vrun Try.prog kn (d + 0 + 2)) (by omega) hj) fun m => vi_exit (lr_x _ (by omega)))
    have htk : L.reverse.take L.length = L.reverse := List.take_of_length_le (by simp)
    simp only [loopAt, nthC, bodyC, loops, List.nil_append, List.cons_append, List.append_nil, Try.f66, lrS, Int.natCast_zero, Int.sub_zero, List.cons_append, List.nil_append, List.take_zero, htk] at hl1
    have hne : D n ≠ [] := fun h => h0 (D_nil_iff.1 h)
    have hlp : 0 < (D n).length := List.length_pos_iff.2 hne
    clear e0 e1 htx
    rw [← hlen] at hl0
    generalize D n = Z at *
    rw [vrun_v Try.func66 rfl rfl rfl]; simp only [Try.f66]
    simp (implicitDefEqProofs := false) (disch := omega) [go_sem, tab66, nil66, hl0, hl1, hne, htk]
end
end
/- Whole numbers read, program. No conditions. -/
section
open Num
def cutF (b : List Int) : List Int × Bool := if gt b 0 = 43 ∨ gt b 0 = 45 then (b.tail, decide (gt b 0 = 45)) else (b, false)
section
variable {b : List Int}
theorem cutSign_v (d : Nat) (hl : b.length < 1000000) : vrun Try.prog kn (d + 1) 38 [.ints .u8 b] [] = some (.tup [.ints .u8 (cutF b).1, .bool (cutF b).2], []) := by
  unfold cutF
  by_cases h0 : b = []
  · subst h0
    have e : ¬ (gt [] 0 = 43 ∨ gt [] 0 = 45) := by decide
    rw [if_neg e]
    rw [vrun_v Try.func38 rfl rfl rfl]; simp only [Try.f38]
    simp (implicitDefEqProofs := false) (disch := omega) [go_sem, tab38, nil38]
  · have hp : 0 < b.length := List.length_pos_iff.2 h0
    have ht : b.tail.take (b.length - 1) = b.tail := List.take_of_length_le (by rw [List.length_tail]; exact Nat.le_refl _)
    by_cases c1 : gt b 0 = 43
    · rw [if_pos (.inl c1)]
      rw [vrun_v Try.func38 rfl rfl rfl]; simp only [Try.f38]
      simp (implicitDefEqProofs := false) (disch := omega) [go_sem, tab38, nil38, c1, h0, ht]
    · by_cases c2 : gt b 0 = 45
      · rw [if_pos (.inr c2)]
        rw [vrun_v Try.func38 rfl rfl rfl]; simp only [Try.f38]
        simp (implicitDefEqProofs := false) (disch := omega) [go_sem, tab38, nil38, c2, h0, ht]
      · rw [if_neg (fun h => h.elim c1 c2)]
        rw [vrun_v Try.func38 rfl rfl rfl]; simp only [Try.f38]
        simp (implicitDefEqProofs := false) (disch := omega) [go_sem, tab38, nil38, c1, c2, h0]
def wrF (b : List Int) : Bool := decide (b.length ≤ 400) && areDigB (cutF (plainF b)).1 && wfitB (sg (cutF (plainF b)).2 (rdd 0 (cutF (plainF b)).1))
def wrT (b : List Int) : WhT := if decide (b.length ≤ 400) && areDigB (cutF (plainF b)).1 then wfit (sg (cutF (plainF b)).2 (rdd 0 (cutF (plainF b)).1)) else ⟨false, []⟩
theorem wrT_len (b : List Int) : (wrT b).l.length ≤ 100 := by
  unfold wrT
  split
  · exact wfit_len _
  · simp
theorem plainF_len (b : List Int) : (plainF b).length ≤ 4 * b.length := Nat.le_trans (flat_len4 _) (Nat.mul_le_mul_left 4 (runesF_len b))
theorem cutF_len (b : List Int) : (cutF b).1.length ≤ b.length := by
  unfold cutF
  split
  · rw [List.length_tail]; omega
  · exact Nat.le_refl _
set_option maxHeartbeats 1000000 in
theorem WholeRead_v (d : Nat) (hl : b.length < 1000000000) (hb : ∀ x ∈ b, 0 ≤ x ∧ x < 256) : vrun Try.prog kn (d + 7) 9 [.ints .u8 b] [] = some (.tup [.agg [.bool (wrT b).neg, .sl 0 0 (wrT b).l.length 1], .bool (wrF b)], [.ints true .i64 (wrT b).l]) := by
  unfold wrF wrT
  by_cases h4 : b.length ≤ 400
  · have a1 := fun d => Plain_v (b := b) d h4 hb
    have l1 := plainF_len b
    have l2 := cutF_len (plainF b)
    have a2 := fun d => cutSign_v (b := plainF b) d (by omega)
    have a3 := fun d => areDigits_v (b := (cutF (plainF b)).1) d (by omega)
    rw [decide_eq_true h4]
    generalize plainF b = p at *
    generalize (cutF p).2 = ng at *
    generalize (cutF p).1 = q at *
    cases hd : areDigB q with
    | false =>
      rw [hd] at a3
      rw [vrun_v Try.func9 rfl rfl rfl]; simp only [Try.f9]
      simp (implicitDefEqProofs := false) (disch := omega) [go_sem, tab9, a1, a2, a3]
    | true =>
      rw [hd] at a3
      obtain ⟨_, hq⟩ := digs_of hd
      have a4 := fun d => fromDigits_v (b := q) d (by omega) hq
      have l3 := rdd_len hq
      have a5 := fun d => wholeZ_v (n := ng) (v := rdd 0 q) d rfl (by omega)
      have l4 := wfit_len (sg ng (rdd 0 q))
      generalize wfit (sg ng (rdd 0 q)) = W at *
      generalize wfitB (sg ng (rdd 0 q)) = F at *
      generalize D (rdd 0 q) = Z at *
      simp only [Bool.true_and, if_true]
      clear hq hd hb
      rw [vrun_v Try.func9 rfl rfl rfl]; simp only [Try.f9]
      simp (implicitDefEqProofs := false) (disch := omega) [go_sem, tab9, a1, a2, a3, a4, a5]
  · rw [decide_eq_false h4]
    rw [vrun_v Try.func9 rfl rfl rfl]; simp only [Try.f9]
    simp (implicitDefEqProofs := false) (disch := omega) [go_sem, tab9]
def wtxR (w : WhT) : List Int := if w.neg then 45 :: text (nN w.l) else text (nN w.l)
variable {a : WhT}
def wtx (a : WhT) : List Int := if wOk a then wtxR a else []
end
end
/- Plain mathematics: what is plain is its own plain text; its runes. No conditions. -/
section
open Num
theorem isPt_iff {r : Int} : isPt r = true ↔ 0 ≤ r ∧ r ≤ 1114111 ∧ ¬ (55296 ≤ r ∧ r ≤ 57343) := by
  unfold isPt
  rw [Bool.and_eq_true, Bool.and_eq_true, decide_eq_true_eq, decide_eq_true_eq, Bool.not_eq_true', Bool.and_eq_false_iff, decide_eq_false_iff_not, decide_eq_false_iff_not]
  omega
theorem gt_0 (x : Int) (t : List Int) : gt (x :: t) 0 = x := rfl
/-- What is written is read. -/
theorem runeF_rb {r : Int} (h : isPt r = true) (t : List Int) : rbF r ≠ [] ∧ runeF (rbF r ++ t) = (r, ((rbF r).length : Int)) := by
  obtain ⟨h0, h1, h2⟩ := isPt_iff.1 h
  have hf : ¬ isPt r = false := by rw [h]; simp
  unfold rbF
  rw [if_neg hf]
  by_cases c1 : r < 128
  · rw [if_pos c1]
    refine ⟨by simp, ?_⟩
    unfold runeF
    rw [List.cons_append, gt_0, if_pos c1]; rfl
  rw [if_neg c1]
  by_cases c2 : r < 2048
  · rw [if_pos c2]
    refine ⟨by simp, ?_⟩
    have e1 : ldN (192 + r / 64) = 2 := by unfold ldN; rw [if_pos (by omega)]
    have e2 : ldR (192 + r / 64) = r / 64 := by unfold ldR; rw [if_pos (by omega)]; omega
    have e3 : restL ((192 + r / 64) :: (128 + r % 64) :: t) 2 = [128 + r % 64] := rfl
    have e4 : runeL (r / 64) [128 + r % 64] = r := by simp [runeL]; omega
    have e5 : szOf r = 2 := by unfold szOf; rw [if_neg c1, if_pos c2]
    have e6 : [128 + r % 64].all conB = true := by simp [conB]; omega
    unfold runeF
    simp only [List.cons_append, List.nil_append, gt_0, e1, e2, e3, e4, e5, e6, h]
    rw [if_neg (by omega), if_neg (by simp; omega)]
    simp
  rw [if_neg c2]
  by_cases c3 : r < 65536
  · rw [if_pos c3]
    refine ⟨by simp, ?_⟩
    have e1 : ldN (224 + r / 4096) = 3 := by unfold ldN; rw [if_neg (by omega), if_pos (by omega)]
    have e2 : ldR (224 + r / 4096) = r / 4096 := by unfold ldR; rw [if_neg (by omega), if_pos (by omega)]; omega
    have e3 : restL ((224 + r / 4096) :: (128 + r / 64 % 64) :: (128 + r % 64) :: t) 3 = [128 + r / 64 % 64, 128 + r % 64] := rfl
    have e4 : runeL (r / 4096) [128 + r / 64 % 64, 128 + r % 64] = r := by simp [runeL]; omega
    have e5 : szOf r = 3 := by unfold szOf; rw [if_neg c1, if_neg c2, if_pos c3]
    have e6 : [128 + r / 64 % 64, 128 + r % 64].all conB = true := by simp [conB]; omega
    unfold runeF
    simp only [List.cons_append, List.nil_append, gt_0, e1, e2, e3, e4, e5, e6, h]
    rw [if_neg (by omega), if_neg (by simp; omega)]
    simp
  rw [if_neg c3]
  refine ⟨by simp, ?_⟩
  have e1 : ldN (240 + r / 262144) = 4 := by unfold ldN; rw [if_neg (by omega), if_neg (by omega), if_pos (by omega)]
  have e2 : ldR (240 + r / 262144) = r / 262144 := by unfold ldR; rw [if_neg (by omega), if_neg (by omega), if_pos (by omega)]; omega
  have e3 : restL ((240 + r / 262144) :: (128 + r / 4096 % 64) :: (128 + r / 64 % 64) :: (128 + r % 64) :: t) 4 = [128 + r / 4096 % 64, 128 + r / 64 % 64, 128 + r % 64] := rfl
  have e4 : runeL (r / 262144) [128 + r / 4096 % 64, 128 + r / 64 % 64, 128 + r % 64] = r := by simp [runeL]; omega
  have e5 : szOf r = 4 := by unfold szOf; rw [if_neg c1, if_neg c2, if_neg c3]
  have e6 : [128 + r / 4096 % 64, 128 + r / 64 % 64, 128 + r % 64].all conB = true := by simp [conB]; omega
  unfold runeF
  simp only [List.cons_append, List.nil_append, gt_0, e1, e2, e3, e4, e5, e6, h]
  rw [if_neg (by omega), if_neg (by simp; omega)]
  simp
/-- The rune that a rune becomes. -/
def nrm (r : Int) : Int := if 0 ≤ digF r then 48 + digF r else if 0 < sgnF r then 43 else if sgnF r < 0 then 45 else if blkF r = true then 32 else r
theorem digF_bd (r : Int) : digF r ≤ 9 := digG_bd.2
theorem rbF_small {r : Int} (h0 : 0 ≤ r) (h1 : r < 128) : rbF r = [r] := by
  have : isPt r = true := isPt_iff.2 (by omega)
  unfold rbF
  rw [if_neg (by rw [this]; simp), if_pos h1]
theorem plF_nrm {r : Int} (h : isPt r = true) : plF r = rbF (nrm r) ∧ isPt (nrm r) = true := by
  have hb := digF_bd r
  unfold plF nrm
  split
  · exact ⟨(rbF_small (by omega) (by omega)).symm, isPt_iff.2 (by omega)⟩
  split
  · exact ⟨by decide, by decide⟩
  split
  · exact ⟨by decide, by decide⟩
  split
  · exact ⟨by decide, by decide⟩
  · exact ⟨rfl, h⟩
theorem digF_48 {d : Int} (h0 : 0 ≤ d) (h1 : d ≤ 9) : digF (48 + d) = d := by
  unfold digF zsL digG
  rw [if_pos (by omega)]; omega
theorem plF_2 (r : Int) : plF (nrm r) = plF r := by
  have hb := digF_bd r
  by_cases c1 : 0 ≤ digF r
  · have e : nrm r = 48 + digF r := by unfold nrm; rw [if_pos c1]
    rw [e]
    unfold plF
    rw [digF_48 c1 hb, if_pos c1, if_pos c1]
  by_cases c2 : 0 < sgnF r
  · have e : nrm r = 43 := by unfold nrm; rw [if_neg c1, if_pos c2]
    have e2 : plF r = [43] := by unfold plF; rw [if_neg c1, if_pos c2]
    rw [e, e2]; decide
  by_cases c3 : sgnF r < 0
  · have e : nrm r = 45 := by unfold nrm; rw [if_neg c1, if_neg c2, if_pos c3]
    have e2 : plF r = [45] := by unfold plF; rw [if_neg c1, if_neg c2, if_pos c3]
    rw [e, e2]; decide
  by_cases c4 : blkF r = true
  · have e : nrm r = 32 := by unfold nrm; rw [if_neg c1, if_neg c2, if_neg c3, if_pos c4]
    have e2 : plF r = [32] := by unfold plF; rw [if_neg c1, if_neg c2, if_neg c3, if_pos c4]
    rw [e, e2]; decide
  · have e : nrm r = r := by unfold nrm; rw [if_neg c1, if_neg c2, if_neg c3, if_neg c4]
    rw [e]
theorem runesF_flat : ∀ {rs : List Int}, (∀ r ∈ rs, isPt r = true) → runesF (rs.flatMap plF) = rs.map nrm
  | [], _ => rfl
  | r :: rs, h => by
    obtain ⟨e1, p1⟩ := plF_nrm (h r List.mem_cons_self)
    have ih := runesF_flat fun x hx => h x (List.mem_cons_of_mem _ hx)
    rw [List.flatMap_cons, e1]
    obtain ⟨hne, hr⟩ := runeF_rb p1 (rs.flatMap plF)
    rw [runesF_cons (by simp [hne]), hr, List.map_cons]
    have : ((((rbF (nrm r)).length : Int)).toNat) = (rbF (nrm r)).length := by omega
    simp only [this, List.drop_left, ih]
theorem runeF_pt {b : List Int} (hb : ∀ x ∈ b, 0 ≤ x ∧ x < 256) (h : b ≠ []) : isPt (runeF b).1 = true := by
  have hp : 0 < b.length := List.length_pos_iff.2 h
  have hg := hb _ (gt_mem hp)
  unfold runeF
  split
  · exact isPt_iff.2 (by simp only; omega)
  split
  · decide
  split
  · decide
  split
  · rename_i hc; exact hc.1
  · decide
theorem runesF_pt {b : List Int} (hb : ∀ x ∈ b, 0 ≤ x ∧ x < 256) : ∀ r ∈ runesF b, isPt r = true := by
  have : ∀ (n : Nat) (b : List Int), (∀ x ∈ b, 0 ≤ x ∧ x < 256) → ∀ r ∈ runesG n b, isPt r = true := fun n => by
    induction n with
    | zero => intro b _ r hr; simp [runesG] at hr
    | succ n ih =>
      intro b hb r hr
      unfold runesG at hr
      split at hr
      · simp at hr
      · rename_i hne
        rcases List.mem_cons.1 hr with rfl | hr
        · exact runeF_pt hb hne
        · exact ih _ (fun x hx => hb x (List.mem_of_mem_drop hx)) r hr
  exact this _ _ hb
theorem runesF_plain {b : List Int} (hb : ∀ x ∈ b, 0 ≤ x ∧ x < 256) : runesF (plainF b) = (runesF b).map nrm := runesF_flat (runesF_pt hb)
theorem plainF_2 {b : List Int} (hb : ∀ x ∈ b, 0 ≤ x ∧ x < 256) : plainF (plainF b) = plainF b := by
  have h : runesF (plainF b) = (runesF b).map nrm := runesF_plain hb
  show (runesF (plainF b)).flatMap plF = (runesF b).flatMap plF
  rw [h]
  generalize runesF b = rs
  induction rs with
  | nil => rfl
  | cons r rs ih => rw [List.map_cons, List.flatMap_cons, List.flatMap_cons, plF_2, ih]
/-- A plain rune. -/
theorem nrm_ok (r : Int) : (0 ≤ digF (nrm r) → nrm r ≤ 57) ∧ (blkF (nrm r) = true → nrm r = 32) ∧ (sgnF (nrm r) ≠ 0 → nrm r ≤ 45) := by
  have hb := digF_bd r
  by_cases c1 : 0 ≤ digF r
  · have e : nrm r = 48 + digF r := by unfold nrm; rw [if_pos c1]
    rw [e]
    refine ⟨fun _ => by omega, fun h => ?_, fun h => ?_⟩
    · unfold blkF bkL at h; simp at h; omega
    · unfold sgnF at h; rw [if_neg (by omega), if_neg (by omega)] at h; exact absurd rfl h
  by_cases c2 : 0 < sgnF r
  · have e : nrm r = 43 := by unfold nrm; rw [if_neg c1, if_pos c2]
    rw [e]; decide
  by_cases c3 : sgnF r < 0
  · have e : nrm r = 45 := by unfold nrm; rw [if_neg c1, if_neg c2, if_pos c3]
    rw [e]; decide
  by_cases c4 : blkF r = true
  · have e : nrm r = 32 := by unfold nrm; rw [if_neg c1, if_neg c2, if_neg c3, if_pos c4]
    rw [e]; decide
  · have e : nrm r = r := by unfold nrm; rw [if_neg c1, if_neg c2, if_neg c3, if_neg c4]
    rw [e]
    exact ⟨fun h => absurd h c1, fun h => absurd h c4, fun h => by omega⟩
theorem rbF_byte {r : Int} : ∀ x ∈ rbF r, 0 ≤ x ∧ x < 256 := by
  intro x hx
  unfold rbF at hx
  cases h : isPt r with
  | false => rw [if_pos h] at hx; simp at hx
  | true =>
    obtain ⟨h0, h1, h2⟩ := isPt_iff.1 h
    rw [if_neg (by rw [h]; simp)] at hx
    (repeat' split at hx) <;> simp at hx <;> omega
theorem plainF_byte {b : List Int} (hb : ∀ x ∈ b, 0 ≤ x ∧ x < 256) : ∀ x ∈ plainF b, 0 ≤ x ∧ x < 256 := by
  intro x hx
  unfold plainF at hx
  obtain ⟨r, hr, hx⟩ := List.mem_flatMap.1 hx
  rw [(plF_nrm (runesF_pt hb r hr)).1] at hx
  exact rbF_byte x hx
theorem low_len {b : List Int} (hb : ∀ x ∈ b, 0 ≤ x ∧ x < 256) (h : ∀ x ∈ plainF b, x < 128) : (plainF b).length ≤ b.length := by
  have h1 := runesF_len b
  have h2 := runesF_pt hb
  unfold plainF at h ⊢
  have : ∀ rs : List Int, (∀ r ∈ rs, isPt r = true) → (∀ x ∈ rs.flatMap plF, x < 128) → (rs.flatMap plF).length = rs.length := fun rs => by
    induction rs with
    | nil => intro _ _; rfl
    | cons r rs ih =>
      intro p q
      have hl := ih (fun x hx => p x (List.mem_cons_of_mem _ hx)) fun x hx => q x (by rw [List.flatMap_cons]; exact List.mem_append_right _ hx)
      obtain ⟨e1, p1⟩ := plF_nrm (p r List.mem_cons_self)
      have q1 : ∀ x ∈ rbF (nrm r), x < 128 := fun x hx => q x (by rw [List.flatMap_cons, e1]; exact List.mem_append_left _ hx)
      rw [List.flatMap_cons, List.length_append, hl, e1, List.length_cons]
      generalize nrm r = s at *
      obtain ⟨k0, k1, k2⟩ := isPt_iff.1 p1
      have : (rbF s).length = 1 := by
        unfold rbF at q1 ⊢
        rw [if_neg (by rw [p1]; simp)] at q1 ⊢
        by_cases c1 : s < 128
        · rw [if_pos c1]; rfl
        rw [if_neg c1] at q1
        by_cases c2 : s < 2048
        · rw [if_pos c2] at q1
          have := q1 _ List.mem_cons_self; omega
        rw [if_neg c2] at q1
        by_cases c3 : s < 65536
        · rw [if_pos c3] at q1
          have := q1 _ List.mem_cons_self; omega
        rw [if_neg c3] at q1
        have := q1 _ List.mem_cons_self; omega
      omega
  rw [this _ h2 h]; exact h1
theorem dig_low {b : List Int} (hb : ∀ x ∈ b, 0 ≤ x ∧ x < 256) (h : areDigB (cutF b).1 = true) : ∀ x ∈ b, x < 128 := by
  intro x hx
  unfold areDigB at h
  rw [Bool.and_eq_true] at h
  have h2 := List.all_eq_true.1 h.2
  have hd : ∀ y ∈ (cutF b).1, y < 128 := fun y hy => by have := h2 y hy; unfold digB at this; simp at this; omega
  unfold cutF at hd
  split at hd
  · rename_i c
    cases b with
    | nil => simp at hx
    | cons z t =>
      rcases List.mem_cons.1 hx with rfl | hx
      · rw [gt_0] at c; omega
      · exact hd x hx
  · exact hd x hx
/-- A plain text is read as what it is the plain text of. -/
theorem wr_plain {b : List Int} (hb : ∀ x ∈ b, 0 ≤ x ∧ x < 256) (hl : b.length ≤ 400) : wrT (plainF b) = wrT b ∧ wrF (plainF b) = wrF b := by
  have e := plainF_2 hb
  cases hd : areDigB (cutF (plainF b)).1 with
  | true =>
    have := low_len hb (dig_low (plainF_byte hb) hd)
    unfold wrT wrF
    rw [e, hd, decide_eq_true (show (plainF b).length ≤ 400 by omega), decide_eq_true hl]
    exact ⟨rfl, rfl⟩
  | false =>
    unfold wrT wrF
    rw [e, hd, Bool.and_false, Bool.and_false]
    exact ⟨rfl, rfl⟩
theorem wr_no {b : List Int} (hl : 400 < b.length) : wrT b = ⟨false, []⟩ ∧ wrF b = false := by
  unfold wrT wrF
  rw [decide_eq_false (show ¬ b.length ≤ 400 by omega)]
  exact ⟨rfl, rfl⟩
theorem wr_nil : wrT [] = ⟨false, []⟩ ∧ wrF [] = false := by
  have : areDigB (cutF (plainF [])).1 = false := by decide
  unfold wrT wrF
  rw [this, Bool.and_false]
  exact ⟨rfl, rfl⟩
end
/- A text drawn off a code: its runes. No conditions. -/
section
open Num
section
variable {b : List Int} {h : VH} {i : Nat}
theorem nx {h : VH} {o : VO} {t : VH} : (h ++ o :: t)[h.length]? = some o := by rw [List.getElem?_append_right (Nat.le_refl _), Nat.sub_self]; rfl
def ldS (i q n : Nat) (N : Int) (j : Nat) : VE := [(0, some (.ptr i 0)), (3, some (.sl q 0 n 1)), (4, some (.int .i64 N)), (5, some (.int .i64 j))]
theorem rbF_len4 (r : Int) : (rbF r).length ≤ 4 := by
  unfold rbF
  (repeat' split) <;> simp
theorem ld_r (d : Nat) (hb : Cod b) {g : VH} {q n j : Nat} {L : List Int} {N : Int} (a : TxI b i h g q n L) (hn : n ≤ 4 * j) (hj : (j : Int) < N) (hN : N ≤ 9) :
    ∃ (g' : VH) (q' n' : Nat) (L' : List Int), vCode Try.prog kn (vrun Try.prog kn (d + 4)) 30 (loopAt Try.f30 0) (ldS i q n N j) g = some (.norm, ldS i q' n' N (j + 1), g') ∧ TxI b i h g' q' n' L' ∧ n' ≤ 4 * (j + 1) := by
  obtain ⟨x, g1, e1, c1, f1⟩ := l1drawRune_v (d + 0) hb a.c
  have a1 := a.step c1 f1
  have e2 := fun d => sRuneBytes_v (r := x) d
  have hr := rbF_len4 x
  have hby := rbF_byte (r := x)
  have o1 := a1.o
  have hnl := a1.n
  generalize rbF x = M at *
  refine ⟨_, _, _, _, ?_, a1.app (M := M) [] hby, by omega⟩
  clear a a1 c1 f1 hby
  rw [round_v]; simp only [loopAt, nthC, bodyC, loops, List.nil_append, List.cons_append, List.append_nil, Try.f30, ldS]
  simp (implicitDefEqProofs := false) (disch := omega) [go_sem, tab30, nil30, e1, e2, o1]
theorem ld_l (d : Nat) (hb : Cod b) {g : VH} {q : Nat} {L : List Int} {N : Int} (a : TxI b i h g q 0 L) (h0 : 0 ≤ N) (hN : N ≤ 9) :
    ∃ (g' : VH) (q' n' : Nat) (L' : List Int), viter (vCode Try.prog kn (vrun Try.prog kn (d + 4)) 30 (loopAt Try.f30 0)) kn.cf.rounds (ldS i q 0 N 0) g = some (.exit 0, ldS i q' n' N N.toNat ++ [(12, some (.bool false))], g') ∧ TxI b i h g' q' n' L' ∧ n' ≤ 36 := by
  have key := vi_inv (n := kn.cf.rounds) (body := vCode Try.prog kn (vrun Try.prog kn (d + 4)) 30 (loopAt Try.f30 0))
    (fun j s => ∃ (g' : VH) (q' n' : Nat) (L' : List Int), s = (ldS i q' n' N j, g') ∧ TxI b i h g' q' n' L' ∧ n' ≤ 4 * j)
    (fun r => ∃ (g' : VH) (q' n' : Nat) (L' : List Int), r = some (.exit 0, ldS i q' n' N N.toNat ++ [(12, some (.bool false))], g') ∧ TxI b i h g' q' n' L' ∧ n' ≤ 36) N.toNat (by rw [k_cf, c_rounds]; omega)
    (fun j s hj hI => by
      obtain ⟨g', q', n', L', rfl, a', hn⟩ := hI
      left
      obtain ⟨g2, q2, n2, L2, e, a2, hn2⟩ := ld_r d hb a' hn (N := N) (by omega) hN
      exact ⟨(ldS i q2 n2 N (j + 1), g2), e, g2, q2, n2, L2, rfl, a2, hn2⟩)
    (fun s hI m => by
      obtain ⟨g', q', n', L', rfl, a', hn⟩ := hI
      refine ⟨g', q', n', L', vi_exit ?_, a', by omega⟩
      clear a' a
      have e : ((N.toNat : Nat) : Int) = N := by omega
      rw [round_v]; simp only [loopAt, nthC, bodyC, loops, List.nil_append, List.cons_append, List.append_nil, Try.f30, ldS, e]
      simp (implicitDefEqProofs := false) (disch := omega) [go_sem, tab30, nil30])
    (ldS i q 0 N 0, g) ⟨g, q, 0, L, rfl, a, by omega⟩
  exact key
/-- The text ahead of what bends it. -/
theorem ld_0 (d : Nat) (hb : Cod b) (hc : Cu b i h) : ∃ (x : Int) (g0 g : VH) (q n : Nat) (L : List Int), vrun Try.prog kn (d + 2) 62 [.ptr i 0, .int .i64 9] (h ++ [.ints true .u8 []]) = some (.int .i64 x, g0) ∧ 0 ≤ x ∧ x < 9 ∧ TxI b i h g0 h.length 0 [] := by
  obtain ⟨x, g0, e0, x0, x1, c0, f0, l0⟩ := l1Below_v d hb (hc.app [.ints true .u8 []]) (n := 9) (by omega) (by omega)
  have hil := hc.lt
  exact ⟨x, g0, g0, 0, 0, [], e0, x0, x1, ⟨c0, f0.at (nx (h := h)) (by omega), Nat.le_refl _, (Frm.app i h _).trans f0, by simp, fun x hx => by simp at hx⟩⟩
end
end
end Go.Eng
