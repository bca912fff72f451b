/- What the functions of this seat do, one after another, told by plain values. No conditions. -/
import Derived.Test.YtnkhamahhgfbhaaSeat
import Derived.Test.YtnkhamahhgfbhaaVb
import Derived.Test.YtnkhamahhgfbhaaT2
set_option linter.unusedVariables false
set_option linter.unusedSimpArgs false
namespace Go.Eng
open Go.Proofs
set_option maxRecDepth 100000
set_option linter.unusedSimpArgs false
attribute [local go_sem] r_seq r_skip r_retC r_exitC r_label r_block r_region r_regionW r_xWt r_xW r_cond r_Bt r_Bf r_Ncode r_Nret r_Nexit r_Nblk r_Nblkr r_Nblke r_Nnil r_Es r_Onil r_Oop r_Oif r_Xs r_Gt r_Gf r_wtt r_wtf r_wft r_wff r_wu r_gO r_putS r_putN r_get r_keepN r_keepC r_fr r_fn r_fi r_ff r_fo r_l1 r_l2t r_cun r_cul r_cub r_cui r_cus r_cuis r_cuc r_cusl r_cuti r_cutv r_ven r_vec r_l2f r_l3 r_t1 r_t2 r_t0 r_rt r_rc r_en r_ec r_cM r_oN r_oC r_end r_endt r_endf r_nob0 r_nobN r_nobC r_nobE r_nb0 r_nbi r_nbs r_nbsl r_nbin r_nbce r_nLn r_nLv r_nLc r_nAa r_nAn r_nAk_b r_nAk_i r_nAk_s r_nAk_n r_nAk_is r_nAk_ce r_nAk_fp r_nAk_sl r_nAk_pt r_nAk_fn r_nsn r_nsv r_nsc r_m0 r_mi r_ms r_msl r_min r_mce r_mLn r_mLv r_mLc r_mAa r_mAn r_mAk_b r_mAk_i r_mAk_s r_mAk_n r_mAk_is r_mAk_ce r_mAk_fp r_mAk_sl r_mAk_pt r_mAk_fn r_msn r_msv r_msc r_atb r_ati r_ats r_atn r_atis r_atc r_atf r_atl r_atp r_atfn r_gcn r_gcc r_gLn r_gLc r_gIt r_ndn r_ndc r_gcB r_gLB r_two r_rea r_rea0 r_re1n r_re1c r_ori r_orv r_ord r_orn r_adn r_adc r_ad1 r_ern r_ers r_er0 r_rsl r_rptr r_rb r_ri r_rs r_rn r_ris r_rce r_rfp r_ra4 r_ra3 r_rt4 r_rf4 r_rf3 r_idS r_idc r_nS r_nP r_nF r_nT r_vsl r_vptr r_vb r_vi r_vs r_vn r_vis r_vce r_vfp r_va4 r_va3 r_vt4 r_vf4 r_vf3 r_rV r_Oi r_Ov r_Od r_rE r_rE0 r_En r_Ec r_E0 r_pO r_pk r_agL r_cO r_fO r_fSi r_fSv r_fPv r_fsl r_fptr r_ffn r_fag r_fb r_fint r_fstr r_fnil r_fis r_fce r_ffp r_res r_move r_assign r_pick r_pickt r_pickf r_alloc r_box r_al r_build r_bslice r_load r_store r_nlc r_nl1 r_nl2 r_bin r_un r_conv r_mkf r_mks r_slc r_fad r_fld r_iad r_idx r_ext r_ex1 r_callf r_callt r_callen r_calapp r_calmax r_calmin r_vt r_vcb r_vci r_vcs r_vcn r_vca r_vcf r_vcg r_ofb r_ofi r_ofs r_ofn r_evs r_pn r_prt r_pc r_one_a r_one_b r_one_i r_one_s r_one_n r_one_is r_one_ce r_one_fp r_one_sl r_one_pt r_one_fn r_cs_a r_cs_b r_cs_i r_cs_s r_cs_n r_cs_is r_cs_ce r_cs_fp r_cs_sl r_cs_pt r_cs_fn r_tov r_tovA r_toc r_toa r_tb r_ti r_ts r_tn r_bd r_bd2 r_filn r_fp1 r_filc r_fsn r_fsc r_san r_sac r_bs2 r_bs1 r_newO r_mkq r_mkI r_mkOi r_mkOv r_tIn r_tIc r_repz r_repn r_ldp r_ldf r_l1t r_l1f r_lFt r_lFf r_aggO r_obj r_at r_ati' r_atv r_celli r_cellv r_subi r_subv r_sto r_sto1 r_sto2 r_sets r_setR r_setn r_setc r_s1i r_s1v r_bin1 r_bin2 r_tv1 r_cb r_ci r_cst r_cn r_csl r_cis r_cce r_uni r_unb r_cv r_cvi r_cvs r_cvb r_cvl r_sO r_rdn r_rdi r_rdl r_rdO r_vsub r_vfn r_mk r_mk1 r_mk2 r_zoi r_zov r_leni r_lenv r_bn r_bndV r_bo r_sl0 r_sl1 r_vsz r_ct1 r_cts r_cti r_ctc r_ctn r_lnl r_lni r_lnc r_lnn r_fa r_fap r_faf r_fi1 r_fit r_fif r_ixi r_ixs r_ixc r_ixf r_ixF r_ixF2 r_ix1 r_ixsl r_ixin r_ixce r_len1 r_lenA r_lTs r_lTn r_lTl r_lTi r_lTc r_app0 r_app r_app1 r_app2 r_app3 r_catO r_cati r_catv r_newt r_newf r_pair r_pairK r_trip r_kis r_kiv r_srn r_srl r_sri r_src r_srs r_oln r_oll r_vw r_wi r_wv r_mm r_max r_min' r_str r_cF r_c2t r_c3f r_c3t r_ab r_c2f r_cV r_p1 r_la r_la2t r_la2f r_la3 r_sh r_z_is r_z_ce r_z_fp r_z_b r_z_i r_z_s r_z_n r_z_l r_z_p r_z_a4 r_z_a3 r_z_t4 r_zoI r_zoV r_roN r_roC r_roi r_rod r_zod r_rov r_aR r_trOi r_trOv r_trPv r_trl r_trp r_trf r_tra r_trb r_tri r_trs r_trn r_tris r_trce r_trfp
attribute [local go_sem] b_add b_sub b_mul b_quo b_rem b_shl b_shr b_eql b_neq b_lss b_leq b_gtr b_geq eqB_s b_eqB b_neB u_neg u_not b_nn b_nn' eqS_s zerosT_s zerosT_n zt_i zt_sl zt_st dstOf_z dstOf_n iltT iltF ileT ileF ieqT ieqF nltT nltF nleT nleF neqT neqF tdiv_pos tmod_pos w64 idx0 List.take_of_length_le
/- Trailing noughts of a limb, as the library counts them. No conditions. -/
section
open Num
theorem wu64' {x : Int} (h1 : 0 ≤ x) (h2 : x ≤ 18446744073709551615) : IntKind.wrap .u64 x = x := by
  simp [IntKind.wrap, IntKind.bits, IntKind.signed]; omega
theorem negu {x : Nat} (h0 : x ≠ 0) (hx : x < 65536) : IntKind.wrap .u64 (-(x : Int)) = ((2 ^ 64 - x : Nat) : Int) := by
  simp [IntKind.wrap, IntKind.bits, IntKind.signed]; omega
theorem andneg (P : Program) (ty : TypeId) {x t o : Nat} (h0 : x ≠ 0) (hx : x < 65536) (h : x = 2 ^ t * (2 * o + 1)) : binE P .and ty (.int .u64 (x : Int)) (.int .u64 ((2 ^ 64 - x : Nat) : Int)) = some (.int .u64 ((2 ^ t : Nat) : Int)) := by
  rw [b_and]
  have e : (BitVec.ofInt (IntKind.bits .u64) (x : Int) &&& BitVec.ofInt (IntKind.bits .u64) ((2 ^ 64 - x : Nat) : Int)).toNat = 2 ^ t := by
    show (BitVec.ofInt 64 (x : Int) &&& BitVec.ofInt 64 ((2 ^ 64 - x : Nat) : Int)).toNat = 2 ^ t
    rw [BitVec.toNat_and, BitVec.ofInt_natCast, BitVec.ofInt_natCast, BitVec.toNat_ofNat, BitVec.toNat_ofNat, Nat.mod_eq_of_lt (by omega), Nat.mod_eq_of_lt (by omega)]
    exact land_neg h (by omega)
  rw [e]
  have hle : 2 ^ t ≤ x := by rw [h]; exact Nat.le_mul_of_pos_right _ (by omega)
  rw [wu64' (by omega) (by omega)]
theorem tz16 {x t o : Nat} (hx : x < 65536) (h : x = 2 ^ t * (2 * o + 1)) : t < 16 := by
  have hle : 2 ^ t ≤ x := by rw [h]; exact Nat.le_mul_of_pos_right _ (by omega)
  exact (Nat.pow_lt_pow_iff_right (a := 2) (by omega)).1 (by omega : 2 ^ t < 2 ^ 16)
end
/- Numbers of any size: their one form, products; trailing noughts. No conditions. -/
section
open Num
theorem low_zero {x j : Nat} (h : 16 * j ≤ tz x) : x % 65536 ^ j = 0 := by
  by_cases h0 : x = 0
  · subst h0; simp
  obtain ⟨o, ho⟩ := tz_spec h0
  have e : (65536 : Nat) ^ j = 2 ^ (16 * j) := by rw [show (65536 : Nat) = 2 ^ 16 from rfl, ← Nat.pow_mul]
  have e2 : 2 ^ tz x = 2 ^ (16 * j) * 2 ^ (tz x - 16 * j) := by rw [← Nat.pow_add]; congr 1; omega
  rw [e]
  conv => lhs; lhs; rw [ho, e2, Nat.mul_assoc]
  exact Nat.mul_mod_right _ _
theorem dig_zero {x j : Nat} (h : 16 * (j + 1) ≤ tz x) : x / 65536 ^ j % 65536 = 0 := by
  have h1 := low_zero h
  rw [mod_pow_succ] at h1
  have hp := powN_pos j
  rcases Nat.eq_zero_or_pos (x / 65536 ^ j % 65536) with h2 | h2
  · exact h2
  · have := Nat.mul_pos hp h2; omega
theorem dig_nz {x : Nat} (h0 : x ≠ 0) : x / 65536 ^ (tz x / 16) % 65536 ≠ 0 := by
  intro h
  have hb := tz_bit h0
  have e : 2 ^ tz x = 65536 ^ (tz x / 16) * 2 ^ (tz x % 16) := pow_split _
  rw [e, ← Nat.div_div_eq_div_mul] at hb
  generalize x / 65536 ^ (tz x / 16) = a at *
  have e2 : (65536 : Nat) = 2 ^ (tz x % 16) * (2 * 2 ^ (15 - tz x % 16)) := by
    rw [← Nat.mul_assoc, Nat.mul_right_comm, ← Nat.pow_add, show tz x % 16 + (15 - tz x % 16) = 15 by omega]
  have h2 : a = 65536 * (a / 65536) := by omega
  rw [h2, e2, Nat.mul_assoc, Nat.mul_div_cancel_left _ (Nat.two_pow_pos _), Nat.mul_assoc] at hb
  omega
section
variable {x : Nat}
def toS (x j : Nat) : VE × VH := ([(5, some (.ints .i64 (D x))), (6, some (.int .i64 (D x).length)), (7, some (.int .i64 j))], [])
end
section
variable {a b : Nat} {n m : Bool} {e ex ey : Int}
/-- May it be told? -/
def dyFit (r : DyT) : Bool := decide (r.l.length ≤ 100) && decide (-3000 ≤ r.e) && decide (r.e ≤ 3000)
def zT : DyT := ⟨false, [], 0⟩
def fitT (r : DyT) : DyT := if dyFit r then r else zT
theorem mkD_neg : (mkD n a e).neg = ((mkD n a e).neg && !decide ((mkD n a e).l.length = 0)) := by
  unfold mkD
  by_cases h0 : a = 0
  · rw [if_pos h0]; rfl
  · rw [if_neg h0]
    have hb := tz_bit h0
    have hX : a / 2 ^ tz a ≠ 0 := fun h => by rw [h] at hb; simp at hb
    have : ¬ (D (a / 2 ^ tz a)).length = 0 := fun h => hX (D_nil_iff.1 (List.eq_nil_of_length_eq_zero h))
    simp [this]
theorem mkD_len : (mkD n a e).l.length ≤ (D a).length := by
  unfold mkD
  split
  · simp
  · exact len_D_mono (Nat.div_le_self _ _)
theorem mkD_e (he : -1000000000 ≤ e) (he' : e ≤ 1000000000) (ha : (D a).length < 60000) : -1000000000 ≤ (mkD n a e).e ∧ (mkD n a e).e ≤ 1001000000 := by
  unfold mkD
  by_cases h0 : a = 0
  · rw [if_pos h0]; simp
  · rw [if_neg h0]
    have := tz_lt h0
    simp only; omega
/-- What is in its one form is valid where it fits. -/
theorem dyOkB_mkD : dyOkB (mkD n a e) = dyFit (mkD n a e) := by
  unfold mkD
  by_cases h0 : a = 0
  · rw [if_pos h0]; rfl
  · rw [if_neg h0]
    have hb := tz_bit h0
    generalize a / 2 ^ tz a = X at *
    have hX : X ≠ 0 := fun h => by rw [h] at hb; simp at hb
    have hl : ¬ (D X).length = 0 := fun h => hX (D_nil_iff.1 (List.eq_nil_of_length_eq_zero h))
    have hg : gt (D X) 0 % 2 = 1 := by rw [gt_D]; unfold dg; rw [Nat.pow_zero, Nat.div_one]; omega
    unfold dyOkB dyFit wholeOkB
    simp only [natOkB_D, hl, hg, decide_false, Bool.and_false, Bool.not_false, Bool.and_true, if_false, decide_true, Bool.and_assoc]
theorem mkD_and : mkD (n && decide (a ≠ 0)) a e = mkD n a e := by
  unfold mkD
  by_cases h0 : a = 0
  · rw [if_pos h0, if_pos h0]
  · rw [if_neg h0, if_neg h0]; simp [h0]
end
end
/- Intervals: validity and membership, program and reference. No conditions. -/
section
open Num
def DyT.n (x : DyT) : Nat := (val x.l).toNat
def dcmp (x y : DyT) : Int := scmp x.neg (alA x.n x.e y.n y.e) y.neg (alB x.n x.e y.n y.e)
structure IvT where
  lo : DyT
  hi : DyT
def IvT.v (x : IvT) : List V := [.bool x.lo.neg, .ints .i64 x.lo.l, .int .i64 x.lo.e, .bool x.hi.neg, .ints .i64 x.hi.l, .int .i64 x.hi.e]
def ivOkB (x : IvT) : Bool := dyOkB x.lo && dyOkB x.hi && decide (dcmp x.lo x.hi ≤ 0)
def ivHasB (v : IvT) (x : DyT) : Bool := decide (dcmp v.lo x ≤ 0) && decide (dcmp x v.hi ≤ 0)
theorem ok_D {x : DyT} (hx : dyOkB x = true) : x.l = D (x.n) ∧ (D (x.n)).length < 100000 ∧ -100000 ≤ x.e ∧ x.e ≤ 100000 ∧ (x.n = 0 → x.neg = false) := by
  obtain ⟨n, h1, h2, h3, h4, h5⟩ := (dyOkB_iff x).1 hx
  have : x.n = n := by unfold DyT.n; rw [h1, val_D]; rfl
  rw [this]
  refine ⟨h1, by omega, by omega, by omega, fun h => ?_⟩
  rcases h5 with ⟨_, h, _⟩ | h5
  · exact h
  · omega
section
variable {x y : DyT}
theorem dcmpI_v (d : Nat) (hx : dyOkB x = true) (hy : dyOkB y = true) : vrun Try.prog kn (d + 5) 41 [.agg [.bool x.neg, .ints .i64 x.l, .int .i64 x.e], .agg [.bool y.neg, .ints .i64 y.l, .int .i64 y.e]] [] = some (.int .i64 (dcmp x y), []) := by
  obtain ⟨e1, a1, a2, a3, a4⟩ := ok_D hx
  obtain ⟨e2, b1, b2, b3, b4⟩ := ok_D hy
  have := cmp_v (n := x.neg) (m := y.neg) d a1 b1 a2 a3 b2 b3
  rw [← e1, ← e2] at this
  exact this
theorem dcmpS_v (d : Nat) (hx : dyOkB x = true) (hy : dyOkB y = true) : vrun Try.prog kn (d + 5) 36 [.agg [.bool x.neg, .ints .i64 x.l, .int .i64 x.e], .agg [.bool y.neg, .ints .i64 y.l, .int .i64 y.e]] [] = some (.int .i64 (dcmp x y), []) := by
  obtain ⟨e1, a1, a2, a3, a4⟩ := ok_D hx
  obtain ⟨e2, b1, b2, b3, b4⟩ := ok_D hy
  have := l4cmp_v (n := x.neg) (m := y.neg) d a1 b1 a2 a3 b2 b3 a4 b4
  rw [← e1, ← e2] at this
  exact this
end
section
variable {x : DyT} {v : IvT}
end
end
/- Numbers of any size: products, sums, differences. No conditions. -/
section
open Num
def ssN (n : Bool) (a : Nat) (m : Bool) (b : Nat) : Bool := if n = m then n else if b ≤ a then n else m
def ssV (n : Bool) (a : Nat) (m : Bool) (b : Nat) : Nat := if n = m then a + b else if b ≤ a then a - b else b - a
section
variable {a b : Nat} {n m : Bool} {e ex ey : Int}
theorem cmpI_ge : (0 ≤ cmpI a b) = (b ≤ a) := by
  unfold cmpI
  by_cases h : a < b
  · rw [if_pos h]; simp; omega
  · rw [if_neg h]; split <;> (simp; omega)
theorem ssV_len {k : Nat} (ha : (D a).length < k) (hb : (D b).length < k) : (D (ssV n a m b)).length < k + 1 := by
  unfold ssV
  by_cases h : n = m
  · rw [if_pos h]; have := len_add (x := a) (y := b) (n := k - 1) (by omega) (by omega); omega
  · rw [if_neg h]
    split
    · have := len_D_mono (Nat.sub_le a b); omega
    · have := len_D_mono (Nat.sub_le b a); omega
theorem D_ne {x : Nat} : (D x = []) = (x = 0) := propext D_nil_iff
theorem times_e (d : Nat) (ha : (D a).length < 100000) (hb : (D b).length < 100000) (he : -100000 ≤ ex) (he' : ex ≤ 100000) (hf : -100000 ≤ ey) (hf' : ey ≤ 100000) : vrun Try.prog kn (d + 3) 43 [.agg [.bool n, .ints .i64 (D a), .int .i64 ex], .agg [.bool m, .ints .i64 (D b), .int .i64 ey]] [] = some (.agg [.bool ((n != m) && decide (a * b ≠ 0)), .ints .i64 (D (a * b)), .int .i64 (ex + ey)], []) := by
  have h1 := fun d => times_v (x := a) (y := b) d (by omega) (by omega)
  have hl := len_mul a b
  generalize a * b = p at *
  by_cases h0 : p = 0
  · subst h0
    rw [D_zero] at *
    rw [vrun_v Try.func43 rfl rfl rfl]; simp only [Try.f43]
    cases n <;> cases m <;> simp (disch := omega) [go_sem, tab43, h1]
  · have hn : ¬ D p = [] := fun h => h0 (D_nil_iff.1 h)
    have hp : 0 < (D p).length := List.length_pos_iff.2 hn
    rw [vrun_v Try.func43 rfl rfl rfl]; simp only [Try.f43]
    cases n <;> cases m <;> simp (disch := omega) [go_sem, tab43, h1, hn, h0]
theorem l3mul_v (d : Nat) (ha : (D a).length < 400000) (hb : (D b).length < 400000) : vrun Try.prog kn (d + 3) 82 [.agg [.bool n, .ints .i64 (D a)], .agg [.bool m, .ints .i64 (D b)]] [] = some (.agg [.bool ((n != m) && decide (a * b ≠ 0)), .ints .i64 (D (a * b))], []) := by
  have h1 := fun d => l2mul_v (x := a) (y := b) d (by omega) (by omega)
  have hl := len_mul a b
  generalize a * b = p at *
  have h2 := fun n d => l3make_v (n := n) (a := p) d (by omega)
  rw [vrun_v Try.func82 rfl rfl rfl]; simp only [Try.f82]
  cases n <;> cases m <;> simp (disch := omega) [go_sem, tab82, h1, h2]
theorem l4mul_v (d : Nat) (ha : (D a).length < 10000) (hb : (D b).length < 10000) (he : -100000 ≤ ex) (he' : ex ≤ 100000) (hf : -100000 ≤ ey) (hf' : ey ≤ 100000) : vrun Try.prog kn (d + 5) 37 [.agg [.bool n, .ints .i64 (D a), .int .i64 ex], .agg [.bool m, .ints .i64 (D b), .int .i64 ey]] [] = some (.agg (mkD (n != m) (a * b) (ex + ey)).v, []) := by
  have h1 := fun d => l3mul_v (n := n) (m := m) (a := a) (b := b) d (by omega) (by omega)
  have hl := len_mul a b
  have h2 := fun d => l4make_v (n := (n != m) && decide (a * b ≠ 0)) (a := a * b) (e := ex + ey) d (by omega) (by omega) (by omega)
  rw [mkD_and] at h2
  generalize ((n != m) && decide (a * b ≠ 0)) = s at *
  generalize mkD (n != m) (a * b) (ex + ey) = r at *
  unfold DyT.v at *
  rw [vrun_v Try.func37 rfl rfl rfl]; simp only [Try.f37]
  simp (disch := omega) [go_sem, tab37, h1, h2]
end
end
/- Powers; whole numbers of the machine; decimal numbers: validity. No conditions. -/
section
open Num
theorem pow_len {a w : Nat} (h : a ≤ 2 ^ w) (k : Nat) : (D (a ^ k)).length ≤ w * k / 16 + 2 := by
  have h1 : a ^ k ≤ 1 * 2 ^ (w * k) := by rw [Nat.one_mul, Nat.pow_mul]; exact Nat.pow_le_pow_left h k
  have h2 := len_D_mono h1
  have h3 := len_shl 1 (w * k)
  have h4 : (D 1).length ≤ 1 := len_small (by omega)
  omega
section
variable {a k : Nat}
def powS (a k j : Nat) : VE × VH := ([(0, some (.ints .i64 (D a))), (5, some (.sl 0 0 (D (a ^ j)).length 1)), (7, some (.int .i64 k)), (8, some (.int .i64 j))], [.ints true .i64 (D (a ^ j))])
theorem power_v (d : Nat) (ha : (D a).length < 400000) (h0 : a ≠ 0) (hl : (D (a ^ k)).length < 400000) (hk : k < 1000000) : vrun Try.prog kn (d + 3) 71 [.ints .i64 (D a), .int .i64 (k : Int)] [] = some (.sl 0 0 (D (a ^ k)).length 1, [.ints true .i64 (D (a ^ k))]) := by
  have hr : ∀ j, j < k → vCode Try.prog kn (vrun Try.prog kn (d + 2)) 71 (loopAt Try.f71 0) (powS a k j).1 (powS a k j).2 = some (.norm, powS a k (j + 1)) := fun j hj => by
    have h1 : (D (a ^ j)).length ≤ (D (a ^ k)).length := len_D_mono (Nat.pow_le_pow_right (by omega) (by omega))
    have h2 := times_v (x := a ^ j) (y := a) d (by omega) (by omega)
    have h3 : (D (a ^ j * a)).length ≤ (D (a ^ k)).length := by rw [← Nat.pow_succ]; exact len_D_mono (Nat.pow_le_pow_right (by omega) (by omega))
    rw [round_v]; simp only [loopAt, nthC, bodyC, loops, List.nil_append, List.cons_append, List.append_nil, Try.f71, powS, Nat.pow_succ]
    generalize a ^ j = x at *
    generalize x * a = y at *
    simp (implicitDefEqProofs := false) (disch := omega) [go_sem, tab71, nil71, h2]
  have hx : ∀ call, vCode Try.prog kn call 71 (loopAt Try.f71 0) (powS a k k).1 (powS a k k).2 = some (.exit 0, (powS a k k).1 ++ [(9, some (.bool false))], (powS a k k).2) := fun call => by
    rw [round_v]; simp only [loopAt, nthC, bodyC, loops, List.nil_append, List.cons_append, List.append_nil, Try.f71, powS]
    simp (implicitDefEqProofs := false) (disch := omega) [go_sem, tab71, nil71]
  have hl0 := fun ks => loop_v (P := Try.prog) (K := kn) (ks := ks) (vi_for (powS a k) k (n := kn.cf.rounds) (by rw [k_cf, c_rounds]; omega) hr fun m => vi_exit (hx _))
  have hs := fun d => small_v (n := 1) d (by omega)
  simp only [Int.natCast_one] at hs
  have hl1 : (D 1).length ≤ 1 := len_small (by omega)
  simp only [loopAt, nthC, bodyC, loops, List.nil_append, List.cons_append, List.append_nil, Try.f71, powS, Nat.pow_zero, Int.natCast_zero, List.cons_append, List.nil_append] at hl0
  generalize D 1 = o at *
  rw [vrun_v Try.func71 rfl rfl rfl]; simp only [Try.f71]
  simp (implicitDefEqProofs := false) (disch := omega) [go_sem, tab71, nil71, hs, hl0]
theorem ten_v (d : Nat) (hk : k < 100000) : vrun Try.prog kn (d + 4) 86 [.int .i64 (k : Int)] [] = some (.sl 0 0 (D (10 ^ k)).length 1, [.ints true .i64 (D (10 ^ k))]) := by
  have hs := fun d => small_v (n := 5) d (by omega)
  have e5 : ((5 : Nat) : Int) = 5 := rfl
  rw [e5] at hs
  have hl5 : (D 5).length ≤ 1 := len_small (by omega)
  have hpl := pow_len (a := 5) (w := 3) (by omega) k
  have h1 := fun d => power_v (a := 5) (k := k) d (by omega) (by omega) (by omega) (by omega)
  have h2 := fun d => up_v (x := 5 ^ k) (k := k) d (by omega) (by omega)
  have e : 5 ^ k * 2 ^ k = 10 ^ k := by rw [← Nat.mul_pow]
  rw [e] at h2
  have hpl2 := pow_len (a := 10) (w := 4) (by omega) k
  generalize 10 ^ k = T at *
  generalize 5 ^ k = F at *
  generalize D 5 = o at *
  rw [vrun_v Try.func86 rfl rfl rfl]; simp only [Try.f86]
  simp (implicitDefEqProofs := false) (disch := omega) [go_sem, tab86, nil86, hs, h1, h2]
def stenS (k j : Nat) : VE × VH := ([(0, some (.int .i64 k)), (2, some (.ptr 0 0)), (3, some (.ptr 1 0)), (4, some (.int .i64 j))], [.vals true [.nil], .vals true [.ints .i64 (D (10 ^ j))]])
theorem l6ten_v (d : Nat) (hk : k < 100000) : vrun Try.prog kn (d + 3) 78 [.int .i64 (k : Int)] [] = some (.agg [.ints .i64 (D (10 ^ k))], []) := by
  have ht := fun d => l2of_v (n := 10) d (by omega)
  have e10 : ((10 : Nat) : Int) = 10 := rfl
  rw [e10] at ht
  have hl10 : (D 10).length ≤ 1 := len_small (by omega)
  have hr : ∀ j, j < k → vCode Try.prog kn (vrun Try.prog kn (d + 2)) 78 (loopAt Try.f78 0) (stenS k j).1 (stenS k j).2 = some (.norm, stenS k (j + 1)) := fun j hj => by
    have h1 := pow_len (a := 10) (w := 4) (by omega) j
    have h2 := l2mul_v (x := 10 ^ j) (y := 10) d (by omega) (by omega)
    rw [round_v]; simp only [loopAt, nthC, bodyC, loops, List.nil_append, List.cons_append, List.append_nil, Try.f78, stenS, Nat.pow_succ]
    generalize 10 ^ j = x at *
    generalize D 10 = o at *
    simp (implicitDefEqProofs := false) (disch := omega) [go_sem, tab78, ht, h2]
  have hx : ∀ call, vCode Try.prog kn call 78 (loopAt Try.f78 0) (stenS k k).1 (stenS k k).2 = some (.exit 0, (stenS k k).1 ++ [(8, some (.bool false))], (stenS k k).2) := fun call => by
    rw [round_v]; simp only [loopAt, nthC, bodyC, loops, List.nil_append, List.cons_append, List.append_nil, Try.f78, stenS]
    simp (implicitDefEqProofs := false) (disch := omega) [go_sem, tab78]
  have hl0 := fun ks => loop_v (P := Try.prog) (K := kn) (ks := ks) (vi_for (stenS k) k (n := kn.cf.rounds) (by rw [k_cf, c_rounds]; omega) hr fun m => vi_exit (hx _))
  have hs := fun d => l2of_v (n := 1) d (by omega)
  simp only [Int.natCast_one] at hs
  simp only [loopAt, nthC, bodyC, loops, List.nil_append, List.cons_append, List.append_nil, Try.f78, stenS, Nat.pow_zero, Int.natCast_zero, List.cons_append, List.nil_append] at hl0
  generalize D 1 = o at *
  rw [vrun_v Try.func78 rfl rfl rfl]; simp only [Try.f78]
  simp (implicitDefEqProofs := false) (disch := omega) [go_sem, tab78, hs, hl0]
theorem l3of_v (d : Nat) {n : Int} (h0 : -9223372036854775808 ≤ n) (h1 : n ≤ 9223372036854775807) : vrun Try.prog kn (d + 3) 79 [.int .i64 n] [] = some (.agg [.bool (decide (n < 0)), .ints .i64 (D n.natAbs)], []) := by
  by_cases h : n < 0
  · have e1 : ((-(n + 1)).toNat : Int) = -(n + 1) := by omega
    have a1 := fun d => l2of_v (n := (-(n + 1)).toNat) d (by omega)
    rw [e1] at a1
    have a2 := fun d => l2of_v (n := 1) d (by omega)
    simp only [Int.natCast_one] at a2
    have hl1 : (D 1).length ≤ 4 := len_small (by omega)
    have hl2 : (D (-(n + 1)).toNat).length ≤ 4 := len_small (by omega)
    have a3 := fun d => l2add_v (x := (-(n + 1)).toNat) (y := 1) d (by omega) (by omega)
    have e2 : (-(n + 1)).toNat + 1 = n.natAbs := by omega
    rw [e2] at a3
    have hl3 : (D n.natAbs).length ≤ 4 := len_small (by omega)
    have a4 := fun d => l3make_v (n := true) (a := n.natAbs) d (by omega)
    have e3 : decide (n.natAbs ≠ 0) = true := decide_eq_true (by omega)
    rw [e3] at a4
    rw [decide_eq_true h]
    have e4 : -(n + 1) = -1 + -n := by omega
    generalize D n.natAbs = A at *
    generalize D (-(n + 1)).toNat = B at *
    generalize D 1 = o at *
    rw [vrun_v Try.func79 rfl rfl rfl]; simp only [Try.f79]
    simp (implicitDefEqProofs := false) (disch := omega) [go_sem, tab79, a1, a2, a3, a4]
  · have e1 : ((n.natAbs : Nat) : Int) = n := by omega
    have a1 := fun d => l2of_v (n := n.natAbs) d (by omega)
    rw [e1] at a1
    have hl3 : (D n.natAbs).length ≤ 4 := len_small (by omega)
    have a4 := fun d => l3make_v (n := false) (a := n.natAbs) d (by omega)
    rw [decide_eq_false h]
    simp only [Bool.false_and] at a4
    generalize D n.natAbs = A at *
    rw [vrun_v Try.func79 rfl rfl rfl]; simp only [Try.f79]
    simp (implicitDefEqProofs := false) (disch := omega) [go_sem, tab79, a1, a4]
end
/-! ### valid decimal numbers -/
def decOkB (l : List Int) (e : Int) : Bool := natOkB l && (decide (-800 ≤ e) && decide (e ≤ 800)) && (if l.length = 0 then decide (e = 0) else decide ((val l).toNat % 10 ≠ 0))
section
variable {l : List Int} {e : Int} {n : Bool}
theorem DecOk_v (d : Nat) (hl : l.length < 100000000) : vrun Try.prog kn (d + 8) 39 [.agg [.bool n, .ints .i64 l, .int .i64 e]] [] = some (.bool (decOkB l e), []) := by
  have h1 := fun d => NatOk_v (l := l) d (by omega)
  have h2 := within_v
  unfold decOkB
  cases q : natOkB l with
  | false =>
    rw [q] at h1
    rw [vrun_v Try.func39 rfl rfl rfl]; simp only [Try.f39]
    simp (implicitDefEqProofs := false) (disch := omega) [go_sem, tab39, h1]
  | true =>
    rw [q] at h1
    by_cases e1 : -800 ≤ e
    · by_cases e2 : e ≤ 800
      · obtain ⟨x, rfl, hx⟩ := (natOkB_iff l).1 q
        have h3 := fun d => divideSmall_v (z := x) (m := 10) d (by omega) (by omega) (by omega)
        have e10 : ((10 : Nat) : Int) = 10 := rfl
        rw [e10] at h3
        rw [val_D, Int.toNat_natCast]
        have hql := len_D_mono (Nat.div_le_self x 10)
        generalize D (x / 10) = Q at *
        have hm : ((x % 10 : Nat) : Int) = 0 ↔ x % 10 = 0 := by omega
        by_cases h0 : x = 0
        · subst h0
          rw [D_zero] at *
          by_cases e3 : e = 0
          · rw [vrun_v Try.func39 rfl rfl rfl]; simp only [Try.f39]
            simp (implicitDefEqProofs := false) (disch := omega) [go_sem, tab39, h1, h2, h3, e3]
          · rw [vrun_v Try.func39 rfl rfl rfl]; simp only [Try.f39]
            simp (implicitDefEqProofs := false) (disch := omega) [go_sem, tab39, h1, h2, h3, e1, e2, e3]
        · have hn : ¬ D x = [] := fun h => h0 (D_nil_iff.1 h)
          by_cases m0 : x % 10 = 0
          · rw [m0] at h3
            rw [vrun_v Try.func39 rfl rfl rfl]; simp only [Try.f39]
            simp (implicitDefEqProofs := false) (disch := omega) [go_sem, tab39, h1, h2, h3, e1, e2, hn, m0]
          · have hm' : ¬ ((x % 10 : Nat) : Int) = 0 := by omega
            generalize ((x % 10 : Nat) : Int) = r at *
            rw [vrun_v Try.func39 rfl rfl rfl]; simp only [Try.f39]
            simp (implicitDefEqProofs := false) (disch := omega) [go_sem, tab39, h1, h2, h3, e1, e2, hn, m0, hm']
      · rw [vrun_v Try.func39 rfl rfl rfl]; simp only [Try.f39]
        simp (implicitDefEqProofs := false) (disch := omega) [go_sem, tab39, h1, h2, e1, e2]
    · rw [vrun_v Try.func39 rfl rfl rfl]; simp only [Try.f39]
      simp (implicitDefEqProofs := false) (disch := omega) [go_sem, tab39, h1, h2, e1]
theorem sDecOk_v (d : Nat) (hl : l.length < 100000000) : vrun Try.prog kn (d + 3) 34 [.agg [.bool n, .ints .i64 l, .int .i64 e]] [] = some (.bool (decOkB l e), []) := by
  have h1 := fun d => sNatOk_v (l := l) d (by omega)
  unfold decOkB
  cases q : natOkB l with
  | false =>
    rw [q] at h1
    rw [vrun_v Try.func34 rfl rfl rfl]; simp only [Try.f34]
    simp (implicitDefEqProofs := false) (disch := omega) [go_sem, tab34, h1]
  | true =>
    rw [q] at h1
    by_cases e1 : -800 ≤ e
    · by_cases e2 : e ≤ 800
      · obtain ⟨x, rfl, hx⟩ := (natOkB_iff l).1 q
        have h3 := fun d => l2small_v (z := x) (m := 10) d (by omega) (by omega) (by omega)
        have e10 : ((10 : Nat) : Int) = 10 := rfl
        rw [e10] at h3
        rw [val_D, Int.toNat_natCast]
        generalize D (x / 10) = Q at *
        by_cases h0 : x = 0
        · subst h0
          rw [D_zero] at *
          by_cases e3 : e = 0
          · rw [vrun_v Try.func34 rfl rfl rfl]; simp only [Try.f34]
            simp (implicitDefEqProofs := false) (disch := omega) [go_sem, tab34, h1, e3]
          · rw [vrun_v Try.func34 rfl rfl rfl]; simp only [Try.f34]
            simp (implicitDefEqProofs := false) (disch := omega) [go_sem, tab34, h1, e1, e2, e3]
        · have hn : ¬ D x = [] := fun h => h0 (D_nil_iff.1 h)
          by_cases m0 : x % 10 = 0
          · rw [m0] at h3
            rw [vrun_v Try.func34 rfl rfl rfl]; simp only [Try.f34]
            simp (implicitDefEqProofs := false) (disch := omega) [go_sem, tab34, h1, h3, e1, e2, hn, m0]
          · have hm' : 0 < ((x % 10 : Nat) : Int) := by omega
            generalize ((x % 10 : Nat) : Int) = r at *
            rw [vrun_v Try.func34 rfl rfl rfl]; simp only [Try.f34]
            simp (implicitDefEqProofs := false) (disch := omega) [go_sem, tab34, h1, h3, e1, e2, hn, m0]
      · rw [vrun_v Try.func34 rfl rfl rfl]; simp only [Try.f34]
        simp (implicitDefEqProofs := false) (disch := omega) [go_sem, tab34, h1, e1, e2]
    · rw [vrun_v Try.func34 rfl rfl rfl]; simp only [Try.f34]
      simp (implicitDefEqProofs := false) (disch := omega) [go_sem, tab34, h1, e1]
end
end
/- Comparison of dyadics is comparison of numbers. Plain law. No conditions. -/
section
open Num
def sg (n : Bool) (a : Nat) : Int := if n then -(a : Int) else a
theorem cmpI_le (a b : Nat) : cmpI a b ≤ 0 ↔ a ≤ b := by
  unfold cmpI
  split
  · omega
  · split <;> omega
theorem cmpI_eq (a b : Nat) : cmpI a b = 0 ↔ a = b := by
  unfold cmpI
  split
  · omega
  · split <;> omega
theorem scmp_le {n m : Bool} {a b : Nat} (ha : a = 0 → n = false) (hb : b = 0 → m = false) : scmp n a m b ≤ 0 ↔ sg n a ≤ sg m b := by
  unfold scmp sg
  cases n <;> cases m <;> simp [cmpI_le] <;> simp at ha hb <;> omega
theorem scmp_eq {n m : Bool} {a b : Nat} (ha : a = 0 → n = false) (hb : b = 0 → m = false) : scmp n a m b = 0 ↔ sg n a = sg m b := by
  unfold scmp sg
  cases n <;> cases m <;> simp [cmpI_eq] <;> simp at ha hb <;> omega
theorem sg_mul (n : Bool) (a k : Nat) : sg n (a * k) = sg n a * k := by
  unfold sg; cases n <;> simp [Int.neg_mul]
/-- The number, scaled. -/
def DyT.sv (K : Int) (x : DyT) : Int := sg x.neg x.n * (2 ^ (x.e - K).toNat : Nat)
theorem al_sv {a : Nat} {ex ey K : Int} {b : Nat} (hx : K ≤ ex) (hy : K ≤ ey) : a * 2 ^ (ex - K).toNat = alA a ex b ey * 2 ^ (alE a ex b ey - K).toNat ∧ b * 2 ^ (ey - K).toNat = alB a ex b ey * 2 ^ (alE a ex b ey - K).toNat := by
  unfold alA alB alE
  by_cases hb : b = 0
  · subst hb
    simp
  · by_cases ha : a = 0
    · subst ha
      simp [hb]
    · rw [if_neg hb, if_neg ha]
      by_cases h : ey < ex
      · rw [if_pos h, Nat.mul_assoc, ← Nat.pow_add, Int.sub_self]
        refine ⟨by rw [show (ex - ey).toNat + (ey - K).toNat = (ex - K).toNat by omega], by simp⟩
      · rw [if_neg h, Nat.mul_assoc b, ← Nat.pow_add, Int.sub_self]
        refine ⟨by simp, by rw [show (ey - ex).toNat + (ex - K).toNat = (ey - K).toNat by omega]⟩
theorem al_zero {a : Nat} {ex ey : Int} {b : Nat} : (alA a ex b ey = 0 ↔ a = 0) ∧ (alB a ex b ey = 0 ↔ b = 0) := by
  unfold alA alB
  have h1 := Nat.two_pow_pos (ex - alE a ex b ey).toNat
  have h2 := Nat.two_pow_pos (ey - alE a ex b ey).toNat
  refine ⟨⟨fun h => ?_, fun h => by rw [h, Nat.zero_mul]⟩, ⟨fun h => ?_, fun h => by rw [h, Nat.zero_mul]⟩⟩
  · rcases Nat.mul_eq_zero.1 h with h | h <;> omega
  · rcases Nat.mul_eq_zero.1 h with h | h <;> omega
theorem dcmp_sv {x y : DyT} {K : Int} (hx : dyOkB x = true) (hy : dyOkB y = true) (h1 : K ≤ x.e) (h2 : K ≤ y.e) : (dcmp x y ≤ 0 ↔ x.sv K ≤ y.sv K) ∧ (dcmp x y = 0 ↔ x.sv K = y.sv K) := by
  obtain ⟨_, _, _, _, a4⟩ := ok_D hx
  obtain ⟨_, _, _, _, b4⟩ := ok_D hy
  unfold dcmp DyT.sv
  have z := al_zero (a := x.n) (ex := x.e) (ey := y.e) (b := y.n)
  have za : alA x.n x.e y.n y.e = 0 → x.neg = false := fun h => a4 (z.1.1 h)
  have zb : alB x.n x.e y.n y.e = 0 → y.neg = false := fun h => b4 (z.2.1 h)
  rw [scmp_le za zb, scmp_eq za zb, ← sg_mul, ← sg_mul, (al_sv h1 h2).1, (al_sv h1 h2).2, sg_mul, sg_mul]
  have hp : (0 : Int) < (2 ^ (alE x.n x.e y.n y.e - K).toNat : Nat) := by exact_mod_cast Nat.two_pow_pos _
  exact ⟨⟨fun h => Int.mul_le_mul_of_nonneg_right h (Int.le_of_lt hp), fun h => Int.le_of_mul_le_mul_right h hp⟩, ⟨fun h => by rw [h], fun h => Int.eq_of_mul_eq_mul_right (by omega) h⟩⟩
theorem dyOk_e {x : DyT} (hx : dyOkB x = true) : -3000 ≤ x.e := by
  obtain ⟨_, _, _, h, _⟩ := (dyOkB_iff x).1 hx
  exact h
theorem dcmp_le {x y : DyT} (hx : dyOkB x = true) (hy : dyOkB y = true) : dcmp x y ≤ 0 ↔ x.sv (-3000) ≤ y.sv (-3000) := (dcmp_sv hx hy (dyOk_e hx) (dyOk_e hy)).1
theorem dcmp_eq {x y : DyT} (hx : dyOkB x = true) (hy : dyOkB y = true) : dcmp x y = 0 ↔ x.sv (-3000) = y.sv (-3000) := (dcmp_sv hx hy (dyOk_e hx) (dyOk_e hy)).2
theorem dcmp_trans {x y z : DyT} (hx : dyOkB x = true) (hy : dyOkB y = true) (hz : dyOkB z = true) (h1 : dcmp x y ≤ 0) (h2 : dcmp y z ≤ 0) : dcmp x z ≤ 0 :=
  (dcmp_le hx hz).2 (Int.le_trans ((dcmp_le hx hy).1 h1) ((dcmp_le hy hz).1 h2))
end
/- DecCmp, program and reference. No conditions. -/
section
open Num
def cmpZ (p q : Int) : Int := if p < q then -1 else if p = q then 0 else 1
theorem scmp_Z {n m : Bool} {a b : Nat} (ha : a = 0 → n = false) (hb : b = 0 → m = false) : scmp n a m b = cmpZ (sg n a) (sg m b) := by
  unfold scmp sg cmpZ cmpI
  have ha' : n = true → a ≠ 0 := fun h h0 => by rw [ha h0] at h; cases h
  have hb' : m = true → b ≠ 0 := fun h h0 => by rw [hb h0] at h; cases h
  clear ha hb
  cases n <;> cases m <;> simp only [Bool.not_true, Bool.not_false, Bool.and_true, Bool.and_false, Bool.false_eq_true, if_false, if_true, ne_eq, forall_const, false_implies] at ha' hb' ⊢ <;> (repeat' split) <;> omega
theorem cmpZ_scale {p q k : Int} (hk : 0 < k) : cmpZ (p * k) (q * k) = cmpZ p q := by
  unfold cmpZ
  by_cases h : p < q
  · rw [if_pos h, if_pos (Int.mul_lt_mul_of_pos_right h hk)]
  · by_cases h2 : p = q
    · subst h2; simp
    · have h3 : q * k < p * k := Int.mul_lt_mul_of_pos_right (by omega) hk
      rw [if_neg h, if_neg h2, if_neg (by omega), if_neg (by omega)]
theorem al_Z {n m : Bool} {a b : Nat} {ex ey K : Int} (ha : a = 0 → n = false) (hb : b = 0 → m = false) (hx : K ≤ ex) (hy : K ≤ ey) : scmp n (alA a ex b ey) m (alB a ex b ey) = cmpZ (sg n a * (2 ^ (ex - K).toNat : Nat)) (sg m b * (2 ^ (ey - K).toNat : Nat)) := by
  have z := al_zero (a := a) (ex := ex) (ey := ey) (b := b)
  rw [scmp_Z (fun h => ha (z.1.1 h)) (fun h => hb (z.2.1 h)), ← sg_mul, ← sg_mul, (al_sv hx hy).1, (al_sv hx hy).2, sg_mul, sg_mul]
  exact (cmpZ_scale (by exact_mod_cast Nat.two_pow_pos _)).symm
theorem mkD_l (n : Bool) (a : Nat) (e : Int) : (mkD n a e).l = D (mkD n a e).n ∧ ((mkD n a e).n = 0 → (mkD n a e).neg = false) := by
  unfold mkD
  by_cases h0 : a = 0
  · rw [if_pos h0]; unfold DyT.n; simp [val, D_zero]
  · rw [if_neg h0]
    have hb := tz_bit h0
    unfold DyT.n
    simp only [val_D, Int.toNat_natCast, true_and]
    intro h; rw [h] at hb; simp at hb
theorem mkD_sv {n : Bool} {a : Nat} {e K : Int} (h1 : K ≤ e) (h2 : K ≤ 0) : (mkD n a e).sv K = sg n a * (2 ^ (e - K).toNat : Nat) ∧ K ≤ (mkD n a e).e := by
  unfold mkD
  by_cases h0 : a = 0
  · rw [if_pos h0, h0]
    unfold DyT.sv DyT.n
    cases n <;> simp [sg, val, h2]
  · rw [if_neg h0]
    obtain ⟨o, ho⟩ := tz_spec h0
    have e1 : a / 2 ^ tz a = 2 * o + 1 := by
      conv => lhs; lhs; rw [ho]
      exact Nat.mul_div_cancel_left _ (Nat.two_pow_pos _)
    have e2 : a = 2 ^ tz a * (a / 2 ^ tz a) := by rw [e1]; exact ho
    unfold DyT.sv DyT.n
    simp only [val_D, Int.toNat_natCast]
    refine ⟨?_, by omega⟩
    rw [← sg_mul, ← sg_mul]
    congr 1
    conv => rhs; rw [e2]
    rw [show (e + (tz a : Int) - K).toNat = tz a + (e - K).toNat by omega, Nat.pow_add]
    rw [Nat.mul_comm (2 ^ tz a) (a / 2 ^ tz a), Nat.mul_assoc]
section
variable {n : Bool} {a : Nat} {e : Int} {l : List Int}
set_option maxHeartbeats 4000000 in
theorem fraction_v (d : Nat) (ha : (D a).length ≤ 100) (he : -800 ≤ e) (he' : e ≤ 800) : vrun Try.prog kn (d + 5) 40 [.agg [.bool n, .ints .i64 (D a), .int .i64 e]] [] = some (.tup [.agg [.bool (n && decide (a ≠ 0)), .sl 0 0 (D (a * 10 ^ e.toNat)).length 1, .int .i64 0], .agg [.bool false, .sl 1 0 (D (10 ^ (-e).toNat)).length 1, .int .i64 0]], [.ints true .i64 (D (a * 10 ^ e.toNat)), .ints true .i64 (D (10 ^ (-e).toNat))]) := by
  have h1 := fun d => ten_v (k := e.toNat) d (by omega)
  have h2 := fun d => ten_v (k := (-e).toNat) d (by omega)
  have hp1 := pow_len (a := 10) (w := 4) (by omega) e.toNat
  have hp2 := pow_len (a := 10) (w := 4) (by omega) (-e).toNat
  have h3 := fun d => times_v (x := a) (y := 10 ^ e.toNat) d (by omega) (by omega)
  have hl := len_mul a (10 ^ e.toNat)
  generalize hT : 10 ^ e.toNat = T at *
  generalize hU : 10 ^ (-e).toNat = U at *
  generalize a * T = P at *
  by_cases hs : 0 ≤ e
  · have e1 : ((e.toNat : Nat) : Int) = e := by omega
    have e2 : (((-e).toNat : Nat) : Int) = 0 := by omega
    rw [e1] at h1
    rw [e2] at h2
    by_cases h0 : a = 0
    · subst h0
      rw [D_zero] at h3 ⊢
      by_cases hz : e = 0
      · subst hz
        have : D T = D U := by rw [← hT, ← hU]; rfl
        rw [← this] at h2 ⊢
        rw [vrun_v Try.func40 rfl rfl rfl]; simp only [Try.f40]
        cases n <;> simp (implicitDefEqProofs := false) (disch := omega) [go_sem, tab40, h1, h3]
      · rw [vrun_v Try.func40 rfl rfl rfl]; simp only [Try.f40]
        cases n <;> simp (implicitDefEqProofs := false) (disch := omega) [go_sem, tab40, h1, h2, h3]
    · have hn : ¬ D a = [] := fun h => h0 (D_nil_iff.1 h)
      have hp : 0 < (D a).length := List.length_pos_iff.2 hn
      by_cases hz : e = 0
      · subst hz
        have : D T = D U := by rw [← hT, ← hU]; rfl
        rw [← this] at h2 ⊢
        rw [vrun_v Try.func40 rfl rfl rfl]; simp only [Try.f40]
        cases n <;> simp (implicitDefEqProofs := false) (disch := omega) [go_sem, tab40, h1, h3, hn, h0]
      · rw [vrun_v Try.func40 rfl rfl rfl]; simp only [Try.f40]
        cases n <;> simp (implicitDefEqProofs := false) (disch := omega) [go_sem, tab40, h1, h2, h3, hn, h0]
  · have e1 : ((e.toNat : Nat) : Int) = 0 := by omega
    have e2 : (((-e).toNat : Nat) : Int) = -e := by omega
    rw [e1] at h1
    rw [e2] at h2
    by_cases h0 : a = 0
    · subst h0
      rw [D_zero] at h3 ⊢
      rw [vrun_v Try.func40 rfl rfl rfl]; simp only [Try.f40]
      cases n <;> simp (implicitDefEqProofs := false) (disch := omega) [go_sem, tab40, h1, h2, h3]
    · have hn : ¬ D a = [] := fun h => h0 (D_nil_iff.1 h)
      have hp : 0 < (D a).length := List.length_pos_iff.2 hn
      rw [vrun_v Try.func40 rfl rfl rfl]; simp only [Try.f40]
      cases n <;> simp (implicitDefEqProofs := false) (disch := omega) [go_sem, tab40, h1, h2, h3, hn, h0]
set_option maxHeartbeats 4000000 in
theorem l6parts_v (d : Nat) (ha : (D a).length ≤ 100) (he : -800 ≤ e) (he' : e ≤ 800) : vrun Try.prog kn (d + 5) 35 [.agg [.bool n, .ints .i64 (D a), .int .i64 e]] [] = some (.tup [.agg (mkD n (a * 10 ^ e.toNat) 0).v, .agg (mkD false (10 ^ (-e).toNat) 0).v], []) := by
  have hp1 := pow_len (a := 10) (w := 4) (by omega) e.toNat
  have hp2 := pow_len (a := 10) (w := 4) (by omega) (-e).toNat
  have hl := len_mul a (10 ^ e.toNat)
  by_cases hs : 0 ≤ e
  · have e1 : ((e.toNat : Nat) : Int) = e := by omega
    have h1 := fun d => l6ten_v (k := e.toNat) d (by omega)
    rw [e1] at h1
    have h2 := fun d => l2mul_v (x := a) (y := 10 ^ e.toNat) d (by omega) (by omega)
    have h3 := fun d => l3make_v (n := n) (a := a * 10 ^ e.toNat) d (by omega)
    have h4 := fun d => l4make_v (n := n && decide (a * 10 ^ e.toNat ≠ 0)) (a := a * 10 ^ e.toNat) (e := 0) d (by omega) (by omega) (by omega)
    rw [mkD_and] at h4
    have h5 := fun d => l3of_v (n := 1) d (by omega) (by omega)
    have e3 : decide ((1 : Int) < 0) = false := rfl
    have e4 : Int.natAbs 1 = 1 := rfl
    rw [e3, e4] at h5
    have hl1 : (D 1).length ≤ 1 := len_small (by omega)
    have h6 := fun d => l4make_v (n := false) (a := 1) (e := 0) d (by omega) (by omega) (by omega)
    have e5 : 10 ^ (-e).toNat = 1 := by rw [show (-e).toNat = 0 by omega, Nat.pow_zero]
    rw [e5]
    generalize mkD n (a * 10 ^ e.toNat) 0 = r at *
    generalize mkD false 1 0 = s at *
    generalize (n && decide (a * 10 ^ e.toNat ≠ 0)) = z at *
    generalize a * 10 ^ e.toNat = P at *
    generalize 10 ^ e.toNat = T at *
    generalize D 1 = o at *
    unfold DyT.v at *
    rw [vrun_v Try.func35 rfl rfl rfl]; simp only [Try.f35]
    simp (implicitDefEqProofs := false) (disch := omega) [go_sem, tab35, h1, h2, h3, h4, h5, h6]
  · have e1 : (((-e).toNat : Nat) : Int) = -e := by omega
    have h1 := fun d => l6ten_v (k := (-e).toNat) d (by omega)
    rw [e1] at h1
    have h3 := fun d => l3make_v (n := n) (a := a) d (by omega)
    have h4 := fun d => l4make_v (n := n && decide (a ≠ 0)) (a := a) (e := 0) d (by omega) (by omega) (by omega)
    rw [mkD_and] at h4
    have h5 := fun d => l3make_v (n := false) (a := 10 ^ (-e).toNat) d (by omega)
    simp only [Bool.false_and] at h5
    have h6 := fun d => l4make_v (n := false) (a := 10 ^ (-e).toNat) (e := 0) d (by omega) (by omega) (by omega)
    have e5 : a * 10 ^ e.toNat = a := by rw [show e.toNat = 0 by omega, Nat.pow_zero, Nat.mul_one]
    rw [e5]
    generalize mkD n a 0 = r at *
    generalize mkD false (10 ^ (-e).toNat) 0 = s at *
    generalize (n && decide (a ≠ 0)) = z at *
    generalize 10 ^ (-e).toNat = T at *
    unfold DyT.v at *
    rw [vrun_v Try.func35 rfl rfl rfl]; simp only [Try.f35]
    simp (implicitDefEqProofs := false) (disch := omega) [go_sem, tab35, h1, h3, h4, h5, h6]
end
theorem okD' {x : DyT} (hx : dyOkB x = true) : x.l = D x.n ∧ (D x.n).length ≤ 100 ∧ -3000 ≤ x.e ∧ x.e ≤ 3000 ∧ (x.n = 0 → x.neg = false) := by
  obtain ⟨n, h1, h2, h3, h4, h5⟩ := (dyOkB_iff x).1 hx
  have : x.n = n := by unfold DyT.n; rw [h1, val_D]; rfl
  rw [this]
  refine ⟨h1, by omega, by omega, by omega, fun h => ?_⟩
  rcases h5 with ⟨_, h, _⟩ | h5
  · exact h
  · omega
theorem mkD_e2 {n : Bool} {a : Nat} {e : Int} : (mkD n a e).e ≤ e + 16 * (D a).length ∨ (mkD n a e).e = 0 := by
  unfold mkD
  by_cases h0 : a = 0
  · rw [if_pos h0]; exact .inr rfl
  · rw [if_neg h0]; have := tz_lt h0; left; simp only; omega
section
variable {n : Bool} {l : List Int} {e : Int} {x : DyT}
theorem decOk_D (h : decOkB l e = true) : l = D (val l).toNat ∧ (D (val l).toNat).length ≤ 100 ∧ -800 ≤ e ∧ e ≤ 800 := by
  unfold decOkB at h
  rw [Bool.and_eq_true, Bool.and_eq_true] at h
  obtain ⟨⟨h1, h2⟩, _⟩ := h
  obtain ⟨y, rfl, hy⟩ := (natOkB_iff l).1 h1
  simp at h2
  rw [val_D, Int.toNat_natCast]
  exact ⟨rfl, hy, h2.1, h2.2⟩
/-- What the comparison answers. -/
def decC (n : Bool) (l : List Int) (e : Int) (x : DyT) : Int := if decOkB l e && dyOkB x then cmpZ (sg n ((val l).toNat * 10 ^ e.toNat) * (2 ^ (0 + 10000 : Int).toNat : Nat)) (sg x.neg (x.n * 10 ^ (-e).toNat) * (2 ^ (x.e + 10000).toNat : Nat)) else 0
theorem sg_ne {a : Nat} {n : Bool} : sg (n && decide (a ≠ 0)) a = sg n a := by unfold sg; by_cases h : a = 0 <;> cases n <;> simp [h]
set_option maxHeartbeats 4000000 in
theorem DecCmp_v (d : Nat) (hl : l.length < 100000000) (hx : x.sz) : vrun Try.prog kn (d + 10) 18 [.agg [.bool n, .ints .i64 l, .int .i64 e], .agg [.bool x.neg, .ints .i64 x.l, .int .i64 x.e]] [] = some (.int .i64 (decC n l e x), []) := by
  unfold DyT.sz at hx
  have a1 := fun d => DecOk_v (n := n) (e := e) d hl
  have a2 := fun d => DyOk_v d x.neg (l := x.l) x.e (by omega)
  change ∀ d, _ = some (V.bool (dyOkB x), []) at a2
  unfold decC
  cases hq : decOkB l e with
  | false =>
    rw [hq] at a1
    rw [vrun_v Try.func18 rfl rfl rfl]; simp only [Try.f18]
    simp (implicitDefEqProofs := false) (disch := omega) [go_sem, tab18, a1]
  | true =>
  cases hr : dyOkB x with
  | false =>
    rw [hq] at a1
    rw [hr] at a2
    rw [vrun_v Try.func18 rfl rfl rfl]; simp only [Try.f18]
    simp (implicitDefEqProofs := false) (disch := omega) [go_sem, tab18, a1, a2]
  | true =>
  rw [hq] at a1
  rw [hr] at a2
  obtain ⟨e1, hl1, g1, g2⟩ := decOk_D hq
  obtain ⟨e2, x1, x2, x3, x4⟩ := okD' hr
  generalize (val l).toNat = a at *
  have b1 := fun d => fraction_v (n := n) (a := a) (e := e) d hl1 g1 g2
  rw [← e1] at b1
  have hp1 := pow_len (a := 10) (w := 4) (by omega) e.toNat
  have hp2 := pow_len (a := 10) (w := 4) (by omega) (-e).toNat
  have hm1 := len_mul a (10 ^ e.toNat)
  have hm2 := len_mul x.n (10 ^ (-e).toNat)
  have c1 := fun l n e d => exactOf_v (n := n) (ex := e) d l
  have b2 := fun d => times_e (n := x.neg) (m := false) (a := x.n) (b := 10 ^ (-e).toNat) (ex := x.e) (ey := 0) d (by omega) (by omega) (by omega) (by omega) (by omega) (by omega)
  rw [← e2] at b2
  have b3 := fun d => cmp_v (n := n && decide (a ≠ 0)) (m := (x.neg != false) && decide (x.n * 10 ^ (-e).toNat ≠ 0)) (a := a * 10 ^ e.toNat) (b := x.n * 10 ^ (-e).toNat) (ex := 0) (ey := x.e + 0) d (by omega) (by omega) (by omega) (by omega) (by omega) (by omega)
  have hz : ∀ k, 10 ^ k ≠ 0 := fun k => Nat.pos_iff_ne_zero.1 (Nat.pow_pos (by omega))
  rw [al_Z (K := -10000) (fun h => by
      rcases Nat.mul_eq_zero.1 h with h | h
      · simp [h]
      · exact absurd h (hz _)) (fun h => by simp [h]) (by omega) (by omega)] at b3
  have hsa : sg (n && decide (a ≠ 0)) (a * 10 ^ e.toNat) = sg n (a * 10 ^ e.toNat) := by
    unfold sg; by_cases h : a = 0 <;> cases n <;> simp [h]
  have hsb : sg ((x.neg != false) && decide (x.n * 10 ^ (-e).toNat ≠ 0)) (x.n * 10 ^ (-e).toNat) = sg x.neg (x.n * 10 ^ (-e).toNat) := by
    rw [sg_ne]; congr 1; cases x.neg <;> rfl
  rw [hsa, hsb, Int.add_zero, show (0 : Int) - -10000 = 0 + 10000 by omega, show x.e - -10000 = x.e + 10000 by omega] at b3
  rw [Int.add_zero] at b2
  simp only [Bool.and_self, if_true]
  generalize cmpZ (sg n (a * 10 ^ e.toNat) * (2 ^ (0 + 10000 : Int).toNat : Nat)) (sg x.neg (x.n * 10 ^ (-e).toNat) * (2 ^ (x.e + 10000).toNat : Nat)) = c at *
  generalize (n && decide (a ≠ 0)) = z at *
  generalize ((x.neg != false) && decide (x.n * 10 ^ (-e).toNat ≠ 0)) = w at *
  generalize D (a * 10 ^ e.toNat) = P at *
  generalize D (x.n * 10 ^ (-e).toNat) = Q at *
  generalize D (10 ^ (-e).toNat) = U at *
  clear hsa hsb hz
  rw [vrun_v Try.func18 rfl rfl rfl]; simp only [Try.f18]
  simp (implicitDefEqProofs := false) (disch := omega) [go_sem, tab18, a1, a2, b1, b2, b3, c1]
set_option maxHeartbeats 4000000 in
theorem sDecCmp_v (d : Nat) (hl : l.length < 100000000) (hx : x.sz) : vrun Try.prog kn (d + 6) 16 [.agg [.bool n, .ints .i64 l, .int .i64 e], .agg [.bool x.neg, .ints .i64 x.l, .int .i64 x.e]] [] = some (.int .i64 (decC n l e x), []) := by
  unfold DyT.sz at hx
  have a1 := fun d => sDecOk_v (n := n) (e := e) d hl
  have a2 := fun d => sDyOk_v d x.neg (l := x.l) x.e (by omega)
  change ∀ d, _ = some (V.bool (dyOkB x), []) at a2
  unfold decC
  cases hq : decOkB l e with
  | false =>
    rw [hq] at a1
    rw [vrun_v Try.func16 rfl rfl rfl]; simp only [Try.f16]
    simp (implicitDefEqProofs := false) (disch := omega) [go_sem, tab16, a1]
  | true =>
  cases hr : dyOkB x with
  | false =>
    rw [hq] at a1
    rw [hr] at a2
    rw [vrun_v Try.func16 rfl rfl rfl]; simp only [Try.f16]
    simp (implicitDefEqProofs := false) (disch := omega) [go_sem, tab16, a1, a2]
  | true =>
  rw [hq] at a1
  rw [hr] at a2
  obtain ⟨e1, hl1, g1, g2⟩ := decOk_D hq
  obtain ⟨e2, x1, x2, x3, x4⟩ := okD' hr
  generalize (val l).toNat = a at *
  have b1 := fun d => l6parts_v (n := n) (a := a) (e := e) d hl1 g1 g2
  rw [← e1] at b1
  have hp1 := pow_len (a := 10) (w := 4) (by omega) e.toNat
  have hp2 := pow_len (a := 10) (w := 4) (by omega) (-e).toNat
  have hm1 := len_mul a (10 ^ e.toNat)
  obtain ⟨p1, p2⟩ := mkD_l n (a * 10 ^ e.toNat) 0
  obtain ⟨p3, p4⟩ := mkD_sv (n := n) (a := a * 10 ^ e.toNat) (e := 0) (K := -10000) (by omega) (by omega)
  obtain ⟨q1, q2⟩ := mkD_l false (10 ^ (-e).toNat) 0
  obtain ⟨q3, q4⟩ := mkD_sv (n := false) (a := 10 ^ (-e).toNat) (e := 0) (K := 0) (by omega) (by omega)
  have pl := mkD_len (n := n) (a := a * 10 ^ e.toNat) (e := 0)
  have ql := mkD_len (n := false) (a := 10 ^ (-e).toNat) (e := 0)
  have pe := mkD_e2 (n := n) (a := a * 10 ^ e.toNat) (e := 0)
  have qe := mkD_e2 (n := false) (a := 10 ^ (-e).toNat) (e := 0)
  generalize mkD n (a * 10 ^ e.toNat) 0 = r at *
  generalize mkD false (10 ^ (-e).toNat) 0 = s at *
  rw [p1] at pl
  rw [q1] at ql
  have b2 := fun d => l4mul_v (n := x.neg) (m := s.neg) (a := x.n) (b := s.n) (ex := x.e) (ey := s.e) d (by omega) (by omega) (by omega) (by omega) (by omega) (by omega)
  rw [← e2, ← q1] at b2
  have hm3 := len_mul x.n s.n
  obtain ⟨t1, t2⟩ := mkD_l (x.neg != s.neg) (x.n * s.n) (x.e + s.e)
  obtain ⟨t3, t4⟩ := mkD_sv (n := x.neg != s.neg) (a := x.n * s.n) (e := x.e + s.e) (K := -10000) (by omega) (by omega)
  have tl := mkD_len (n := x.neg != s.neg) (a := x.n * s.n) (e := x.e + s.e)
  have te := mkD_e2 (n := x.neg != s.neg) (a := x.n * s.n) (e := x.e + s.e)
  generalize mkD (x.neg != s.neg) (x.n * s.n) (x.e + s.e) = t at *
  rw [t1] at tl
  have b3 := fun d => l4cmp_v (n := r.neg) (m := t.neg) (a := r.n) (b := t.n) (ex := r.e) (ey := t.e) d (by omega) (by omega) (by omega) (by omega) (by omega) (by omega) p2 t2
  rw [← p1, ← t1, al_Z (K := -10000) p2 t2 p4 t4] at b3
  change ∀ d, _ = some (V.int .i64 (cmpZ (r.sv (-10000)) (t.sv (-10000))), []) at b3
  have hT : t.sv (-10000) = sg x.neg (x.n * 10 ^ (-e).toNat) * (2 ^ (x.e + 10000).toNat : Nat) := by
    have hs0 : sg s.neg s.n * (2 ^ (s.e).toNat : Nat) = ((10 ^ (-e).toNat : Nat) : Int) := by
      have := q3
      unfold DyT.sv at this
      rw [Int.sub_zero, show ((0 : Int) - 0).toNat = 0 from rfl, Nat.pow_zero] at this
      rw [this]; simp [sg]
    rw [t3, show (x.e + s.e - -10000).toNat = (s.e).toNat + (x.e + 10000).toNat by omega, Nat.pow_add, Int.natCast_mul, ← Int.mul_assoc]
    congr 1
    have hsg : sg (x.neg != s.neg) (x.n * s.n) = sg x.neg x.n * sg s.neg s.n := by
      unfold sg; cases x.neg <;> cases s.neg <;> simp [Int.neg_mul, Int.mul_neg]
    rw [hsg, Int.mul_assoc, hs0, ← sg_mul]
  rw [p3, hT] at b3
  simp only [Bool.and_self, if_true]
  rw [show (0 : Int) - -10000 = 0 + 10000 by omega] at b3
  generalize cmpZ (sg n (a * 10 ^ e.toNat) * (2 ^ (0 + 10000 : Int).toNat : Nat)) (sg x.neg (x.n * 10 ^ (-e).toNat) * (2 ^ (x.e + 10000).toNat : Nat)) = c at *
  clear hT p3 q3 t3
  unfold DyT.v at *
  rw [vrun_v Try.func16 rfl rfl rfl]; simp only [Try.f16]
  simp (implicitDefEqProofs := false) (disch := omega) [go_sem, tab16, a1, a2, b1, b2, b3]
end
end
end Go.Eng
