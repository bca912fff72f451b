/- What the functions of this seat do, one after another, told by plain values. No conditions. -/
import Derived.Test.YtnkhamahhgfbhaaSeat
import Derived.Test.YtnkhamahhgfbhaaVb
import Derived.Test.YtnkhamahhgfbhaaT2
set_option linter.unusedVariables false
set_option linter.unusedSimpArgs false
namespace Go.Eng
open Go.Proofs
set_option maxRecDepth 100000
set_option linter.unusedSimpArgs false
attribute [local go_sem] r_seq r_skip r_retC r_exitC r_label r_block r_region r_regionW r_xWt r_xW r_cond r_Bt r_Bf r_Ncode r_Nret r_Nexit r_Nblk r_Nblkr r_Nblke r_Nnil r_Es r_Onil r_Oop r_Oif r_Xs r_Gt r_Gf r_wtt r_wtf r_wft r_wff r_wu r_gO r_putS r_putN r_get r_keepN r_keepC r_fr r_fn r_fi r_ff r_fo r_l1 r_l2t r_cun r_cul r_cub r_cui r_cus r_cuis r_cuc r_cusl r_cuti r_cutv r_ven r_vec r_l2f r_l3 r_t1 r_t2 r_t0 r_rt r_rc r_en r_ec r_cM r_oN r_oC r_end r_endt r_endf r_nob0 r_nobN r_nobC r_nobE r_nb0 r_nbi r_nbs r_nbsl r_nbin r_nbce r_nLn r_nLv r_nLc r_nAa r_nAn r_nAk_b r_nAk_i r_nAk_s r_nAk_n r_nAk_is r_nAk_ce r_nAk_fp r_nAk_sl r_nAk_pt r_nAk_fn r_nsn r_nsv r_nsc r_m0 r_mi r_ms r_msl r_min r_mce r_mLn r_mLv r_mLc r_mAa r_mAn r_mAk_b r_mAk_i r_mAk_s r_mAk_n r_mAk_is r_mAk_ce r_mAk_fp r_mAk_sl r_mAk_pt r_mAk_fn r_msn r_msv r_msc r_atb r_ati r_ats r_atn r_atis r_atc r_atf r_atl r_atp r_atfn r_gcn r_gcc r_gLn r_gLc r_gIt r_ndn r_ndc r_gcB r_gLB r_two r_rea r_rea0 r_re1n r_re1c r_ori r_orv r_ord r_orn r_adn r_adc r_ad1 r_ern r_ers r_er0 r_rsl r_rptr r_rb r_ri r_rs r_rn r_ris r_rce r_rfp r_ra4 r_ra3 r_rt4 r_rf4 r_rf3 r_idS r_idc r_nS r_nP r_nF r_nT r_vsl r_vptr r_vb r_vi r_vs r_vn r_vis r_vce r_vfp r_va4 r_va3 r_vt4 r_vf4 r_vf3 r_rV r_Oi r_Ov r_Od r_rE r_rE0 r_En r_Ec r_E0 r_pO r_pk r_agL r_cO r_fO r_fSi r_fSv r_fPv r_fsl r_fptr r_ffn r_fag r_fb r_fint r_fstr r_fnil r_fis r_fce r_ffp r_res r_move r_assign r_pick r_pickt r_pickf r_alloc r_box r_al r_build r_bslice r_load r_store r_nlc r_nl1 r_nl2 r_bin r_un r_conv r_mkf r_mks r_slc r_fad r_fld r_iad r_idx r_ext r_ex1 r_callf r_callt r_callen r_calapp r_calmax r_calmin r_vt r_vcb r_vci r_vcs r_vcn r_vca r_vcf r_vcg r_ofb r_ofi r_ofs r_ofn r_evs r_pn r_prt r_pc r_one_a r_one_b r_one_i r_one_s r_one_n r_one_is r_one_ce r_one_fp r_one_sl r_one_pt r_one_fn r_cs_a r_cs_b r_cs_i r_cs_s r_cs_n r_cs_is r_cs_ce r_cs_fp r_cs_sl r_cs_pt r_cs_fn r_tov r_tovA r_toc r_toa r_tb r_ti r_ts r_tn r_bd r_bd2 r_filn r_fp1 r_filc r_fsn r_fsc r_san r_sac r_bs2 r_bs1 r_newO r_mkq r_mkI r_mkOi r_mkOv r_tIn r_tIc r_repz r_repn r_ldp r_ldf r_l1t r_l1f r_lFt r_lFf r_aggO r_obj r_at r_ati' r_atv r_celli r_cellv r_subi r_subv r_sto r_sto1 r_sto2 r_sets r_setR r_setn r_setc r_s1i r_s1v r_bin1 r_bin2 r_tv1 r_cb r_ci r_cst r_cn r_csl r_cis r_cce r_uni r_unb r_cv r_cvi r_cvs r_cvb r_cvl r_sO r_rdn r_rdi r_rdl r_rdO r_vsub r_vfn r_mk r_mk1 r_mk2 r_zoi r_zov r_leni r_lenv r_bn r_bndV r_bo r_sl0 r_sl1 r_vsz r_ct1 r_cts r_cti r_ctc r_ctn r_lnl r_lni r_lnc r_lnn r_fa r_fap r_faf r_fi1 r_fit r_fif r_ixi r_ixs r_ixc r_ixf r_ixF r_ixF2 r_ix1 r_ixsl r_ixin r_ixce r_len1 r_lenA r_lTs r_lTn r_lTl r_lTi r_lTc r_app0 r_app r_app1 r_app2 r_app3 r_catO r_cati r_catv r_newt r_newf r_pair r_pairK r_trip r_kis r_kiv r_srn r_srl r_sri r_src r_srs r_oln r_oll r_vw r_wi r_wv r_mm r_max r_min' r_str r_cF r_c2t r_c3f r_c3t r_ab r_c2f r_cV r_p1 r_la r_la2t r_la2f r_la3 r_sh r_z_is r_z_ce r_z_fp r_z_b r_z_i r_z_s r_z_n r_z_l r_z_p r_z_a4 r_z_a3 r_z_t4 r_zoI r_zoV r_roN r_roC r_roi r_rod r_zod r_rov r_aR r_trOi r_trOv r_trPv r_trl r_trp r_trf r_tra r_trb r_tri r_trs r_trn r_tris r_trce r_trfp
attribute [local go_sem] b_add b_sub b_mul b_quo b_rem b_shl b_shr b_eql b_neq b_lss b_leq b_gtr b_geq eqB_s b_eqB b_neB u_neg u_not b_nn b_nn' eqS_s zerosT_s zerosT_n zt_i zt_sl zt_st dstOf_z dstOf_n iltT iltF ileT ileF ieqT ieqF nltT nltF nleT nleF neqT neqF tdiv_pos tmod_pos w64 idx0 List.take_of_length_le
/- Trailing noughts of a limb, as the library counts them. No conditions. -/
section
open Num
theorem wu64' {x : Int} (h1 : 0 ≤ x) (h2 : x ≤ 18446744073709551615) : IntKind.wrap .u64 x = x := by
  simp [IntKind.wrap, IntKind.bits, IntKind.signed]; omega
theorem negu {x : Nat} (h0 : x ≠ 0) (hx : x < 65536) : IntKind.wrap .u64 (-(x : Int)) = ((2 ^ 64 - x : Nat) : Int) := by
  simp [IntKind.wrap, IntKind.bits, IntKind.signed]; omega
theorem andneg (P : Program) (ty : TypeId) {x t o : Nat} (h0 : x ≠ 0) (hx : x < 65536) (h : x = 2 ^ t * (2 * o + 1)) : binE P .and ty (.int .u64 (x : Int)) (.int .u64 ((2 ^ 64 - x : Nat) : Int)) = some (.int .u64 ((2 ^ t : Nat) : Int)) := by
  rw [b_and]
  have e : (BitVec.ofInt (IntKind.bits .u64) (x : Int) &&& BitVec.ofInt (IntKind.bits .u64) ((2 ^ 64 - x : Nat) : Int)).toNat = 2 ^ t := by
    show (BitVec.ofInt 64 (x : Int) &&& BitVec.ofInt 64 ((2 ^ 64 - x : Nat) : Int)).toNat = 2 ^ t
    rw [BitVec.toNat_and, BitVec.ofInt_natCast, BitVec.ofInt_natCast, BitVec.toNat_ofNat, BitVec.toNat_ofNat, Nat.mod_eq_of_lt (by omega), Nat.mod_eq_of_lt (by omega)]
    exact land_neg h (by omega)
  rw [e]
  have hle : 2 ^ t ≤ x := by rw [h]; exact Nat.le_mul_of_pos_right _ (by omega)
  rw [wu64' (by omega) (by omega)]
theorem tz16 {x t o : Nat} (hx : x < 65536) (h : x = 2 ^ t * (2 * o + 1)) : t < 16 := by
  have hle : 2 ^ t ≤ x := by rw [h]; exact Nat.le_mul_of_pos_right _ (by omega)
  exact (Nat.pow_lt_pow_iff_right (a := 2) (by omega)).1 (by omega : 2 ^ t < 2 ^ 16)
end
/- Numbers of any size: their one form, products; trailing noughts. No conditions. -/
section
open Num
theorem low_zero {x j : Nat} (h : 16 * j ≤ tz x) : x % 65536 ^ j = 0 := by
  by_cases h0 : x = 0
  · subst h0; simp
  obtain ⟨o, ho⟩ := tz_spec h0
  have e : (65536 : Nat) ^ j = 2 ^ (16 * j) := by rw [show (65536 : Nat) = 2 ^ 16 from rfl, ← Nat.pow_mul]
  have e2 : 2 ^ tz x = 2 ^ (16 * j) * 2 ^ (tz x - 16 * j) := by rw [← Nat.pow_add]; congr 1; omega
  rw [e]
  conv => lhs; lhs; rw [ho, e2, Nat.mul_assoc]
  exact Nat.mul_mod_right _ _
theorem dig_zero {x j : Nat} (h : 16 * (j + 1) ≤ tz x) : x / 65536 ^ j % 65536 = 0 := by
  have h1 := low_zero h
  rw [mod_pow_succ] at h1
  have hp := powN_pos j
  rcases Nat.eq_zero_or_pos (x / 65536 ^ j % 65536) with h2 | h2
  · exact h2
  · have := Nat.mul_pos hp h2; omega
theorem dig_nz {x : Nat} (h0 : x ≠ 0) : x / 65536 ^ (tz x / 16) % 65536 ≠ 0 := by
  intro h
  have hb := tz_bit h0
  have e : 2 ^ tz x = 65536 ^ (tz x / 16) * 2 ^ (tz x % 16) := pow_split _
  rw [e, ← Nat.div_div_eq_div_mul] at hb
  generalize x / 65536 ^ (tz x / 16) = a at *
  have e2 : (65536 : Nat) = 2 ^ (tz x % 16) * (2 * 2 ^ (15 - tz x % 16)) := by
    rw [← Nat.mul_assoc, Nat.mul_right_comm, ← Nat.pow_add, show tz x % 16 + (15 - tz x % 16) = 15 by omega]
  have h2 : a = 65536 * (a / 65536) := by omega
  rw [h2, e2, Nat.mul_assoc, Nat.mul_div_cancel_left _ (Nat.two_pow_pos _), Nat.mul_assoc] at hb
  omega
section
variable {x : Nat}
def toS (x j : Nat) : VE × VH := ([(5, some (.ints .i64 (D x))), (6, some (.int .i64 (D x).length)), (7, some (.int .i64 j))], [])
end
section
variable {a b : Nat} {n m : Bool} {e ex ey : Int}
/-- May it be told? -/
def dyFit (r : DyT) : Bool := decide (r.l.length ≤ 100) && decide (-3000 ≤ r.e) && decide (r.e ≤ 3000)
def zT : DyT := ⟨false, [], 0⟩
def fitT (r : DyT) : DyT := if dyFit r then r else zT
theorem mkD_neg : (mkD n a e).neg = ((mkD n a e).neg && !decide ((mkD n a e).l.length = 0)) := by
  unfold mkD
  by_cases h0 : a = 0
  · rw [if_pos h0]; rfl
  · rw [if_neg h0]
    have hb := tz_bit h0
    have hX : a / 2 ^ tz a ≠ 0 := fun h => by rw [h] at hb; simp at hb
    have : ¬ (D (a / 2 ^ tz a)).length = 0 := fun h => hX (D_nil_iff.1 (List.eq_nil_of_length_eq_zero h))
    simp [this]
theorem mkD_len : (mkD n a e).l.length ≤ (D a).length := by
  unfold mkD
  split
  · simp
  · exact len_D_mono (Nat.div_le_self _ _)
theorem mkD_e (he : -1000000000 ≤ e) (he' : e ≤ 1000000000) (ha : (D a).length < 60000) : -1000000000 ≤ (mkD n a e).e ∧ (mkD n a e).e ≤ 1001000000 := by
  unfold mkD
  by_cases h0 : a = 0
  · rw [if_pos h0]; simp
  · rw [if_neg h0]
    have := tz_lt h0
    simp only; omega
/-- What is in its one form is valid where it fits. -/
theorem dyOkB_mkD : dyOkB (mkD n a e) = dyFit (mkD n a e) := by
  unfold mkD
  by_cases h0 : a = 0
  · rw [if_pos h0]; rfl
  · rw [if_neg h0]
    have hb := tz_bit h0
    generalize a / 2 ^ tz a = X at *
    have hX : X ≠ 0 := fun h => by rw [h] at hb; simp at hb
    have hl : ¬ (D X).length = 0 := fun h => hX (D_nil_iff.1 (List.eq_nil_of_length_eq_zero h))
    have hg : gt (D X) 0 % 2 = 1 := by rw [gt_D]; unfold dg; rw [Nat.pow_zero, Nat.div_one]; omega
    unfold dyOkB dyFit wholeOkB
    simp only [natOkB_D, hl, hg, decide_false, Bool.and_false, Bool.not_false, Bool.and_true, if_false, decide_true, Bool.and_assoc]
theorem mkD_and : mkD (n && decide (a ≠ 0)) a e = mkD n a e := by
  unfold mkD
  by_cases h0 : a = 0
  · rw [if_pos h0, if_pos h0]
  · rw [if_neg h0, if_neg h0]; simp [h0]
end
end
/- Intervals: validity and membership, program and reference. No conditions. -/
section
open Num
def DyT.n (x : DyT) : Nat := (val x.l).toNat
def dcmp (x y : DyT) : Int := scmp x.neg (alA x.n x.e y.n y.e) y.neg (alB x.n x.e y.n y.e)
structure IvT where
  lo : DyT
  hi : DyT
def IvT.v (x : IvT) : List V := [.bool x.lo.neg, .ints .i64 x.lo.l, .int .i64 x.lo.e, .bool x.hi.neg, .ints .i64 x.hi.l, .int .i64 x.hi.e]
def ivOkB (x : IvT) : Bool := dyOkB x.lo && dyOkB x.hi && decide (dcmp x.lo x.hi ≤ 0)
def ivHasB (v : IvT) (x : DyT) : Bool := decide (dcmp v.lo x ≤ 0) && decide (dcmp x v.hi ≤ 0)
theorem ok_D {x : DyT} (hx : dyOkB x = true) : x.l = D (x.n) ∧ (D (x.n)).length < 100000 ∧ -100000 ≤ x.e ∧ x.e ≤ 100000 ∧ (x.n = 0 → x.neg = false) := by
  obtain ⟨n, h1, h2, h3, h4, h5⟩ := (dyOkB_iff x).1 hx
  have : x.n = n := by unfold DyT.n; rw [h1, val_D]; rfl
  rw [this]
  refine ⟨h1, by omega, by omega, by omega, fun h => ?_⟩
  rcases h5 with ⟨_, h, _⟩ | h5
  · exact h
  · omega
section
variable {x y : DyT}
theorem dcmpI_v (d : Nat) (hx : dyOkB x = true) (hy : dyOkB y = true) : vrun Try.prog kn (d + 5) 41 [.agg [.bool x.neg, .ints .i64 x.l, .int .i64 x.e], .agg [.bool y.neg, .ints .i64 y.l, .int .i64 y.e]] [] = some (.int .i64 (dcmp x y), []) := by
  obtain ⟨e1, a1, a2, a3, a4⟩ := ok_D hx
  obtain ⟨e2, b1, b2, b3, b4⟩ := ok_D hy
  have := cmp_v (n := x.neg) (m := y.neg) d a1 b1 a2 a3 b2 b3
  rw [← e1, ← e2] at this
  exact this
theorem dcmpS_v (d : Nat) (hx : dyOkB x = true) (hy : dyOkB y = true) : vrun Try.prog kn (d + 5) 36 [.agg [.bool x.neg, .ints .i64 x.l, .int .i64 x.e], .agg [.bool y.neg, .ints .i64 y.l, .int .i64 y.e]] [] = some (.int .i64 (dcmp x y), []) := by
  obtain ⟨e1, a1, a2, a3, a4⟩ := ok_D hx
  obtain ⟨e2, b1, b2, b3, b4⟩ := ok_D hy
  have := l4cmp_v (n := x.neg) (m := y.neg) d a1 b1 a2 a3 b2 b3 a4 b4
  rw [← e1, ← e2] at this
  exact this
end
section
variable {x : DyT} {v : IvT}
end
end
/- Numbers of any size: products, sums, differences. No conditions. -/
section
open Num
def ssN (n : Bool) (a : Nat) (m : Bool) (b : Nat) : Bool := if n = m then n else if b ≤ a then n else m
def ssV (n : Bool) (a : Nat) (m : Bool) (b : Nat) : Nat := if n = m then a + b else if b ≤ a then a - b else b - a
section
variable {a b : Nat} {n m : Bool} {e ex ey : Int}
theorem cmpI_ge : (0 ≤ cmpI a b) = (b ≤ a) := by
  unfold cmpI
  by_cases h : a < b
  · rw [if_pos h]; simp; omega
  · rw [if_neg h]; split <;> (simp; omega)
theorem ssV_len {k : Nat} (ha : (D a).length < k) (hb : (D b).length < k) : (D (ssV n a m b)).length < k + 1 := by
  unfold ssV
  by_cases h : n = m
  · rw [if_pos h]; have := len_add (x := a) (y := b) (n := k - 1) (by omega) (by omega); omega
  · rw [if_neg h]
    split
    · have := len_D_mono (Nat.sub_le a b); omega
    · have := len_D_mono (Nat.sub_le b a); omega
theorem D_ne {x : Nat} : (D x = []) = (x = 0) := propext D_nil_iff
theorem times_e (d : Nat) (ha : (D a).length < 100000) (hb : (D b).length < 100000) (he : -100000 ≤ ex) (he' : ex ≤ 100000) (hf : -100000 ≤ ey) (hf' : ey ≤ 100000) : vrun Try.prog kn (d + 3) 43 [.agg [.bool n, .ints .i64 (D a), .int .i64 ex], .agg [.bool m, .ints .i64 (D b), .int .i64 ey]] [] = some (.agg [.bool ((n != m) && decide (a * b ≠ 0)), .ints .i64 (D (a * b)), .int .i64 (ex + ey)], []) := by
  have h1 := fun d => times_v (x := a) (y := b) d (by omega) (by omega)
  have hl := len_mul a b
  generalize a * b = p at *
  by_cases h0 : p = 0
  · subst h0
    rw [D_zero] at *
    rw [vrun_v Try.func43 rfl rfl rfl]; simp only [Try.f43]
    cases n <;> cases m <;> simp (disch := omega) [go_sem, tab43, h1]
  · have hn : ¬ D p = [] := fun h => h0 (D_nil_iff.1 h)
    have hp : 0 < (D p).length := List.length_pos_iff.2 hn
    rw [vrun_v Try.func43 rfl rfl rfl]; simp only [Try.f43]
    cases n <;> cases m <;> simp (disch := omega) [go_sem, tab43, h1, hn, h0]
theorem l3mul_v (d : Nat) (ha : (D a).length < 400000) (hb : (D b).length < 400000) : vrun Try.prog kn (d + 3) 82 [.agg [.bool n, .ints .i64 (D a)], .agg [.bool m, .ints .i64 (D b)]] [] = some (.agg [.bool ((n != m) && decide (a * b ≠ 0)), .ints .i64 (D (a * b))], []) := by
  have h1 := fun d => l2mul_v (x := a) (y := b) d (by omega) (by omega)
  have hl := len_mul a b
  generalize a * b = p at *
  have h2 := fun n d => l3make_v (n := n) (a := p) d (by omega)
  rw [vrun_v Try.func82 rfl rfl rfl]; simp only [Try.f82]
  cases n <;> cases m <;> simp (disch := omega) [go_sem, tab82, h1, h2]
theorem l4mul_v (d : Nat) (ha : (D a).length < 10000) (hb : (D b).length < 10000) (he : -100000 ≤ ex) (he' : ex ≤ 100000) (hf : -100000 ≤ ey) (hf' : ey ≤ 100000) : vrun Try.prog kn (d + 5) 37 [.agg [.bool n, .ints .i64 (D a), .int .i64 ex], .agg [.bool m, .ints .i64 (D b), .int .i64 ey]] [] = some (.agg (mkD (n != m) (a * b) (ex + ey)).v, []) := by
  have h1 := fun d => l3mul_v (n := n) (m := m) (a := a) (b := b) d (by omega) (by omega)
  have hl := len_mul a b
  have h2 := fun d => l4make_v (n := (n != m) && decide (a * b ≠ 0)) (a := a * b) (e := ex + ey) d (by omega) (by omega) (by omega)
  rw [mkD_and] at h2
  generalize ((n != m) && decide (a * b ≠ 0)) = s at *
  generalize mkD (n != m) (a * b) (ex + ey) = r at *
  unfold DyT.v at *
  rw [vrun_v Try.func37 rfl rfl rfl]; simp only [Try.f37]
  simp (disch := omega) [go_sem, tab37, h1, h2]
end
end
/- Dyadic numbers: products, sums, differences, program and reference. No conditions. -/
section
open Num
def mulR (x y : DyT) : DyT := mkD (x.neg != y.neg) (x.n * y.n) (x.e + y.e)
def addR (x y : DyT) : DyT := mkD (ssN x.neg (alA x.n x.e y.n y.e) y.neg (alB x.n x.e y.n y.e)) (ssV x.neg (alA x.n x.e y.n y.e) y.neg (alB x.n x.e y.n y.e)) (alE x.n x.e y.n y.e)
def negT (y : DyT) : DyT := ⟨!y.neg && decide (y.n ≠ 0), y.l, y.e⟩
def subR (x y : DyT) : DyT := addR x (negT y)
/-- What an operation answers. -/
def res2 (R : DyT → DyT → DyT) (x y : DyT) : DyT := if dyOkB x && dyOkB y && dyFit (R x y) then R x y else zT
def ok2 (R : DyT → DyT → DyT) (x y : DyT) : Bool := dyOkB x && dyOkB y && dyFit (R x y)
theorem res2_ok {R : DyT → DyT → DyT} {x y : DyT} (h : dyOkB x = true) (h' : dyOkB y = true) : res2 R x y = fitT (R x y) ∧ ok2 R x y = dyFit (R x y) := by
  unfold res2 ok2 fitT; rw [h, h']; simp
theorem res2_no {R : DyT → DyT → DyT} {x y : DyT} (h : (dyOkB x && dyOkB y) = false) : res2 R x y = zT ∧ ok2 R x y = false := by
  unfold res2 ok2; rw [h]; simp
theorem fitT_len (r : DyT) : (fitT r).l.length ≤ 100 := by
  unfold fitT
  cases h : dyFit r with
  | false => simp [zT]
  | true => unfold dyFit at h; simp at h; simp only [if_true]; omega
theorem res2_len {R : DyT → DyT → DyT} {x y : DyT} : (res2 R x y).l.length ≤ 100 := by
  cases h : (dyOkB x && dyOkB y) with
  | false => rw [(res2_no h).1]; simp [zT]
  | true => rw [Bool.and_eq_true] at h; rw [(res2_ok h.1 h.2).1]; exact fitT_len _
/-- A valid one, whole. -/
theorem okD {x : DyT} (hx : dyOkB x = true) : x.l = D x.n ∧ (D x.n).length ≤ 100 ∧ -3000 ≤ x.e ∧ x.e ≤ 3000 ∧ (x.n = 0 → x.neg = false) := by
  obtain ⟨n, h1, h2, h3, h4, h5⟩ := (dyOkB_iff x).1 hx
  have : x.n = n := by unfold DyT.n; rw [h1, val_D]; rfl
  rw [this]
  refine ⟨h1, by omega, by omega, by omega, fun h => ?_⟩
  rcases h5 with ⟨_, h, _⟩ | h5
  · exact h
  · omega
section
variable {x y : DyT}
theorem neg_dbl {b : Nat} {m : Bool} (h : b = 0 → m = false) : (!(!m && decide (b ≠ 0)) && decide (b ≠ 0)) = m := by
  by_cases h0 : b = 0
  · rw [h h0]; simp [h0]
  · cases m <;> simp [h0]
theorem al_small {a b : Nat} {ex ey : Int} (ha : (D a).length ≤ 100) (hb : (D b).length ≤ 100) (he : -3000 ≤ ex) (he' : ex ≤ 3000) (hf : -3000 ≤ ey) (hf' : ey ≤ 3000) : (D (alA a ex b ey)).length < 1000 ∧ (D (alB a ex b ey)).length < 1000 ∧ -3000 ≤ alE a ex b ey ∧ alE a ex b ey ≤ 3000 := by
  have q1 : -3000 ≤ alE a ex b ey ∧ alE a ex b ey ≤ 3000 := by unfold alE; split <;> (try split) <;> (try split) <;> omega
  have h1 := len_shl a (ex - alE a ex b ey).toNat
  have h2 := len_shl b (ey - alE a ex b ey).toNat
  unfold alA alB
  omega
end
end
/- Rounding, program and reference. No conditions. -/
section
open Num
/-- Is a magnitude rounded away from nought? -/
def rUp (n odd : Bool) (half mode : Int) : Bool := if mode = 2 then !n else if mode = 3 then n else if mode = 0 then decide (0 < half) || (decide (half = 0) && odd) else if mode = 4 then decide (0 ≤ half) else false
section
variable {a b k : Nat} {n : Bool} {ex low mode half : Int}
theorem roundUp_v (d : Nat) (odd : Bool) : vrun Try.prog kn (d + 1) 121 [.bool n, .bool odd, .int .i64 half, .int .i64 mode] [] = some (.bool (rUp n odd half mode), []) := by
  unfold rUp
  by_cases h2 : mode = 2
  · rw [vrun_v Try.func121 rfl rfl rfl]; simp only [Try.f121]
    simp (implicitDefEqProofs := false) (disch := omega) [go_sem, tab121, h2]
  · by_cases h3 : mode = 3
    · rw [vrun_v Try.func121 rfl rfl rfl]; simp only [Try.f121]
      simp (implicitDefEqProofs := false) (disch := omega) [go_sem, tab121, h3]
    · by_cases h0 : mode = 0
      · by_cases q1 : 0 < half
        · rw [vrun_v Try.func121 rfl rfl rfl]; simp only [Try.f121]
          simp (implicitDefEqProofs := false) (disch := omega) [go_sem, tab121, h0, q1]
        · by_cases q2 : half = 0
          · rw [vrun_v Try.func121 rfl rfl rfl]; simp only [Try.f121]
            simp (implicitDefEqProofs := false) (disch := omega) [go_sem, tab121, h0, q2]
          · rw [vrun_v Try.func121 rfl rfl rfl]; simp only [Try.f121]
            simp (implicitDefEqProofs := false) (disch := omega) [go_sem, tab121, h0, q1, q2]
      · by_cases h4 : mode = 4
        · by_cases q1 : 0 ≤ half
          · rw [vrun_v Try.func121 rfl rfl rfl]; simp only [Try.f121]
            simp (implicitDefEqProofs := false) (disch := omega) [go_sem, tab121, h4, q1]
          · rw [vrun_v Try.func121 rfl rfl rfl]; simp only [Try.f121]
            simp (implicitDefEqProofs := false) (disch := omega) [go_sem, tab121, h4, q1]
        · rw [vrun_v Try.func121 rfl rfl rfl]; simp only [Try.f121]
          simp (implicitDefEqProofs := false) (disch := omega) [go_sem, tab121, h2, h3, h0, h4]
/-- A quotient of magnitudes, rounded. -/
def qR (n : Bool) (a b : Nat) (mode : Int) : Nat := if a % b = 0 then a / b else if rUp n (decide (a / b % 2 = 1)) (cmpI (a % b * 2) b) mode then a / b + 1 else a / b
theorem qR_le : qR n a b mode ≤ a / b + 1 := by unfold qR; split <;> (try split) <;> omega
set_option maxHeartbeats 4000000 in
theorem roundQuotient_v (d : Nat) (ha : (D a).length < 200000) (hb : (D b).length < 200000) (h0 : b ≠ 0) : vrun Try.prog kn (d + 5) 112 [.bool n, .ints .i64 (D a), .ints .i64 (D b), .int .i64 mode] [] = some (.tup [.ints .i64 (D (qR n a b mode)), .bool (decide (a % b = 0))], []) := by
  have h1 := fun d => divide_v (x := a) (y := b) d (by omega) (by omega) h0
  have hl1 := len_D_mono (Nat.div_le_self a b)
  have hl2 := len_D_mono (Nat.mod_le a b)
  have h2 := fun d => bitOf_v (x := a / b) (k := 0) d (by omega) (by omega)
  have h3 := fun d => up_v (x := a % b) (k := 1) d (by omega) (by omega)
  have hl3 := len_shl (a % b) 1
  have h4 := fun d => compare_v (x := a % b * 2 ^ 1) (y := b) d (by omega) (by omega)
  have h5 := fun odd d => roundUp_v (n := n) (half := cmpI (a % b * 2 ^ 1) b) (mode := mode) d odd
  have h6 := fun d => small_v (n := 1) d (by omega)
  have hl4 : (D 1).length ≤ 1 := len_small (by omega)
  have h7 := fun d => plus_v (x := a / b) (y := 1) d (by omega) (by omega)
  have hl5 := len_add (x := a / b) (y := 1) (n := 200000) (by omega) (by omega)
  simp only [bit0, Int.natCast_zero] at h2
  have e2 : a % b * 2 ^ 1 = a % b * 2 := by rw [Nat.pow_one]
  rw [e2] at h3 h4 h5
  simp only [Int.natCast_one] at h3 h6
  unfold qR
  by_cases hz : a % b = 0
  · rw [hz, D_zero] at h1
    rw [vrun_v Try.func112 rfl rfl rfl]; simp only [Try.f112]
    simp (implicitDefEqProofs := false) (disch := omega) [go_sem, tab112, nil112, h1, hz]
  · have hn : ¬ D (a % b) = [] := fun h => hz (D_nil_iff.1 h)
    rw [if_neg hz]
    have h5' := h5 (decide (a / b % 2 = 1))
    clear h5
    by_cases hq : a / b % 2 = 1
    · rw [hq] at h2
      rw [decide_eq_true hq] at h5' ⊢
      generalize cmpI (a % b * 2) b = c at *
      generalize a % b * 2 = R2 at *
      cases hu : rUp n true c mode <;> rw [hu] at h5'
      all_goals
        rw [vrun_v Try.func112 rfl rfl rfl]; simp only [Try.f112]
        simp (implicitDefEqProofs := false) (disch := omega) [go_sem, tab112, nil112, h1, h2, h3, h4, h5', h6, h7, hn, hz, hu]
    · have hq' : a / b % 2 = 0 := by omega
      rw [hq'] at h2
      rw [decide_eq_false hq] at h5' ⊢
      generalize cmpI (a % b * 2) b = c at *
      generalize a % b * 2 = R2 at *
      cases hu : rUp n false c mode <;> rw [hu] at h5'
      all_goals
        rw [vrun_v Try.func112 rfl rfl rfl]; simp only [Try.f112]
        simp (implicitDefEqProofs := false) (disch := omega) [go_sem, tab112, nil112, h1, h2, h3, h4, h5', h6, h7, hn, hz, hu]
theorem isZero_v (d : Nat) (ha : (D a).length < 1000000) : vrun Try.prog kn (d + 1) 97 [.agg [.bool n, .ints .i64 (D a), .int .i64 ex]] [] = some (.bool (decide (a = 0)), []) := by
  by_cases h0 : a = 0
  · subst h0
    rw [D_zero]
    rw [vrun_v Try.func97 rfl rfl rfl]; simp only [Try.f97]
    simp (implicitDefEqProofs := false) (disch := omega) [go_sem, tab97]
  · have hn : ¬ D a = [] := fun h => h0 (D_nil_iff.1 h)
    rw [vrun_v Try.func97 rfl rfl rfl]; simp only [Try.f97]
    simp (implicitDefEqProofs := false) (disch := omega) [go_sem, tab97, hn, h0]
/-- Over one: to a multiple of a greater power of two. -/
theorem over1_v (d : Nat) (ha : (D a).length < 100000) (he : -100000 ≤ ex) (hl : low ≤ 100000) (hlt : ex < low) : vrun Try.prog kn (d + 6) 98 [.agg [.bool n, .ints .i64 (D a), .int .i64 ex], .agg [.bool false, .ints .i64 (D 1), .int .i64 0], .int .i64 low, .int .i64 mode] [] = some (.tup [.agg [.bool (n && decide (qR n a (2 ^ (low - ex).toNat) mode ≠ 0)), .ints .i64 (D (qR n a (2 ^ (low - ex).toNat) mode)), .int .i64 low], .bool (decide (a % 2 ^ (low - ex).toNat = 0))], []) := by
  have h1 := fun d => up_v (x := a) (k := 0) d (by omega) (by omega)
  rw [Nat.pow_zero, Nat.mul_one] at h1
  simp only [Int.natCast_zero] at h1
  have hl1 : (D 1).length ≤ 1 := len_small (by omega)
  have h2 := fun d => up_v (x := 1) (k := (low - ex).toNat) d (by omega) (by omega)
  rw [Nat.one_mul] at h2
  have e1 : (((low - ex).toNat : Nat) : Int) = low - ex := by omega
  rw [e1] at h2
  have hlp := len_shl 1 (low - ex).toNat
  rw [Nat.one_mul] at hlp
  have h3 := fun d => roundQuotient_v (n := n) (a := a) (b := 2 ^ (low - ex).toNat) (mode := mode) d (by omega) (by omega) (Nat.pos_iff_ne_zero.1 (Nat.two_pow_pos _))
  have hq := len_D_mono (qR_le (n := n) (a := a) (b := 2 ^ (low - ex).toNat) (mode := mode))
  have hq1 := len_add (x := a / 2 ^ (low - ex).toNat) (y := 1) (n := 100000) (by have := len_D_mono (Nat.div_le_self a (2 ^ (low - ex).toNat)); omega) (by omega)
  generalize decide (a % 2 ^ (low - ex).toNat = 0) = f at *
  generalize qR n a (2 ^ (low - ex).toNat) mode = v at *
  generalize 2 ^ (low - ex).toNat = P at *
  have e2 : -(ex - low) = low - ex := by omega
  by_cases h0 : v = 0
  · subst h0
    rw [D_zero] at *
    rw [vrun_v Try.func98 rfl rfl rfl]; simp only [Try.f98]
    cases n <;> simp (implicitDefEqProofs := false) (disch := omega) [go_sem, tab98, h1, h2, h3, e2]
  · have hn : ¬ D v = [] := fun h => h0 (D_nil_iff.1 h)
    have hp : 0 < (D v).length := List.length_pos_iff.2 hn
    rw [vrun_v Try.func98 rfl rfl rfl]; simp only [Try.f98]
    cases n <;> simp (implicitDefEqProofs := false) (disch := omega) [go_sem, tab98, h1, h2, h3, hn, h0, e2]
theorem rounded_v (d : Nat) (ha : (D a).length < 100000) (he : -100000 ≤ ex) (he' : ex ≤ 100000) (hl0 : -100000 ≤ low) (hl : low ≤ 100000) : vrun Try.prog kn (d + 7) 54 [.agg [.bool n, .ints .i64 (D a), .int .i64 ex], .int .i64 low, .int .i64 mode] [] =
    some (if low ≤ ex ∨ a = 0 then .tup [.agg [.bool n, .ints .i64 (D a), .int .i64 ex], .bool true] else .tup [.agg [.bool (n && decide (qR n a (2 ^ (low - ex).toNat) mode ≠ 0)), .ints .i64 (D (qR n a (2 ^ (low - ex).toNat) mode)), .int .i64 low], .bool (decide (a % 2 ^ (low - ex).toNat = 0))], []) := by
  have h1 := fun d => isZero_v (a := a) (n := n) (ex := ex) d (by omega)
  by_cases h : low ≤ ex
  · rw [if_pos (.inl h)]
    rw [vrun_v Try.func54 rfl rfl rfl]; simp only [Try.f54]
    simp (implicitDefEqProofs := false) (disch := omega) [go_sem, tab54]
  · by_cases h0 : a = 0
    · rw [if_pos (.inr h0)]
      rw [decide_eq_true h0] at h1
      rw [vrun_v Try.func54 rfl rfl rfl]; simp only [Try.f54]
      simp (implicitDefEqProofs := false) (disch := omega) [go_sem, tab54, h1]
    · rw [if_neg (by omega)]
      rw [decide_eq_false h0] at h1
      have h2 := fun d => over1_v (n := n) (a := a) (mode := mode) d ha he hl (by omega : ex < low)
      have h3 := fun d => small_v (n := 1) d (by omega)
      simp only [Int.natCast_one] at h3
      have hl1 : (D 1).length ≤ 1 := len_small (by omega)
      generalize (n && decide (qR n a (2 ^ (low - ex).toNat) mode ≠ 0)) = s at *
      generalize qR n a (2 ^ (low - ex).toNat) mode = v at *
      generalize decide (a % 2 ^ (low - ex).toNat = 0) = f at *
      generalize D 1 = o at *
      rw [vrun_v Try.func54 rfl rfl rfl]; simp only [Try.f54]
      simp (implicitDefEqProofs := false) (disch := omega) [go_sem, tab54, h1, h2, h3]
theorem isMode_v (d : Nat) : vrun Try.prog kn (d + 2) 94 [.int .i64 mode] [] = some (.bool (decide (0 ≤ mode) && decide (mode ≤ 4)), []) := by
  have h1 := within_v
  rw [vrun_v Try.func94 rfl rfl rfl]; simp only [Try.f94]
  simp (implicitDefEqProofs := false) (disch := omega) [go_sem, tab94, h1]
theorem l4mode_v (d : Nat) : vrun Try.prog kn (d + 1) 46 [.int .i64 mode] [] = some (.bool (decide (0 ≤ mode) && decide (mode ≤ 4)), []) := by
  by_cases h : 0 ≤ mode
  · rw [vrun_v Try.func46 rfl rfl rfl]; simp only [Try.f46]
    simp (implicitDefEqProofs := false) (disch := omega) [go_sem, tab46, h]
  · rw [vrun_v Try.func46 rfl rfl rfl]; simp only [Try.f46]
    simp (implicitDefEqProofs := false) (disch := omega) [go_sem, tab46, h]
/-! ### the reference -/
theorem half_nat {a k : Nat} (hk : 0 < k) : a % 2 ^ k = a / 2 ^ (k - 1) % 2 * 2 ^ (k - 1) + a % 2 ^ (k - 1) ∧ 2 ^ k = 2 ^ (k - 1) * 2 := by
  have e : 2 ^ k = 2 ^ (k - 1) * 2 := by rw [← Nat.pow_succ]; congr 1; omega
  refine ⟨?_, e⟩
  rw [e, Nat.mod_mul, Nat.add_comm, Nat.mul_comm (2 ^ (k - 1))]
theorem tz_low_iff {a j : Nat} (h0 : a ≠ 0) : tz a < j ↔ a % 2 ^ j ≠ 0 := by
  obtain ⟨o, ho⟩ := tz_spec h0
  constructor
  · intro h hz
    have hb := tz_bit h0
    have e : 2 ^ j = 2 ^ tz a * (2 * 2 ^ (j - tz a - 1)) := by rw [← Nat.pow_succ', ← Nat.pow_add]; congr 1; omega
    have hd := Nat.div_add_mod a (2 ^ j)
    rw [hz, Nat.add_zero, e, Nat.mul_assoc] at hd
    generalize tz a = t at *
    rw [← hd, Nat.mul_div_cancel_left _ (Nat.two_pow_pos _), Nat.mul_assoc] at hb
    omega
  · intro h
    rcases Nat.lt_or_ge (tz a) j with h1 | h1
    · exact h1
    · exfalso; apply h
      have e : 2 ^ tz a = 2 ^ j * 2 ^ (tz a - j) := by rw [← Nat.pow_add]; congr 1; omega
      conv => lhs; lhs; rw [ho, e, Nat.mul_assoc]
      exact Nat.mul_mod_right _ _
theorem half_cmp {a k : Nat} (hk : 0 < k) : (0 < cmpI (a % 2 ^ k * 2) (2 ^ k) ↔ a / 2 ^ (k - 1) % 2 = 1 ∧ a % 2 ^ (k - 1) ≠ 0) ∧ (cmpI (a % 2 ^ k * 2) (2 ^ k) = 0 ↔ a / 2 ^ (k - 1) % 2 = 1 ∧ a % 2 ^ (k - 1) = 0) ∧ (0 ≤ cmpI (a % 2 ^ k * 2) (2 ^ k) ↔ a / 2 ^ (k - 1) % 2 = 1) := by
  obtain ⟨e1, e2⟩ := half_nat (a := a) hk
  have hr := Nat.mod_lt a (Nat.two_pow_pos (k - 1))
  rw [e1, e2]
  generalize a % 2 ^ (k - 1) = r at *
  generalize 2 ^ (k - 1) = p at *
  have hb : a / p % 2 = 0 ∨ a / p % 2 = 1 := by omega
  unfold cmpI
  rcases hb with hb | hb <;> rw [hb]
  · rw [if_pos (by omega)]; simp
  · rw [if_neg (by omega)]
    by_cases h : r = 0
    · rw [if_pos (by omega)]; simp [h]
    · rw [if_neg (by omega)]; simp [h]
set_option maxHeartbeats 4000000 in
theorem l4ups_v (d : Nat) (ha : (D a).length < 100000) (h0 : a ≠ 0) (hk : 0 < k) (hk' : k < 300000) (hm : 0 ≤ mode) (hm' : mode ≤ 4) : vrun Try.prog kn (d + 3) 91 [.bool n, .agg [.ints .i64 (D a)], .int .i64 (k : Int), .int .i64 mode] [] = some (.bool (rUp n (decide (a / 2 ^ k % 2 = 1)) (cmpI (a % 2 ^ k * 2) (2 ^ k)) mode), []) := by
  have h1 := fun d => l2bit_v (x := a) (k := k - 1) d (by omega) (by omega)
  have h2 := fun d => l2bit_v (x := a) (k := k) d (by omega) (by omega)
  have h3 := fun d => l2trail_v (x := a) d (by omega)
  have e1 : (((k - 1 : Nat)) : Int) = (k : Int) - 1 := by omega
  rw [e1] at h1
  obtain ⟨c1, c2, c3⟩ := half_cmp (a := a) hk
  have ht := tz_low_iff (a := a) (j := k - 1) h0
  have htk : ((tz a : Int) < (k : Int) - 1) ↔ tz a < k - 1 := by omega
  generalize cmpI (a % 2 ^ k * 2) (2 ^ k) = c at *
  unfold rUp
  have hb : a / 2 ^ (k - 1) % 2 = 0 ∨ a / 2 ^ (k - 1) % 2 = 1 := by omega
  have hq : a / 2 ^ k % 2 = 0 ∨ a / 2 ^ k % 2 = 1 := by omega
  generalize a / 2 ^ (k - 1) % 2 = b at *
  generalize a / 2 ^ k % 2 = q at *
  generalize a % 2 ^ (k - 1) = r at *
  have hmm : mode = 0 ∨ mode = 1 ∨ mode = 2 ∨ mode = 3 ∨ mode = 4 := by omega
  have hlt := tz_lt h0
  generalize tz a = t at *
  rcases hmm with rfl | rfl | rfl | rfl | rfl
  · by_cases hr : r = 0
    · have g1 : ¬ (t : Int) < (k : Int) - 1 := by rw [htk, ht]; simp [hr]
      rcases hb with rfl | rfl <;> rcases hq with rfl | rfl
      all_goals
        simp only [hr, ne_eq, not_true_eq_false, and_false, and_true] at c1 c2
        rw [vrun_v Try.func91 rfl rfl rfl]; simp only [Try.f91]
        simp (implicitDefEqProofs := false) (disch := omega) [go_sem, tab91, h1, h2, h3, g1, c1, c2]
    · have g1 : (t : Int) < (k : Int) - 1 := by rw [htk, ht]; exact hr
      rcases hb with rfl | rfl <;> rcases hq with rfl | rfl
      all_goals
        simp only [hr, ne_eq, not_false_eq_true, and_false, and_true] at c1 c2
        rw [vrun_v Try.func91 rfl rfl rfl]; simp only [Try.f91]
        simp (implicitDefEqProofs := false) (disch := omega) [go_sem, tab91, h1, h2, h3, g1, c1, c2]
  · rw [vrun_v Try.func91 rfl rfl rfl]; simp only [Try.f91]
    simp (implicitDefEqProofs := false) (disch := omega) [go_sem, tab91, h1, h2, h3]
  · rw [vrun_v Try.func91 rfl rfl rfl]; simp only [Try.f91]
    simp (implicitDefEqProofs := false) (disch := omega) [go_sem, tab91, h1, h2, h3]
  · rw [vrun_v Try.func91 rfl rfl rfl]; simp only [Try.f91]
    simp (implicitDefEqProofs := false) (disch := omega) [go_sem, tab91, h1, h2, h3]
  · rcases hb with rfl | rfl
    all_goals
      rw [vrun_v Try.func91 rfl rfl rfl]; simp only [Try.f91]
      simp (implicitDefEqProofs := false) (disch := omega) [go_sem, tab91, h1, h2, h3, c3]
/-- To a multiple of a power of two, as the reference does it: what is left is not nought. -/
def qS (n : Bool) (a k : Nat) (mode : Int) : Nat := if rUp n (decide (a / 2 ^ k % 2 = 1)) (cmpI (a % 2 ^ k * 2) (2 ^ k)) mode then a / 2 ^ k + 1 else a / 2 ^ k
set_option maxHeartbeats 4000000 in
theorem l4round_v (d : Nat) (ha : (D a).length < 50000) (he : -100000 ≤ ex) (he' : ex ≤ 100000) (hl0 : -100000 ≤ low) (hl : low ≤ 100000) (hm : 0 ≤ mode) (hm' : mode ≤ 4) : vrun Try.prog kn (d + 5) 47 [.agg [.bool n, .ints .i64 (D a), .int .i64 ex], .int .i64 low, .int .i64 mode] [] =
    some (if low ≤ ex ∨ a = 0 then .tup [.agg [.bool n, .ints .i64 (D a), .int .i64 ex], .bool true] else .tup [.agg (mkD n (qS n a (low - ex).toNat mode) low).v, .bool false], []) := by
  by_cases h0 : a = 0
  · subst h0
    rw [if_pos (.inr rfl), D_zero]
    rw [vrun_v Try.func47 rfl rfl rfl]; simp only [Try.f47]
    simp (implicitDefEqProofs := false) (disch := omega) [go_sem, tab47]
  have hn : ¬ D a = [] := fun h => h0 (D_nil_iff.1 h)
  by_cases h : low ≤ ex
  · rw [if_pos (.inl h)]
    rw [vrun_v Try.func47 rfl rfl rfl]; simp only [Try.f47]
    simp (implicitDefEqProofs := false) (disch := omega) [go_sem, tab47, hn, h]
  rw [if_neg (by omega)]
  have e1 : (((low - ex).toNat : Nat) : Int) = low - ex := by omega
  have h1 := fun d => l2shr_v (x := a) (k := (low - ex).toNat) d (by omega) (by omega)
  have h2 := fun d => l4ups_v (n := n) (a := a) (k := (low - ex).toNat) (mode := mode) d (by omega) h0 (by omega) (by omega) hm hm'
  rw [e1] at h1 h2
  have h3 := fun d => l2of_v (n := 1) d (by omega)
  simp only [Int.natCast_one] at h3
  have hl1 : (D 1).length ≤ 1 := len_small (by omega)
  have hl2 := len_D_mono (Nat.div_le_self a (2 ^ (low - ex).toNat))
  have h4 := fun d => l2add_v (x := a / 2 ^ (low - ex).toNat) (y := 1) d (by omega) (by omega)
  have hl3 := len_add (x := a / 2 ^ (low - ex).toNat) (y := 1) (n := 50000) (by omega) (by omega)
  unfold qS
  generalize rUp n (decide (a / 2 ^ (low - ex).toNat % 2 = 1)) (cmpI (a % 2 ^ (low - ex).toNat * 2) (2 ^ (low - ex).toNat)) mode = up at *
  generalize a / 2 ^ (low - ex).toNat = q at *
  cases up
  · have h5 := fun d => l3make_v (n := n) (a := q) d (by omega)
    have h6 := fun d => l4make_v (n := n && decide (q ≠ 0)) (a := q) (e := low) d (by omega) (by omega) (by omega)
    rw [mkD_and] at h6
    simp only [Bool.false_eq_true, if_false]
    generalize mkD n q low = r at *
    generalize (n && decide (q ≠ 0)) = s at *
    unfold DyT.v at *
    rw [vrun_v Try.func47 rfl rfl rfl]; simp only [Try.f47]
    simp (implicitDefEqProofs := false) (disch := omega) [go_sem, tab47, hn, h, h1, h2, h5, h6]
  · have h5 := fun d => l3make_v (n := n) (a := q + 1) d (by omega)
    have h6 := fun d => l4make_v (n := n && decide (q + 1 ≠ 0)) (a := q + 1) (e := low) d (by omega) (by omega) (by omega)
    rw [mkD_and] at h6
    simp only [if_true]
    generalize mkD n (q + 1) low = r at *
    generalize (n && decide (q + 1 ≠ 0)) = s at *
    unfold DyT.v at *
    rw [vrun_v Try.func47 rfl rfl rfl]; simp only [Try.f47]
    simp (implicitDefEqProofs := false) (disch := omega) [go_sem, tab47, hn, h, h1, h2, h3, h4, h5, h6]
end
end
/- Floats: validity, and the way to a whole number. No conditions. -/
section
open Num
def flOkP (k : Int) (n : Bool) (m e : Int) : Prop := (k = 1 ∧ -1074 ≤ e ∧ e ≤ 971 ∧ ((4503599627370496 ≤ m ∧ m ≤ 9007199254740991) ∨ (1 ≤ m ∧ m ≤ 4503599627370495 ∧ e = -1074))) ∨ ((k = 0 ∨ k = 2) ∧ m = 0 ∧ e = 0) ∨ (k = 3 ∧ m = 0 ∧ e = 0 ∧ n = false)
instance (k : Int) (n : Bool) (m e : Int) : Decidable (flOkP k n m e) := by unfold flOkP; infer_instance
section
variable {k m e mode : Int} {n : Bool}
theorem flT (h : flOkP k n m e) : decide (flOkP k n m e) = true := decide_eq_true h
theorem flF (h : ¬ flOkP k n m e) : decide (flOkP k n m e) = false := decide_eq_false h
set_option maxHeartbeats 8000000 in
theorem FlOk_v (d : Nat) : vrun Try.prog kn (d + 2) 96 [.agg [.int .i64 k, .bool n, .int .i64 m, .int .i64 e]] [] = some (.bool (decide (flOkP k n m e)), []) := by
  have h1 := within_v
  by_cases k1 : k = 1
  · subst k1
    by_cases e1 : -1074 ≤ e
    · by_cases e2 : e ≤ 971
      · by_cases m1 : 4503599627370496 ≤ m
        · by_cases m2 : m ≤ 9007199254740991
          · rw [flT (by unfold flOkP; omega)]
            rw [vrun_v Try.func96 rfl rfl rfl]; simp only [Try.f96]
            simp (implicitDefEqProofs := false) (disch := omega) [go_sem, tab96, h1, e1, e2, m1, m2]
          · rw [flF (by unfold flOkP; omega)]
            have m3 : ¬ m ≤ 4503599627370495 := by omega
            rw [vrun_v Try.func96 rfl rfl rfl]; simp only [Try.f96]
            simp (implicitDefEqProofs := false) (disch := omega) [go_sem, tab96, h1, e1, e2, m1, m2, m3]
        · by_cases m3 : 1 ≤ m
          · have m4 : m ≤ 4503599627370495 := by omega
            by_cases e3 : e = -1074
            · rw [flT (by unfold flOkP; omega)]
              rw [vrun_v Try.func96 rfl rfl rfl]; simp only [Try.f96]
              simp (implicitDefEqProofs := false) (disch := omega) [go_sem, tab96, h1, m1, m3, m4, e3]
            · rw [flF (by unfold flOkP; omega)]
              rw [vrun_v Try.func96 rfl rfl rfl]; simp only [Try.f96]
              simp (implicitDefEqProofs := false) (disch := omega) [go_sem, tab96, h1, e1, e2, m1, m3, m4, e3]
          · rw [flF (by unfold flOkP; omega)]
            rw [vrun_v Try.func96 rfl rfl rfl]; simp only [Try.f96]
            simp (implicitDefEqProofs := false) (disch := omega) [go_sem, tab96, h1, e1, e2, m1, m3]
      · rw [flF (by unfold flOkP; omega)]
        rw [vrun_v Try.func96 rfl rfl rfl]; simp only [Try.f96]
        simp (implicitDefEqProofs := false) (disch := omega) [go_sem, tab96, h1, e1, e2]
    · rw [flF (by unfold flOkP; omega)]
      rw [vrun_v Try.func96 rfl rfl rfl]; simp only [Try.f96]
      simp (implicitDefEqProofs := false) (disch := omega) [go_sem, tab96, h1, e1]
  · by_cases k0 : k = 0
    · subst k0
      by_cases m0 : m = 0
      · by_cases e0 : e = 0
        · rw [flT (by unfold flOkP; omega)]
          rw [vrun_v Try.func96 rfl rfl rfl]; simp only [Try.f96]
          simp (implicitDefEqProofs := false) (disch := omega) [go_sem, tab96, m0, e0]
        · rw [flF (by unfold flOkP; omega)]
          rw [vrun_v Try.func96 rfl rfl rfl]; simp only [Try.f96]
          simp (implicitDefEqProofs := false) (disch := omega) [go_sem, tab96, m0, e0]
      · rw [flF (by unfold flOkP; omega)]
        rw [vrun_v Try.func96 rfl rfl rfl]; simp only [Try.f96]
        simp (implicitDefEqProofs := false) (disch := omega) [go_sem, tab96, m0]
    · by_cases k2 : k = 2
      · subst k2
        by_cases m0 : m = 0
        · by_cases e0 : e = 0
          · rw [flT (by unfold flOkP; omega)]
            rw [vrun_v Try.func96 rfl rfl rfl]; simp only [Try.f96]
            simp (implicitDefEqProofs := false) (disch := omega) [go_sem, tab96, m0, e0]
          · rw [flF (by unfold flOkP; omega)]
            rw [vrun_v Try.func96 rfl rfl rfl]; simp only [Try.f96]
            simp (implicitDefEqProofs := false) (disch := omega) [go_sem, tab96, m0, e0]
        · rw [flF (by unfold flOkP; omega)]
          rw [vrun_v Try.func96 rfl rfl rfl]; simp only [Try.f96]
          simp (implicitDefEqProofs := false) (disch := omega) [go_sem, tab96, m0]
      · by_cases k3 : k = 3
        · subst k3
          by_cases m0 : m = 0
          · by_cases e0 : e = 0
            · cases n
              · rw [flT (by unfold flOkP; simp [m0, e0])]
                rw [vrun_v Try.func96 rfl rfl rfl]; simp only [Try.f96]
                simp (implicitDefEqProofs := false) (disch := omega) [go_sem, tab96, m0, e0]
              · rw [flF (by unfold flOkP; simp)]
                rw [vrun_v Try.func96 rfl rfl rfl]; simp only [Try.f96]
                simp (implicitDefEqProofs := false) (disch := omega) [go_sem, tab96, m0, e0]
            · rw [flF (by unfold flOkP; omega)]
              rw [vrun_v Try.func96 rfl rfl rfl]; simp only [Try.f96]
              simp (implicitDefEqProofs := false) (disch := omega) [go_sem, tab96, m0, e0]
          · rw [flF (by unfold flOkP; omega)]
            rw [vrun_v Try.func96 rfl rfl rfl]; simp only [Try.f96]
            simp (implicitDefEqProofs := false) (disch := omega) [go_sem, tab96, m0]
        · rw [flF (by unfold flOkP; omega)]
          rw [vrun_v Try.func96 rfl rfl rfl]; simp only [Try.f96]
          simp (implicitDefEqProofs := false) (disch := omega) [go_sem, tab96, k0, k1, k2, k3]
set_option maxHeartbeats 8000000 in
theorem sFlOk_v (d : Nat) : vrun Try.prog kn (d + 1) 45 [.agg [.int .i64 k, .bool n, .int .i64 m, .int .i64 e]] [] = some (.bool (decide (flOkP k n m e)), []) := by
  by_cases k1 : k = 1
  · subst k1
    by_cases e1 : e < -1074
    · rw [flF (by unfold flOkP; omega)]
      rw [vrun_v Try.func45 rfl rfl rfl]; simp only [Try.f45]
      simp (implicitDefEqProofs := false) (disch := omega) [go_sem, tab45]
    · by_cases e2 : 971 < e
      · rw [flF (by unfold flOkP; omega)]
        rw [vrun_v Try.func45 rfl rfl rfl]; simp only [Try.f45]
        simp (implicitDefEqProofs := false) (disch := omega) [go_sem, tab45]
      · by_cases m1 : m < 1
        · rw [flF (by unfold flOkP; omega)]
          rw [vrun_v Try.func45 rfl rfl rfl]; simp only [Try.f45]
          simp (implicitDefEqProofs := false) (disch := omega) [go_sem, tab45]
        · by_cases m2 : 9007199254740992 ≤ m
          · rw [flF (by unfold flOkP; omega)]
            rw [vrun_v Try.func45 rfl rfl rfl]; simp only [Try.f45]
            simp (implicitDefEqProofs := false) (disch := omega) [go_sem, tab45]
          · by_cases m3 : 4503599627370496 ≤ m
            · rw [flT (by unfold flOkP; omega)]
              rw [vrun_v Try.func45 rfl rfl rfl]; simp only [Try.f45]
              simp (implicitDefEqProofs := false) (disch := omega) [go_sem, tab45]
            · by_cases e3 : e = -1074
              · rw [flT (by unfold flOkP; omega)]
                rw [vrun_v Try.func45 rfl rfl rfl]; simp only [Try.f45]
                simp (implicitDefEqProofs := false) (disch := omega) [go_sem, tab45, e3]
              · rw [flF (by unfold flOkP; omega)]
                rw [vrun_v Try.func45 rfl rfl rfl]; simp only [Try.f45]
                simp (implicitDefEqProofs := false) (disch := omega) [go_sem, tab45, e3]
  · by_cases k0 : k = 0
    · subst k0
      by_cases m0 : m = 0
      · by_cases e0 : e = 0
        · rw [flT (by unfold flOkP; omega)]
          rw [vrun_v Try.func45 rfl rfl rfl]; simp only [Try.f45]
          simp (implicitDefEqProofs := false) (disch := omega) [go_sem, tab45, m0, e0]
        · rw [flF (by unfold flOkP; omega)]
          rw [vrun_v Try.func45 rfl rfl rfl]; simp only [Try.f45]
          simp (implicitDefEqProofs := false) (disch := omega) [go_sem, tab45, m0, e0]
      · rw [flF (by unfold flOkP; omega)]
        rw [vrun_v Try.func45 rfl rfl rfl]; simp only [Try.f45]
        simp (implicitDefEqProofs := false) (disch := omega) [go_sem, tab45, m0]
    · by_cases k2 : k = 2
      · subst k2
        by_cases m0 : m = 0
        · by_cases e0 : e = 0
          · rw [flT (by unfold flOkP; omega)]
            rw [vrun_v Try.func45 rfl rfl rfl]; simp only [Try.f45]
            simp (implicitDefEqProofs := false) (disch := omega) [go_sem, tab45, m0, e0]
          · rw [flF (by unfold flOkP; omega)]
            rw [vrun_v Try.func45 rfl rfl rfl]; simp only [Try.f45]
            simp (implicitDefEqProofs := false) (disch := omega) [go_sem, tab45, m0, e0]
        · rw [flF (by unfold flOkP; omega)]
          rw [vrun_v Try.func45 rfl rfl rfl]; simp only [Try.f45]
          simp (implicitDefEqProofs := false) (disch := omega) [go_sem, tab45, m0]
      · by_cases k3 : k = 3
        · subst k3
          by_cases m0 : m = 0
          · by_cases e0 : e = 0
            · cases n
              · rw [flT (by unfold flOkP; simp [m0, e0])]
                rw [vrun_v Try.func45 rfl rfl rfl]; simp only [Try.f45]
                simp (implicitDefEqProofs := false) (disch := omega) [go_sem, tab45, m0, e0]
              · rw [flF (by unfold flOkP; simp)]
                rw [vrun_v Try.func45 rfl rfl rfl]; simp only [Try.f45]
                simp (implicitDefEqProofs := false) (disch := omega) [go_sem, tab45, m0, e0]
            · rw [flF (by unfold flOkP; omega)]
              rw [vrun_v Try.func45 rfl rfl rfl]; simp only [Try.f45]
              simp (implicitDefEqProofs := false) (disch := omega) [go_sem, tab45, m0, e0]
          · rw [flF (by unfold flOkP; omega)]
            rw [vrun_v Try.func45 rfl rfl rfl]; simp only [Try.f45]
            simp (implicitDefEqProofs := false) (disch := omega) [go_sem, tab45, m0]
        · rw [flF (by unfold flOkP; omega)]
          rw [vrun_v Try.func45 rfl rfl rfl]; simp only [Try.f45]
          simp (implicitDefEqProofs := false) (disch := omega) [go_sem, tab45, k0, k1, k2, k3]
/-! ### one float in a list -/
def ixFS (c : List V) (g : Nat) (caps : List V) (j : Nat) : VE × VH := ([(0, some (.cells 4 1 c)), (1, some (.fn (.func g) [] caps)), (7, some (.int .i64 1)), (8, some (.int .i64 j))], [])
theorem ixFl_v {c0 c1 c2 c3 : V} {g : Nat} {caps : List V} {b : Bool} {d : Nat} (hg : kn.cf.pure g = true) (hg2 : kn.ali g = false) (hc : ∀ h, omap (vfrz h 6) caps = some caps) (hf : ∀ h, omap (vfrz h 5) [c0, c1, c2, c3] = some [c0, c1, c2, c3]) (hp : vrun Try.prog kn d g (vnrmAs (kn.args g) (.agg [c0, c1, c2, c3] :: caps)) [] = some (.bool b, [])) :
    vrun Try.prog kn (d + 1) 119 [.cells 4 1 [c0, c1, c2, c3], .fn (.func g) [] caps] [] = some (.int .i64 (if b then 0 else -1), []) := by
  rw [k_cf] at hg
  simp only [go_sem] at hf
  cases b
  · have h1 : vCode Try.prog kn (vrun Try.prog kn d) 119 (loopAt Try.f119 0) (ixFS [c0, c1, c2, c3] g caps 0).1 (ixFS [c0, c1, c2, c3] g caps 0).2 = some (.norm, ixFS [c0, c1, c2, c3] g caps 1) := by
      rw [round_v]; simp only [loopAt, nthC, bodyC, loops, List.nil_append, List.cons_append, List.append_nil, Try.f119, ixFS]
      simp (implicitDefEqProofs := false) (disch := omega) [go_sem, tab119, hg, hg2, hc, hf, hp]
    have h2 : vCode Try.prog kn (vrun Try.prog kn d) 119 (loopAt Try.f119 0) (ixFS [c0, c1, c2, c3] g caps 1).1 (ixFS [c0, c1, c2, c3] g caps 1).2 = some (.exit 0, (ixFS [c0, c1, c2, c3] g caps 1).1 ++ [(9, some (.bool false))], []) := by
      rw [round_v]; simp only [loopAt, nthC, bodyC, loops, List.nil_append, List.cons_append, List.append_nil, Try.f119, ixFS]
      simp (implicitDefEqProofs := false) (disch := omega) [go_sem, tab119]
    have hr0 : ∀ j, j < 1 → vCode Try.prog kn (vrun Try.prog kn d) 119 (loopAt Try.f119 0) (ixFS [c0, c1, c2, c3] g caps j).1 (ixFS [c0, c1, c2, c3] g caps j).2 = some (.norm, ixFS [c0, c1, c2, c3] g caps (j + 1)) := fun j hj => by
      obtain rfl : j = 0 := by omega
      exact h1
    have hl0 := fun ks => loop_v (P := Try.prog) (K := kn) (ks := ks) (vi_for (ixFS [c0, c1, c2, c3] g caps) 1 (n := kn.cf.rounds) (by rw [k_cf, c_rounds]; omega) hr0 fun m => vi_exit h2)
    simp only [loopAt, nthC, bodyC, loops, List.nil_append, List.cons_append, List.append_nil, Try.f119, ixFS, Int.natCast_zero, List.cons_append, List.nil_append] at hl0
    rw [vrun_v Try.func119 rfl rfl rfl]; simp only [Try.f119]
    simp (implicitDefEqProofs := false) (disch := omega) [go_sem, tab119, hl0]
  · have h1 : vCode Try.prog kn (vrun Try.prog kn d) 119 (loopAt Try.f119 0) (ixFS [c0, c1, c2, c3] g caps 0).1 (ixFS [c0, c1, c2, c3] g caps 0).2 = some (.ret, [(4, some (.int .i64 0))], []) := by
      rw [round_v]; simp only [loopAt, nthC, bodyC, loops, List.nil_append, List.cons_append, List.append_nil, Try.f119, ixFS]
      simp (implicitDefEqProofs := false) (disch := omega) [go_sem, tab119, hg, hg2, hc, hf, hp]
    have hl0 := fun ks => loop_v (P := Try.prog) (K := kn) (ks := ks) (vi_for (ixFS [c0, c1, c2, c3] g caps) 0 (n := kn.cf.rounds) (by rw [k_cf, c_rounds]; omega) (fun j hj => absurd hj (by omega)) fun m => vi_ret h1)
    simp only [loopAt, nthC, bodyC, loops, List.nil_append, List.cons_append, List.append_nil, Try.f119, ixFS, Int.natCast_zero, List.cons_append, List.nil_append] at hl0
    rw [vrun_v Try.func119 rfl rfl rfl]; simp only [Try.f119]
    simp (implicitDefEqProofs := false) (disch := omega) [go_sem, tab119, hl0]
theorem areFloats_v (d : Nat) : vrun Try.prog kn (d + 7) 51 [.int .i64 mode, .cells 4 1 [.int .i64 k, .bool n, .int .i64 m, .int .i64 e]] [] = some (.bool ((decide (0 ≤ mode) && decide (mode ≤ 4)) && decide (flOkP k n m e)), []) := by
  have hm := fun d => isMode_v (mode := mode) d
  have h0 := fun d => FlOk_v (k := k) (n := n) (m := m) (e := e) d
  generalize decide (flOkP k n m e) = ok at *
  have h1 : ∀ d, vrun Try.prog kn (d + 1 + 2) 111 [.agg [.int .i64 k, .bool n, .int .i64 m, .int .i64 e], .fptr [.fn (.func 96) [] []]] [] = some (.bool (!ok), []) := fun d => by
    rw [vrun_v Try.func111 rfl rfl rfl]; simp only [Try.f111]
    simp (implicitDefEqProofs := false) (disch := omega) [go_sem, tab111, h0]
  have h2 := fun d => ixFl_v (g := 111) (caps := [.fptr [.fn (.func 96) [] []]]) (b := !ok) (d := d + 1 + 2) (c0 := .int .i64 k) (c1 := .bool n) (c2 := .int .i64 m) (c3 := .int .i64 e) c_pure111 rfl (fun h => by simp [go_sem]) (fun h => by simp [go_sem]) (by simp only [go_sem, k_args111]; exact h1 d)
  have h3 : ∀ d, vrun Try.prog kn (d + 3 + 2) 110 [.cells 4 1 [.int .i64 k, .bool n, .int .i64 m, .int .i64 e], .fn (.func 111) [] [.fptr [.fn (.func 96) [] []]]] [] = some (.bool (!ok), []) := fun d => by
    rw [vrun_v Try.func110 rfl rfl rfl]; simp only [Try.f110]
    cases ok <;> simp (implicitDefEqProofs := false) (disch := omega) [go_sem, tab110, h2]
  have h4 : ∀ d, vrun Try.prog kn (d + 4 + 2) 95 [.cells 4 1 [.int .i64 k, .bool n, .int .i64 m, .int .i64 e], .fn (.func 96) [] []] [] = some (.bool ok, []) := fun d => by
    rw [vrun_v Try.func95 rfl rfl rfl]; simp only [Try.f95]
    simp (implicitDefEqProofs := false) (disch := omega) [go_sem, tab95, h3]
  generalize (decide (0 ≤ mode) && decide (mode ≤ 4)) = f at *
  rw [vrun_v Try.func51 rfl rfl rfl]; simp only [Try.f51]
  cases f <;> simp (implicitDefEqProofs := false) (disch := omega) [go_sem, tab51, hm, h4]
end
end
/- FlToInt, program and reference. No conditions. -/
section
open Num
theorem tz_div {a : Nat} (h0 : a ≠ 0) : a = 2 ^ tz a * (a / 2 ^ tz a) ∧ a / 2 ^ tz a % 2 = 1 ∧ a / 2 ^ tz a ≠ 0 := by
  have hb := tz_bit h0
  obtain ⟨o, ho⟩ := tz_spec h0
  have e : a / 2 ^ tz a = 2 * o + 1 := by
    conv => lhs; lhs; rw [ho]
    exact Nat.mul_div_cancel_left _ (Nat.two_pow_pos _)
  refine ⟨by rw [e]; exact ho, hb, by omega⟩
/-- What is rounded: a magnitude times a power of two, to a whole number. -/
def toI (n : Bool) (a : Nat) (e : Int) (mode : Int) : Nat := if 0 ≤ e ∨ a = 0 then a * 2 ^ e.toNat else qR n a (2 ^ (0 - e).toNat) mode
theorem cmpI_scale {a b p : Nat} (hp : 0 < p) : cmpI (p * a) (p * b) = cmpI a b := by
  unfold cmpI
  by_cases h : a < b
  · rw [if_pos h, if_pos (Nat.mul_lt_mul_of_pos_left h hp)]
  · by_cases h2 : a = b
    · subst h2; simp
    · have h3 : p * b < p * a := Nat.mul_lt_mul_of_pos_left (by omega) hp
      rw [if_neg h, if_neg h2, if_neg (by omega), if_neg (by omega)]
theorem qR_odd' {n : Bool} {a k : Nat} {mode : Int} (ho : a % 2 = 1) (hk : 0 < k) : qR n a (2 ^ k) mode = qS n a k mode ∧ ¬ a % 2 ^ k = 0 := by
  have h : ¬ a % 2 ^ k = 0 := fun h => by
    have e : 2 ^ k = 2 * 2 ^ (k - 1) := by rw [← Nat.pow_succ']; congr 1; omega
    have := Nat.div_add_mod a (2 ^ k)
    rw [h, e, Nat.add_zero, Nat.mul_assoc] at this
    omega
  refine ⟨?_, h⟩
  unfold qR qS; rw [if_neg h]
/-- The reference rounds what is in its one form. -/
theorem toI_odd {n : Bool} {a : Nat} {e mode : Int} (h0 : a ≠ 0) :
    (0 ≤ e + tz a → toI n a e mode = a / 2 ^ tz a * 2 ^ (e + tz a).toNat) ∧ (¬ 0 ≤ e + tz a → toI n a e mode = qS n (a / 2 ^ tz a) (0 - (e + tz a)).toNat mode) := by
  obtain ⟨e1, e2, e3⟩ := tz_div h0
  generalize a / 2 ^ tz a = b at *
  generalize tz a = t at *
  unfold toI
  constructor
  · intro h
    by_cases he : 0 ≤ e
    · rw [if_pos (.inl he), e1, show (e + (t : Int)).toNat = t + e.toNat by omega, Nat.pow_add]
      rw [Nat.mul_comm (2 ^ t) b, Nat.mul_assoc]
    · rw [if_neg (by omega)]
      have e4 : 2 ^ t = 2 ^ (0 - e).toNat * 2 ^ (e + (t : Int)).toNat := by rw [← Nat.pow_add]; congr 1; omega
      have e5 : a = 2 ^ (0 - e).toNat * (b * 2 ^ (e + (t : Int)).toNat) := by
        conv => lhs; rw [e1, e4]
        rw [Nat.mul_assoc, Nat.mul_comm (2 ^ (e + (t : Int)).toNat)]
      unfold qR
      rw [if_pos (by rw [e5]; exact Nat.mul_mod_right _ _)]
      conv => lhs; lhs; rw [e5]
      exact Nat.mul_div_cancel_left _ (Nat.two_pow_pos _)
  · intro h
    rw [if_neg (by omega)]
    have e4 : 2 ^ (0 - e).toNat = 2 ^ t * 2 ^ (0 - (e + (t : Int))).toNat := by rw [← Nat.pow_add]; congr 1; omega
    have hk : 0 < (0 - (e + (t : Int))).toNat := by omega
    generalize (0 - (e + (t : Int))).toNat = k at *
    obtain ⟨_, g2⟩ := qR_odd' (n := n) (a := b) (k := k) (mode := mode) e2 hk
    have m1 : a % (2 ^ t * 2 ^ k) = 2 ^ t * (b % 2 ^ k) := by
      conv => lhs; lhs; rw [e1]
      exact Nat.mul_mod_mul_left _ _ _
    have m2 : a / (2 ^ t * 2 ^ k) = b / 2 ^ k := by
      conv => lhs; lhs; rw [e1]
      exact Nat.mul_div_mul_left _ _ (Nat.two_pow_pos _)
    have hnz : ¬ 2 ^ t * (b % 2 ^ k) = 0 := by
      intro hz
      rcases Nat.mul_eq_zero.1 hz with hz | hz
      · have := Nat.two_pow_pos t; omega
      · exact g2 hz
    unfold qR qS
    rw [e4, m1, m2, if_neg hnz, Nat.mul_assoc, cmpI_scale (Nat.two_pow_pos _)]
theorem mkD_val {n : Bool} {v : Nat} {e : Int} (h0 : v ≠ 0) : mkD n v e = ⟨n, D (v / 2 ^ tz v), e + tz v⟩ := by unfold mkD; rw [if_neg h0]
section
variable {k m e mode : Int} {n : Bool}
theorem isFinite_v (d : Nat) : vrun Try.prog kn (d + 1) 52 [.agg [.int .i64 k, .bool n, .int .i64 m, .int .i64 e]] [] = some (.bool (decide (k = 0) || decide (k = 1)), []) := by
  by_cases h : k = 0
  · rw [vrun_v Try.func52 rfl rfl rfl]; simp only [Try.f52]
    simp (implicitDefEqProofs := false) (disch := omega) [go_sem, tab52, h]
  · by_cases h' : k = 1
    · rw [vrun_v Try.func52 rfl rfl rfl]; simp only [Try.f52]
      simp (implicitDefEqProofs := false) (disch := omega) [go_sem, tab52, h']
    · rw [vrun_v Try.func52 rfl rfl rfl]; simp only [Try.f52]
      simp (implicitDefEqProofs := false) (disch := omega) [go_sem, tab52, h, h']
theorem flExact_v (d : Nat) {a : Nat} (ha : a < 9223372036854775808) : vrun Try.prog kn (d + 2) 53 [.agg [.int .i64 k, .bool n, .int .i64 (a : Int), .int .i64 e]] [] = some (.agg [.bool (n && decide (k = 1)), .sl 0 0 (D a).length 1, .int .i64 e], [.ints true .i64 (D a)]) := by
  have h1 := fun d => small_v (n := a) d ha
  have hl : (D a).length ≤ 4 := len_D_le.2 (by omega)
  by_cases h : k = 1
  · rw [vrun_v Try.func53 rfl rfl rfl]; simp only [Try.f53]
    cases n <;> simp (implicitDefEqProofs := false) (disch := omega) [go_sem, tab53, h, h1]
  · rw [vrun_v Try.func53 rfl rfl rfl]; simp only [Try.f53]
    cases n <;> simp (implicitDefEqProofs := false) (disch := omega) [go_sem, tab53, h, h1]
theorem l5dy_v (d : Nat) {a : Nat} (ha : a < 9223372036854775808) (he : -100000 ≤ e) (he' : e ≤ 100000) : vrun Try.prog kn (d + 5) 48 [.agg [.int .i64 k, .bool n, .int .i64 (a : Int), .int .i64 e]] [] = some (.agg (if k = 1 then mkD n a e else ⟨false, [], 0⟩).v, []) := by
  have h1 := fun d => l2of_v (n := a) d ha
  have hl : (D a).length ≤ 4 := len_D_le.2 (by omega)
  have h2 := fun d => l3make_v (n := n) (a := a) d (by omega)
  have h3 := fun d => l4make_v (n := n && decide (a ≠ 0)) (a := a) (e := e) d (by omega) (by omega) (by omega)
  rw [mkD_and] at h3
  by_cases h : k = 1
  · rw [if_pos h]
    generalize mkD n a e = r at *
    generalize (n && decide (a ≠ 0)) = s at *
    unfold DyT.v at *
    rw [vrun_v Try.func48 rfl rfl rfl]; simp only [Try.f48]
    simp (implicitDefEqProofs := false) (disch := omega) [go_sem, tab48, h, h1, h2, h3]
  · rw [if_neg h]
    unfold DyT.v
    rw [vrun_v Try.func48 rfl rfl rfl]; simp only [Try.f48]
    simp (implicitDefEqProofs := false) (disch := omega) [go_sem, tab48, h]
def fiOk (k : Int) (n : Bool) (m e mode : Int) : Bool := (decide (0 ≤ mode) && decide (mode ≤ 4)) && decide (flOkP k n m e) && (decide (k = 0) || decide (k = 1))
def fiV (k : Int) (n : Bool) (m e mode : Int) : Nat := if fiOk k n m e mode then toI (n && decide (k = 1)) m.toNat e mode else 0
theorem qR_lt {n : Bool} {a b : Nat} {mode : Int} : qR n a b mode ≤ a + 1 := Nat.le_trans qR_le (Nat.succ_le_succ (Nat.div_le_self _ _))
theorem toI_len {n : Bool} {a : Nat} {e mode : Int} (ha : a < 9007199254740992) (he' : e ≤ 971) : (D (toI n a e mode)).length ≤ 80 := by
  have hl : (D a).length ≤ 4 := len_D_le.2 (by omega)
  unfold toI
  split
  · have := len_shl a e.toNat; omega
  · have h1 := len_D_mono (qR_lt (n := n) (a := a) (b := 2 ^ (0 - e).toNat) (mode := mode))
    have : (D (a + 1)).length ≤ 4 := len_D_le.2 (by omega)
    omega
theorem fi_fin {k m e mode : Int} {n : Bool} (h : fiOk k n m e mode = true) : (0 ≤ mode ∧ mode ≤ 4) ∧ 0 ≤ m ∧ m < 9007199254740992 ∧ -1074 ≤ e ∧ e ≤ 971 ∧ (k = 0 ∨ k = 1) ∧ (k = 0 → m = 0 ∧ e = 0) ∧ (k = 1 → 1 ≤ m) := by
  unfold fiOk at h
  simp only [Bool.and_eq_true, Bool.or_eq_true, decide_eq_true_eq] at h
  obtain ⟨⟨⟨h1, h2⟩, h3⟩, h4⟩ := h
  unfold flOkP at h3
  omega
set_option maxHeartbeats 8000000 in
theorem FlToInt_v (d : Nat) : vrun Try.prog kn (d + 8) 22 [.agg [.int .i64 k, .bool n, .int .i64 m, .int .i64 e], .int .i64 mode] [] = some (.tup [.agg [.bool (n && decide (k = 1) && decide (fiV k n m e mode ≠ 0)), .sl 0 0 (D (fiV k n m e mode)).length 1], .bool (fiOk k n m e mode)], [.ints true .i64 (D (fiV k n m e mode))]) := by
  have a1 := fun d => areFloats_v (k := k) (n := n) (m := m) (e := e) (mode := mode) d
  have a2 := fun d => isFinite_v (k := k) (n := n) (m := m) (e := e) d
  cases hq : fiOk k n m e mode with
  | false =>
    have ev : fiV k n m e mode = 0 := by unfold fiV; rw [hq]; rfl
    rw [ev, D_zero]
    unfold fiOk at hq
    cases h1 : ((decide (0 ≤ mode) && decide (mode ≤ 4)) && decide (flOkP k n m e)) with
    | false =>
      rw [h1] at a1
      rw [vrun_v Try.func22 rfl rfl rfl]; simp only [Try.f22]
      simp (implicitDefEqProofs := false) (disch := omega) [go_sem, tab22, a1]
    | true =>
      rw [h1, Bool.true_and] at hq
      rw [h1] at a1
      rw [hq] at a2
      rw [vrun_v Try.func22 rfl rfl rfl]; simp only [Try.f22]
      simp (implicitDefEqProofs := false) (disch := omega) [go_sem, tab22, a1, a2]
  | true =>
    obtain ⟨hm, m0, m1, e0, e1, hk, hk0, hk1⟩ := fi_fin hq
    have hq' := hq
    unfold fiOk at hq'
    rw [Bool.and_eq_true] at hq'
    rw [hq'.1] at a1
    rw [hq'.2] at a2
    have ev : fiV k n m e mode = toI (n && decide (k = 1)) m.toNat e mode := by unfold fiV; rw [hq]; rfl
    have em : ((m.toNat : Nat) : Int) = m := by omega
    have b1 := fun d => flExact_v (k := k) (n := n) (e := e) (a := m.toNat) d (by omega)
    rw [em] at b1
    have hlm : (D m.toNat).length ≤ 4 := len_D_le.2 (by omega)
    have b2 := fun d => rounded_v (n := n && decide (k = 1)) (a := m.toNat) (ex := e) (low := 0) (mode := mode) d (by omega) (by omega) (by omega) (by omega) (by omega)
    have hlen := toI_len (n := n && decide (k = 1)) (a := m.toNat) (e := e) (mode := mode) (by omega) e1
    rw [ev]
    generalize hs : (n && decide (k = 1)) = s at *
    have w1 := fun v d => wholeOf_v d v (l := D (toI s m.toNat e mode)) (by omega)
    have ef : fitL (D (toI s m.toNat e mode)) = D (toI s m.toNat e mode) := by unfold fitL; rw [if_pos (by omega)]
    have el : decide ((D (toI s m.toNat e mode)).length ≤ 100) = true := decide_eq_true (by omega)
    have ez : decide ((D (toI s m.toNat e mode)).length = 0) = decide (toI s m.toNat e mode = 0) := by
      by_cases h : toI s m.toNat e mode = 0
      · rw [h, D_zero]; rfl
      · rw [decide_eq_false h, decide_eq_false fun q => h (D_nil_iff.1 (List.eq_nil_of_length_eq_zero q))]
    rw [ef, el, ez] at w1
    simp only [Bool.and_true] at w1
    have hnz : (!decide (toI s m.toNat e mode = 0)) = decide (toI s m.toNat e mode ≠ 0) := by by_cases h : toI s m.toNat e mode = 0 <;> simp [h]
    rw [hnz] at w1
    by_cases hc : 0 ≤ e ∨ m.toNat = 0
    · rw [if_pos hc] at b2
      have u1 := fun d => up_v (x := m.toNat) (k := e.toNat) d (by omega) (by omega)
      have ee : ((e.toNat : Nat) : Int) = e := by
        rcases hc with hc | hc
        · omega
        · rcases hk with hk | hk
          · have := hk0 hk; omega
          · have := hk1 hk; omega
      have et : toI s m.toNat e mode = m.toNat * 2 ^ e.toNat := by unfold toI; rw [if_pos hc]
      rw [ee, ← et] at u1
      generalize toI s m.toNat e mode = T at *
      generalize decide (T ≠ 0) = z at *
      clear em hs
      generalize D m.toNat = M at *
      rw [vrun_v Try.func22 rfl rfl rfl]; simp only [Try.f22]
      simp (implicitDefEqProofs := false) (disch := omega) [go_sem, tab22, a1, a2, b1, b2, u1, w1]
    · rw [if_neg hc] at b2
      have et : toI s m.toNat e mode = qR s m.toNat (2 ^ (0 - e).toNat) mode := by unfold toI; rw [if_neg hc]
      rw [← et] at b2
      have u1 := fun d => up_v (x := toI s m.toNat e mode) (k := 0) d (by omega) (by omega)
      rw [Nat.pow_zero, Nat.mul_one] at u1
      simp only [Int.natCast_zero] at u1
      have w2 := w1 (s && decide (toI s m.toNat e mode ≠ 0))
      have hss : (s && decide (toI s m.toNat e mode ≠ 0) && decide (toI s m.toNat e mode ≠ 0)) = (s && decide (toI s m.toNat e mode ≠ 0)) := by cases s <;> simp
      rw [hss] at w2
      generalize (s && decide (toI s m.toNat e mode ≠ 0)) = z at *
      generalize decide (m.toNat % 2 ^ (0 - e).toNat = 0) = f at *
      generalize toI s m.toNat e mode = T at *
      clear em hs
      generalize D m.toNat = M at *
      rw [vrun_v Try.func22 rfl rfl rfl]; simp only [Try.f22]
      simp (implicitDefEqProofs := false) (disch := omega) [go_sem, tab22, a1, a2, b1, b2, u1, w2]
set_option maxHeartbeats 8000000 in
theorem sFlToInt_v (d : Nat) : vrun Try.prog kn (d + 6) 20 [.agg [.int .i64 k, .bool n, .int .i64 m, .int .i64 e], .int .i64 mode] [] = some (.tup [.agg [.bool (n && decide (k = 1) && decide (fiV k n m e mode ≠ 0)), .ints .i64 (D (fiV k n m e mode))], .bool (fiOk k n m e mode)], []) := by
  have a1 := fun d => sFlOk_v (k := k) (n := n) (m := m) (e := e) d
  have a2 := fun d => l4mode_v (mode := mode) d
  cases hq : fiOk k n m e mode with
  | false =>
    have ev : fiV k n m e mode = 0 := by unfold fiV; rw [hq]; rfl
    rw [ev, D_zero]
    by_cases h1 : flOkP k n m e
    · rw [decide_eq_true h1] at a1
      by_cases h2 : 2 ≤ k
      · rw [vrun_v Try.func20 rfl rfl rfl]; simp only [Try.f20]
        simp (implicitDefEqProofs := false) (disch := omega) [go_sem, tab20, a1, h2]
      · have h3 : (decide (0 ≤ mode) && decide (mode ≤ 4)) = false := by
          have hk : (decide (k = 0) || decide (k = 1)) = true := by unfold flOkP at h1; simp; omega
          unfold fiOk at hq
          rw [decide_eq_true h1, hk] at hq
          simpa using hq
        rw [h3] at a2
        rw [vrun_v Try.func20 rfl rfl rfl]; simp only [Try.f20]
        simp (implicitDefEqProofs := false) (disch := omega) [go_sem, tab20, a1, a2, h2]
    · rw [decide_eq_false h1] at a1
      rw [vrun_v Try.func20 rfl rfl rfl]; simp only [Try.f20]
      simp (implicitDefEqProofs := false) (disch := omega) [go_sem, tab20, a1]
  | true =>
    obtain ⟨hm, m0, m1, e0, e1, hk, hk0, hk1⟩ := fi_fin hq
    have hq' := hq
    unfold fiOk at hq'
    rw [Bool.and_eq_true, Bool.and_eq_true] at hq'
    obtain ⟨⟨g1, g2⟩, g3⟩ := hq'
    rw [g1] at a2
    rw [g2] at a1
    have ev : fiV k n m e mode = toI (n && decide (k = 1)) m.toNat e mode := by unfold fiV; rw [hq]; rfl
    have em : ((m.toNat : Nat) : Int) = m := by omega
    have b1 := fun d => l5dy_v (k := k) (n := n) (e := e) (a := m.toNat) d (by omega) (by omega) (by omega)
    rw [em] at b1
    have hlm : (D m.toNat).length ≤ 4 := len_D_le.2 (by omega)
    have hlen := toI_len (n := n && decide (k = 1)) (a := m.toNat) (e := e) (mode := mode) (by omega) e1
    rw [ev]
    rcases hk with rfl | rfl
    · obtain ⟨rfl, rfl⟩ := hk0 rfl
      rw [if_neg (by omega)] at b1
      have b2 := fun d => l4round_v (n := false) (a := 0) (ex := 0) (low := 0) (mode := mode) d (by rw [D_zero]; simp) (by omega) (by omega) (by omega) (by omega) hm.1 hm.2
      rw [if_pos (.inl (Int.le_refl _)), D_zero] at b2
      have et : toI (n && decide ((0 : Int) = 1)) (Int.toNat 0) 0 mode = 0 := by simp [toI]
      rw [et, D_zero]
      unfold DyT.v at b1
      rw [vrun_v Try.func20 rfl rfl rfl]; simp only [Try.f20]
      simp (implicitDefEqProofs := false) (disch := omega) [go_sem, tab20, a1, a2, b1, b2]
    · have hm1 := hk1 rfl
      have hM0 : m.toNat ≠ 0 := by omega
      rw [if_pos rfl, mkD_val hM0] at b1
      rw [decide_eq_true (rfl : (1 : Int) = 1), Bool.and_true] at *
      obtain ⟨t1, t2⟩ := toI_odd (n := n) (a := m.toNat) (e := e) (mode := mode) hM0
      obtain ⟨d1, d2, d3⟩ := tz_div hM0
      have htl := tz_lt hM0
      have hbl := len_D_mono (Nat.div_le_self m.toNat (2 ^ tz m.toNat))
      have b2 := fun d => l4round_v (n := n) (a := m.toNat / 2 ^ tz m.toNat) (ex := e + tz m.toNat) (low := 0) (mode := mode) d (by omega) (by omega) (by omega) (by omega) (by omega) hm.1 hm.2
      unfold DyT.v at b1
      by_cases hc : 0 ≤ e + (tz m.toNat : Int)
      · rw [if_pos (.inl hc)] at b2
        have u1 := fun d => l2shl_v (x := m.toNat / 2 ^ tz m.toNat) (k := (e + (tz m.toNat : Int)).toNat) d (by omega) (by omega)
        rw [← t1 hc, show (((e + (tz m.toNat : Int)).toNat : Nat) : Int) = e + (tz m.toNat : Int) by omega] at u1
        have w1 := fun d => l3make_v (n := n) (a := toI n m.toNat e mode) d (by omega)
        have hnn : ¬ D (m.toNat / 2 ^ tz m.toNat) = [] := fun q => d3 (D_nil_iff.1 q)
        clear em t1 t2 d1
        generalize toI n m.toNat e mode = T at *
        generalize (n && decide (T ≠ 0)) = z at *
        generalize D (m.toNat / 2 ^ tz m.toNat) = B at *
        generalize e + (tz m.toNat : Int) = E at *
        rw [vrun_v Try.func20 rfl rfl rfl]; simp only [Try.f20]
        simp (implicitDefEqProofs := false) (disch := omega) [go_sem, tab20, a1, a2, b1, b2, u1, w1, hnn]
      · rw [if_neg (by omega), ← t2 hc] at b2
        clear em t1 t2 d1
        generalize D (m.toNat / 2 ^ tz m.toNat) = B at *
        generalize e + (tz m.toNat : Int) = E at *
        generalize toI n m.toNat e mode = T at *
        by_cases hT : T = 0
        · subst hT
          simp only [mkD, if_true] at b2
          unfold DyT.v at b2
          rw [D_zero]
          rw [vrun_v Try.func20 rfl rfl rfl]; simp only [Try.f20]
          simp (implicitDefEqProofs := false) (disch := omega) [go_sem, tab20, a1, a2, b1, b2]
        · rw [mkD_val hT] at b2
          unfold DyT.v at b2
          obtain ⟨v1, v2, v3⟩ := tz_div hT
          have htl2 := tz_lt hT
          have hvl := len_D_mono (Nat.div_le_self T (2 ^ tz T))
          have u1 := fun d => l2shl_v (x := T / 2 ^ tz T) (k := tz T) d (by omega) (by omega)
          rw [show T / 2 ^ tz T * 2 ^ tz T = T by rw [Nat.mul_comm]; exact v1.symm] at u1
          have w1 := fun d => l3make_v (n := n) (a := T) d (by omega)
          have hnn : ¬ D (T / 2 ^ tz T) = [] := fun q => v3 (D_nil_iff.1 q)
          have hz0 : (0 : Int) + (tz T : Int) = tz T := by omega
          rw [hz0] at b2
          clear v1
          generalize (n && decide (T ≠ 0)) = z at *
          generalize D (T / 2 ^ tz T) = B2 at *
          generalize (tz T : Int) = E2 at *
          rw [vrun_v Try.func20 rfl rfl rfl]; simp only [Try.f20]
          simp (implicitDefEqProofs := false) (disch := omega) [go_sem, tab20, a1, a2, b1, b2, u1, w1, hnn]
end
end
end Go.Eng
