/- Rounding, program and reference. No conditions. -/
import Derived.Test.YtnkhamahhgfbhaaDoorDiv5
import Derived.Test.YtnkhamahhgfbhaaDoorEx3
set_option linter.unusedVariables false
set_option linter.unusedSimpArgs false
namespace Go.Eng
open Go.Proofs
set_option maxRecDepth 100000
set_option linter.unusedSimpArgs false
attribute [local go_sem] r_seq r_skip r_retC r_exitC r_label r_block r_region r_regionW r_xWt r_xW r_cond r_Bt r_Bf r_Ncode r_Nret r_Nexit r_Nblk r_Nblkr r_Nblke r_Nnil r_Es r_Onil r_Oop r_Oif r_Xs r_Gt r_Gf r_wtt r_wtf r_wft r_wff r_wu r_gO r_putS r_putN r_get r_keepN r_keepC r_fr r_fn r_fi r_ff r_fo r_l1 r_l2t r_cun r_cul r_cub r_cui r_cus r_cuis r_cuc r_cusl r_cuti r_cutv r_ven r_vec r_l2f r_l3 r_t1 r_t2 r_t0 r_rt r_rc r_en r_ec r_cM r_oN r_oC r_end r_endt r_endf r_nob0 r_nobN r_nobC r_nobE r_nb0 r_nbi r_nbs r_nbsl r_nbin r_nbce r_nLn r_nLv r_nLc r_nAa r_nAn r_nAk_b r_nAk_i r_nAk_s r_nAk_n r_nAk_is r_nAk_ce r_nAk_fp r_nAk_sl r_nAk_pt r_nAk_fn r_nsn r_nsv r_nsc r_m0 r_mi r_ms r_msl r_min r_mce r_mLn r_mLv r_mLc r_mAa r_mAn r_mAk_b r_mAk_i r_mAk_s r_mAk_n r_mAk_is r_mAk_ce r_mAk_fp r_mAk_sl r_mAk_pt r_mAk_fn r_msn r_msv r_msc r_atb r_ati r_ats r_atn r_atis r_atc r_atf r_atl r_atp r_atfn r_gcn r_gcc r_gLn r_gLc r_gIt r_ndn r_ndc r_gcB r_gLB r_two r_rea r_rea0 r_re1n r_re1c r_ori r_orv r_ord r_orn r_adn r_adc r_ad1 r_ern r_ers r_er0 r_rsl r_rptr r_rb r_ri r_rs r_rn r_ris r_rce r_rfp r_ra4 r_ra3 r_rt4 r_rf4 r_rf3 r_idS r_idc r_nS r_nP r_nF r_nT r_vsl r_vptr r_vb r_vi r_vs r_vn r_vis r_vce r_vfp r_va4 r_va3 r_vt4 r_vf4 r_vf3 r_rV r_Oi r_Ov r_Od r_rE r_rE0 r_En r_Ec r_E0 r_pO r_pk r_agL r_cO r_fO r_fSi r_fSv r_fPv r_fsl r_fptr r_ffn r_fag r_fb r_fint r_fstr r_fnil r_fis r_fce r_ffp r_res r_move r_assign r_pick r_pickt r_pickf r_alloc r_box r_al r_build r_bslice r_load r_store r_nlc r_nl1 r_nl2 r_bin r_un r_conv r_mkf r_mks r_slc r_fad r_fld r_iad r_idx r_ext r_ex1 r_callf r_callt r_callen r_calapp r_calmax r_calmin r_vt r_vcb r_vci r_vcs r_vcn r_vca r_vcf r_vcg r_ofb r_ofi r_ofs r_ofn r_evs r_pn r_prt r_pc r_one_a r_one_b r_one_i r_one_s r_one_n r_one_is r_one_ce r_one_fp r_one_sl r_one_pt r_one_fn r_cs_a r_cs_b r_cs_i r_cs_s r_cs_n r_cs_is r_cs_ce r_cs_fp r_cs_sl r_cs_pt r_cs_fn r_tov r_tovA r_toc r_toa r_tb r_ti r_ts r_tn r_bd r_bd2 r_filn r_fp1 r_filc r_fsn r_fsc r_san r_sac r_bs2 r_bs1 r_newO r_mkq r_mkI r_mkOi r_mkOv r_tIn r_tIc r_repz r_repn r_ldp r_ldf r_l1t r_l1f r_lFt r_lFf r_aggO r_obj r_at r_ati' r_atv r_celli r_cellv r_subi r_subv r_sto r_sto1 r_sto2 r_sets r_setR r_setn r_setc r_s1i r_s1v r_bin1 r_bin2 r_tv1 r_cb r_ci r_cst r_cn r_csl r_cis r_cce r_uni r_unb r_cv r_cvi r_cvs r_cvb r_cvl r_sO r_rdn r_rdi r_rdl r_rdO r_vsub r_vfn r_mk r_mk1 r_mk2 r_zoi r_zov r_leni r_lenv r_bn r_bndV r_bo r_sl0 r_sl1 r_vsz r_ct1 r_cts r_cti r_ctc r_ctn r_lnl r_lni r_lnc r_lnn r_fa r_fap r_faf r_fi1 r_fit r_fif r_ixi r_ixs r_ixc r_ixf r_ixF r_ixF2 r_ix1 r_ixsl r_ixin r_ixce r_len1 r_lenA r_lTs r_lTn r_lTl r_lTi r_lTc r_app0 r_app r_app1 r_app2 r_app3 r_catO r_cati r_catv r_newt r_newf r_pair r_pairK r_trip r_kis r_kiv r_srn r_srl r_sri r_src r_srs r_oln r_oll r_vw r_wi r_wv r_mm r_max r_min' r_str r_cF r_c2t r_c3f r_c3t r_ab r_c2f r_cV r_p1 r_la r_la2t r_la2f r_la3 r_sh r_z_is r_z_ce r_z_fp r_z_b r_z_i r_z_s r_z_n r_z_l r_z_p r_z_a4 r_z_a3 r_z_t4 r_zoI r_zoV r_roN r_roC r_roi r_rod r_zod r_rov r_aR r_trOi r_trOv r_trPv r_trl r_trp r_trf r_tra r_trb r_tri r_trs r_trn r_tris r_trce r_trfp
attribute [local go_sem] b_add b_sub b_mul b_quo b_rem b_shl b_shr b_eql b_neq b_lss b_leq b_gtr b_geq eqB_s b_eqB b_neB u_neg u_not b_nn b_nn' eqS_s zerosT_s zerosT_n zt_i zt_sl zt_st dstOf_z dstOf_n iltT iltF ileT ileF ieqT ieqF nltT nltF nleT nleF neqT neqF tdiv_pos tmod_pos w64 idx0 List.take_of_length_le
open Num
/-- Is a magnitude rounded away from nought? -/
def rUp (n odd : Bool) (half mode : Int) : Bool := if mode = 2 then !n else if mode = 3 then n else if mode = 0 then decide (0 < half) || (decide (half = 0) && odd) else if mode = 4 then decide (0 ≤ half) else false
section
variable {a b k : Nat} {n : Bool} {ex low mode half : Int}
theorem roundUp_v (d : Nat) (odd : Bool) : vrun Tryd.prog kn (d + 1) 130 [.bool n, .bool odd, .int .i64 half, .int .i64 mode] [] = some (.bool (rUp n odd half mode), []) := by
  unfold rUp
  by_cases h2 : mode = 2
  · rw [vrun_v Tryd.func130 rfl rfl rfl]; simp only [Tryd.f130]
    simp (implicitDefEqProofs := false) (disch := omega) [go_sem, tab130, h2]
  · by_cases h3 : mode = 3
    · rw [vrun_v Tryd.func130 rfl rfl rfl]; simp only [Tryd.f130]
      simp (implicitDefEqProofs := false) (disch := omega) [go_sem, tab130, h3]
    · by_cases h0 : mode = 0
      · by_cases q1 : 0 < half
        · rw [vrun_v Tryd.func130 rfl rfl rfl]; simp only [Tryd.f130]
          simp (implicitDefEqProofs := false) (disch := omega) [go_sem, tab130, h0, q1]
        · by_cases q2 : half = 0
          · rw [vrun_v Tryd.func130 rfl rfl rfl]; simp only [Tryd.f130]
            simp (implicitDefEqProofs := false) (disch := omega) [go_sem, tab130, h0, q2]
          · rw [vrun_v Tryd.func130 rfl rfl rfl]; simp only [Tryd.f130]
            simp (implicitDefEqProofs := false) (disch := omega) [go_sem, tab130, h0, q1, q2]
      · by_cases h4 : mode = 4
        · by_cases q1 : 0 ≤ half
          · rw [vrun_v Tryd.func130 rfl rfl rfl]; simp only [Tryd.f130]
            simp (implicitDefEqProofs := false) (disch := omega) [go_sem, tab130, h4, q1]
          · rw [vrun_v Tryd.func130 rfl rfl rfl]; simp only [Tryd.f130]
            simp (implicitDefEqProofs := false) (disch := omega) [go_sem, tab130, h4, q1]
        · rw [vrun_v Tryd.func130 rfl rfl rfl]; simp only [Tryd.f130]
          simp (implicitDefEqProofs := false) (disch := omega) [go_sem, tab130, h2, h3, h0, h4]
/-- A quotient of magnitudes, rounded. -/
def qR (n : Bool) (a b : Nat) (mode : Int) : Nat := if a % b = 0 then a / b else if rUp n (decide (a / b % 2 = 1)) (cmpI (a % b * 2) b) mode then a / b + 1 else a / b
theorem qR_le : qR n a b mode ≤ a / b + 1 := by unfold qR; split <;> (try split) <;> omega
set_option maxHeartbeats 4000000 in
theorem roundQuotient_v (d : Nat) (ha : (D a).length < 200000) (hb : (D b).length < 200000) (h0 : b ≠ 0) : vrun Tryd.prog kn (d + 5) 113 [.bool n, .ints .i64 (D a), .ints .i64 (D b), .int .i64 mode] [] = some (.tup [.ints .i64 (D (qR n a b mode)), .bool (decide (a % b = 0))], []) := by
  have h1 := fun d => divide_v (x := a) (y := b) d (by omega) (by omega) h0
  have hl1 := len_D_mono (Nat.div_le_self a b)
  have hl2 := len_D_mono (Nat.mod_le a b)
  have h2 := fun d => bitOf_v (x := a / b) (k := 0) d (by omega) (by omega)
  have h3 := fun d => up_v (x := a % b) (k := 1) d (by omega) (by omega)
  have hl3 := len_shl (a % b) 1
  have h4 := fun d => compare_v (x := a % b * 2 ^ 1) (y := b) d (by omega) (by omega)
  have h5 := fun odd d => roundUp_v (n := n) (half := cmpI (a % b * 2 ^ 1) b) (mode := mode) d odd
  have h6 := fun d => small_v (n := 1) d (by omega)
  have hl4 : (D 1).length ≤ 1 := len_small (by omega)
  have h7 := fun d => plus_v (x := a / b) (y := 1) d (by omega) (by omega)
  have hl5 := len_add (x := a / b) (y := 1) (n := 200000) (by omega) (by omega)
  simp only [bit0, Int.natCast_zero] at h2
  have e2 : a % b * 2 ^ 1 = a % b * 2 := by rw [Nat.pow_one]
  rw [e2] at h3 h4 h5
  simp only [Int.natCast_one] at h3 h6
  unfold qR
  by_cases hz : a % b = 0
  · rw [hz, D_zero] at h1
    rw [vrun_v Tryd.func113 rfl rfl rfl]; simp only [Tryd.f113]
    simp (implicitDefEqProofs := false) (disch := omega) [go_sem, tab113, nil113, h1, hz]
  · have hn : ¬ D (a % b) = [] := fun h => hz (D_nil_iff.1 h)
    rw [if_neg hz]
    have h5' := h5 (decide (a / b % 2 = 1))
    clear h5
    by_cases hq : a / b % 2 = 1
    · rw [hq] at h2
      rw [decide_eq_true hq] at h5' ⊢
      generalize cmpI (a % b * 2) b = c at *
      generalize a % b * 2 = R2 at *
      cases hu : rUp n true c mode <;> rw [hu] at h5'
      all_goals
        rw [vrun_v Tryd.func113 rfl rfl rfl]; simp only [Tryd.f113]
        simp (implicitDefEqProofs := false) (disch := omega) [go_sem, tab113, nil113, h1, h2, h3, h4, h5', h6, h7, hn, hz, hu]
    · have hq' : a / b % 2 = 0 := by omega
      rw [hq'] at h2
      rw [decide_eq_false hq] at h5' ⊢
      generalize cmpI (a % b * 2) b = c at *
      generalize a % b * 2 = R2 at *
      cases hu : rUp n false c mode <;> rw [hu] at h5'
      all_goals
        rw [vrun_v Tryd.func113 rfl rfl rfl]; simp only [Tryd.f113]
        simp (implicitDefEqProofs := false) (disch := omega) [go_sem, tab113, nil113, h1, h2, h3, h4, h5', h6, h7, hn, hz, hu]
theorem isZero_v (d : Nat) (ha : (D a).length < 1000000) : vrun Tryd.prog kn (d + 1) 83 [.agg [.bool n, .ints .i64 (D a), .int .i64 ex]] [] = some (.bool (decide (a = 0)), []) := by
  by_cases h0 : a = 0
  · subst h0
    rw [D_zero]
    rw [vrun_v Tryd.func83 rfl rfl rfl]; simp only [Tryd.f83]
    simp (implicitDefEqProofs := false) (disch := omega) [go_sem, tab83]
  · have hn : ¬ D a = [] := fun h => h0 (D_nil_iff.1 h)
    rw [vrun_v Tryd.func83 rfl rfl rfl]; simp only [Tryd.f83]
    simp (implicitDefEqProofs := false) (disch := omega) [go_sem, tab83, hn, h0]
/-- Over one: to a multiple of a greater power of two. -/
theorem over1_v (d : Nat) (ha : (D a).length < 100000) (he : -100000 ≤ ex) (hl : low ≤ 100000) (hlt : ex < low) : vrun Tryd.prog kn (d + 6) 84 [.agg [.bool n, .ints .i64 (D a), .int .i64 ex], .agg [.bool false, .ints .i64 (D 1), .int .i64 0], .int .i64 low, .int .i64 mode] [] = some (.tup [.agg [.bool (n && decide (qR n a (2 ^ (low - ex).toNat) mode ≠ 0)), .ints .i64 (D (qR n a (2 ^ (low - ex).toNat) mode)), .int .i64 low], .bool (decide (a % 2 ^ (low - ex).toNat = 0))], []) := by
  have h1 := fun d => up_v (x := a) (k := 0) d (by omega) (by omega)
  rw [Nat.pow_zero, Nat.mul_one] at h1
  simp only [Int.natCast_zero] at h1
  have hl1 : (D 1).length ≤ 1 := len_small (by omega)
  have h2 := fun d => up_v (x := 1) (k := (low - ex).toNat) d (by omega) (by omega)
  rw [Nat.one_mul] at h2
  have e1 : (((low - ex).toNat : Nat) : Int) = low - ex := by omega
  rw [e1] at h2
  have hlp := len_shl 1 (low - ex).toNat
  rw [Nat.one_mul] at hlp
  have h3 := fun d => roundQuotient_v (n := n) (a := a) (b := 2 ^ (low - ex).toNat) (mode := mode) d (by omega) (by omega) (Nat.pos_iff_ne_zero.1 (Nat.two_pow_pos _))
  have hq := len_D_mono (qR_le (n := n) (a := a) (b := 2 ^ (low - ex).toNat) (mode := mode))
  have hq1 := len_add (x := a / 2 ^ (low - ex).toNat) (y := 1) (n := 100000) (by have := len_D_mono (Nat.div_le_self a (2 ^ (low - ex).toNat)); omega) (by omega)
  generalize decide (a % 2 ^ (low - ex).toNat = 0) = f at *
  generalize qR n a (2 ^ (low - ex).toNat) mode = v at *
  generalize 2 ^ (low - ex).toNat = P at *
  have e2 : -(ex - low) = low - ex := by omega
  by_cases h0 : v = 0
  · subst h0
    rw [D_zero] at *
    rw [vrun_v Tryd.func84 rfl rfl rfl]; simp only [Tryd.f84]
    cases n <;> simp (implicitDefEqProofs := false) (disch := omega) [go_sem, tab84, h1, h2, h3, e2]
  · have hn : ¬ D v = [] := fun h => h0 (D_nil_iff.1 h)
    have hp : 0 < (D v).length := List.length_pos_iff.2 hn
    rw [vrun_v Tryd.func84 rfl rfl rfl]; simp only [Tryd.f84]
    cases n <;> simp (implicitDefEqProofs := false) (disch := omega) [go_sem, tab84, h1, h2, h3, hn, h0, e2]
theorem rounded_v (d : Nat) (ha : (D a).length < 100000) (he : -100000 ≤ ex) (he' : ex ≤ 100000) (hl0 : -100000 ≤ low) (hl : low ≤ 100000) : vrun Tryd.prog kn (d + 7) 53 [.agg [.bool n, .ints .i64 (D a), .int .i64 ex], .int .i64 low, .int .i64 mode] [] =
    some (if low ≤ ex ∨ a = 0 then .tup [.agg [.bool n, .ints .i64 (D a), .int .i64 ex], .bool true] else .tup [.agg [.bool (n && decide (qR n a (2 ^ (low - ex).toNat) mode ≠ 0)), .ints .i64 (D (qR n a (2 ^ (low - ex).toNat) mode)), .int .i64 low], .bool (decide (a % 2 ^ (low - ex).toNat = 0))], []) := by
  have h1 := fun d => isZero_v (a := a) (n := n) (ex := ex) d (by omega)
  by_cases h : low ≤ ex
  · rw [if_pos (.inl h)]
    rw [vrun_v Tryd.func53 rfl rfl rfl]; simp only [Tryd.f53]
    simp (implicitDefEqProofs := false) (disch := omega) [go_sem, tab53]
  · by_cases h0 : a = 0
    · rw [if_pos (.inr h0)]
      rw [decide_eq_true h0] at h1
      rw [vrun_v Tryd.func53 rfl rfl rfl]; simp only [Tryd.f53]
      simp (implicitDefEqProofs := false) (disch := omega) [go_sem, tab53, h1]
    · rw [if_neg (by omega)]
      rw [decide_eq_false h0] at h1
      have h2 := fun d => over1_v (n := n) (a := a) (mode := mode) d ha he hl (by omega : ex < low)
      have h3 := fun d => small_v (n := 1) d (by omega)
      simp only [Int.natCast_one] at h3
      have hl1 : (D 1).length ≤ 1 := len_small (by omega)
      generalize (n && decide (qR n a (2 ^ (low - ex).toNat) mode ≠ 0)) = s at *
      generalize qR n a (2 ^ (low - ex).toNat) mode = v at *
      generalize decide (a % 2 ^ (low - ex).toNat = 0) = f at *
      generalize D 1 = o at *
      rw [vrun_v Tryd.func53 rfl rfl rfl]; simp only [Tryd.f53]
      simp (implicitDefEqProofs := false) (disch := omega) [go_sem, tab53, h1, h2, h3]
theorem isLow_v (d : Nat) : vrun Tryd.prog kn (d + 2) 51 [.int .i64 low] [] = some (.bool (decide (-3000 ≤ low) && decide (low ≤ 3000)), []) := by
  have h1 := within_v
  rw [vrun_v Tryd.func51 rfl rfl rfl]; simp only [Tryd.f51]
  simp (implicitDefEqProofs := false) (disch := omega) [go_sem, tab51, h1]
theorem isMode_v (d : Nat) : vrun Tryd.prog kn (d + 2) 52 [.int .i64 mode] [] = some (.bool (decide (0 ≤ mode) && decide (mode ≤ 4)), []) := by
  have h1 := within_v
  rw [vrun_v Tryd.func52 rfl rfl rfl]; simp only [Tryd.f52]
  simp (implicitDefEqProofs := false) (disch := omega) [go_sem, tab52, h1]
theorem l4mode_v (d : Nat) : vrun Tryd.prog kn (d + 1) 46 [.int .i64 mode] [] = some (.bool (decide (0 ≤ mode) && decide (mode ≤ 4)), []) := by
  by_cases h : 0 ≤ mode
  · rw [vrun_v Tryd.func46 rfl rfl rfl]; simp only [Tryd.f46]
    simp (implicitDefEqProofs := false) (disch := omega) [go_sem, tab46, h]
  · rw [vrun_v Tryd.func46 rfl rfl rfl]; simp only [Tryd.f46]
    simp (implicitDefEqProofs := false) (disch := omega) [go_sem, tab46, h]
/-! ### the reference -/
theorem half_nat {a k : Nat} (hk : 0 < k) : a % 2 ^ k = a / 2 ^ (k - 1) % 2 * 2 ^ (k - 1) + a % 2 ^ (k - 1) ∧ 2 ^ k = 2 ^ (k - 1) * 2 := by
  have e : 2 ^ k = 2 ^ (k - 1) * 2 := by rw [← Nat.pow_succ]; congr 1; omega
  refine ⟨?_, e⟩
  rw [e, Nat.mod_mul, Nat.add_comm, Nat.mul_comm (2 ^ (k - 1))]
theorem tz_low_iff {a j : Nat} (h0 : a ≠ 0) : tz a < j ↔ a % 2 ^ j ≠ 0 := by
  obtain ⟨o, ho⟩ := tz_spec h0
  constructor
  · intro h hz
    have hb := tz_bit h0
    have e : 2 ^ j = 2 ^ tz a * (2 * 2 ^ (j - tz a - 1)) := by rw [← Nat.pow_succ', ← Nat.pow_add]; congr 1; omega
    have hd := Nat.div_add_mod a (2 ^ j)
    rw [hz, Nat.add_zero, e, Nat.mul_assoc] at hd
    generalize tz a = t at *
    rw [← hd, Nat.mul_div_cancel_left _ (Nat.two_pow_pos _), Nat.mul_assoc] at hb
    omega
  · intro h
    rcases Nat.lt_or_ge (tz a) j with h1 | h1
    · exact h1
    · exfalso; apply h
      have e : 2 ^ tz a = 2 ^ j * 2 ^ (tz a - j) := by rw [← Nat.pow_add]; congr 1; omega
      conv => lhs; lhs; rw [ho, e, Nat.mul_assoc]
      exact Nat.mul_mod_right _ _
theorem half_cmp {a k : Nat} (hk : 0 < k) : (0 < cmpI (a % 2 ^ k * 2) (2 ^ k) ↔ a / 2 ^ (k - 1) % 2 = 1 ∧ a % 2 ^ (k - 1) ≠ 0) ∧ (cmpI (a % 2 ^ k * 2) (2 ^ k) = 0 ↔ a / 2 ^ (k - 1) % 2 = 1 ∧ a % 2 ^ (k - 1) = 0) ∧ (0 ≤ cmpI (a % 2 ^ k * 2) (2 ^ k) ↔ a / 2 ^ (k - 1) % 2 = 1) := by
  obtain ⟨e1, e2⟩ := half_nat (a := a) hk
  have hr := Nat.mod_lt a (Nat.two_pow_pos (k - 1))
  rw [e1, e2]
  generalize a % 2 ^ (k - 1) = r at *
  generalize 2 ^ (k - 1) = p at *
  have hb : a / p % 2 = 0 ∨ a / p % 2 = 1 := by omega
  unfold cmpI
  rcases hb with hb | hb <;> rw [hb]
  · rw [if_pos (by omega)]; simp
  · rw [if_neg (by omega)]
    by_cases h : r = 0
    · rw [if_pos (by omega)]; simp [h]
    · rw [if_neg (by omega)]; simp [h]
set_option maxHeartbeats 4000000 in
theorem l4ups_v (d : Nat) (ha : (D a).length < 100000) (h0 : a ≠ 0) (hk : 0 < k) (hk' : k < 300000) (hm : 0 ≤ mode) (hm' : mode ≤ 4) : vrun Tryd.prog kn (d + 3) 80 [.bool n, .agg [.ints .i64 (D a)], .int .i64 (k : Int), .int .i64 mode] [] = some (.bool (rUp n (decide (a / 2 ^ k % 2 = 1)) (cmpI (a % 2 ^ k * 2) (2 ^ k)) mode), []) := by
  have h1 := fun d => l2bit_v (x := a) (k := k - 1) d (by omega) (by omega)
  have h2 := fun d => l2bit_v (x := a) (k := k) d (by omega) (by omega)
  have h3 := fun d => l2trail_v (x := a) d (by omega)
  have e1 : (((k - 1 : Nat)) : Int) = (k : Int) - 1 := by omega
  rw [e1] at h1
  obtain ⟨c1, c2, c3⟩ := half_cmp (a := a) hk
  have ht := tz_low_iff (a := a) (j := k - 1) h0
  have htk : ((tz a : Int) < (k : Int) - 1) ↔ tz a < k - 1 := by omega
  generalize cmpI (a % 2 ^ k * 2) (2 ^ k) = c at *
  unfold rUp
  have hb : a / 2 ^ (k - 1) % 2 = 0 ∨ a / 2 ^ (k - 1) % 2 = 1 := by omega
  have hq : a / 2 ^ k % 2 = 0 ∨ a / 2 ^ k % 2 = 1 := by omega
  generalize a / 2 ^ (k - 1) % 2 = b at *
  generalize a / 2 ^ k % 2 = q at *
  generalize a % 2 ^ (k - 1) = r at *
  have hmm : mode = 0 ∨ mode = 1 ∨ mode = 2 ∨ mode = 3 ∨ mode = 4 := by omega
  have hlt := tz_lt h0
  generalize tz a = t at *
  rcases hmm with rfl | rfl | rfl | rfl | rfl
  · by_cases hr : r = 0
    · have g1 : ¬ (t : Int) < (k : Int) - 1 := by rw [htk, ht]; simp [hr]
      rcases hb with rfl | rfl <;> rcases hq with rfl | rfl
      all_goals
        simp only [hr, ne_eq, not_true_eq_false, and_false, and_true] at c1 c2
        rw [vrun_v Tryd.func80 rfl rfl rfl]; simp only [Tryd.f80]
        simp (implicitDefEqProofs := false) (disch := omega) [go_sem, tab80, h1, h2, h3, g1, c1, c2]
    · have g1 : (t : Int) < (k : Int) - 1 := by rw [htk, ht]; exact hr
      rcases hb with rfl | rfl <;> rcases hq with rfl | rfl
      all_goals
        simp only [hr, ne_eq, not_false_eq_true, and_false, and_true] at c1 c2
        rw [vrun_v Tryd.func80 rfl rfl rfl]; simp only [Tryd.f80]
        simp (implicitDefEqProofs := false) (disch := omega) [go_sem, tab80, h1, h2, h3, g1, c1, c2]
  · rw [vrun_v Tryd.func80 rfl rfl rfl]; simp only [Tryd.f80]
    simp (implicitDefEqProofs := false) (disch := omega) [go_sem, tab80, h1, h2, h3]
  · rw [vrun_v Tryd.func80 rfl rfl rfl]; simp only [Tryd.f80]
    simp (implicitDefEqProofs := false) (disch := omega) [go_sem, tab80, h1, h2, h3]
  · rw [vrun_v Tryd.func80 rfl rfl rfl]; simp only [Tryd.f80]
    simp (implicitDefEqProofs := false) (disch := omega) [go_sem, tab80, h1, h2, h3]
  · rcases hb with rfl | rfl
    all_goals
      rw [vrun_v Tryd.func80 rfl rfl rfl]; simp only [Tryd.f80]
      simp (implicitDefEqProofs := false) (disch := omega) [go_sem, tab80, h1, h2, h3, c3]
/-- To a multiple of a power of two, as the reference does it: what is left is not nought. -/
def qS (n : Bool) (a k : Nat) (mode : Int) : Nat := if rUp n (decide (a / 2 ^ k % 2 = 1)) (cmpI (a % 2 ^ k * 2) (2 ^ k)) mode then a / 2 ^ k + 1 else a / 2 ^ k
set_option maxHeartbeats 4000000 in
theorem l4round_v (d : Nat) (ha : (D a).length < 50000) (he : -100000 ≤ ex) (he' : ex ≤ 100000) (hl0 : -100000 ≤ low) (hl : low ≤ 100000) (hm : 0 ≤ mode) (hm' : mode ≤ 4) : vrun Tryd.prog kn (d + 5) 47 [.agg [.bool n, .ints .i64 (D a), .int .i64 ex], .int .i64 low, .int .i64 mode] [] =
    some (if low ≤ ex ∨ a = 0 then .tup [.agg [.bool n, .ints .i64 (D a), .int .i64 ex], .bool true] else .tup [.agg (mkD n (qS n a (low - ex).toNat mode) low).v, .bool false], []) := by
  by_cases h0 : a = 0
  · subst h0
    rw [if_pos (.inr rfl), D_zero]
    rw [vrun_v Tryd.func47 rfl rfl rfl]; simp only [Tryd.f47]
    simp (implicitDefEqProofs := false) (disch := omega) [go_sem, tab47]
  have hn : ¬ D a = [] := fun h => h0 (D_nil_iff.1 h)
  by_cases h : low ≤ ex
  · rw [if_pos (.inl h)]
    rw [vrun_v Tryd.func47 rfl rfl rfl]; simp only [Tryd.f47]
    simp (implicitDefEqProofs := false) (disch := omega) [go_sem, tab47, hn, h]
  rw [if_neg (by omega)]
  have e1 : (((low - ex).toNat : Nat) : Int) = low - ex := by omega
  have h1 := fun d => l2shr_v (x := a) (k := (low - ex).toNat) d (by omega) (by omega)
  have h2 := fun d => l4ups_v (n := n) (a := a) (k := (low - ex).toNat) (mode := mode) d (by omega) h0 (by omega) (by omega) hm hm'
  rw [e1] at h1 h2
  have h3 := fun d => l2of_v (n := 1) d (by omega)
  simp only [Int.natCast_one] at h3
  have hl1 : (D 1).length ≤ 1 := len_small (by omega)
  have hl2 := len_D_mono (Nat.div_le_self a (2 ^ (low - ex).toNat))
  have h4 := fun d => l2add_v (x := a / 2 ^ (low - ex).toNat) (y := 1) d (by omega) (by omega)
  have hl3 := len_add (x := a / 2 ^ (low - ex).toNat) (y := 1) (n := 50000) (by omega) (by omega)
  unfold qS
  generalize rUp n (decide (a / 2 ^ (low - ex).toNat % 2 = 1)) (cmpI (a % 2 ^ (low - ex).toNat * 2) (2 ^ (low - ex).toNat)) mode = up at *
  generalize a / 2 ^ (low - ex).toNat = q at *
  cases up
  · have h5 := fun d => l3make_v (n := n) (a := q) d (by omega)
    have h6 := fun d => l4make_v (n := n && decide (q ≠ 0)) (a := q) (e := low) d (by omega) (by omega) (by omega)
    rw [mkD_and] at h6
    simp only [Bool.false_eq_true, if_false]
    generalize mkD n q low = r at *
    generalize (n && decide (q ≠ 0)) = s at *
    unfold DyT.v at *
    rw [vrun_v Tryd.func47 rfl rfl rfl]; simp only [Tryd.f47]
    simp (implicitDefEqProofs := false) (disch := omega) [go_sem, tab47, hn, h, h1, h2, h5, h6]
  · have h5 := fun d => l3make_v (n := n) (a := q + 1) d (by omega)
    have h6 := fun d => l4make_v (n := n && decide (q + 1 ≠ 0)) (a := q + 1) (e := low) d (by omega) (by omega) (by omega)
    rw [mkD_and] at h6
    simp only [if_true]
    generalize mkD n (q + 1) low = r at *
    generalize (n && decide (q + 1 ≠ 0)) = s at *
    unfold DyT.v at *
    rw [vrun_v Tryd.func47 rfl rfl rfl]; simp only [Tryd.f47]
    simp (implicitDefEqProofs := false) (disch := omega) [go_sem, tab47, hn, h, h1, h2, h3, h4, h5, h6]
end
end Go.Eng
