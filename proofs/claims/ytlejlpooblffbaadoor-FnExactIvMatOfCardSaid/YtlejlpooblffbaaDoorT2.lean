/- What the functions of this seat do, one after another, told by plain values. No conditions. -/
import Derived.Test.YtlejlpooblffbaaDoorSeat
import Derived.Test.YtlejlpooblffbaaDoorVb
import Derived.Test.YtlejlpooblffbaaDoorT1
set_option linter.unusedVariables false
set_option linter.unusedSimpArgs false
namespace Go.Eng
open Go.Proofs
set_option maxRecDepth 100000
set_option linter.unusedSimpArgs false
attribute [local go_sem] r_seq r_skip r_retC r_exitC r_label r_block r_region r_regionW r_xWt r_xW r_cond r_Bt r_Bf r_Ncode r_Nret r_Nexit r_Nblk r_Nblkr r_Nblke r_Nnil r_Es r_Onil r_Oop r_Oif r_Xs r_Gt r_Gf r_wtt r_wtf r_wft r_wff r_wu r_gO r_putS r_putN r_get r_keepN r_keepC r_fr r_fn r_fi r_ff r_fo r_l1 r_l2t r_cun r_cul r_cub r_cui r_cus r_cuis r_cuc r_cusl r_cuti r_cutv r_ven r_vec r_l2f r_l3 r_t1 r_t2 r_t0 r_rt r_rc r_en r_ec r_cM r_oN r_oC r_end r_endt r_endf r_nob0 r_nobN r_nobC r_nobE r_nb0 r_nbi r_nbs r_nbsl r_nbin r_nbce r_nLn r_nLv r_nLc r_nAa r_nAn r_nAk_b r_nAk_i r_nAk_s r_nAk_n r_nAk_is r_nAk_ce r_nAk_fp r_nAk_sl r_nAk_pt r_nAk_fn r_nsn r_nsv r_nsc r_m0 r_mi r_ms r_msl r_min r_mce r_mLn r_mLv r_mLc r_mAa r_mAn r_mAk_b r_mAk_i r_mAk_s r_mAk_n r_mAk_is r_mAk_ce r_mAk_fp r_mAk_sl r_mAk_pt r_mAk_fn r_msn r_msv r_msc r_atb r_ati r_ats r_atn r_atis r_atc r_atf r_atl r_atp r_atfn r_gcn r_gcc r_gLn r_gLc r_gIt r_ndn r_ndc r_gcB r_gLB r_two r_rea r_rea0 r_re1n r_re1c r_ori r_orv r_ord r_orn r_adn r_adc r_ad1 r_ern r_ers r_er0 r_rsl r_rptr r_rb r_ri r_rs r_rn r_ris r_rce r_rfp r_ra4 r_ra3 r_rt4 r_rf4 r_rf3 r_idS r_idc r_nS r_nP r_nF r_nT r_vsl r_vptr r_vb r_vi r_vs r_vn r_vis r_vce r_vfp r_va4 r_va3 r_vt4 r_vf4 r_vf3 r_rV r_Oi r_Ov r_Od r_rE r_rE0 r_En r_Ec r_E0 r_pO r_pk r_agL r_cO r_fO r_fSi r_fSv r_fPv r_fsl r_fptr r_ffn r_fag r_fb r_fint r_fstr r_fnil r_fis r_fce r_ffp r_res r_move r_assign r_pick r_pickt r_pickf r_alloc r_box r_al r_build r_bslice r_load r_store r_nlc r_nl1 r_nl2 r_bin r_un r_conv r_mkf r_mks r_slc r_fad r_fld r_iad r_idx r_ext r_ex1 r_callf r_callt r_callen r_calapp r_calmax r_calmin r_vt r_vcb r_vci r_vcs r_vcnp r_vcn r_vca r_vcf r_vcg r_ofb r_ofi r_ofs r_ofn r_evs r_pn r_prt r_pc r_one_a r_one_b r_one_i r_one_s r_one_n r_one_is r_one_ce r_one_fp r_one_sl r_one_pt r_one_fn r_cs_a r_cs_b r_cs_i r_cs_s r_cs_n r_cs_is r_cs_ce r_cs_fp r_cs_sl r_cs_pt r_cs_fn r_tov r_tovA r_toc r_toa r_tb r_ti r_ts r_tn r_bd r_bd2 r_filn r_fp1 r_filc r_fsn r_fsc r_san r_sac r_bs2 r_bs1 r_newO r_mkq r_mkI r_mkOi r_mkOv r_tIn r_tIc r_repz r_repn r_ldp r_ldf r_l1t r_l1f r_lFt r_lFf r_aggO r_obj r_at r_ati' r_atv r_celli r_cellv r_subi r_subv r_sto r_sto1 r_sto2 r_sets r_setR r_setn r_setc r_s1i r_s1v r_bin1 r_bin2 r_tv1 r_cb r_ci r_cst r_cn r_csl r_cis r_cce r_uni r_unb r_cv r_cvO r_cvN r_cv0 r_cvS r_wB r_cvi r_cvs r_cvb r_cvl r_sO r_rdn r_rdi r_rdl r_rdO r_vsub r_vfn r_mk r_mk1 r_mk2 r_zoi r_zov r_leni r_lenv r_bn r_bndV r_bo r_sl0 r_sl1 r_vsz r_ct1 r_cts r_cti r_ctc r_ctn r_lnl r_lni r_lnc r_lnn r_fa r_fap r_faf r_fi1 r_fit r_fif r_ixi r_ixs r_ixc r_ixf r_ixF r_ixF2 r_ix1 r_ixsl r_ixin r_ixce r_len1 r_lenA r_lTs r_lTn r_lTl r_lTi r_lTc r_app0 r_app r_app1 r_app2 r_app3 r_catO r_cati r_catv r_newt r_newf r_pair r_pairK r_trip r_kis r_kiv r_srn r_srl r_sri r_src r_srs r_oln r_oll r_vw r_wi r_wv r_mm r_max r_min' r_str r_cF r_c2t r_c3f r_c3t r_ab r_c2f r_cV r_p1 r_la r_la2t r_la2f r_la3 r_sh r_z_is r_z_ce r_z_fp r_z_b r_z_i r_z_s r_z_n r_z_l r_z_p r_z_a4 r_z_a3 r_z_t4 r_zoI r_zoV r_roN r_roC r_roi r_rod r_zod r_rov r_aR r_trOi r_trOv r_trPv r_trl r_trp r_trf r_tra r_trb r_tri r_trs r_trn r_tris r_trce r_trfp r_vJ r_vJs r_vJn
attribute [local go_sem] b_add b_sub b_mul b_quo b_rem b_shl b_shr b_eql b_neq b_lss b_leq b_gtr b_geq eqB_s b_eqB b_neB u_neg u_not b_nn b_nn' eqS_s zerosT_s zerosT_n zt_i zt_sl zt_st dstOf_z dstOf_n iltT iltF ileT ileF ieqT ieqF nltT nltF nleT nleF neqT neqF tdiv_pos tmod_pos w64 idx0 List.take_of_length_le
/- The reference's trailing noughts, and its one form of a dyadic. No conditions. -/
section
open Num
section
variable {x : Nat}
def trS (x j : Nat) : VE × VH := ([(1, some (.ptr 0 0)), (3, some (.int .i64 j))], [.vals true [.ints .i64 (D x)]])
theorem tr_r (d : Nat) (hx : (D x).length < 1000000) {j : Nat} (hj : j < tz x) : vCode Tryd.prog kn (vrun Tryd.prog kn (d + 1)) 107 (loopAt Tryd.f107 0) (trS x j).1 (trS x j).2 = some (.norm, trS x (j + 1)) := by
  have h0 : x ≠ 0 := by rintro rfl; simp [tz] at hj
  have hlt := tz_lt h0
  have hb := tz_low hj
  have h1 := l2bit_v (x := x) (k := j) d hx (by omega)
  rw [hb] at h1
  rw [round_v]; simp only [loopAt, nthC, bodyC, loops, List.nil_append, List.cons_append, List.append_nil, Tryd.f107, trS]
  simp (disch := omega) [go_sem, tab107, h1]
theorem tr_x (d : Nat) (hx : (D x).length < 1000000) (h0 : x ≠ 0) : vCode Tryd.prog kn (vrun Tryd.prog kn (d + 1)) 107 (loopAt Tryd.f107 0) (trS x (tz x)).1 (trS x (tz x)).2 = some (.ret, [(2, some (.int .i64 (tz x)))], []) := by
  have hlt := tz_lt h0
  have hb := tz_bit h0
  have h1 := l2bit_v (x := x) (k := tz x) d hx (by omega)
  rw [hb] at h1
  rw [round_v]; simp only [loopAt, nthC, bodyC, loops, List.nil_append, List.cons_append, List.append_nil, Tryd.f107, trS]
  simp (disch := omega) [go_sem, tab107, h1]
theorem l2trail_v (d : Nat) (hx : (D x).length < 1000000) : vrun Tryd.prog kn (d + 2) 107 [.agg [.ints .i64 (D x)]] [] = some (.int .i64 (tz x), []) := by
  by_cases h0 : x = 0
  · subst h0
    have hv : vCode Tryd.prog kn (vrun Tryd.prog kn (d + 1)) 107 (loopAt Tryd.f107 0) (trS 0 0).1 (trS 0 0).2 = some (.exit 0, (trS 0 0).1 ++ [(9, some (.bool false))], (trS 0 0).2) := by
      rw [round_v]; simp only [loopAt, nthC, bodyC, loops, List.nil_append, List.cons_append, List.append_nil, Tryd.f107, trS, D_zero]
      simp (disch := omega) [go_sem, tab107]
    have hl0 := fun ks => loop_v (P := Tryd.prog) (K := kn) (ks := ks) (vi_for (fun _ => trS 0 0) 0 (n := kn.cf.rounds) (by rw [k_cf, c_rounds]; omega) (fun j hj => absurd hj (by omega)) fun m => vi_exit hv)
    simp only [loopAt, nthC, bodyC, loops, List.nil_append, List.cons_append, List.append_nil, Tryd.f107, trS, D_zero, Int.natCast_zero, List.cons_append, List.nil_append] at hl0
    have : tz 0 = 0 := by simp [tz]
    rw [D_zero, this]
    rw [vrun_v Tryd.func107 rfl rfl rfl]; simp only [Tryd.f107]
    simp (disch := omega) [go_sem, tab107, hl0]
  · have hlt := tz_lt h0
    have hl0 := fun ks => loop_v (P := Tryd.prog) (K := kn) (ks := ks) (vi_for (trS x) (tz x) (n := kn.cf.rounds) (by rw [k_cf, c_rounds]; omega) (fun j hj => tr_r d hx hj) fun m => vi_ret (tr_x _ hx h0))
    simp only [loopAt, nthC, bodyC, loops, List.nil_append, List.cons_append, List.append_nil, Tryd.f107, trS, Int.natCast_zero, List.cons_append, List.nil_append] at hl0
    rw [vrun_v Tryd.func107 rfl rfl rfl]; simp only [Tryd.f107]
    simp (disch := omega) [go_sem, tab107, hl0]
end
end
/- The reference's one form of a dyadic number. No conditions. -/
section
open Num
section
variable {a : Nat} {n : Bool} {e : Int}
/-- The one form. -/
def mkD (n : Bool) (a : Nat) (e : Int) : DyT := if a = 0 then ⟨false, [], 0⟩ else ⟨n, D (a / 2 ^ tz a), e + tz a⟩
theorem l4make_v (d : Nat) (ha : (D a).length < 60000) (he : -1000000000 ≤ e) (he' : e ≤ 1000000000) : vrun Tryd.prog kn (d + 4) 82 [.agg [.bool n, .ints .i64 (D a)], .int .i64 e] [] = some (.agg (mkD n a e).v, []) := by
  unfold mkD
  by_cases h0 : a = 0
  · subst h0
    rw [if_pos rfl, D_zero]
    unfold DyT.v
    rw [vrun_v Tryd.func82 rfl rfl rfl]; simp only [Tryd.f82]
    simp (disch := omega) [go_sem, tab82]
  · rw [if_neg h0]
    have hlt := tz_lt h0
    have hn : ¬ D a = [] := fun h => h0 (D_nil_iff.1 h)
    have hp : 0 < (D a).length := List.length_pos_iff.2 hn
    have hle : (D (a / 2 ^ tz a)).length ≤ (D a).length := len_D_mono (Nat.div_le_self _ _)
    have hb := tz_bit h0
    have hX : a / 2 ^ tz a ≠ 0 := fun h => by rw [h] at hb; simp at hb
    have h1 := fun d => l2trail_v (x := a) d (by omega)
    have h2 := fun d => l2shr_v (x := a) (k := tz a) d (by omega) (by omega)
    have h3 := fun d => l3make_v (n := n) (a := a / 2 ^ tz a) d (by omega)
    simp only [ne_eq, hX, not_false_eq_true, decide_true, Bool.and_true] at h3
    unfold DyT.v
    generalize a / 2 ^ tz a = X at *
    generalize tz a = t at *
    rw [vrun_v Tryd.func82 rfl rfl rfl]; simp only [Tryd.f82]
    simp (disch := omega) [go_sem, tab82, h1, h2, h3, hn]
end
end
/- Trailing noughts of a limb, as the library counts them. No conditions. -/
section
open Num
theorem wu64' {x : Int} (h1 : 0 ≤ x) (h2 : x ≤ 18446744073709551615) : IntKind.wrap .u64 x = x := by
  simp [IntKind.wrap, IntKind.bits, IntKind.signed]; omega
theorem negu {x : Nat} (h0 : x ≠ 0) (hx : x < 65536) : IntKind.wrap .u64 (-(x : Int)) = ((2 ^ 64 - x : Nat) : Int) := by
  simp [IntKind.wrap, IntKind.bits, IntKind.signed]; omega
theorem andneg (P : Program) (ty : TypeId) {x t o : Nat} (h0 : x ≠ 0) (hx : x < 65536) (h : x = 2 ^ t * (2 * o + 1)) : binE P .and ty (.int .u64 (x : Int)) (.int .u64 ((2 ^ 64 - x : Nat) : Int)) = some (.int .u64 ((2 ^ t : Nat) : Int)) := by
  rw [b_and]
  have e : (BitVec.ofInt (IntKind.bits .u64) (x : Int) &&& BitVec.ofInt (IntKind.bits .u64) ((2 ^ 64 - x : Nat) : Int)).toNat = 2 ^ t := by
    show (BitVec.ofInt 64 (x : Int) &&& BitVec.ofInt 64 ((2 ^ 64 - x : Nat) : Int)).toNat = 2 ^ t
    rw [BitVec.toNat_and, BitVec.ofInt_natCast, BitVec.ofInt_natCast, BitVec.toNat_ofNat, BitVec.toNat_ofNat, Nat.mod_eq_of_lt (by omega), Nat.mod_eq_of_lt (by omega)]
    exact land_neg h (by omega)
  rw [e]
  have hle : 2 ^ t ≤ x := by rw [h]; exact Nat.le_mul_of_pos_right _ (by omega)
  rw [wu64' (by omega) (by omega)]
theorem tz16 {x t o : Nat} (hx : x < 65536) (h : x = 2 ^ t * (2 * o + 1)) : t < 16 := by
  have hle : 2 ^ t ≤ x := by rw [h]; exact Nat.le_mul_of_pos_right _ (by omega)
  exact (Nat.pow_lt_pow_iff_right (a := 2) (by omega)).1 (by omega : 2 ^ t < 2 ^ 16)
theorem kglob1 : kn.glob 1 = some (.fptr globT1) := rfl
theorem tabG : ∀ t, t < 16 → ∃ k : Nat, (IntKind.wrap .u64 (((2 ^ t : Nat) : Int) * 285870213051353865)).fdiv 288230376151711744 = (k : Int) ∧ k < 64 ∧ (globT1.drop k)[0]? = some (.int .u8 (t : Int)) := by
  intro t ht
  have : t = 0 ∨ t = 1 ∨ t = 2 ∨ t = 3 ∨ t = 4 ∨ t = 5 ∨ t = 6 ∨ t = 7 ∨ t = 8 ∨ t = 9 ∨ t = 10 ∨ t = 11 ∨ t = 12 ∨ t = 13 ∨ t = 14 ∨ t = 15 := by omega
  rcases this with rfl | rfl | rfl | rfl | rfl | rfl | rfl | rfl | rfl | rfl | rfl | rfl | rfl | rfl | rfl | rfl
  · exact ⟨0, rfl, by omega, rfl⟩
  · exact ⟨1, rfl, by omega, rfl⟩
  · exact ⟨3, rfl, by omega, rfl⟩
  · exact ⟨7, rfl, by omega, rfl⟩
  · exact ⟨15, rfl, by omega, rfl⟩
  · exact ⟨31, rfl, by omega, rfl⟩
  · exact ⟨63, rfl, by omega, rfl⟩
  · exact ⟨62, rfl, by omega, rfl⟩
  · exact ⟨61, rfl, by omega, rfl⟩
  · exact ⟨59, rfl, by omega, rfl⟩
  · exact ⟨55, rfl, by omega, rfl⟩
  · exact ⟨47, rfl, by omega, rfl⟩
  · exact ⟨30, rfl, by omega, rfl⟩
  · exact ⟨60, rfl, by omega, rfl⟩
  · exact ⟨57, rfl, by omega, rfl⟩
  · exact ⟨51, rfl, by omega, rfl⟩
theorem tz64_v (d : Nat) {x : Nat} (h0 : x ≠ 0) (hx : x < 65536) : vrun Tryd.prog kn (d + 1) 131 [.int .u64 (x : Int)] [] = some (.int .i64 (tz x), []) := by
  have h1 : ¬ (x : Int) = 0 := by omega
  obtain ⟨o, ho⟩ := tz_spec h0
  have ht := tz16 hx ho
  have h2 := negu h0 hx
  have h3 := fun ty => andneg Tryd.prog ty h0 hx ho
  generalize tz x = t at *
  obtain ⟨k, hk, hk2, hk3⟩ := tabG t ht
  have hlen : globT1.length = 64 := rfl
  have h5 : ((t : Int)) < 64 := by omega
  have h6 : IntKind.wrap .i64 (t : Int) = t := w64 (by omega) (by omega)
  generalize hw : IntKind.wrap .u64 (((2 ^ t : Nat) : Int) * 285870213051353865) = W at *
  generalize ((2 ^ t : Nat) : Int) = Q at *
  generalize ((2 ^ 64 - x : Nat) : Int) = Y at *
  clear h0 hx ho
  generalize (x : Int) = X at *
  have h4 : min (Int.toNat 58) (IntKind.bits .u64) = 58 := rfl
  rw [vrun_v Tryd.func131 rfl rfl rfl]; simp only [Tryd.f131]
  simp (implicitDefEqProofs := false) (disch := omega) [go_sem, tab131, h1, h2, h3, hw, h4, hk, kglob1, hlen, hk3, h6, Int.toNat_natCast]
theorem tzs_v (d : Nat) {x : Nat} (h0 : x ≠ 0) (hx : x < 65536) : vrun Tryd.prog kn (d + 2) 120 [.int .u64 (x : Int)] [] = some (.int .i64 (tz x), []) := by
  have h1 := fun d => tz64_v d h0 hx
  rw [vrun_v Tryd.func120 rfl rfl rfl]; simp only [Tryd.f120]
  simp (disch := omega) [go_sem, tab120, h1]
end
/- Numbers of any size: their one form, products; trailing noughts. No conditions. -/
section
open Num
theorem low_zero {x j : Nat} (h : 16 * j ≤ tz x) : x % 65536 ^ j = 0 := by
  by_cases h0 : x = 0
  · subst h0; simp
  obtain ⟨o, ho⟩ := tz_spec h0
  have e : (65536 : Nat) ^ j = 2 ^ (16 * j) := by rw [show (65536 : Nat) = 2 ^ 16 from rfl, ← Nat.pow_mul]
  have e2 : 2 ^ tz x = 2 ^ (16 * j) * 2 ^ (tz x - 16 * j) := by rw [← Nat.pow_add]; congr 1; omega
  rw [e]
  conv => lhs; lhs; rw [ho, e2, Nat.mul_assoc]
  exact Nat.mul_mod_right _ _
theorem dig_zero {x j : Nat} (h : 16 * (j + 1) ≤ tz x) : x / 65536 ^ j % 65536 = 0 := by
  have h1 := low_zero h
  rw [mod_pow_succ] at h1
  have hp := powN_pos j
  rcases Nat.eq_zero_or_pos (x / 65536 ^ j % 65536) with h2 | h2
  · exact h2
  · have := Nat.mul_pos hp h2; omega
theorem dig_nz {x : Nat} (h0 : x ≠ 0) : x / 65536 ^ (tz x / 16) % 65536 ≠ 0 := by
  intro h
  have hb := tz_bit h0
  have e : 2 ^ tz x = 65536 ^ (tz x / 16) * 2 ^ (tz x % 16) := pow_split _
  rw [e, ← Nat.div_div_eq_div_mul] at hb
  generalize x / 65536 ^ (tz x / 16) = a at *
  have e2 : (65536 : Nat) = 2 ^ (tz x % 16) * (2 * 2 ^ (15 - tz x % 16)) := by
    rw [← Nat.mul_assoc, Nat.mul_right_comm, ← Nat.pow_add, show tz x % 16 + (15 - tz x % 16) = 15 by omega]
  have h2 : a = 65536 * (a / 65536) := by omega
  rw [h2, e2, Nat.mul_assoc, Nat.mul_div_cancel_left _ (Nat.two_pow_pos _), Nat.mul_assoc] at hb
  omega
section
variable {x : Nat}
def toS (x j : Nat) : VE × VH := ([(5, some (.ints .i64 (D x))), (6, some (.int .i64 (D x).length)), (7, some (.int .i64 j))], [])
theorem to_r (call : CallV) (hx : (D x).length < 1000000) {j : Nat} (hj : j < tz x / 16) : vCode Tryd.prog kn call 103 (loopAt Tryd.f103 0) (toS x j).1 (toS x j).2 = some (.norm, toS x (j + 1)) := by
  have h0 : x ≠ 0 := by rintro rfl; simp [tz] at hj
  have hlt := tz_lt h0
  have hd : dg x j = 0 := by unfold dg; rw [dig_zero (by omega)]; rfl
  rw [round_v]; simp only [loopAt, nthC, bodyC, loops, List.nil_append, List.cons_append, List.append_nil, Tryd.f103, toS]
  simp (disch := omega) [go_sem, tab103, gt_D, hd]
theorem to_x (d : Nat) (hx : (D x).length < 1000000) (h0 : x ≠ 0) : vCode Tryd.prog kn (vrun Tryd.prog kn (d + 2)) 103 (loopAt Tryd.f103 0) (toS x (tz x / 16)).1 (toS x (tz x / 16)).2 = some (.ret, [(2, some (.int .i64 (tz x)))], []) := by
  have hlt := tz_lt h0
  have hn := dig_nz h0
  have h1 := fun d => tzs_v d hn (Nat.mod_lt _ (by omega))
  have hf : tz x = 16 * (tz x / 16) + tz (x / 65536 ^ (tz x / 16) % 65536) := tz_first (fun h => hn (by rw [h])) (low_zero (by omega)) hn
  have hd : dg x (tz x / 16) = ((x / 65536 ^ (tz x / 16) % 65536 : Nat) : Int) := rfl
  have hb := Nat.mod_lt (x / 65536 ^ (tz x / 16)) (by omega : 0 < 65536)
  rw [round_v]; simp only [loopAt, nthC, bodyC, loops, List.nil_append, List.cons_append, List.append_nil, Tryd.f103, toS]
  generalize x / 65536 ^ (tz x / 16) % 65536 = q at *
  generalize tz x / 16 = i at *
  have hw : IntKind.wrap .u64 (q : Int) = q := wu64' (by omega) (by omega)
  have hs : (16 * (i : Int)) + (tz q : Int) = tz x := by omega
  simp (disch := omega) [go_sem, tab103, gt_D, hd, hw, h1, hs, hn]
theorem trailOf_v (d : Nat) (hx : (D x).length < 1000000) : vrun Tryd.prog kn (d + 3) 103 [.ints .i64 (D x)] [] = some (.int .i64 (tz x), []) := by
  by_cases h0 : x = 0
  · subst h0
    have hv : ∀ call, vCode Tryd.prog kn call 103 (loopAt Tryd.f103 0) (toS 0 0).1 (toS 0 0).2 = some (.exit 0, (toS 0 0).1 ++ [(8, some (.bool false))], (toS 0 0).2) := fun call => by
      rw [round_v]; simp only [loopAt, nthC, bodyC, loops, List.nil_append, List.cons_append, List.append_nil, Tryd.f103, toS, D_zero]
      simp (disch := omega) [go_sem, tab103]
    have hl0 := fun call ks => loop_v (P := Tryd.prog) (K := kn) (ks := ks) (vi_for (fun _ => toS 0 0) 0 (n := kn.cf.rounds) (by rw [k_cf, c_rounds]; omega) (fun j hj => absurd hj (by omega)) fun m => vi_exit (hv call))
    simp only [loopAt, nthC, bodyC, loops, List.nil_append, List.cons_append, List.append_nil, Tryd.f103, toS, D_zero, Int.natCast_zero, List.length_nil, List.cons_append, List.nil_append] at hl0
    have : tz 0 = 0 := by simp [tz]
    rw [D_zero, this]
    rw [vrun_v Tryd.func103 rfl rfl rfl]; simp only [Tryd.f103]
    simp (disch := omega) [go_sem, tab103, hl0]
  · have hlt := tz_lt h0
    have hl0 := fun ks => loop_v (P := Tryd.prog) (K := kn) (ks := ks) (vi_for (toS x) (tz x / 16) (n := kn.cf.rounds) (by rw [k_cf, c_rounds]; omega) (fun j hj => to_r _ hx hj) fun m => vi_ret (to_x d hx h0))
    simp only [loopAt, nthC, bodyC, loops, List.nil_append, List.cons_append, List.append_nil, Tryd.f103, toS, Int.natCast_zero, List.cons_append, List.nil_append] at hl0
    rw [vrun_v Tryd.func103 rfl rfl rfl]; simp only [Tryd.f103]
    simp (disch := omega) [go_sem, tab103, hl0]
end
section
variable {a b : Nat} {n m : Bool} {e ex ey : Int}
theorem odd_v (d : Nat) (ha : (D a).length < 60000) (he : -1000000000 ≤ e) (he' : e ≤ 1000000000) : vrun Tryd.prog kn (d + 4) 75 [.agg [.bool n, .ints .i64 (D a), .int .i64 e]] [] = some (.agg (mkD n a e).v, []) := by
  unfold mkD
  by_cases h0 : a = 0
  · subst h0
    rw [if_pos rfl, D_zero]
    unfold DyT.v
    rw [vrun_v Tryd.func75 rfl rfl rfl]; simp only [Tryd.f75]
    simp (disch := omega) [go_sem, tab75]
  · rw [if_neg h0]
    have hlt := tz_lt h0
    have hn : ¬ D a = [] := fun h => h0 (D_nil_iff.1 h)
    have h1 := fun d => trailOf_v (x := a) d (by omega)
    have h2 := fun d => down_v (x := a) (k := tz a) d (by omega) (by omega)
    unfold DyT.v
    generalize a / 2 ^ tz a = X at *
    generalize tz a = t at *
    rw [vrun_v Tryd.func75 rfl rfl rfl]; simp only [Tryd.f75]
    simp (disch := omega) [go_sem, tab75, h1, h2, hn]
/-- May it be told? -/
def dyFit (r : DyT) : Bool := decide (r.l.length ≤ 100) && decide (-3000 ≤ r.e) && decide (r.e ≤ 3000)
def zT : DyT := ⟨false, [], 0⟩
def fitT (r : DyT) : DyT := if dyFit r then r else zT
theorem mkD_neg : (mkD n a e).neg = ((mkD n a e).neg && !decide ((mkD n a e).l.length = 0)) := by
  unfold mkD
  by_cases h0 : a = 0
  · rw [if_pos h0]; rfl
  · rw [if_neg h0]
    have hb := tz_bit h0
    have hX : a / 2 ^ tz a ≠ 0 := fun h => by rw [h] at hb; simp at hb
    have : ¬ (D (a / 2 ^ tz a)).length = 0 := fun h => hX (D_nil_iff.1 (List.eq_nil_of_length_eq_zero h))
    simp [this]
theorem mkD_len : (mkD n a e).l.length ≤ (D a).length := by
  unfold mkD
  split
  · simp
  · exact len_D_mono (Nat.div_le_self _ _)
theorem mkD_e (he : -1000000000 ≤ e) (he' : e ≤ 1000000000) (ha : (D a).length < 60000) : -1000000000 ≤ (mkD n a e).e ∧ (mkD n a e).e ≤ 1001000000 := by
  unfold mkD
  by_cases h0 : a = 0
  · rw [if_pos h0]; simp
  · rw [if_neg h0]
    have := tz_lt h0
    simp only; omega
theorem dy_v (d : Nat) (ha : (D a).length < 60000) (he : -1000000000 ≤ e) (he' : e ≤ 1000000000) : vrun Tryd.prog kn (d + 5) 41 [.agg [.bool n, .ints .i64 (D a), .int .i64 e]] [] = some (.tup [.agg [.bool (fitT (mkD n a e)).neg, .sl 0 0 (fitT (mkD n a e)).l.length 1, .int .i64 (fitT (mkD n a e)).e], .bool (dyFit (mkD n a e))], [.ints true .i64 (fitT (mkD n a e)).l]) := by
  have h1 := fun d => odd_v (n := n) d ha he he'
  have hl := mkD_len (n := n) (a := a) (e := e)
  have hne := mkD_neg (n := n) (a := a) (e := e)
  have heb := mkD_e (n := n) he he' ha
  generalize mkD n a e = r at *
  have h2 := fun d => wholeOf_v d r.neg (l := r.l) (by omega)
  have h3 := within_v
  unfold DyT.v at h1
  unfold fitT dyFit
  rw [← hne] at h2
  by_cases q1 : r.l.length ≤ 100
  · have ef : fitL r.l = r.l := by unfold fitL; rw [if_pos q1]
    rw [ef] at h2
    by_cases q2 : -3000 ≤ r.e
    · by_cases q3 : r.e ≤ 3000
      · rw [vrun_v Tryd.func41 rfl rfl rfl]; simp only [Tryd.f41]
        simp (disch := omega) [go_sem, tab41, h1, h2, h3, q1, q2, q3]
      · rw [vrun_v Tryd.func41 rfl rfl rfl]; simp only [Tryd.f41]
        simp (disch := omega) [go_sem, tab41, h1, h2, h3, q1, q2, q3, zT]
    · rw [vrun_v Tryd.func41 rfl rfl rfl]; simp only [Tryd.f41]
      simp (disch := omega) [go_sem, tab41, h1, h2, h3, q1, q2, zT]
  · rw [vrun_v Tryd.func41 rfl rfl rfl]; simp only [Tryd.f41]
    simp (disch := omega) [go_sem, tab41, h1, h2, h3, q1, zT]
/-- What is in its one form is valid where it fits. -/
theorem dyOkB_mkD : dyOkB (mkD n a e) = dyFit (mkD n a e) := by
  unfold mkD
  by_cases h0 : a = 0
  · rw [if_pos h0]; rfl
  · rw [if_neg h0]
    have hb := tz_bit h0
    generalize a / 2 ^ tz a = X at *
    have hX : X ≠ 0 := fun h => by rw [h] at hb; simp at hb
    have hl : ¬ (D X).length = 0 := fun h => hX (D_nil_iff.1 (List.eq_nil_of_length_eq_zero h))
    have hg : gt (D X) 0 % 2 = 1 := by rw [gt_D]; unfold dg; rw [Nat.pow_zero, Nat.div_one]; omega
    unfold dyOkB dyFit wholeOkB
    simp only [natOkB_D, hl, hg, decide_false, Bool.and_false, Bool.not_false, Bool.and_true, if_false, decide_true, Bool.and_assoc]
theorem mkD_and : mkD (n && decide (a ≠ 0)) a e = mkD n a e := by
  unfold mkD
  by_cases h0 : a = 0
  · rw [if_pos h0, if_pos h0]
  · rw [if_neg h0, if_neg h0]; simp [h0]
end
end
/- The reference's whole numbers of the machine; dyadics of a whole number and a power. No conditions. -/
section
open Num
theorem l3of_v (d : Nat) {n : Int} (h0 : -9223372036854775808 ≤ n) (h1 : n ≤ 9223372036854775807) : vrun Tryd.prog kn (d + 3) 83 [.int .i64 n] [] = some (.agg [.bool (decide (n < 0)), .ints .i64 (D n.natAbs)], []) := by
  by_cases h : n < 0
  · have e1 : ((-(n + 1)).toNat : Int) = -(n + 1) := by omega
    have a1 := fun d => l2of_v (n := (-(n + 1)).toNat) d (by omega)
    rw [e1] at a1
    have a2 := fun d => l2of_v (n := 1) d (by omega)
    simp only [Int.natCast_one] at a2
    have hl1 : (D 1).length ≤ 4 := len_small (by omega)
    have hl2 : (D (-(n + 1)).toNat).length ≤ 4 := len_small (by omega)
    have a3 := fun d => l2add_v (x := (-(n + 1)).toNat) (y := 1) d (by omega) (by omega)
    have e2 : (-(n + 1)).toNat + 1 = n.natAbs := by omega
    rw [e2] at a3
    have hl3 : (D n.natAbs).length ≤ 4 := len_small (by omega)
    have a4 := fun d => l3make_v (n := true) (a := n.natAbs) d (by omega)
    have e3 : decide (n.natAbs ≠ 0) = true := decide_eq_true (by omega)
    rw [e3] at a4
    rw [decide_eq_true h]
    have e4 : -(n + 1) = -1 + -n := by omega
    generalize D n.natAbs = A at *
    generalize D (-(n + 1)).toNat = B at *
    generalize D 1 = o at *
    rw [vrun_v Tryd.func83 rfl rfl rfl]; simp only [Tryd.f83]
    simp (implicitDefEqProofs := false) (disch := omega) [go_sem, tab83, a1, a2, a3, a4]
  · have e1 : ((n.natAbs : Nat) : Int) = n := by omega
    have a1 := fun d => l2of_v (n := n.natAbs) d (by omega)
    rw [e1] at a1
    have hl3 : (D n.natAbs).length ≤ 4 := len_small (by omega)
    have a4 := fun d => l3make_v (n := false) (a := n.natAbs) d (by omega)
    rw [decide_eq_false h]
    simp only [Bool.false_and] at a4
    generalize D n.natAbs = A at *
    rw [vrun_v Tryd.func83 rfl rfl rfl]; simp only [Tryd.f83]
    simp (implicitDefEqProofs := false) (disch := omega) [go_sem, tab83, a1, a4]
theorem wholeOk_D {a : Nat} {w : Bool} (ha : (D a).length ≤ 100) (hw : a = 0 → w = false) : wholeOkB w (D a) = true := by
  unfold wholeOkB
  rw [natOkB_D]
  by_cases h0 : a = 0
  · rw [hw h0]; simp [ha]
  · have : ¬ (D a).length = 0 := fun h => h0 (D_nil_iff.1 (List.eq_nil_of_length_eq_zero h))
    simp [this, ha]
end
/- Intervals: validity and membership, program and reference. No conditions. -/
section
open Num
def DyT.n (x : DyT) : Nat := (val x.l).toNat
def dcmp (x y : DyT) : Int := scmp x.neg (alA x.n x.e y.n y.e) y.neg (alB x.n x.e y.n y.e)
structure IvT where
  lo : DyT
  hi : DyT
def IvT.v (x : IvT) : List V := [.bool x.lo.neg, .ints .i64 x.lo.l, .int .i64 x.lo.e, .bool x.hi.neg, .ints .i64 x.hi.l, .int .i64 x.hi.e]
def ivOkB (x : IvT) : Bool := dyOkB x.lo && dyOkB x.hi && decide (dcmp x.lo x.hi ≤ 0)
def ivHasB (v : IvT) (x : DyT) : Bool := decide (dcmp v.lo x ≤ 0) && decide (dcmp x v.hi ≤ 0)
theorem ok_D {x : DyT} (hx : dyOkB x = true) : x.l = D (x.n) ∧ (D (x.n)).length < 100000 ∧ -100000 ≤ x.e ∧ x.e ≤ 100000 ∧ (x.n = 0 → x.neg = false) := by
  obtain ⟨n, h1, h2, h3, h4, h5⟩ := (dyOkB_iff x).1 hx
  have : x.n = n := by unfold DyT.n; rw [h1, val_D]; rfl
  rw [this]
  refine ⟨h1, by omega, by omega, by omega, fun h => ?_⟩
  rcases h5 with ⟨_, h, _⟩ | h5
  · exact h
  · omega
section
variable {x y : DyT}
theorem dcmpS_v (d : Nat) (hx : dyOkB x = true) (hy : dyOkB y = true) : vrun Tryd.prog kn (d + 5) 129 [.agg [.bool x.neg, .ints .i64 x.l, .int .i64 x.e], .agg [.bool y.neg, .ints .i64 y.l, .int .i64 y.e]] [] = some (.int .i64 (dcmp x y), []) := by
  obtain ⟨e1, a1, a2, a3, a4⟩ := ok_D hx
  obtain ⟨e2, b1, b2, b3, b4⟩ := ok_D hy
  have := l4cmp_v (n := x.neg) (m := y.neg) d a1 b1 a2 a3 b2 b3 a4 b4
  rw [← e1, ← e2] at this
  exact this
end
section
variable {x : DyT} {v : IvT}
theorem sIvOk_v (d : Nat) (h1 : v.lo.sz) (h2 : v.hi.sz) : vrun Tryd.prog kn (d + 6) 119 [.agg [.bool v.lo.neg, .ints .i64 v.lo.l, .int .i64 v.lo.e, .bool v.hi.neg, .ints .i64 v.hi.l, .int .i64 v.hi.e]] [] = some (.bool (ivOkB v), []) := by
  unfold DyT.sz at h1 h2
  have a1 := fun d => sDyOk_v d v.lo.neg (l := v.lo.l) v.lo.e (by omega)
  have a2 := fun d => sDyOk_v d v.hi.neg (l := v.hi.l) v.hi.e (by omega)
  change ∀ d, _ = some (V.bool (dyOkB v.lo), []) at a1
  change ∀ d, _ = some (V.bool (dyOkB v.hi), []) at a2
  unfold ivOkB
  cases hq : dyOkB v.lo with
  | false =>
    rw [hq] at a1
    rw [vrun_v Tryd.func119 rfl rfl rfl]; simp only [Tryd.f119]
    simp (disch := omega) [go_sem, tab119, a1]
  | true =>
    cases hr : dyOkB v.hi with
    | false =>
      rw [hq] at a1
      rw [hr] at a2
      rw [vrun_v Tryd.func119 rfl rfl rfl]; simp only [Tryd.f119]
      simp (disch := omega) [go_sem, tab119, a1, a2]
    | true =>
      have c1 := fun d => dcmpS_v d hq hr
      rw [hq] at a1
      rw [hr] at a2
      by_cases hd : dcmp v.lo v.hi ≤ 0
      · rw [vrun_v Tryd.func119 rfl rfl rfl]; simp only [Tryd.f119]
        simp (disch := omega) [go_sem, tab119, a1, a2, c1, hd]
      · rw [vrun_v Tryd.func119 rfl rfl rfl]; simp only [Tryd.f119]
        simp (disch := omega) [go_sem, tab119, a1, a2, c1, hd]
end
end
/- Numbers of any size: products, sums, differences. No conditions. -/
section
open Num
def ssN (n : Bool) (a : Nat) (m : Bool) (b : Nat) : Bool := if n = m then n else if b ≤ a then n else m
def ssV (n : Bool) (a : Nat) (m : Bool) (b : Nat) : Nat := if n = m then a + b else if b ≤ a then a - b else b - a
section
variable {a b : Nat} {n m : Bool} {e ex ey : Int}
theorem cmpI_ge : (0 ≤ cmpI a b) = (b ≤ a) := by
  unfold cmpI
  by_cases h : a < b
  · rw [if_pos h]; simp; omega
  · rw [if_neg h]; split <;> (simp; omega)
theorem ssV_len {k : Nat} (ha : (D a).length < k) (hb : (D b).length < k) : (D (ssV n a m b)).length < k + 1 := by
  unfold ssV
  by_cases h : n = m
  · rw [if_pos h]; have := len_add (x := a) (y := b) (n := k - 1) (by omega) (by omega); omega
  · rw [if_neg h]
    split
    · have := len_D_mono (Nat.sub_le a b); omega
    · have := len_D_mono (Nat.sub_le b a); omega
theorem D_ne {x : Nat} : (D x = []) = (x = 0) := propext D_nil_iff
theorem times_e (d : Nat) (ha : (D a).length < 100000) (hb : (D b).length < 100000) (he : -100000 ≤ ex) (he' : ex ≤ 100000) (hf : -100000 ≤ ey) (hf' : ey ≤ 100000) : vrun Tryd.prog kn (d + 3) 97 [.agg [.bool n, .ints .i64 (D a), .int .i64 ex], .agg [.bool m, .ints .i64 (D b), .int .i64 ey]] [] = some (.agg [.bool ((n != m) && decide (a * b ≠ 0)), .ints .i64 (D (a * b)), .int .i64 (ex + ey)], []) := by
  have h1 := fun d => times_v (x := a) (y := b) d (by omega) (by omega)
  have hl := len_mul a b
  generalize a * b = p at *
  by_cases h0 : p = 0
  · subst h0
    rw [D_zero] at *
    rw [vrun_v Tryd.func97 rfl rfl rfl]; simp only [Tryd.f97]
    cases n <;> cases m <;> simp (disch := omega) [go_sem, tab97, h1]
  · have hn : ¬ D p = [] := fun h => h0 (D_nil_iff.1 h)
    have hp : 0 < (D p).length := List.length_pos_iff.2 hn
    rw [vrun_v Tryd.func97 rfl rfl rfl]; simp only [Tryd.f97]
    cases n <;> cases m <;> simp (disch := omega) [go_sem, tab97, h1, hn, h0]
theorem l3mul_v (d : Nat) (ha : (D a).length < 400000) (hb : (D b).length < 400000) : vrun Tryd.prog kn (d + 3) 115 [.agg [.bool n, .ints .i64 (D a)], .agg [.bool m, .ints .i64 (D b)]] [] = some (.agg [.bool ((n != m) && decide (a * b ≠ 0)), .ints .i64 (D (a * b))], []) := by
  have h1 := fun d => l2mul_v (x := a) (y := b) d (by omega) (by omega)
  have hl := len_mul a b
  generalize a * b = p at *
  have h2 := fun n d => l3make_v (n := n) (a := p) d (by omega)
  rw [vrun_v Tryd.func115 rfl rfl rfl]; simp only [Tryd.f115]
  cases n <;> cases m <;> simp (disch := omega) [go_sem, tab115, h1, h2]
theorem l4mul_v (d : Nat) (ha : (D a).length < 10000) (hb : (D b).length < 10000) (he : -100000 ≤ ex) (he' : ex ≤ 100000) (hf : -100000 ≤ ey) (hf' : ey ≤ 100000) : vrun Tryd.prog kn (d + 5) 92 [.agg [.bool n, .ints .i64 (D a), .int .i64 ex], .agg [.bool m, .ints .i64 (D b), .int .i64 ey]] [] = some (.agg (mkD (n != m) (a * b) (ex + ey)).v, []) := by
  have h1 := fun d => l3mul_v (n := n) (m := m) (a := a) (b := b) d (by omega) (by omega)
  have hl := len_mul a b
  have h2 := fun d => l4make_v (n := (n != m) && decide (a * b ≠ 0)) (a := a * b) (e := ex + ey) d (by omega) (by omega) (by omega)
  rw [mkD_and] at h2
  generalize ((n != m) && decide (a * b ≠ 0)) = s at *
  generalize mkD (n != m) (a * b) (ex + ey) = r at *
  unfold DyT.v at *
  rw [vrun_v Tryd.func92 rfl rfl rfl]; simp only [Tryd.f92]
  simp (disch := omega) [go_sem, tab92, h1, h2]
end
end
/- Dyadic numbers: products, sums, differences, program and reference. No conditions. -/
section
open Num
def mulR (x y : DyT) : DyT := mkD (x.neg != y.neg) (x.n * y.n) (x.e + y.e)
def addR (x y : DyT) : DyT := mkD (ssN x.neg (alA x.n x.e y.n y.e) y.neg (alB x.n x.e y.n y.e)) (ssV x.neg (alA x.n x.e y.n y.e) y.neg (alB x.n x.e y.n y.e)) (alE x.n x.e y.n y.e)
def negT (y : DyT) : DyT := ⟨!y.neg && decide (y.n ≠ 0), y.l, y.e⟩
def subR (x y : DyT) : DyT := addR x (negT y)
/-- What an operation answers. -/
def res2 (R : DyT → DyT → DyT) (x y : DyT) : DyT := if dyOkB x && dyOkB y && dyFit (R x y) then R x y else zT
def ok2 (R : DyT → DyT → DyT) (x y : DyT) : Bool := dyOkB x && dyOkB y && dyFit (R x y)
theorem res2_ok {R : DyT → DyT → DyT} {x y : DyT} (h : dyOkB x = true) (h' : dyOkB y = true) : res2 R x y = fitT (R x y) ∧ ok2 R x y = dyFit (R x y) := by
  unfold res2 ok2 fitT; rw [h, h']; simp
theorem res2_no {R : DyT → DyT → DyT} {x y : DyT} (h : (dyOkB x && dyOkB y) = false) : res2 R x y = zT ∧ ok2 R x y = false := by
  unfold res2 ok2; rw [h]; simp
theorem fitT_len (r : DyT) : (fitT r).l.length ≤ 100 := by
  unfold fitT
  cases h : dyFit r with
  | false => simp [zT]
  | true => unfold dyFit at h; simp at h; simp only [if_true]; omega
theorem res2_len {R : DyT → DyT → DyT} {x y : DyT} : (res2 R x y).l.length ≤ 100 := by
  cases h : (dyOkB x && dyOkB y) with
  | false => rw [(res2_no h).1]; simp [zT]
  | true => rw [Bool.and_eq_true] at h; rw [(res2_ok h.1 h.2).1]; exact fitT_len _
/-- A valid one, whole. -/
theorem okD {x : DyT} (hx : dyOkB x = true) : x.l = D x.n ∧ (D x.n).length ≤ 100 ∧ -3000 ≤ x.e ∧ x.e ≤ 3000 ∧ (x.n = 0 → x.neg = false) := by
  obtain ⟨n, h1, h2, h3, h4, h5⟩ := (dyOkB_iff x).1 hx
  have : x.n = n := by unfold DyT.n; rw [h1, val_D]; rfl
  rw [this]
  refine ⟨h1, by omega, by omega, by omega, fun h => ?_⟩
  rcases h5 with ⟨_, h, _⟩ | h5
  · exact h
  · omega
section
variable {x y : DyT}
theorem neg_dbl {b : Nat} {m : Bool} (h : b = 0 → m = false) : (!(!m && decide (b ≠ 0)) && decide (b ≠ 0)) = m := by
  by_cases h0 : b = 0
  · rw [h h0]; simp [h0]
  · cases m <;> simp [h0]
theorem al_small {a b : Nat} {ex ey : Int} (ha : (D a).length ≤ 100) (hb : (D b).length ≤ 100) (he : -3000 ≤ ex) (he' : ex ≤ 3000) (hf : -3000 ≤ ey) (hf' : ey ≤ 3000) : (D (alA a ex b ey)).length < 1000 ∧ (D (alB a ex b ey)).length < 1000 ∧ -3000 ≤ alE a ex b ey ∧ alE a ex b ey ≤ 3000 := by
  have q1 : -3000 ≤ alE a ex b ey ∧ alE a ex b ey ≤ 3000 := by unfold alE; split <;> (try split) <;> (try split) <;> omega
  have h1 := len_shl a (ex - alE a ex b ey).toNat
  have h2 := len_shl b (ey - alE a ex b ey).toNat
  unfold alA alB
  omega
end
end
/- Comparison of dyadics is comparison of numbers. Plain law. No conditions. -/
section
open Num
def sg (n : Bool) (a : Nat) : Int := if n then -(a : Int) else a
theorem cmpI_le (a b : Nat) : cmpI a b ≤ 0 ↔ a ≤ b := by
  unfold cmpI
  split
  · omega
  · split <;> omega
theorem cmpI_eq (a b : Nat) : cmpI a b = 0 ↔ a = b := by
  unfold cmpI
  split
  · omega
  · split <;> omega
theorem scmp_le {n m : Bool} {a b : Nat} (ha : a = 0 → n = false) (hb : b = 0 → m = false) : scmp n a m b ≤ 0 ↔ sg n a ≤ sg m b := by
  unfold scmp sg
  cases n <;> cases m <;> simp [cmpI_le] <;> simp at ha hb <;> omega
theorem scmp_eq {n m : Bool} {a b : Nat} (ha : a = 0 → n = false) (hb : b = 0 → m = false) : scmp n a m b = 0 ↔ sg n a = sg m b := by
  unfold scmp sg
  cases n <;> cases m <;> simp [cmpI_eq] <;> simp at ha hb <;> omega
theorem sg_mul (n : Bool) (a k : Nat) : sg n (a * k) = sg n a * k := by
  unfold sg; cases n <;> simp [Int.neg_mul]
/-- The number, scaled. -/
def DyT.sv (K : Int) (x : DyT) : Int := sg x.neg x.n * (2 ^ (x.e - K).toNat : Nat)
theorem al_sv {a : Nat} {ex ey K : Int} {b : Nat} (hx : K ≤ ex) (hy : K ≤ ey) : a * 2 ^ (ex - K).toNat = alA a ex b ey * 2 ^ (alE a ex b ey - K).toNat ∧ b * 2 ^ (ey - K).toNat = alB a ex b ey * 2 ^ (alE a ex b ey - K).toNat := by
  unfold alA alB alE
  by_cases hb : b = 0
  · subst hb
    simp
  · by_cases ha : a = 0
    · subst ha
      simp [hb]
    · rw [if_neg hb, if_neg ha]
      by_cases h : ey < ex
      · rw [if_pos h, Nat.mul_assoc, ← Nat.pow_add, Int.sub_self]
        refine ⟨by rw [show (ex - ey).toNat + (ey - K).toNat = (ex - K).toNat by omega], by simp⟩
      · rw [if_neg h, Nat.mul_assoc b, ← Nat.pow_add, Int.sub_self]
        refine ⟨by simp, by rw [show (ey - ex).toNat + (ex - K).toNat = (ey - K).toNat by omega]⟩
theorem al_zero {a : Nat} {ex ey : Int} {b : Nat} : (alA a ex b ey = 0 ↔ a = 0) ∧ (alB a ex b ey = 0 ↔ b = 0) := by
  unfold alA alB
  have h1 := Nat.two_pow_pos (ex - alE a ex b ey).toNat
  have h2 := Nat.two_pow_pos (ey - alE a ex b ey).toNat
  refine ⟨⟨fun h => ?_, fun h => by rw [h, Nat.zero_mul]⟩, ⟨fun h => ?_, fun h => by rw [h, Nat.zero_mul]⟩⟩
  · rcases Nat.mul_eq_zero.1 h with h | h <;> omega
  · rcases Nat.mul_eq_zero.1 h with h | h <;> omega
theorem dcmp_sv {x y : DyT} {K : Int} (hx : dyOkB x = true) (hy : dyOkB y = true) (h1 : K ≤ x.e) (h2 : K ≤ y.e) : (dcmp x y ≤ 0 ↔ x.sv K ≤ y.sv K) ∧ (dcmp x y = 0 ↔ x.sv K = y.sv K) := by
  obtain ⟨_, _, _, _, a4⟩ := ok_D hx
  obtain ⟨_, _, _, _, b4⟩ := ok_D hy
  unfold dcmp DyT.sv
  have z := al_zero (a := x.n) (ex := x.e) (ey := y.e) (b := y.n)
  have za : alA x.n x.e y.n y.e = 0 → x.neg = false := fun h => a4 (z.1.1 h)
  have zb : alB x.n x.e y.n y.e = 0 → y.neg = false := fun h => b4 (z.2.1 h)
  rw [scmp_le za zb, scmp_eq za zb, ← sg_mul, ← sg_mul, (al_sv h1 h2).1, (al_sv h1 h2).2, sg_mul, sg_mul]
  have hp : (0 : Int) < (2 ^ (alE x.n x.e y.n y.e - K).toNat : Nat) := by exact_mod_cast Nat.two_pow_pos _
  exact ⟨⟨fun h => Int.mul_le_mul_of_nonneg_right h (Int.le_of_lt hp), fun h => Int.le_of_mul_le_mul_right h hp⟩, ⟨fun h => by rw [h], fun h => Int.eq_of_mul_eq_mul_right (by omega) h⟩⟩
theorem dyOk_e {x : DyT} (hx : dyOkB x = true) : -3000 ≤ x.e := by
  obtain ⟨_, _, _, h, _⟩ := (dyOkB_iff x).1 hx
  exact h
theorem dcmp_le {x y : DyT} (hx : dyOkB x = true) (hy : dyOkB y = true) : dcmp x y ≤ 0 ↔ x.sv (-3000) ≤ y.sv (-3000) := (dcmp_sv hx hy (dyOk_e hx) (dyOk_e hy)).1
theorem dcmp_eq {x y : DyT} (hx : dyOkB x = true) (hy : dyOkB y = true) : dcmp x y = 0 ↔ x.sv (-3000) = y.sv (-3000) := (dcmp_sv hx hy (dyOk_e hx) (dyOk_e hy)).2
theorem dcmp_trans {x y z : DyT} (hx : dyOkB x = true) (hy : dyOkB y = true) (hz : dyOkB z = true) (h1 : dcmp x y ≤ 0) (h2 : dcmp y z ≤ 0) : dcmp x z ≤ 0 :=
  (dcmp_le hx hz).2 (Int.le_trans ((dcmp_le hx hy).1 h1) ((dcmp_le hy hz).1 h2))
end
end Go.Eng
