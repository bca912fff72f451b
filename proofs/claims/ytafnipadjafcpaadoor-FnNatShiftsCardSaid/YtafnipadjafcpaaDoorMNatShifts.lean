/- What the functions of this seat do, one after another, told by plain values. No conditions. -/
import Derived.Test.YtafnipadjafcpaaDoorSeat
import Derived.Test.YtafnipadjafcpaaDoorVb
import Derived.Test.YtafnipadjafcpaaDoorT3
set_option linter.unusedVariables false
set_option linter.unusedSimpArgs false
namespace Go.Eng
open Go.Proofs
set_option maxRecDepth 100000
set_option linter.unusedSimpArgs false
attribute [local go_sem] r_seq r_skip r_retC r_exitC r_label r_block r_region r_regionW r_xWt r_xW r_cond r_Bt r_Bf r_Ncode r_Nret r_Nexit r_Nblk r_Nblkr r_Nblke r_Nnil r_Es r_Onil r_Oop r_Oif r_Xs r_Gt r_Gf r_wtt r_wtf r_wft r_wff r_wu r_gO r_putS r_putN r_get r_keepN r_keepC r_fr r_fn r_fi r_ff r_fo r_l1 r_l2t r_cun r_cul r_cub r_cui r_cus r_cuis r_cuc r_cusl r_cuti r_cutv r_ven r_vec r_l2f r_l3 r_t1 r_t2 r_t0 r_rt r_rc r_en r_ec r_cM r_oN r_oC r_end r_endt r_endf r_nob0 r_nobN r_nobC r_nobE r_nb0 r_nbi r_nbs r_nbsl r_nbin r_nbce r_nLn r_nLv r_nLc r_nAa r_nAn r_nAk_b r_nAk_i r_nAk_s r_nAk_n r_nAk_is r_nAk_ce r_nAk_fp r_nAk_sl r_nAk_pt r_nAk_fn r_nsn r_nsv r_nsc r_m0 r_mi r_ms r_msl r_min r_mce r_mLn r_mLv r_mLc r_mAa r_mAn r_mAk_b r_mAk_i r_mAk_s r_mAk_n r_mAk_is r_mAk_ce r_mAk_fp r_mAk_sl r_mAk_pt r_mAk_fn r_msn r_msv r_msc r_atb r_ati r_ats r_atn r_atis r_atc r_atf r_atl r_atp r_atfn r_gcn r_gcc r_gLn r_gLc r_gIt r_ndn r_ndc r_gcB r_gLB r_two r_rea r_rea0 r_re1n r_re1c r_ori r_orv r_ord r_orn r_adn r_adc r_ad1 r_ern r_ers r_er0 r_rsl r_rptr r_rb r_ri r_rs r_rn r_ris r_rce r_rfp r_ra4 r_ra3 r_rt4 r_rf4 r_rf3 r_idS r_idc r_nS r_nP r_nF r_nT r_vsl r_vptr r_vb r_vi r_vs r_vn r_vis r_vce r_vfp r_va4 r_va3 r_vt4 r_vf4 r_vf3 r_rV r_Oi r_Ov r_Od r_rE r_rE0 r_En r_Ec r_E0 r_pO r_pk r_agL r_cO r_fO r_fSi r_fSv r_fPv r_fsl r_fptr r_ffn r_fag r_fb r_fint r_fstr r_fnil r_fis r_fce r_ffp r_res r_move r_assign r_pick r_pickt r_pickf r_alloc r_box r_al r_build r_bslice r_load r_store r_nlc r_nl1 r_nl2 r_bin r_un r_conv r_mkf r_mks r_slc r_fad r_fld r_iad r_idx r_ext r_ex1 r_callf r_callt r_callen r_calapp r_calmax r_calmin r_vt r_vcb r_vci r_vcs r_vcnp r_vcn r_vca r_vcf r_vcg r_ofb r_ofi r_ofs r_ofn r_evs r_pn r_prt r_pc r_one_a r_one_b r_one_i r_one_s r_one_n r_one_is r_one_ce r_one_fp r_one_sl r_one_pt r_one_fn r_cs_a r_cs_b r_cs_i r_cs_s r_cs_n r_cs_is r_cs_ce r_cs_fp r_cs_sl r_cs_pt r_cs_fn r_tov r_tovA r_toc r_toa r_tb r_ti r_ts r_tn r_bd r_bd2 r_filn r_fp1 r_filc r_fsn r_fsc r_san r_sac r_bs2 r_bs1 r_newO r_mkq r_mkI r_mkOi r_mkOv r_tIn r_tIc r_repz r_repn r_ldp r_ldf r_l1t r_l1f r_lFt r_lFf r_aggO r_obj r_at r_ati' r_atv r_celli r_cellv r_subi r_subv r_sto r_sto1 r_sto2 r_sets r_setR r_setn r_setc r_s1i r_s1v r_bin1 r_bin2 r_tv1 r_cb r_ci r_cst r_cn r_csl r_cis r_cce r_uni r_unb r_cv r_cvO r_cvN r_cv0 r_cvS r_wB r_cvi r_cvs r_cvb r_cvl r_sO r_rdn r_rdi r_rdl r_rdO r_vsub r_vfn r_mk r_mk1 r_mk2 r_zoi r_zov r_leni r_lenv r_bn r_bndV r_bo r_sl0 r_sl1 r_vsz r_ct1 r_cts r_cti r_ctc r_ctn r_lnl r_lni r_lnc r_lnn r_fa r_fap r_faf r_fi1 r_fit r_fif r_ixi r_ixs r_ixc r_ixf r_ixF r_ixF2 r_ix1 r_ixsl r_ixin r_ixce r_len1 r_lenA r_lTs r_lTn r_lTl r_lTi r_lTc r_app0 r_app r_app1 r_app2 r_app3 r_catO r_cati r_catv r_newt r_newf r_pair r_pairK r_trip r_kis r_kiv r_srn r_srl r_sri r_src r_srs r_oln r_oll r_vw r_wi r_wv r_mm r_max r_min' r_str r_cF r_c2t r_c3f r_c3t r_ab r_c2f r_cV r_p1 r_la r_la2t r_la2f r_la3 r_sh r_z_is r_z_ce r_z_fp r_z_b r_z_i r_z_s r_z_n r_z_l r_z_p r_z_a4 r_z_a3 r_z_t4 r_zoI r_zoV r_roN r_roC r_roi r_rod r_zod r_rov r_aR r_trOi r_trOv r_trPv r_trl r_trp r_trf r_tra r_trb r_tri r_trs r_trn r_tris r_trce r_trfp r_vJ r_vJs r_vJn
attribute [local go_sem] b_add b_sub b_mul b_quo b_rem b_shl b_shr b_eql b_neq b_lss b_leq b_gtr b_geq eqB_s b_eqB b_neB u_neg u_not b_nn b_nn' eqS_s zerosT_s zerosT_n zt_i zt_sl zt_st dstOf_z dstOf_n iltT iltF ileT ileF ieqT ieqF nltT nltF nleT nleF neqT neqF tdiv_pos tmod_pos w64 idx0 List.take_of_length_le
/- Trailing noughts of a limb, as the library counts them. No conditions. -/
section
open Num
theorem wu64' {x : Int} (h1 : 0 ≤ x) (h2 : x ≤ 18446744073709551615) : IntKind.wrap .u64 x = x := by
  simp [IntKind.wrap, IntKind.bits, IntKind.signed]; omega
theorem negu {x : Nat} (h0 : x ≠ 0) (hx : x < 65536) : IntKind.wrap .u64 (-(x : Int)) = ((2 ^ 64 - x : Nat) : Int) := by
  simp [IntKind.wrap, IntKind.bits, IntKind.signed]; omega
theorem andneg (P : Program) (ty : TypeId) {x t o : Nat} (h0 : x ≠ 0) (hx : x < 65536) (h : x = 2 ^ t * (2 * o + 1)) : binE P .and ty (.int .u64 (x : Int)) (.int .u64 ((2 ^ 64 - x : Nat) : Int)) = some (.int .u64 ((2 ^ t : Nat) : Int)) := by
  rw [b_and]
  have e : (BitVec.ofInt (IntKind.bits .u64) (x : Int) &&& BitVec.ofInt (IntKind.bits .u64) ((2 ^ 64 - x : Nat) : Int)).toNat = 2 ^ t := by
    show (BitVec.ofInt 64 (x : Int) &&& BitVec.ofInt 64 ((2 ^ 64 - x : Nat) : Int)).toNat = 2 ^ t
    rw [BitVec.toNat_and, BitVec.ofInt_natCast, BitVec.ofInt_natCast, BitVec.toNat_ofNat, BitVec.toNat_ofNat, Nat.mod_eq_of_lt (by omega), Nat.mod_eq_of_lt (by omega)]
    exact land_neg h (by omega)
  rw [e]
  have hle : 2 ^ t ≤ x := by rw [h]; exact Nat.le_mul_of_pos_right _ (by omega)
  rw [wu64' (by omega) (by omega)]
theorem tz16 {x t o : Nat} (hx : x < 65536) (h : x = 2 ^ t * (2 * o + 1)) : t < 16 := by
  have hle : 2 ^ t ≤ x := by rw [h]; exact Nat.le_mul_of_pos_right _ (by omega)
  exact (Nat.pow_lt_pow_iff_right (a := 2) (by omega)).1 (by omega : 2 ^ t < 2 ^ 16)
theorem kglob1 : kn.glob 1 = some (.fptr globT1) := rfl
theorem tabG : ∀ t, t < 16 → ∃ k : Nat, (IntKind.wrap .u64 (((2 ^ t : Nat) : Int) * 285870213051353865)).fdiv 288230376151711744 = (k : Int) ∧ k < 64 ∧ (globT1.drop k)[0]? = some (.int .u8 (t : Int)) := by
  intro t ht
  have : t = 0 ∨ t = 1 ∨ t = 2 ∨ t = 3 ∨ t = 4 ∨ t = 5 ∨ t = 6 ∨ t = 7 ∨ t = 8 ∨ t = 9 ∨ t = 10 ∨ t = 11 ∨ t = 12 ∨ t = 13 ∨ t = 14 ∨ t = 15 := by omega
  rcases this with rfl | rfl | rfl | rfl | rfl | rfl | rfl | rfl | rfl | rfl | rfl | rfl | rfl | rfl | rfl | rfl
  · exact ⟨0, rfl, by omega, rfl⟩
  · exact ⟨1, rfl, by omega, rfl⟩
  · exact ⟨3, rfl, by omega, rfl⟩
  · exact ⟨7, rfl, by omega, rfl⟩
  · exact ⟨15, rfl, by omega, rfl⟩
  · exact ⟨31, rfl, by omega, rfl⟩
  · exact ⟨63, rfl, by omega, rfl⟩
  · exact ⟨62, rfl, by omega, rfl⟩
  · exact ⟨61, rfl, by omega, rfl⟩
  · exact ⟨59, rfl, by omega, rfl⟩
  · exact ⟨55, rfl, by omega, rfl⟩
  · exact ⟨47, rfl, by omega, rfl⟩
  · exact ⟨30, rfl, by omega, rfl⟩
  · exact ⟨60, rfl, by omega, rfl⟩
  · exact ⟨57, rfl, by omega, rfl⟩
  · exact ⟨51, rfl, by omega, rfl⟩
theorem tz64_v (d : Nat) {x : Nat} (h0 : x ≠ 0) (hx : x < 65536) : vrun Tryd.prog kn (d + 1) 56 [.int .u64 (x : Int)] [] = some (.int .i64 (tz x), []) := by
  have h1 : ¬ (x : Int) = 0 := by omega
  obtain ⟨o, ho⟩ := tz_spec h0
  have ht := tz16 hx ho
  have h2 := negu h0 hx
  have h3 := fun ty => andneg Tryd.prog ty h0 hx ho
  generalize tz x = t at *
  obtain ⟨k, hk, hk2, hk3⟩ := tabG t ht
  have hlen : globT1.length = 64 := rfl
  have h5 : ((t : Int)) < 64 := by omega
  have h6 : IntKind.wrap .i64 (t : Int) = t := w64 (by omega) (by omega)
  generalize hw : IntKind.wrap .u64 (((2 ^ t : Nat) : Int) * 285870213051353865) = W at *
  generalize ((2 ^ t : Nat) : Int) = Q at *
  generalize ((2 ^ 64 - x : Nat) : Int) = Y at *
  clear h0 hx ho
  generalize (x : Int) = X at *
  have h4 : min (Int.toNat 58) (IntKind.bits .u64) = 58 := rfl
  rw [vrun_v Tryd.func56 rfl rfl rfl]; simp only [Tryd.f56]
  simp (implicitDefEqProofs := false) (disch := omega) [go_sem, tab56, h1, h2, h3, hw, h4, hk, kglob1, hlen, hk3, h6, Int.toNat_natCast]
theorem tzs_v (d : Nat) {x : Nat} (h0 : x ≠ 0) (hx : x < 65536) : vrun Tryd.prog kn (d + 2) 46 [.int .u64 (x : Int)] [] = some (.int .i64 (tz x), []) := by
  have h1 := fun d => tz64_v d h0 hx
  rw [vrun_v Tryd.func46 rfl rfl rfl]; simp only [Tryd.f46]
  simp (disch := omega) [go_sem, tab46, h1]
end
/- Square roots, program. No conditions. -/
section
open Num
section
variable {a x : Nat}
theorem top_dg (h0 : x ≠ 0) : x / 65536 ^ ((D x).length - 1) % 65536 = x / 65536 ^ ((D x).length - 1) ∧ x / 65536 ^ ((D x).length - 1) ≠ 0 ∧ 0 < (D x).length := by
  have hp : 0 < (D x).length := List.length_pos_iff.2 fun e => h0 (D_nil_iff.1 e)
  have h1 := le_of_len_D h0
  have h2 := lt_len_D x
  have e : 65536 ^ (D x).length = 65536 ^ ((D x).length - 1) * 65536 := by rw [← Nat.pow_succ]; congr 1; omega
  have h3 : x / 65536 ^ ((D x).length - 1) < 65536 := Nat.div_lt_of_lt_mul (by rw [← e]; exact h2)
  exact ⟨Nat.mod_eq_of_lt h3, by have := Nat.div_pos h1 (powN_pos _); omega, hp⟩
theorem bitsOf_v (d : Nat) (hx : (D x).length < 1000000) : vrun Tryd.prog kn (d + 3) 22 [.ints .i64 (D x)] [] = some (.int .i64 (nb x), []) := by
  by_cases h0 : x = 0
  · subst h0
    rw [D_zero, nb_zero]
    rw [vrun_v Tryd.func22 rfl rfl rfl]; simp only [Tryd.f22]
    simp (implicitDefEqProofs := false) (disch := omega) [go_sem, tab22]
  · obtain ⟨t1, t2, t3⟩ := top_dg h0
    have hnb := nb_top t2
    have hlt : x / 65536 ^ ((D x).length - 1) < 65536 := by rw [← t1]; exact Nat.mod_lt _ (by omega)
    have a1 := fun d => Len_v (x := x / 65536 ^ ((D x).length - 1)) d hlt
    have hg : gt (D x) ((D x).length - 1) = ((x / 65536 ^ ((D x).length - 1) : Nat) : Int) := by rw [gt_D]; unfold dg; rw [t1]
    have hb := nb_16 hlt
    rw [hnb]
    have hne : D x ≠ [] := fun e => h0 (D_nil_iff.1 e)
    generalize x / 65536 ^ ((D x).length - 1) = q at *
    generalize D x = L at *
    have hw : IntKind.wrap .u64 (q : Int) = q := wu64' (by omega) (by omega)
    have e1 : ((L.length : Int) - 1).toNat = L.length - 1 := by omega
    have e2 : 16 * ((L.length : Int) - 1) + (nb q : Int) = ((16 * (L.length - 1) + nb q : Nat) : Int) := by omega
    rw [vrun_v Tryd.func22 rfl rfl rfl]; simp only [Tryd.f22]
    simp (implicitDefEqProofs := false) (disch := omega) [go_sem, tab22, a1, hg, hne, hw, e1, e2]
def rtS (a x : Nat) : VE × VH := ([(0, some (.ints .i64 (D a))), (3, some (.sl 0 0 (D x).length 1))], [.ints true .i64 (D x)])
theorem nst_len (hx : (D x).length < 100000) (ha : (D a).length < 100000) : (D (x + a / x)).length < 100002 := by
  have h1 := len_D_mono (Nat.div_le_self a x)
  have := len_add (x := x) (y := a / x) (n := 100000) (by omega) (by omega)
  omega
theorem rt_bd (a : Nat) : rt a ≤ 2 ^ ((nb a + 1) / 2) := by
  have h1 := nb_lt a
  have h2 := rt_le a
  rcases Nat.lt_or_ge (2 ^ ((nb a + 1) / 2)) (rt a) with h | h
  · have h3 : 2 ^ ((nb a + 1) / 2) * 2 ^ ((nb a + 1) / 2) ≤ rt a * rt a := Nat.mul_le_mul (Nat.le_of_lt h) (Nat.le_of_lt h)
    rw [← Nat.pow_add] at h3
    have h4 : 2 ^ nb a ≤ 2 ^ ((nb a + 1) / 2 + (nb a + 1) / 2) := Nat.pow_le_pow_right (by omega) (by omega)
    omega
  · exact h
theorem nb_len (a : Nat) : nb a ≤ 16 * (D a).length := by
  by_cases h0 : a = 0
  · subst h0; rw [nb_zero]; omega
  · obtain ⟨h1, h2⟩ := nb_le h0
    have h3 := lt_len_D a
    have e : 65536 ^ (D a).length = 2 ^ (16 * (D a).length) := by rw [Nat.pow_mul]
    rw [e] at h3
    have := (Nat.pow_lt_pow_iff_right (by omega : 1 < 2)).1 (Nat.lt_of_le_of_lt h1 h3)
    omega
def nrR (l : List Int) : List Int := if natOkB l then D (rt (nN l)) else []
theorem rt_self (a : Nat) : rt a ≤ a := by
  have h := rt_le a
  rcases Nat.eq_zero_or_pos (rt a) with h0 | h0
  · omega
  · exact Nat.le_trans (Nat.le_mul_of_pos_left _ h0) h
end
end
/- Dyadics: alignment and comparison, program and reference. No conditions. -/
section
open Num
def alE (a : Nat) (ex : Int) (b : Nat) (ey : Int) : Int := if b = 0 then ex else if a = 0 then ey else if ey < ex then ey else ex
def alA (a : Nat) (ex : Int) (b : Nat) (ey : Int) : Nat := a * 2 ^ (ex - alE a ex b ey).toNat
def alB (a : Nat) (ex : Int) (b : Nat) (ey : Int) : Nat := b * 2 ^ (ey - alE a ex b ey).toNat
def scmp (n : Bool) (a : Nat) (m : Bool) (b : Nat) : Int := if n && !m then -1 else if !n && m then 1 else if n then cmpI b a else cmpI a b
section
variable {a b : Nat} {ex ey : Int} {n m : Bool}
theorem alE_bd (he : -100000 ≤ ex) (he' : ex ≤ 100000) (hf : -100000 ≤ ey) (hf' : ey ≤ 100000) : -100000 ≤ alE a ex b ey ∧ alE a ex b ey ≤ 100000 := by
  unfold alE
  by_cases h1 : b = 0
  · rw [if_pos h1]; omega
  · rw [if_neg h1]
    by_cases h2 : a = 0
    · rw [if_pos h2]; omega
    · rw [if_neg h2]; split <;> omega
theorem al_len (ha : (D a).length < 100000) (hb : (D b).length < 100000) (he : -100000 ≤ ex) (he' : ex ≤ 100000) (hf : -100000 ≤ ey) (hf' : ey ≤ 100000) : (D (alA a ex b ey)).length < 200000 ∧ (D (alB a ex b ey)).length < 200000 := by
  have := alE_bd (a := a) (b := b) he he' hf hf'
  unfold alA alB
  have h1 := len_shl a (ex - alE a ex b ey).toNat
  have h2 := len_shl b (ey - alE a ex b ey).toNat
  omega
def alE2 (a : Nat) (ex : Int) (b : Nat) (ey : Int) : Int := if a = 0 then ey else if b = 0 then ex else if ey < ex then ey else ex
end
end
/- The reference's trailing noughts, and its one form of a dyadic. No conditions. -/
section
open Num
section
variable {x : Nat}
def trS (x j : Nat) : VE × VH := ([(1, some (.ptr 0 0)), (3, some (.int .i64 j))], [.vals true [.ints .i64 (D x)]])
end
end
/- The reference's one form of a dyadic number. No conditions. -/
section
open Num
section
variable {a : Nat} {n : Bool} {e : Int}
/-- The one form. -/
def mkD (n : Bool) (a : Nat) (e : Int) : DyT := if a = 0 then ⟨false, [], 0⟩ else ⟨n, D (a / 2 ^ tz a), e + tz a⟩
end
end
/- Numbers of any size: their one form, products; trailing noughts. No conditions. -/
section
open Num
theorem low_zero {x j : Nat} (h : 16 * j ≤ tz x) : x % 65536 ^ j = 0 := by
  by_cases h0 : x = 0
  · subst h0; simp
  obtain ⟨o, ho⟩ := tz_spec h0
  have e : (65536 : Nat) ^ j = 2 ^ (16 * j) := by rw [show (65536 : Nat) = 2 ^ 16 from rfl, ← Nat.pow_mul]
  have e2 : 2 ^ tz x = 2 ^ (16 * j) * 2 ^ (tz x - 16 * j) := by rw [← Nat.pow_add]; congr 1; omega
  rw [e]
  conv => lhs; lhs; rw [ho, e2, Nat.mul_assoc]
  exact Nat.mul_mod_right _ _
theorem dig_zero {x j : Nat} (h : 16 * (j + 1) ≤ tz x) : x / 65536 ^ j % 65536 = 0 := by
  have h1 := low_zero h
  rw [mod_pow_succ] at h1
  have hp := powN_pos j
  rcases Nat.eq_zero_or_pos (x / 65536 ^ j % 65536) with h2 | h2
  · exact h2
  · have := Nat.mul_pos hp h2; omega
theorem dig_nz {x : Nat} (h0 : x ≠ 0) : x / 65536 ^ (tz x / 16) % 65536 ≠ 0 := by
  intro h
  have hb := tz_bit h0
  have e : 2 ^ tz x = 65536 ^ (tz x / 16) * 2 ^ (tz x % 16) := pow_split _
  rw [e, ← Nat.div_div_eq_div_mul] at hb
  generalize x / 65536 ^ (tz x / 16) = a at *
  have e2 : (65536 : Nat) = 2 ^ (tz x % 16) * (2 * 2 ^ (15 - tz x % 16)) := by
    rw [← Nat.mul_assoc, Nat.mul_right_comm, ← Nat.pow_add, show tz x % 16 + (15 - tz x % 16) = 15 by omega]
  have h2 : a = 65536 * (a / 65536) := by omega
  rw [h2, e2, Nat.mul_assoc, Nat.mul_div_cancel_left _ (Nat.two_pow_pos _), Nat.mul_assoc] at hb
  omega
section
variable {x : Nat}
def toS (x j : Nat) : VE × VH := ([(5, some (.ints .i64 (D x))), (6, some (.int .i64 (D x).length)), (7, some (.int .i64 j))], [])
theorem to_r (call : CallV) (hx : (D x).length < 1000000) {j : Nat} (hj : j < tz x / 16) : vCode Tryd.prog kn call 30 (loopAt Tryd.f30 0) (toS x j).1 (toS x j).2 = some (.norm, toS x (j + 1)) := by
  have h0 : x ≠ 0 := by rintro rfl; simp [tz] at hj
  have hlt := tz_lt h0
  have hd : dg x j = 0 := by unfold dg; rw [dig_zero (by omega)]; rfl
  rw [round_v]; simp only [loopAt, nthC, bodyC, loops, List.nil_append, List.cons_append, List.append_nil, Tryd.f30, toS]
  simp (disch := omega) [go_sem, tab30, gt_D, hd]
theorem to_x (d : Nat) (hx : (D x).length < 1000000) (h0 : x ≠ 0) : vCode Tryd.prog kn (vrun Tryd.prog kn (d + 2)) 30 (loopAt Tryd.f30 0) (toS x (tz x / 16)).1 (toS x (tz x / 16)).2 = some (.ret, [(2, some (.int .i64 (tz x)))], []) := by
  have hlt := tz_lt h0
  have hn := dig_nz h0
  have h1 := fun d => tzs_v d hn (Nat.mod_lt _ (by omega))
  have hf : tz x = 16 * (tz x / 16) + tz (x / 65536 ^ (tz x / 16) % 65536) := tz_first (fun h => hn (by rw [h])) (low_zero (by omega)) hn
  have hd : dg x (tz x / 16) = ((x / 65536 ^ (tz x / 16) % 65536 : Nat) : Int) := rfl
  have hb := Nat.mod_lt (x / 65536 ^ (tz x / 16)) (by omega : 0 < 65536)
  rw [round_v]; simp only [loopAt, nthC, bodyC, loops, List.nil_append, List.cons_append, List.append_nil, Tryd.f30, toS]
  generalize x / 65536 ^ (tz x / 16) % 65536 = q at *
  generalize tz x / 16 = i at *
  have hw : IntKind.wrap .u64 (q : Int) = q := wu64' (by omega) (by omega)
  have hs : (16 * (i : Int)) + (tz q : Int) = tz x := by omega
  simp (disch := omega) [go_sem, tab30, gt_D, hd, hw, h1, hs, hn]
theorem trailOf_v (d : Nat) (hx : (D x).length < 1000000) : vrun Tryd.prog kn (d + 3) 30 [.ints .i64 (D x)] [] = some (.int .i64 (tz x), []) := by
  by_cases h0 : x = 0
  · subst h0
    have hv : ∀ call, vCode Tryd.prog kn call 30 (loopAt Tryd.f30 0) (toS 0 0).1 (toS 0 0).2 = some (.exit 0, (toS 0 0).1 ++ [(8, some (.bool false))], (toS 0 0).2) := fun call => by
      rw [round_v]; simp only [loopAt, nthC, bodyC, loops, List.nil_append, List.cons_append, List.append_nil, Tryd.f30, toS, D_zero]
      simp (disch := omega) [go_sem, tab30]
    have hl0 := fun call ks => loop_v (P := Tryd.prog) (K := kn) (ks := ks) (vi_for (fun _ => toS 0 0) 0 (n := kn.cf.rounds) (by rw [k_cf, c_rounds]; omega) (fun j hj => absurd hj (by omega)) fun m => vi_exit (hv call))
    simp only [loopAt, nthC, bodyC, loops, List.nil_append, List.cons_append, List.append_nil, Tryd.f30, toS, D_zero, Int.natCast_zero, List.length_nil, List.cons_append, List.nil_append] at hl0
    have : tz 0 = 0 := by simp [tz]
    rw [D_zero, this]
    rw [vrun_v Tryd.func30 rfl rfl rfl]; simp only [Tryd.f30]
    simp (disch := omega) [go_sem, tab30, hl0]
  · have hlt := tz_lt h0
    have hl0 := fun ks => loop_v (P := Tryd.prog) (K := kn) (ks := ks) (vi_for (toS x) (tz x / 16) (n := kn.cf.rounds) (by rw [k_cf, c_rounds]; omega) (fun j hj => to_r _ hx hj) fun m => vi_ret (to_x d hx h0))
    simp only [loopAt, nthC, bodyC, loops, List.nil_append, List.cons_append, List.append_nil, Tryd.f30, toS, Int.natCast_zero, List.cons_append, List.nil_append] at hl0
    rw [vrun_v Tryd.func30 rfl rfl rfl]; simp only [Tryd.f30]
    simp (disch := omega) [go_sem, tab30, hl0]
end
section
variable {a b : Nat} {n m : Bool} {e ex ey : Int}
/-- May it be told? -/
def dyFit (r : DyT) : Bool := decide (r.l.length ≤ 100) && decide (-3000 ≤ r.e) && decide (r.e ≤ 3000)
def zT : DyT := ⟨false, [], 0⟩
def fitT (r : DyT) : DyT := if dyFit r then r else zT
theorem mkD_neg : (mkD n a e).neg = ((mkD n a e).neg && !decide ((mkD n a e).l.length = 0)) := by
  unfold mkD
  by_cases h0 : a = 0
  · rw [if_pos h0]; rfl
  · rw [if_neg h0]
    have hb := tz_bit h0
    have hX : a / 2 ^ tz a ≠ 0 := fun h => by rw [h] at hb; simp at hb
    have : ¬ (D (a / 2 ^ tz a)).length = 0 := fun h => hX (D_nil_iff.1 (List.eq_nil_of_length_eq_zero h))
    simp [this]
theorem mkD_len : (mkD n a e).l.length ≤ (D a).length := by
  unfold mkD
  split
  · simp
  · exact len_D_mono (Nat.div_le_self _ _)
theorem mkD_e (he : -1000000000 ≤ e) (he' : e ≤ 1000000000) (ha : (D a).length < 60000) : -1000000000 ≤ (mkD n a e).e ∧ (mkD n a e).e ≤ 1001000000 := by
  unfold mkD
  by_cases h0 : a = 0
  · rw [if_pos h0]; simp
  · rw [if_neg h0]
    have := tz_lt h0
    simp only; omega
/-- What is in its one form is valid where it fits. -/
theorem dyOkB_mkD : dyOkB (mkD n a e) = dyFit (mkD n a e) := by
  unfold mkD
  by_cases h0 : a = 0
  · rw [if_pos h0]; rfl
  · rw [if_neg h0]
    have hb := tz_bit h0
    generalize a / 2 ^ tz a = X at *
    have hX : X ≠ 0 := fun h => by rw [h] at hb; simp at hb
    have hl : ¬ (D X).length = 0 := fun h => hX (D_nil_iff.1 (List.eq_nil_of_length_eq_zero h))
    have hg : gt (D X) 0 % 2 = 1 := by rw [gt_D]; unfold dg; rw [Nat.pow_zero, Nat.div_one]; omega
    unfold dyOkB dyFit wholeOkB
    simp only [natOkB_D, hl, hg, decide_false, Bool.and_false, Bool.not_false, Bool.and_true, if_false, decide_true, Bool.and_assoc]
theorem mkD_and : mkD (n && decide (a ≠ 0)) a e = mkD n a e := by
  unfold mkD
  by_cases h0 : a = 0
  · rw [if_pos h0, if_pos h0]
  · rw [if_neg h0, if_neg h0]; simp [h0]
end
end
/- Natural numbers: shifts, powers of two, bits, program. No conditions. -/
section
open Num
section
variable {l : List Int} {x k : Nat}
theorem NatBits_v (d : Nat) (hl : (D x).length ≤ 100) : vrun Tryd.prog kn (d + 8) 7 [.agg [.ints .i64 (D x)]] [] = some (.int .i64 (nb x), []) := by
  have h1 := fun d => NatOk_v (l := D x) d (by omega)
  have h2 := fun d => bitsOf_v (x := x) d (by omega)
  simp only [natOk_D hl] at h1
  rw [vrun_v Tryd.func7 rfl rfl rfl]; simp only [Tryd.f7]
  simp (implicitDefEqProofs := false) (disch := omega) [go_sem, tab7, h1, h2]
theorem NatTrail_v (d : Nat) (hl : (D x).length ≤ 100) : vrun Tryd.prog kn (d + 8) 14 [.agg [.ints .i64 (D x)]] [] = some (.int .i64 (tz x), []) := by
  have h1 := fun d => NatOk_v (l := D x) d (by omega)
  have h2 := fun d => trailOf_v (x := x) d (by omega)
  simp only [natOk_D hl] at h1
  rw [vrun_v Tryd.func14 rfl rfl rfl]; simp only [Tryd.f14]
  simp (implicitDefEqProofs := false) (disch := omega) [go_sem, tab14, h1, h2]
theorem NatBit_v (d : Nat) (hl : (D x).length ≤ 100) (hk : k < 16000000) : vrun Tryd.prog kn (d + 8) 15 [.agg [.ints .i64 (D x)], .int .i64 (k : Int)] [] = some (.int .i64 ((x / 2 ^ k % 2 : Nat) : Int), []) := by
  have h1 := fun d => NatOk_v (l := D x) d (by omega)
  have h2 := fun d => bitOf_v (x := x) d (by omega) hk
  simp only [natOk_D hl] at h1
  generalize ((x / 2 ^ k % 2 : Nat) : Int) = r at *
  rw [vrun_v Tryd.func15 rfl rfl rfl]; simp only [Tryd.f15]
  simp (implicitDefEqProofs := false) (disch := omega) [go_sem, tab15, h1, h2]
theorem NatShr_v (d : Nat) (hl : (D x).length ≤ 100) (hk : k < 1000000) : vrun Tryd.prog kn (d + 8) 9 [.agg [.ints .i64 (D x)], .int .i64 (k : Int)] [] = some (.agg [.sl 0 0 (D (x / 2 ^ k)).length 1], [.ints true .i64 (D (x / 2 ^ k))]) := by
  have h1 := fun d => NatOk_v (l := D x) d (by omega)
  have h2 := fun d => down_v (x := x) (k := k) d (by omega) hk
  simp only [natOk_D hl] at h1
  generalize D (x / 2 ^ k) = R at *
  rw [vrun_v Tryd.func9 rfl rfl rfl]; simp only [Tryd.f9]
  simp (implicitDefEqProofs := false) (disch := omega) [go_sem, tab9, h1, h2]
theorem NatShl_v (d : Nat) (hl : (D x).length ≤ 100) (hk : k ≤ 1600) : vrun Tryd.prog kn (d + 8) 5 [.agg [.ints .i64 (D x)], .int .i64 (k : Int)] [] = some (.tup [.agg [.sl 0 0 (fitL (D (x * 2 ^ k))).length 1], .bool (decide ((D (x * 2 ^ k)).length ≤ 100))], [.ints true .i64 (fitL (D (x * 2 ^ k)))]) := by
  have h1 := fun d => NatOk_v (l := D x) d (by omega)
  simp only [natOk_D hl] at h1
  by_cases h0 : x = 0
  · subst h0
    rw [Nat.zero_mul, D_zero] at *
    have e : fitL ([] : List Int) = [] := by unfold fitL; simp
    rw [e]
    rw [vrun_v Tryd.func5 rfl rfl rfl]; simp only [Tryd.f5]
    simp (implicitDefEqProofs := false) (disch := omega) [go_sem, tab5, h1]
  · have hne : D x ≠ [] := fun e => h0 (D_nil_iff.1 e)
    have hp : 0 < (D x).length := List.length_pos_iff.2 hne
    have h2 := fun d => up_v (x := x) (k := k) d (by omega) (by omega)
    have hlen := len_shl x k
    generalize D (x * 2 ^ k) = R at *
    have h3 := fun d => natOf_v (l := R) d (by omega)
    rw [vrun_v Tryd.func5 rfl rfl rfl]; simp only [Tryd.f5]
    simp (implicitDefEqProofs := false) (disch := omega) [go_sem, tab5, h1, h2, h3, hne]
theorem NatShl_n (d : Nat) {j : Int} (hx : l.length < 1000000000) (h : natOkB l = false ∨ (natOkB l = true ∧ j < 0) ∨ (natOkB l = true ∧ 1600 < j)) : ∃ f : Bool, vrun Tryd.prog kn (d + 8) 5 [.agg [.ints .i64 l], .int .i64 j] [] = some (.tup [.agg [.sl 0 0 0 1], .bool f], [.ints true .i64 []]) ∧ (f = true → l = []) := by
  have h1 := fun d => NatOk_v (l := l) d hx
  rcases h with h | ⟨h, hj⟩ | ⟨h, hj⟩
  · rw [h] at h1
    refine ⟨false, ?_, by simp⟩
    rw [vrun_v Tryd.func5 rfl rfl rfl]; simp only [Tryd.f5]
    simp (implicitDefEqProofs := false) (disch := omega) [go_sem, tab5, h1]
  · rw [h] at h1
    refine ⟨false, ?_, by simp⟩
    rw [vrun_v Tryd.func5 rfl rfl rfl]; simp only [Tryd.f5]
    simp (implicitDefEqProofs := false) (disch := omega) [go_sem, tab5, h1]
  · rw [h] at h1
    have hj0 : ¬ j < 0 := by omega
    by_cases h0 : l = []
    · subst h0
      refine ⟨true, ?_, fun _ => rfl⟩
      rw [vrun_v Tryd.func5 rfl rfl rfl]; simp only [Tryd.f5]
      simp (implicitDefEqProofs := false) (disch := omega) [go_sem, tab5, h1, hj0]
    · have hp : 0 < l.length := List.length_pos_iff.2 h0
      refine ⟨false, ?_, by simp⟩
      rw [vrun_v Tryd.func5 rfl rfl rfl]; simp only [Tryd.f5]
      simp (implicitDefEqProofs := false) (disch := omega) [go_sem, tab5, h1, hj0, h0]
end
theorem nb_shl {x : Nat} (h : x ≠ 0) (k : Nat) : nb (x * 2 ^ k) = nb x + k := by
  obtain ⟨h1, h2⟩ := nb_le h
  have h3 := nb_lt x
  have e : nb x = nb x - 1 + 1 := by omega
  have hp := Nat.two_pow_pos k
  rw [nb_uniq (x := x * 2 ^ k) (k := nb x - 1 + k)]
  · omega
  · rw [Nat.pow_add]; exact Nat.mul_le_mul_right _ h1
  · rw [show nb x - 1 + k + 1 = nb x + k by omega, Nat.pow_add]; exact Nat.mul_lt_mul_of_pos_right h3 hp
theorem tz_shl {x : Nat} (h : x ≠ 0) (k : Nat) : tz (x * 2 ^ k) = tz x + k := by
  obtain ⟨o, ho⟩ := tz_spec h
  refine tz_eq (o := o) ?_
  rw [Nat.pow_add]
  conv => lhs; rw [ho]
  rw [Nat.mul_right_comm]
theorem bit_shl (x k : Nat) : x * 2 ^ k / 2 ^ k % 2 = x / 2 ^ 0 % 2 := by
  rw [Nat.mul_div_cancel _ (Nat.two_pow_pos k)]; simp
theorem p16_lt (m k : Nat) (h : k < 16 * m) : 2 ^ k < 65536 ^ m := by
  rw [show (65536 : Nat) = 2 ^ 16 from rfl, ← Nat.pow_mul]
  exact Nat.pow_lt_pow_right (by omega) h
theorem p16_le (m k : Nat) (h : 16 * m ≤ k) : 65536 ^ m ≤ 2 ^ k := by
  rw [show (65536 : Nat) = 2 ^ 16 from rfl, ← Nat.pow_mul]
  exact Nat.pow_le_pow_right (by omega) h
theorem len_p2 {k : Nat} (h : k ≤ 1599) : (D (2 ^ k)).length ≤ 100 := len_D_le.2 (p16_lt 100 k (by omega))
theorem len_p2' {k : Nat} (h : 1600 ≤ k) : 100 < (D (2 ^ k)).length := len_D_lt.2 (p16_le 100 k (by omega))
theorem nb_lenS {n : Nat} (h : n ≠ 0) : nb n ≤ 16 * (D n).length := by
  have h1 := (nb_le h).1
  have h2 := lt_len_D n
  rcases Nat.lt_or_ge (16 * (D n).length) (nb n) with h3 | h3
  · have := p16_le (D n).length (nb n - 1) (by omega)
    omega
  · exact h3
end
/- Natural numbers: powers of two, program. No conditions. -/
section
open Num
def pwL (k : Nat) : List Int := if k ≤ 1599 then D (2 ^ k) else []
def pwS (k j : Nat) : VE × VH := ([(2, some (.ptr 0 0)), (4, some (.ptr 1 0)), (6, some (.sl 2 0 (D (2 ^ j)).length 1)), (30, some (.int .i64 k)), (31, some (.int .i64 j))], [.vals true [.ints .i64 (D 2)], .vals true [.nil], .ints true .i64 (D (2 ^ j))])
section
variable {k j : Nat}
theorem pw_r (d : Nat) (hk : k ≤ 1600) (hj : j < k) (h : j + 1 ≤ 1599) : vCode Tryd.prog kn (vrun Tryd.prog kn (d + 5 + 2)) 10 (loopAt Tryd.f10 0) (pwS k j).1 (pwS k j).2 = some (.norm, pwS k (j + 1)) := by
  have l1 := len_p2 (k := j) (by omega)
  have l2 := len_p2 h
  have l0 : (D 2).length ≤ 4 := len_small (by omega)
  have h1 := fun d => times_v (x := 2 ^ j) (y := 2) d (by omega) (by omega)
  rw [← Nat.pow_succ] at h1
  rw [round_v]; simp only [loopAt, nthC, bodyC, loops, List.nil_append, List.cons_append, List.append_nil, Tryd.f10, pwS]
  generalize D (2 ^ (j + 1)) = Q at *
  generalize D (2 ^ j) = P at *
  generalize D 2 = T at *
  simp (implicitDefEqProofs := false) (disch := omega) [go_sem, tab10, h1]
theorem pw_t (d : Nat) (hj : j = 1599) (hk : k = 1600) : vCode Tryd.prog kn (vrun Tryd.prog kn (d + 5 + 2)) 10 (loopAt Tryd.f10 0) (pwS k j).1 (pwS k j).2 = some (.ret, [(4, some (.ptr 0 0)), (5, some (.bool false))], [.vals true [.nil]]) := by
  have l1 := len_p2 (k := j) (by omega)
  have l2 := len_p2' (k := j + 1) (by omega)
  have l0 : (D 2).length ≤ 4 := len_small (by omega)
  have l3 := len_mul (2 ^ j) 2
  have h1 := fun d => times_v (x := 2 ^ j) (y := 2) d (by omega) (by omega)
  rw [← Nat.pow_succ] at h1 l3
  rw [round_v]; simp only [loopAt, nthC, bodyC, loops, List.nil_append, List.cons_append, List.append_nil, Tryd.f10, pwS]
  have l4 : ¬ (((D (2 ^ (j + 1))).length : Int) ≤ 100) := by omega
  generalize D (2 ^ (j + 1)) = Q at *
  generalize D (2 ^ j) = P at *
  generalize D 2 = T at *
  simp (implicitDefEqProofs := false) (disch := omega) [go_sem, tab10, h1]
theorem pw_x (call : CallV) (hk : k ≤ 1600) : vCode Tryd.prog kn call 10 (loopAt Tryd.f10 0) (pwS k k).1 (pwS k k).2 = some (.exit 0, (pwS k k).1 ++ [(32, some (.bool false))], (pwS k k).2) := by
  rw [round_v]; simp only [loopAt, nthC, bodyC, loops, List.nil_append, List.cons_append, List.append_nil, Tryd.f10, pwS]
  generalize D (2 ^ k) = P at *
  generalize D 2 = T at *
  simp (implicitDefEqProofs := false) (disch := omega) [go_sem, tab10]
theorem NatPow2_v (d : Nat) (hk : k ≤ 1600) : vrun Tryd.prog kn (d + 8) 10 [.agg [.ints .i64 (D 2)], .int .i64 (k : Int)] [] = some (.tup [.agg [.sl 0 0 (pwL k).length 1], .bool (decide (k ≤ 1599))], [.ints true .i64 (pwL k)]) := by
  have l0 : (D 2).length ≤ 4 := len_small (by omega)
  have o1 := fun d => NatOk_v (l := D 2) d (by omega)
  rw [natOk_D (by omega)] at o1
  have b1 := fun d => bitsOf_v (x := 2) d (by omega)
  rw [show nb 2 = 2 from nb_uniq (k := 1) (by omega) (by omega)] at b1
  simp only [show ((2 : Nat) : Int) = 2 from rfl] at b1
  have w1 := fun d => within_v d (k : Int) 0 1600
  have w2 : (decide ((0 : Int) ≤ k) && decide ((k : Int) ≤ 1600)) = true := by simp; omega
  rw [w2] at w1
  have s1 := fun d => small_v (n := 1) d (by omega)
  simp only [show ((1 : Nat) : Int) = 1 from rfl] at s1
  have e0 : D (2 ^ 0) = D 1 := rfl
  by_cases h : k ≤ 1599
  · have hl0 := fun ks => loop_v (P := Tryd.prog) (K := kn) (ks := ks) (vi_for (pwS k) k (n := kn.cf.rounds) (by rw [k_cf, c_rounds]; omega) (fun j hj => pw_r d hk hj (by omega)) fun m => vi_exit (pw_x _ hk))
    simp only [loopAt, nthC, bodyC, loops, List.nil_append, List.cons_append, List.append_nil, Tryd.f10, pwS, Int.natCast_zero, List.cons_append, List.nil_append, e0] at hl0
    have e : pwL k = D (2 ^ k) := by unfold pwL; rw [if_pos h]
    have lk := len_p2 h
    rw [e, decide_eq_true h]
    have n1 := fun d => natOf_v (l := D (2 ^ k)) d (by omega)
    have e2 : fitL (D (2 ^ k)) = D (2 ^ k) := by unfold fitL; rw [if_pos lk]
    rw [e2, decide_eq_true lk] at n1
    clear e e2 e0
    generalize D (2 ^ k) = P at *
    generalize D 2 = T at *
    generalize D 1 = U at *
    rw [vrun_v Tryd.func10 rfl rfl rfl]; simp only [Tryd.f10]
    simp (implicitDefEqProofs := false) (disch := omega) [go_sem, tab10, o1, b1, w1, s1, hl0, n1]
  · have hl0 := fun ks => loop_v (P := Tryd.prog) (K := kn) (ks := ks) (vi_for (pwS k) 1599 (n := kn.cf.rounds) (by rw [k_cf, c_rounds]; omega) (fun j hj => pw_r d hk (by omega) (by omega)) fun m => vi_ret (pw_t (j := 1599) d rfl (by omega)))
    simp only [loopAt, nthC, bodyC, loops, List.nil_append, List.cons_append, List.append_nil, Tryd.f10, pwS, Int.natCast_zero, List.cons_append, List.nil_append, e0] at hl0
    have e : pwL k = [] := by unfold pwL; rw [if_neg h]
    rw [e, decide_eq_false h]
    clear e e0
    generalize D 2 = T at *
    generalize D 1 = U at *
    rw [vrun_v Tryd.func10 rfl rfl rfl]; simp only [Tryd.f10]
    simp (implicitDefEqProofs := false) (disch := omega) [go_sem, tab10, o1, b1, w1, s1, hl0]
end
end
/- The laws' types as values. No conditions. -/
section
open Go.Proofs Num
def DyT.row (x : DyT) : Prop := x.l.length ≤ 9223372036854775807 ∧ (∀ y ∈ x.l, (Lit.int .i64 y).wf = true) ∧ (Lit.int .i64 x.e).wf = true
def TInt (vs : List V) : Prop := ∃ x : Int, vs = [.int .i64 x] ∧ (Lit.int .i64 x).wf = true
def TBool (vs : List V) : Prop := ∃ x : Bool, vs = [.bool x]
def TInts (vs : List V) : Prop := ∃ l : List Int, vs = [.ints .i64 l] ∧ l.length ≤ 9223372036854775807 ∧ ∀ x ∈ l, (Lit.int .i64 x).wf = true
def TDys (vs : List V) : Prop := ∃ ds : List DyT, vs = [.cells 3 ds.length (flat DyT.v ds)] ∧ ds.length ≤ 9223372036854775807 ∧ ∀ x ∈ ds, x.row
theorem opInt : OpV Tryd.prog 3 1 TInt := OpV.int Tryd.underlying3 (by kernel_rfl)
theorem opBool : OpV Tryd.prog 4 1 TBool := OpV.bool Tryd.underlying4 (by kernel_rfl)
theorem opInts : OpV Tryd.prog 23 1 TInts := OpV.ints Tryd.underlying23 (by kernel_rfl) Tryd.underlying3 (by kernel_rfl)
theorem opBytes : OpV Tryd.prog 22 1 (fun vs => ∃ l : List Int, vs = [.ints .u8 l] ∧ l.length ≤ 9223372036854775807 ∧ ∀ x ∈ l, (Lit.int .u8 x).wf = true) := OpV.ints Tryd.underlying22 (by kernel_rfl) Tryd.underlying5 (by kernel_rfl)
end
end Go.Eng
