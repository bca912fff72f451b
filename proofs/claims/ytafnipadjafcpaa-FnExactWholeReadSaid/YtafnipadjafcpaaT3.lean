/- What the functions of this seat do, one after another, told by plain values. No conditions. -/
import Derived.Test.YtafnipadjafcpaaSeat
import Derived.Test.YtafnipadjafcpaaVb
import Derived.Test.YtafnipadjafcpaaT2
set_option linter.unusedVariables false
set_option linter.unusedSimpArgs false
namespace Go.Eng
open Go.Proofs
set_option maxRecDepth 100000
set_option linter.unusedSimpArgs false
attribute [local go_sem] r_seq r_skip r_retC r_exitC r_label r_block r_region r_regionW r_xWt r_xW r_cond r_Bt r_Bf r_Ncode r_Nret r_Nexit r_Nblk r_Nblkr r_Nblke r_Nnil r_Es r_Onil r_Oop r_Oif r_Xs r_Gt r_Gf r_wtt r_wtf r_wft r_wff r_wu r_gO r_putS r_putN r_get r_keepN r_keepC r_fr r_fn r_fi r_ff r_fo r_l1 r_l2t r_cun r_cul r_cub r_cui r_cus r_cuis r_cuc r_cusl r_cuti r_cutv r_ven r_vec r_l2f r_l3 r_t1 r_t2 r_t0 r_rt r_rc r_en r_ec r_cM r_oN r_oC r_end r_endt r_endf r_nob0 r_nobN r_nobC r_nobE r_nb0 r_nbi r_nbs r_nbsl r_nbin r_nbce r_nLn r_nLv r_nLc r_nAa r_nAn r_nAk_b r_nAk_i r_nAk_s r_nAk_n r_nAk_is r_nAk_ce r_nAk_fp r_nAk_sl r_nAk_pt r_nAk_fn r_nsn r_nsv r_nsc r_m0 r_mi r_ms r_msl r_min r_mce r_mLn r_mLv r_mLc r_mAa r_mAn r_mAk_b r_mAk_i r_mAk_s r_mAk_n r_mAk_is r_mAk_ce r_mAk_fp r_mAk_sl r_mAk_pt r_mAk_fn r_msn r_msv r_msc r_atb r_ati r_ats r_atn r_atis r_atc r_atf r_atl r_atp r_atfn r_gcn r_gcc r_gLn r_gLc r_gIt r_ndn r_ndc r_gcB r_gLB r_two r_rea r_rea0 r_re1n r_re1c r_ori r_orv r_ord r_orn r_adn r_adc r_ad1 r_ern r_ers r_er0 r_rsl r_rptr r_rb r_ri r_rs r_rn r_ris r_rce r_rfp r_ra4 r_ra3 r_rt4 r_rf4 r_rf3 r_idS r_idc r_nS r_nP r_nF r_nT r_vsl r_vptr r_vb r_vi r_vs r_vn r_vis r_vce r_vfp r_va4 r_va3 r_vt4 r_vf4 r_vf3 r_rV r_Oi r_Ov r_Od r_rE r_rE0 r_En r_Ec r_E0 r_pO r_pk r_agL r_cO r_fO r_fSi r_fSv r_fPv r_fsl r_fptr r_ffn r_fag r_fb r_fint r_fstr r_fnil r_fis r_fce r_ffp r_res r_move r_assign r_pick r_pickt r_pickf r_alloc r_box r_al r_build r_bslice r_load r_store r_nlc r_nl1 r_nl2 r_bin r_un r_conv r_mkf r_mks r_slc r_fad r_fld r_iad r_idx r_ext r_ex1 r_callf r_callt r_callen r_calapp r_calmax r_calmin r_vt r_vcb r_vci r_vcs r_vcnp r_vcn r_vca r_vcf r_vcg r_ofb r_ofi r_ofs r_ofn r_evs r_pn r_prt r_pc r_one_a r_one_b r_one_i r_one_s r_one_n r_one_is r_one_ce r_one_fp r_one_sl r_one_pt r_one_fn r_cs_a r_cs_b r_cs_i r_cs_s r_cs_n r_cs_is r_cs_ce r_cs_fp r_cs_sl r_cs_pt r_cs_fn r_tov r_tovA r_toc r_toa r_tb r_ti r_ts r_tn r_bd r_bd2 r_filn r_fp1 r_filc r_fsn r_fsc r_san r_sac r_bs2 r_bs1 r_newO r_mkq r_mkI r_mkOi r_mkOv r_tIn r_tIc r_repz r_repn r_ldp r_ldf r_l1t r_l1f r_lFt r_lFf r_aggO r_obj r_at r_ati' r_atv r_celli r_cellv r_subi r_subv r_sto r_sto1 r_sto2 r_sets r_setR r_setn r_setc r_s1i r_s1v r_bin1 r_bin2 r_tv1 r_cb r_ci r_cst r_cn r_csl r_cis r_cce r_uni r_unb r_cv r_cvO r_cvN r_cv0 r_cvS r_wB r_cvi r_cvs r_cvb r_cvl r_sO r_rdn r_rdi r_rdl r_rdO r_vsub r_vfn r_mk r_mk1 r_mk2 r_zoi r_zov r_leni r_lenv r_bn r_bndV r_bo r_sl0 r_sl1 r_vsz r_ct1 r_cts r_cti r_ctc r_ctn r_lnl r_lni r_lnc r_lnn r_fa r_fap r_faf r_fi1 r_fit r_fif r_ixi r_ixs r_ixc r_ixf r_ixF r_ixF2 r_ix1 r_ixsl r_ixin r_ixce r_len1 r_lenA r_lTs r_lTn r_lTl r_lTi r_lTc r_app0 r_app r_app1 r_app2 r_app3 r_catO r_cati r_catv r_newt r_newf r_pair r_pairK r_trip r_kis r_kiv r_srn r_srl r_sri r_src r_srs r_oln r_oll r_vw r_wi r_wv r_mm r_max r_min' r_str r_cF r_c2t r_c3f r_c3t r_ab r_c2f r_cV r_p1 r_la r_la2t r_la2f r_la3 r_sh r_z_is r_z_ce r_z_fp r_z_b r_z_i r_z_s r_z_n r_z_l r_z_p r_z_a4 r_z_a3 r_z_t4 r_zoI r_zoV r_roN r_roC r_roi r_rod r_zod r_rov r_aR r_trOi r_trOv r_trPv r_trl r_trp r_trf r_tra r_trb r_tri r_trs r_trn r_tris r_trce r_trfp r_vJ r_vJs r_vJn
attribute [local go_sem] b_add b_sub b_mul b_quo b_rem b_shl b_shr b_eql b_neq b_lss b_leq b_gtr b_geq eqB_s b_eqB b_neB u_neg u_not b_nn b_nn' eqS_s zerosT_s zerosT_n zt_i zt_sl zt_st dstOf_z dstOf_n iltT iltF ileT ileF ieqT ieqF nltT nltF nleT nleF neqT neqF tdiv_pos tmod_pos w64 idx0 List.take_of_length_le
/- How many bits a limb has, as the library counts them; division by a small number. No conditions. -/
section
open Num
theorem nb_shift : ∀ (k : Nat) {x : Nat}, x / 2 ^ k ≠ 0 → nb x = k + nb (x / 2 ^ k)
  | 0, x, _ => by simp
  | k + 1, x, h => by
    rw [Nat.pow_succ, ← Nat.div_div_eq_div_mul] at h
    have h1 : x / 2 ^ k ≠ 0 := fun e => h (by rw [e])
    rw [nb_shift k h1, nb_half h1, Nat.pow_succ, ← Nat.div_div_eq_div_mul]; omega
theorem nb_16 {x : Nat} (h : x < 65536) : nb x ≤ 16 := by
  by_cases h0 : x = 0
  · subst h0; simp [nb, nbG]
  · have h1 := (nb_le h0).1
    have : nb x - 1 < 16 := (Nat.pow_lt_pow_iff_right (a := 2) (by omega)).1 (Nat.lt_of_le_of_lt h1 (by omega : x < 2 ^ 16))
    omega
def len8 : ByteArray := { data := #[0, 1, 2, 2, 3, 3, 3, 3, 4, 4, 4, 4, 4, 4, 4, 4, 5, 5, 5, 5, 5, 5, 5, 5, 5, 5, 5, 5, 5, 5, 5, 5, 6, 6, 6, 6, 6, 6, 6, 6, 6, 6, 6, 6, 6, 6, 6, 6, 6, 6, 6, 6, 6, 6, 6, 6, 6, 6, 6, 6, 6, 6, 6, 6, 7, 7, 7, 7, 7, 7, 7, 7, 7, 7, 7, 7, 7, 7, 7, 7, 7, 7, 7, 7, 7, 7, 7, 7, 7, 7, 7, 7, 7, 7, 7, 7, 7, 7, 7, 7, 7, 7, 7, 7, 7, 7, 7, 7, 7, 7, 7, 7, 7, 7, 7, 7, 7, 7, 7, 7, 7, 7, 7, 7, 7, 7, 7, 7, 8, 8, 8, 8, 8, 8, 8, 8, 8, 8, 8, 8, 8, 8, 8, 8, 8, 8, 8, 8, 8, 8, 8, 8, 8, 8, 8, 8, 8, 8, 8, 8, 8, 8, 8, 8, 8, 8, 8, 8, 8, 8, 8, 8, 8, 8, 8, 8, 8, 8, 8, 8, 8, 8, 8, 8, 8, 8, 8, 8, 8, 8, 8, 8, 8, 8, 8, 8, 8, 8, 8, 8, 8, 8, 8, 8, 8, 8, 8, 8, 8, 8, 8, 8, 8, 8, 8, 8, 8, 8, 8, 8, 8, 8, 8, 8, 8, 8, 8, 8, 8, 8, 8, 8, 8, 8, 8, 8, 8, 8, 8, 8, 8, 8, 8, 8, 8, 8, 8, 8, 8, 8, 8, 8, 8, 8, 8, 8] }
theorem len8_all : ((List.range 256).all fun n => (len8.data.getD n 0).toNat == nb n) = true := by decide +kernel
theorem len8_at {n : Nat} (h : n < 256) : (len8.data.getD n 0).toNat = nb n := eq_of_beq (List.all_eq_true.1 len8_all n (List.mem_range.2 h))
theorem len8_idx (P : Program) {t : TypeId} (ht : P.underlying t = some .string) {n : Nat} (h : n < 256) : vindex P t (some (.str { data := #[0, 1, 2, 2, 3, 3, 3, 3, 4, 4, 4, 4, 4, 4, 4, 4, 5, 5, 5, 5, 5, 5, 5, 5, 5, 5, 5, 5, 5, 5, 5, 5, 6, 6, 6, 6, 6, 6, 6, 6, 6, 6, 6, 6, 6, 6, 6, 6, 6, 6, 6, 6, 6, 6, 6, 6, 6, 6, 6, 6, 6, 6, 6, 6, 7, 7, 7, 7, 7, 7, 7, 7, 7, 7, 7, 7, 7, 7, 7, 7, 7, 7, 7, 7, 7, 7, 7, 7, 7, 7, 7, 7, 7, 7, 7, 7, 7, 7, 7, 7, 7, 7, 7, 7, 7, 7, 7, 7, 7, 7, 7, 7, 7, 7, 7, 7, 7, 7, 7, 7, 7, 7, 7, 7, 7, 7, 7, 7, 8, 8, 8, 8, 8, 8, 8, 8, 8, 8, 8, 8, 8, 8, 8, 8, 8, 8, 8, 8, 8, 8, 8, 8, 8, 8, 8, 8, 8, 8, 8, 8, 8, 8, 8, 8, 8, 8, 8, 8, 8, 8, 8, 8, 8, 8, 8, 8, 8, 8, 8, 8, 8, 8, 8, 8, 8, 8, 8, 8, 8, 8, 8, 8, 8, 8, 8, 8, 8, 8, 8, 8, 8, 8, 8, 8, 8, 8, 8, 8, 8, 8, 8, 8, 8, 8, 8, 8, 8, 8, 8, 8, 8, 8, 8, 8, 8, 8, 8, 8, 8, 8, 8, 8, 8, 8, 8, 8, 8, 8, 8, 8, 8, 8, 8, 8, 8, 8, 8, 8, 8, 8, 8, 8, 8, 8, 8, 8] })) (some (.int .u8 (n : Int))) = some (.int .u8 (nb n : Nat)) := by
  show toV1 (indexA P t (.str len8) (.int .u8 (n : Int))) = _
  have h1 := len8_at h
  have h2 : len8.size = 256 := rfl
  unfold indexA
  have h3 : (0 : Int) ≤ n ∧ (n : Int) < ((256 : Nat) : Int) := ⟨by omega, by omega⟩
  simp only [ht, h2, if_true, if_pos h3, Int.toNat_natCast, h1]; rfl
theorem conv_u8 {n : Nat} (h : n < 256) : IntKind.wrap .u8 (n : Int) = n := by
  simp [IntKind.wrap, IntKind.bits, IntKind.signed]; omega
section
variable {z m : Nat}
def dsS (z m : Nat) (i : Nat) : VE × VH := ([(0, some (.ints .i64 (D z))), (1, some (.int .i64 m)), (6, some (.sl 0 0 (D z).length 1)), (7, some (.int .i64 ((z / 65536 ^ i % m : Nat) : Int))), (8, some (.int .i64 ((i : Int) - 1)))], [.ints true .i64 (hi (z / m) (D z).length i)])
end
end
/- Division, digit by digit: the guess of a digit; taking a multiple away; adding once. No conditions. -/
section
open Num
section
variable {u v : List Int} {j n : Nat} {P vr ur : Int}
def doS (u v : List Int) (j n : Nat) (q r : Int) (x : VE) : VE × VH := ((0, some (.ints .i64 u)) :: (1, some (.ints .i64 v)) :: (2, some (.int .i64 j)) :: (7, some (.int .i64 n)) :: (9, some (.int .i64 q)) :: (10, some (.int .i64 r)) :: x, [])
theorem mul_q {q b : Int} (q0 : 0 ≤ q) (q1 : q ≤ 65537) (b0 : 0 ≤ b) (b1 : b < 65536) : 0 ≤ q * b ∧ q * b ≤ 4295032832 := by
  refine ⟨Int.mul_nonneg q0 b0, ?_⟩
  have : q * b ≤ 65537 * 65536 := Int.mul_le_mul q1 (by omega) b0 (by omega)
  omega
end
end
/- Division, digit by digit: taking a multiple away; adding once. No conditions. -/
section
open Num
/-- What a multiple's taking away leaves: the list, the borrow. -/
def tkS (u v : List Int) (j : Nat) (q : Int) : Nat → List Int × Int
  | 0 => (u, 0)
  | i + 1 => ((tkS u v j q i).1.set (j + i) ((gt (tkS u v j q i).1 (j + i) - q * gt v i - (tkS u v j q i).2) % 65536), -((gt (tkS u v j q i).1 (j + i) - q * gt v i - (tkS u v j q i).2) / 65536))
def adS (u v : List Int) (j : Nat) : Nat → List Int × Int
  | 0 => (u, 0)
  | i + 1 => ((adS u v j i).1.set (j + i) (((adS u v j i).2 + (gt (adS u v j i).1 (j + i) + gt v i)) % 65536), ((adS u v j i).2 + (gt (adS u v j i).1 (j + i) + gt v i)) / 65536)
theorem take_succ' {l : List Int} {i : Nat} (h : i < l.length) : l.take (i + 1) = l.take i ++ [gt l i] := by
  rw [List.take_add_one, gt_some h]; rfl
theorem val_take_succ {l : List Int} {i : Nat} (h : i < l.length) : val (l.take (i + 1)) = val (l.take i) + 65536 ^ i * gt l i := by
  rw [take_succ' h, val_snoc, List.length_take, Nat.min_eq_left (by omega)]
section
variable {u v : List Int} {j n : Nat} {q : Int}
theorem tk_len : ∀ i, (tkS u v j q i).1.length = u.length
  | 0 => rfl
  | i + 1 => by rw [tkS, List.length_set]; exact tk_len i
theorem tk_hi : ∀ i k, j + i ≤ k → gt (tkS u v j q i).1 k = gt u k
  | 0, _, _ => rfl
  | i + 1, k, h => by rw [tkS, gt_set_ne (by omega)]; exact tk_hi i k (by omega)
theorem tk_good (hu : GoodL u) : ∀ i, GoodL (tkS u v j q i).1
  | 0 => hu
  | i + 1 => by rw [tkS]; exact (tk_good hu i).set _ (by omega) (by omega)
theorem tk_bd (hu : GoodL u) (hv : GoodL v) (q0 : 0 ≤ q) (q1 : q < 65536) : ∀ i, 0 ≤ (tkS u v j q i).2 ∧ (tkS u v j q i).2 < 65536
  | 0 => by simp [tkS]
  | i + 1 => by
    have h1 := tk_bd hu hv q0 q1 i
    have h2 := (tk_good hu i (v := v) (j := j) (q := q)).gtB (j + i)
    have h3 := hv.gtB i
    have h4 : 0 ≤ q * gt v i ∧ q * gt v i ≤ 4294836225 := mul_bd ⟨q0, q1⟩ h3
    simp only [tkS]
    omega
theorem tk_val (hj : j + n ≤ u.length) (hn : n ≤ v.length) : ∀ i, i ≤ n → val (tkS u v j q i).1 - 65536 ^ j * 65536 ^ i * (tkS u v j q i).2 = val u - q * 65536 ^ j * val (v.take i)
  | 0, _ => by simp [tkS, val]
  | i + 1, h => by
    have h1 := tk_val hj hn i (by omega)
    rw [val_take_succ (by omega), Int.pow_succ]
    refine take_step h1 rfl ?_
    simp only [tkS]
    rw [val_setG (by rw [tk_len]; omega), Int.pow_add, tk_hi i (j + i) (Nat.le_refl _)]
theorem ad_len : ∀ i, (adS u v j i).1.length = u.length
  | 0 => rfl
  | i + 1 => by rw [adS, List.length_set]; exact ad_len i
theorem ad_hi : ∀ i k, j + i ≤ k → gt (adS u v j i).1 k = gt u k
  | 0, _, _ => rfl
  | i + 1, k, h => by rw [adS, gt_set_ne (by omega)]; exact ad_hi i k (by omega)
theorem ad_good (hu : GoodL (u.set (j + n) 0)) : ∀ i, i ≤ n → GoodL ((adS u v j i).1.set (j + n) 0)
  | 0, _ => hu
  | i + 1, h => by
    rw [adS]
    simp only
    rw [List.set_comm _ _ (by omega)]
    exact (ad_good hu i (by omega)).set _ (by omega) (by omega)
theorem ad_at (hu : GoodL (u.set (j + n) 0)) {i k : Nat} (hi : i ≤ n) (hk : k ≠ j + n) : 0 ≤ gt (adS u v j i).1 k ∧ gt (adS u v j i).1 k < 65536 := by
  have := (ad_good (v := v) hu i hi).gtB k
  rwa [gt_set_ne (Ne.symm hk)] at this
theorem ad_bd (hu : GoodL (u.set (j + n) 0)) (hv : GoodL v) : ∀ i, i ≤ n → 0 ≤ (adS u v j i).2 ∧ (adS u v j i).2 < 65536
  | 0, _ => by simp [adS]
  | i + 1, h => by
    have h1 := ad_bd hu hv i (by omega)
    have h2 := ad_at (v := v) hu (i := i) (k := j + i) (by omega) (by omega)
    have h3 := hv.gtB i
    simp only [adS]
    omega
theorem ad_val (hj : j + n ≤ u.length) (hn : n ≤ v.length) : ∀ i, i ≤ n → val (adS u v j i).1 + 65536 ^ j * 65536 ^ i * (adS u v j i).2 = val u + 65536 ^ j * val (v.take i)
  | 0, _ => by simp [adS, val]
  | i + 1, h => by
    have h1 := ad_val hj hn i (by omega)
    rw [val_take_succ (by omega), Int.pow_succ]
    refine add_step h1 rfl ?_
    simp only [adS]
    rw [val_setG (by rw [ad_len]; omega), Int.pow_add, ad_hi i (j + i) (Nat.le_refl _)]
end
section
variable {u v : List Int} {j n : Nat} {q : Int}
def takeT (v u o : List Int) (j : Nat) (q b : Int) (i : Nat) : VE × VH := ([(0, some (.sl 1 0 u.length 1)), (1, some (.sl 0 0 v.length 1)), (2, some (.int .i64 j)), (3, some (.int .i64 q)), (9, some (.int .i64 b)), (13, some (.sl 0 0 v.length 1)), (14, some (.int .i64 v.length)), (15, some (.int .i64 i))], [.ints true .i64 v, .ints true .i64 u, .ints true .i64 o])
def addT (v u o : List Int) (j : Nat) (c : Int) (i : Nat) : VE × VH := ([(0, some (.sl 1 0 u.length 1)), (1, some (.sl 0 0 v.length 1)), (2, some (.int .i64 j)), (6, some (.int .i64 c)), (9, some (.sl 0 0 v.length 1)), (10, some (.int .i64 v.length)), (11, some (.int .i64 i))], [.ints true .i64 v, .ints true .i64 u, .ints true .i64 o])
end
end
/- Division, digit by digit: one round, in numbers. No conditions. -/
section
open Num
/-- A list whose digits above one place are nought. -/
theorem val_top {l : List Int} {k : Nat} (hk : k < l.length) (hz : ∀ i, k < i → gt l i = 0) : val l = val (l.take k) + 65536 ^ k * gt l k := by
  have e : l = l.take k ++ (gt l k :: l.drop (k + 1)) := by
    conv => lhs; rw [← List.take_append_drop k l]
    rw [List.drop_eq_getElem_cons hk, gt_get]
  have hd : val (l.drop (k + 1)) = 0 := by
    have : ∀ (m : List Int), (∀ i, gt m i = 0) → val m = 0 := by
      intro m
      induction m with
      | nil => intro _; rfl
      | cons a r ih =>
        intro h
        have h0 : a = 0 := h 0
        rw [val_cons, h0, ih fun i => h (i + 1)]; rfl
    refine this _ fun i => ?_
    have := hz (k + 1 + i) (by omega)
    unfold gt at this ⊢
    rw [List.getD_eq_getElem?_getD] at this ⊢
    rw [List.getElem?_drop]; exact this
  conv => lhs; rw [e]
  rw [val_append, val_cons, hd, List.length_take, Nat.min_eq_left (by omega), Int.mul_zero, Int.add_zero]
theorem val_take_bd {l : List Int} {k : Nat} (hk : k ≤ l.length) (hg : GoodL (l.take k)) : 0 ≤ val (l.take k) ∧ val (l.take k) < 65536 ^ k := by
  refine ⟨val_nonneg hg, ?_⟩
  have := val_lt hg
  rwa [List.length_take, Nat.min_eq_left hk] at this
theorem take_set_ge {l : List Int} {k : Nat} (x : Int) : (l.set k x).take k = l.take k := List.take_set_of_le (Nat.le_refl k)
theorem good_of_set {l : List Int} {k : Nat} (hk : k < l.length) (h : GoodL (l.set k 0)) (h0 : 0 ≤ gt l k) (h1 : gt l k < 65536) : GoodL l := by
  have e : l = (l.set k 0).set k (gt l k) := by
    rw [List.set_set, ← gt_get l k hk]; exact (List.set_getElem_self hk).symm
  rw [e]; exact h.set _ h0 h1
theorem gt_dgs0 {q n i : Nat} (h : n ≤ i) : gt (dgs q n) i = 0 := by
  unfold gt; rw [List.getD_eq_getElem?_getD, List.getElem?_eq_none (by rw [dgs_len]; exact h)]; rfl
section
variable {X V n L j : Nat} {q : Int}
/-- How the numbers of a round lie. -/
structure Rdv (X V n L j : Nat) : Prop where
  n2 : 2 ≤ n
  Vl : (D V).length = n
  Vh : 32768 ≤ dg V (n - 1)
  jl : j + n < L
  Xl : X % (V * 65536 ^ (j + 1)) < 65536 ^ L
namespace Rdv
theorem Vp (h : Rdv X V n L j) : 0 < V := by
  rcases Nat.eq_zero_or_pos V with e | e
  · have := h.Vl; rw [e, D_zero] at this; have := h.n2; simp at *; omega
  · exact e
theorem Ul (h : Rdv X V n L j) : X % (V * 65536 ^ (j + 1)) < V * 65536 ^ (j + 1) := Nat.mod_lt _ (Nat.mul_pos h.Vp (powN_pos _))
theorem Wl (h : Rdv X V n L j) : X % (V * 65536 ^ (j + 1)) / 65536 ^ j < V * 65536 := by
  rw [Nat.div_lt_iff_lt_mul (powN_pos j), Nat.mul_assoc, Nat.mul_comm 65536, ← Nat.pow_succ]
  exact h.Ul
theorem Vlt (h : Rdv X V n L j) : V < 65536 ^ n := by have := lt_len_D V; rwa [h.Vl] at this
theorem digit (h : Rdv X V n L j) : dg (X / V) j = ((X % (V * 65536 ^ (j + 1)) / 65536 ^ j / V : Nat) : Int) := by
  unfold dg
  congr 1
  rw [Nat.div_div_eq_div_mul _ _ V, Nat.mul_comm (65536 ^ j) V, Nat.pow_succ, ← Nat.mul_assoc, Nat.mod_mul_right_div_self, Nat.div_div_eq_div_mul]
theorem three (h : Rdv X V n L j) {W : Nat} (hW : W < V * 65536) : (W : Int) = ((dg W n * 65536 + dg W (n - 1)) * 65536 + dg W (n - 2)) * ((65536 ^ (n - 2) : Nat) : Int) + ((W % 65536 ^ (n - 2) : Nat) : Int) := by
  have hlt : W < 65536 ^ (n + 1) := Nat.lt_of_lt_of_le hW (by rw [Nat.pow_succ]; exact Nat.mul_le_mul_right _ (Nat.le_of_lt h.Vlt))
  have hn := h.n2
  have e1 := Nat.div_add_mod W (65536 ^ (n - 2))
  have e2 : W / 65536 ^ (n - 2) / 65536 = W / 65536 ^ (n - 1) := by rw [Nat.div_div_eq_div_mul, ← Nat.pow_succ]; congr 2; omega
  have e3 : W / 65536 ^ (n - 1) / 65536 = W / 65536 ^ n := by rw [Nat.div_div_eq_div_mul, ← Nat.pow_succ]; congr 2; omega
  have e4 : W / 65536 ^ n / 65536 = 0 := by rw [Nat.div_div_eq_div_mul, ← Nat.pow_succ]; exact Nat.div_eq_of_lt hlt
  have e5 : W / 65536 ^ (n - 2) = (W / 65536 ^ n % 65536 * 65536 + W / 65536 ^ (n - 1) % 65536) * 65536 + W / 65536 ^ (n - 2) % 65536 := by omega
  unfold dg
  generalize W / 65536 ^ (n - 2) = a at *
  have : W = ((W / 65536 ^ n % 65536 * 65536 + W / 65536 ^ (n - 1) % 65536) * 65536 + a % 65536) * 65536 ^ (n - 2) + W % 65536 ^ (n - 2) := by
    rw [← e5, Nat.mul_comm]; exact e1.symm
  exact congrArg Int.ofNat this
theorem two (h : Rdv X V n L j) : (V : Int) = (dg V (n - 1) * 65536 + dg V (n - 2)) * ((65536 ^ (n - 2) : Nat) : Int) + ((V % 65536 ^ (n - 2) : Nat) : Int) := by
  have hn := h.n2
  have e1 := Nat.div_add_mod V (65536 ^ (n - 2))
  have e2 : V / 65536 ^ (n - 2) / 65536 = V / 65536 ^ (n - 1) := by rw [Nat.div_div_eq_div_mul, ← Nat.pow_succ]; congr 2; omega
  have e4 : V / 65536 ^ (n - 1) / 65536 = 0 := by
    rw [Nat.div_div_eq_div_mul, ← Nat.pow_succ, show (n - 1).succ = n by omega]; exact Nat.div_eq_of_lt h.Vlt
  have e5 : V / 65536 ^ (n - 2) = V / 65536 ^ (n - 1) % 65536 * 65536 + V / 65536 ^ (n - 2) % 65536 := by omega
  unfold dg
  generalize V / 65536 ^ (n - 2) = a at *
  have : V = (V / 65536 ^ (n - 1) % 65536 * 65536 + a % 65536) * 65536 ^ (n - 2) + V % 65536 ^ (n - 2) := by
    rw [← e5, Nat.mul_comm]; exact e1.symm
  exact congrArg Int.ofNat this
theorem at_u (h : Rdv X V n L j) {i : Nat} (hi : i ≤ n) : gt (dgs (X % (V * 65536 ^ (j + 1))) L) (j + i) = dg (X % (V * 65536 ^ (j + 1)) / 65536 ^ j) i := by
  have := h.jl
  rw [gt_dgs2 (by omega)]
  unfold dg
  rw [Nat.div_div_eq_div_mul, ← Nat.pow_add]
theorem kt (h : Rdv X V n L j) : Kt ((65536 ^ (n - 2) : Nat) : Int) (gt (D V) (n - 1)) (gt (D V) (n - 2)) ((V % 65536 ^ (n - 2) : Nat) : Int)
    (gt (dgs (X % (V * 65536 ^ (j + 1))) L) (j + n) * 65536 + gt (dgs (X % (V * 65536 ^ (j + 1))) L) (j + n - 1)) (gt (dgs (X % (V * 65536 ^ (j + 1))) L) (j + n - 2)) ((X % (V * 65536 ^ (j + 1)) / 65536 ^ j % 65536 ^ (n - 2) : Nat) : Int) := by
  have hn := h.n2
  have a0 := h.at_u (i := n) (Nat.le_refl _)
  have a1 := h.at_u (i := n - 1) (by omega)
  have a2 := h.at_u (i := n - 2) (by omega)
  rw [show j + (n - 1) = j + n - 1 by omega] at a1
  rw [show j + (n - 2) = j + n - 2 by omega] at a2
  have hW := h.Wl
  have t3 := h.three hW
  have t2 := h.two
  rw [a0, a1, a2, gt_D, gt_D]
  generalize X % (V * 65536 ^ (j + 1)) / 65536 ^ j = W at *
  have b0 := dg_bd W n
  have b1 := dg_bd W (n - 1)
  have b2 := dg_bd W (n - 2)
  have c1 := dg_bd V (n - 1)
  have c2 := dg_bd V (n - 2)
  refine ⟨by have := powN_pos (n - 2); omega, h.Vh, c1.2, c2.1, c2.2, Int.natCast_nonneg _, ?_, by omega, b2.1, b2.2, Int.natCast_nonneg _, ?_, ?_⟩
  · exact Int.ofNat_lt.2 (Nat.mod_lt _ (powN_pos _))
  · exact Int.ofNat_lt.2 (Nat.mod_lt _ (powN_pos _))
  · rw [← t3, ← t2]; omega
/-- What the guess says. -/
theorem gs (h : Rdv X V n L j) (h1 : ((gt (dgs (X % (V * 65536 ^ (j + 1))) L) (j + n) * 65536 + gt (dgs (X % (V * 65536 ^ (j + 1))) L) (j + n - 1)) * 65536 + gt (dgs (X % (V * 65536 ^ (j + 1))) L) (j + n - 2)) * ((65536 ^ (n - 2) : Nat) : Int) + ((X % (V * 65536 ^ (j + 1)) / 65536 ^ j % 65536 ^ (n - 2) : Nat) : Int) < (q + 1) * ((gt (D V) (n - 1) * 65536 + gt (D V) (n - 2)) * ((65536 ^ (n - 2) : Nat) : Int) + ((V % 65536 ^ (n - 2) : Nat) : Int)))
    (h2 : (q - 1) * ((gt (D V) (n - 1) * 65536 + gt (D V) (n - 2)) * ((65536 ^ (n - 2) : Nat) : Int) + ((V % 65536 ^ (n - 2) : Nat) : Int)) ≤ ((gt (dgs (X % (V * 65536 ^ (j + 1))) L) (j + n) * 65536 + gt (dgs (X % (V * 65536 ^ (j + 1))) L) (j + n - 1)) * 65536 + gt (dgs (X % (V * 65536 ^ (j + 1))) L) (j + n - 2)) * ((65536 ^ (n - 2) : Nat) : Int) + ((X % (V * 65536 ^ (j + 1)) / 65536 ^ j % 65536 ^ (n - 2) : Nat) : Int)) :
    q = dg (X / V) j ∨ q = dg (X / V) j + 1 := by
  have hn := h.n2
  have a0 := h.at_u (i := n) (Nat.le_refl _)
  have a1 := h.at_u (i := n - 1) (by omega)
  have a2 := h.at_u (i := n - 2) (by omega)
  rw [show j + (n - 1) = j + n - 1 by omega] at a1
  rw [show j + (n - 2) = j + n - 2 by omega] at a2
  have t3 := h.three h.Wl
  have t2 := h.two
  rw [a0, a1, a2, gt_D, gt_D, ← t3, ← t2] at h1 h2
  have hV := h.Vp
  have hd := h.digit
  generalize X % (V * 65536 ^ (j + 1)) / 65536 ^ j = W at *
  obtain ⟨g1, g2⟩ := guess (t := dg (X / V) j) (U := (W : Int)) (V := (V : Int)) (q := q) (by omega) (by rw [hd, Int.natCast_ediv]) h1 h2
  omega
theorem Uval (h : Rdv X V n L j) : val (dgs (X % (V * 65536 ^ (j + 1))) L) = ((X % (V * 65536 ^ (j + 1)) : Nat) : Int) := by
  rw [dgs_val, lo_len (lt_pow_len h.Xl)]
theorem Unext (h : Rdv X V n L j) : ((X % (V * 65536 ^ (j + 1)) : Nat) : Int) = ((X % (V * 65536 ^ j) : Nat) : Int) + dg (X / V) j * 65536 ^ j * V := by
  have e1 : X % (V * 65536 ^ (j + 1)) % (V * 65536 ^ j) = X % (V * 65536 ^ j) := by
    rw [Nat.pow_succ, ← Nat.mul_assoc]; exact Nat.mod_mul_right_mod _ _ _
  have e2 := Nat.div_add_mod (X % (V * 65536 ^ (j + 1))) (V * 65536 ^ j)
  rw [e1] at e2
  have e3 : X % (V * 65536 ^ (j + 1)) / (V * 65536 ^ j) = X % (V * 65536 ^ (j + 1)) / 65536 ^ j / V := by rw [Nat.div_div_eq_div_mul _ _ V, Nat.mul_comm (65536 ^ j) V]
  rw [e3] at e2
  have e4 := congrArg (fun z : Nat => (z : Int)) e2
  simp only [Int.natCast_add, Int.natCast_mul, pow_cast] at e4
  rw [h.digit, ← e4]
  generalize ((X % (V * 65536 ^ (j + 1)) / 65536 ^ j / V : Nat) : Int) = a
  generalize ((X % (V * 65536 ^ j) : Nat) : Int) = R
  generalize (65536 : Int) ^ j = b
  generalize (V : Int) = w
  clear e1 e2 e3 e4
  grind
theorem Uhi (h : Rdv X V n L j) {i : Nat} (hi : j + n < i) : gt (dgs (X % (V * 65536 ^ (j + 1))) L) i = 0 := by
  by_cases hl : i < L
  · rw [gt_dgs2 hl]
    refine dg_len ?_
    rw [len_D_le]
    refine Nat.lt_of_lt_of_le h.Ul ?_
    have h1 : V * 65536 ^ (j + 1) ≤ 65536 ^ n * 65536 ^ (j + 1) := Nat.mul_le_mul_right _ (Nat.le_of_lt h.Vlt)
    rw [← Nat.pow_add] at h1
    exact Nat.le_trans h1 (Nat.pow_le_pow_right (by omega) (by omega))
  · exact gt_dgs0 (by omega)
theorem Rl (h : Rdv X V n L j) : X % (V * 65536 ^ j) < 65536 ^ (j + n) := by
  have h1 := Nat.mod_lt X (Nat.mul_pos h.Vp (powN_pos j))
  refine Nat.lt_of_lt_of_le h1 ?_
  rw [Nat.pow_add, Nat.mul_comm]
  exact Nat.mul_le_mul_left _ (Nat.le_of_lt h.Vlt)
/-- What a round leaves. -/
theorem out (h : Rdv X V n L j) (q0 : 0 ≤ q) (q1 : q < 65536) (hq : q = dg (X / V) j ∨ q = dg (X / V) j + 1) {u Z : List Int} {z : Int} (hu : u = dgs (X % (V * 65536 ^ (j + 1))) L)
    (hz : z = gt u (j + n) - (tkS u (D V) j q n).2) (hZ : Z = (tkS u (D V) j q n).1.set (j + n) z) :
    Z.length = L ∧ GoodL (Z.set (j + n) 0) ∧ gt Z (j + n) = z ∧ -65536 ≤ z ∧ z < 65536 ∧
    ((q = dg (X / V) j ∧ ¬ z < 0 ∧ Z = dgs (X % (V * 65536 ^ j)) L) ∨
      (q - 1 = dg (X / V) j ∧ z < 0 ∧ (adS Z (D V) j n).1.set (j + n) (z + (adS Z (D V) j n).2) = dgs (X % (V * 65536 ^ j)) L)) := by
  have hjl := h.jl
  have hul : u.length = L := by rw [hu, dgs_len]
  have hgu : GoodL u := by rw [hu]; exact dgs_good _ _
  have hgv := good_D V
  have hvl := h.Vl
  have tl := tk_len (u := u) (v := D V) (j := j) (q := q) n
  have tg := tk_good hgu n (v := D V) (j := j) (q := q)
  have tb := tk_bd hgu hgv q0 q1 n (j := j)
  have tv := tk_val (u := u) (v := D V) (j := j) (q := q) (n := n) (by omega) (by omega) n (Nat.le_refl _)
  have th := fun k => tk_hi (u := u) (v := D V) (j := j) (q := q) n k
  have gu := hgu.gtB (j + n)
  have hV : val ((D V).take n) = V := by rw [List.take_of_length_le (by omega), val_D]
  have hUv : val u = ((X % (V * 65536 ^ (j + 1)) : Nat) : Int) := by rw [hu]; exact h.Uval
  rw [hV, hUv, h.Unext] at tv
  have hhi : ∀ i, j + n < i → gt u i = 0 := fun i hi => by rw [hu]; exact h.Uhi hi
  generalize (tkS u (D V) j q n).1 = T at *
  generalize (tkS u (D V) j q n).2 = b at *
  have hZl : Z.length = L := by rw [hZ, List.length_set, tl, hul]
  have hZg : GoodL (Z.set (j + n) 0) := by rw [hZ, List.set_set]; exact tg.set _ (by omega) (by omega)
  have hZz : gt Z (j + n) = z := by rw [hZ]; exact gt_set_eq (by omega) _
  have hZv : val Z = ((X % (V * 65536 ^ j) : Nat) : Int) + (dg (X / V) j - q) * 65536 ^ j * V := by
    rw [hZ, val_setG (by omega), th (j + n) (Nat.le_refl _), hz, Int.pow_add]
    generalize (65536 : Int) ^ j = p at *
    generalize (65536 : Int) ^ n = r at *
    generalize ((X % (V * 65536 ^ j) : Nat) : Int) = R at *
    generalize dg (X / V) j = t at *
    grind
  have hZhi : ∀ i, j + n < i → gt Z i = 0 := fun i hi => by rw [hZ, gt_set_ne (by omega), th i (by omega)]; exact hhi i hi
  have hZt := val_top (l := Z) (k := j + n) (by omega) hZhi
  have hZb := val_take_bd (l := Z) (k := j + n) (by omega) (by rw [← take_set_ge 0]; exact hZg.take _)
  have hp := pow_pos' (j + n)
  have hRl : ((X % (V * 65536 ^ j) : Nat) : Int) < 65536 ^ (j + n) := by rw [← pow_cast]; exact Int.ofNat_lt.2 h.Rl
  refine ⟨hZl, hZg, hZz, by omega, by omega, ?_⟩
  rw [hZz] at hZt
  rcases hq with hq | hq
  · left
    rw [← hq, Int.sub_self, Int.zero_mul, Int.zero_mul, Int.add_zero] at hZv
    have hz0 : ¬ z < 0 := fun hc => by
      have h5 : 65536 ^ (j + n) * z ≤ 65536 ^ (j + n) * (-1) := Int.mul_le_mul_of_nonneg_left (by omega) (by omega)
      have h6 : (0 : Int) ≤ ((X % (V * 65536 ^ j) : Nat) : Int) := Int.natCast_nonneg _
      omega
    exact ⟨hq, hz0, good_dgs (good_of_set (k := j + n) (by omega) hZg (by omega) (by omega)) hZl hZv⟩
  · right
    have hq' : q - 1 = dg (X / V) j := by omega
    rw [show dg (X / V) j - q = -1 by omega] at hZv
    have hVj : ((X % (V * 65536 ^ j) : Nat) : Int) < 65536 ^ j * V := by
      rw [← pow_cast, ← Int.natCast_mul]
      exact Int.ofNat_lt.2 (Nat.lt_of_lt_of_eq (Nat.mod_lt X (Nat.mul_pos h.Vp (powN_pos j))) (Nat.mul_comm _ _))
    have hzn : z < 0 := by
      rcases Int.lt_or_le z 0 with hc | hc
      · exact hc
      · have h5 : 0 ≤ 65536 ^ (j + n) * z := Int.mul_nonneg (by omega) hc
        have h6 : -1 * 65536 ^ j * (V : Int) = -(65536 ^ j * V) := by grind
        omega
    refine ⟨hq', hzn, ?_⟩
    have al := ad_len (u := Z) (v := D V) (j := j) n
    have ag := ad_good (v := D V) hZg n (Nat.le_refl _)
    have ab := ad_bd (v := D V) hZg hgv n (Nat.le_refl _)
    have av := ad_val (u := Z) (v := D V) (j := j) (n := n) (by omega) (by omega) n (Nat.le_refl _)
    have ah := fun k => ad_hi (u := Z) (v := D V) (j := j) n k
    rw [hV, hZv] at av
    generalize (adS Z (D V) j n).1 = A at *
    generalize (adS Z (D V) j n).2 = c at *
    have az : gt A (j + n) = z := by rw [ah _ (Nat.le_refl _), hZz]
    generalize hY : A.set (j + n) (z + c) = Y
    have hYl : Y.length = L := by rw [← hY, List.length_set, al, hZl]
    have hYg : GoodL (Y.set (j + n) 0) := by rw [← hY, List.set_set]; exact ag
    have hYz : gt Y (j + n) = z + c := by rw [← hY]; exact gt_set_eq (by omega) _
    have hYv : val Y = ((X % (V * 65536 ^ j) : Nat) : Int) := by
      rw [← hY, val_setG (by omega), az, Int.pow_add]
      generalize (65536 : Int) ^ j = p at *
      generalize (65536 : Int) ^ n = r at *
      generalize ((X % (V * 65536 ^ j) : Nat) : Int) = R at *
      grind
    have hYhi : ∀ i, j + n < i → gt Y i = 0 := fun i hi => by rw [← hY, gt_set_ne (by omega), ah i (by omega)]; exact hZhi i hi
    have hYt := val_top (l := Y) (k := j + n) (by omega) hYhi
    have hYb := val_take_bd (l := Y) (k := j + n) (by omega) (by rw [← take_set_ge 0]; exact hYg.take _)
    rw [hYz, hYv] at hYt
    have hzc : z + c = 0 := by
      have h6 : (0 : Int) ≤ ((X % (V * 65536 ^ j) : Nat) : Int) := Int.natCast_nonneg _
      rcases Int.lt_trichotomy (z + c) 0 with hc | hc | hc
      · have h5 : 65536 ^ (j + n) * (z + c) ≤ 65536 ^ (j + n) * (-1) := Int.mul_le_mul_of_nonneg_left (by omega) (by omega)
        omega
      · exact hc
      · have h5 : 65536 ^ (j + n) * 1 ≤ 65536 ^ (j + n) * (z + c) := Int.mul_le_mul_of_nonneg_left (by omega) (by omega)
        omega
    exact good_dgs (good_of_set (k := j + n) (by omega) hYg (by omega) (by omega)) hYl hYv
end Rdv
end
end
/- Division: the whole. No conditions. -/
section
open Num
section
variable {X V n L M j : Nat} {s : Int}
def divS (X V L M : Nat) (s : Int) (j : Nat) : VE × VH := ([(8, some (.int .i64 s)), (9, some (.sl 0 0 (D V).length 1)), (10, some (.sl 1 0 L 1)), (11, some (.sl 2 0 M 1)), (12, some (.int .i64 ((j : Int) - 1)))], [.ints true .i64 (D V), .ints true .i64 (dgs (X % (V * 65536 ^ j)) L), .ints true .i64 (hi (X / V) M j)])
end
theorem trim1_v (d : Nat) {l : List Int} {n v : Nat} (hl : l.length < 1000000000) (hn : n = l.length) (hg : GoodL l) (hv : val l = v) (a b : VO) :
    vrun Try.prog kn (d + 1) 76 [.sl 1 0 n 1] [a, .ints false .i64 l, b] = some (.sl 1 0 (D v).length 1, [a, .ints false .i64 l, b]) := by
  rw [trim_v d (h := [a, .ints false .i64 l, b]) (i := 1) (w := false) (l := l) rfl hl n hn, (tl_D hg hv).1]
section
variable {x y : Nat}
theorem dgs_pad {X L : Nat} (h : X < 65536 ^ L) : D X ++ List.replicate (L - (D X).length) 0 = dgs X L := by
  have hl : (D X).length ≤ L := len_D_le.2 h
  refine good_dgs ((good_D X).append (GoodL.zeros _)) (by simp; omega) ?_
  rw [val_append, val_zeros, val_D]; omega
set_option maxHeartbeats 4000000 in
end
end
/- Natural numbers: comparison, quotients, program; products, reference. No conditions. -/
section
open Num
section
variable {a b : List Int}
def ncmp (a b : List Int) : Int := if natOkB a && natOkB b then cmpI (nN a) (nN b) else 0
def ndF (a b : List Int) : Bool := natOkB a && natOkB b && decide (b ≠ [])
def ndQ (a b : List Int) : List Int := if ndF a b then D (nN a / nN b) else []
def ndR (a b : List Int) : List Int := if ndF a b then D (nN a % nN b) else []
theorem ndF_t (h : ndF a b = true) : natOkB a = true ∧ natOkB b = true ∧ nN b ≠ 0 ∧ a = D (nN a) ∧ b = D (nN b) ∧ (D (nN a)).length ≤ 100 ∧ (D (nN b)).length ≤ 100 := by
  unfold ndF at h
  rw [Bool.and_eq_true, Bool.and_eq_true, decide_eq_true_eq] at h
  obtain ⟨e1, l1⟩ := okN h.1.1
  obtain ⟨e2, l2⟩ := okN h.1.2
  exact ⟨h.1.1, h.1.2, fun h0 => h.2 (by rw [e2, h0, D_zero]), e1, e2, l1, l2⟩
theorem ndQ_len : (ndQ a b).length ≤ 100 ∧ (ndR a b).length ≤ 100 := by
  unfold ndQ ndR
  cases h : ndF a b with
  | false => simp
  | true =>
    obtain ⟨_, _, h0, e1, e2, l1, l2⟩ := ndF_t h
    simp only [if_true]
    exact ⟨Nat.le_trans (len_D_mono (Nat.div_le_self _ _)) l1, Nat.le_trans (len_D_mono (Nat.mod_le _ _)) l1⟩
end
end
end Go.Eng
