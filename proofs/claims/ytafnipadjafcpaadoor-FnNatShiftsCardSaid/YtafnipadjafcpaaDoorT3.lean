/- What the functions of this seat do, one after another, told by plain values. No conditions. -/
import Derived.Test.YtafnipadjafcpaaDoorSeat
import Derived.Test.YtafnipadjafcpaaDoorVb
import Derived.Test.YtafnipadjafcpaaDoorT2
set_option linter.unusedVariables false
set_option linter.unusedSimpArgs false
namespace Go.Eng
open Go.Proofs
set_option maxRecDepth 100000
set_option linter.unusedSimpArgs false
attribute [local go_sem] r_seq r_skip r_retC r_exitC r_label r_block r_region r_regionW r_xWt r_xW r_cond r_Bt r_Bf r_Ncode r_Nret r_Nexit r_Nblk r_Nblkr r_Nblke r_Nnil r_Es r_Onil r_Oop r_Oif r_Xs r_Gt r_Gf r_wtt r_wtf r_wft r_wff r_wu r_gO r_putS r_putN r_get r_keepN r_keepC r_fr r_fn r_fi r_ff r_fo r_l1 r_l2t r_cun r_cul r_cub r_cui r_cus r_cuis r_cuc r_cusl r_cuti r_cutv r_ven r_vec r_l2f r_l3 r_t1 r_t2 r_t0 r_rt r_rc r_en r_ec r_cM r_oN r_oC r_end r_endt r_endf r_nob0 r_nobN r_nobC r_nobE r_nb0 r_nbi r_nbs r_nbsl r_nbin r_nbce r_nLn r_nLv r_nLc r_nAa r_nAn r_nAk_b r_nAk_i r_nAk_s r_nAk_n r_nAk_is r_nAk_ce r_nAk_fp r_nAk_sl r_nAk_pt r_nAk_fn r_nsn r_nsv r_nsc r_m0 r_mi r_ms r_msl r_min r_mce r_mLn r_mLv r_mLc r_mAa r_mAn r_mAk_b r_mAk_i r_mAk_s r_mAk_n r_mAk_is r_mAk_ce r_mAk_fp r_mAk_sl r_mAk_pt r_mAk_fn r_msn r_msv r_msc r_atb r_ati r_ats r_atn r_atis r_atc r_atf r_atl r_atp r_atfn r_gcn r_gcc r_gLn r_gLc r_gIt r_ndn r_ndc r_gcB r_gLB r_two r_rea r_rea0 r_re1n r_re1c r_ori r_orv r_ord r_orn r_adn r_adc r_ad1 r_ern r_ers r_er0 r_rsl r_rptr r_rb r_ri r_rs r_rn r_ris r_rce r_rfp r_ra4 r_ra3 r_rt4 r_rf4 r_rf3 r_idS r_idc r_nS r_nP r_nF r_nT r_vsl r_vptr r_vb r_vi r_vs r_vn r_vis r_vce r_vfp r_va4 r_va3 r_vt4 r_vf4 r_vf3 r_rV r_Oi r_Ov r_Od r_rE r_rE0 r_En r_Ec r_E0 r_pO r_pk r_agL r_cO r_fO r_fSi r_fSv r_fPv r_fsl r_fptr r_ffn r_fag r_fb r_fint r_fstr r_fnil r_fis r_fce r_ffp r_res r_move r_assign r_pick r_pickt r_pickf r_alloc r_box r_al r_build r_bslice r_load r_store r_nlc r_nl1 r_nl2 r_bin r_un r_conv r_mkf r_mks r_slc r_fad r_fld r_iad r_idx r_ext r_ex1 r_callf r_callt r_callen r_calapp r_calmax r_calmin r_vt r_vcb r_vci r_vcs r_vcnp r_vcn r_vca r_vcf r_vcg r_ofb r_ofi r_ofs r_ofn r_evs r_pn r_prt r_pc r_one_a r_one_b r_one_i r_one_s r_one_n r_one_is r_one_ce r_one_fp r_one_sl r_one_pt r_one_fn r_cs_a r_cs_b r_cs_i r_cs_s r_cs_n r_cs_is r_cs_ce r_cs_fp r_cs_sl r_cs_pt r_cs_fn r_tov r_tovA r_toc r_toa r_tb r_ti r_ts r_tn r_bd r_bd2 r_filn r_fp1 r_filc r_fsn r_fsc r_san r_sac r_bs2 r_bs1 r_newO r_mkq r_mkI r_mkOi r_mkOv r_tIn r_tIc r_repz r_repn r_ldp r_ldf r_l1t r_l1f r_lFt r_lFf r_aggO r_obj r_at r_ati' r_atv r_celli r_cellv r_subi r_subv r_sto r_sto1 r_sto2 r_sets r_setR r_setn r_setc r_s1i r_s1v r_bin1 r_bin2 r_tv1 r_cb r_ci r_cst r_cn r_csl r_cis r_cce r_uni r_unb r_cv r_cvO r_cvN r_cv0 r_cvS r_wB r_cvi r_cvs r_cvb r_cvl r_sO r_rdn r_rdi r_rdl r_rdO r_vsub r_vfn r_mk r_mk1 r_mk2 r_zoi r_zov r_leni r_lenv r_bn r_bndV r_bo r_sl0 r_sl1 r_vsz r_ct1 r_cts r_cti r_ctc r_ctn r_lnl r_lni r_lnc r_lnn r_fa r_fap r_faf r_fi1 r_fit r_fif r_ixi r_ixs r_ixc r_ixf r_ixF r_ixF2 r_ix1 r_ixsl r_ixin r_ixce r_len1 r_lenA r_lTs r_lTn r_lTl r_lTi r_lTc r_app0 r_app r_app1 r_app2 r_app3 r_catO r_cati r_catv r_newt r_newf r_pair r_pairK r_trip r_kis r_kiv r_srn r_srl r_sri r_src r_srs r_oln r_oll r_vw r_wi r_wv r_mm r_max r_min' r_str r_cF r_c2t r_c3f r_c3t r_ab r_c2f r_cV r_p1 r_la r_la2t r_la2f r_la3 r_sh r_z_is r_z_ce r_z_fp r_z_b r_z_i r_z_s r_z_n r_z_l r_z_p r_z_a4 r_z_a3 r_z_t4 r_zoI r_zoV r_roN r_roC r_roi r_rod r_zod r_rov r_aR r_trOi r_trOv r_trPv r_trl r_trp r_trf r_tra r_trb r_tri r_trs r_trn r_tris r_trce r_trfp r_vJ r_vJs r_vJn
attribute [local go_sem] b_add b_sub b_mul b_quo b_rem b_shl b_shr b_eql b_neq b_lss b_leq b_gtr b_geq eqB_s b_eqB b_neB u_neg u_not b_nn b_nn' eqS_s zerosT_s zerosT_n zt_i zt_sl zt_st dstOf_z dstOf_n iltT iltF ileT ileF ieqT ieqF nltT nltF nleT nleF neqT neqF tdiv_pos tmod_pos w64 idx0 List.take_of_length_le
/- How many bits a limb has, as the library counts them; division by a small number. No conditions. -/
section
open Num
theorem nb_shift : ∀ (k : Nat) {x : Nat}, x / 2 ^ k ≠ 0 → nb x = k + nb (x / 2 ^ k)
  | 0, x, _ => by simp
  | k + 1, x, h => by
    rw [Nat.pow_succ, ← Nat.div_div_eq_div_mul] at h
    have h1 : x / 2 ^ k ≠ 0 := fun e => h (by rw [e])
    rw [nb_shift k h1, nb_half h1, Nat.pow_succ, ← Nat.div_div_eq_div_mul]; omega
theorem nb_16 {x : Nat} (h : x < 65536) : nb x ≤ 16 := by
  by_cases h0 : x = 0
  · subst h0; simp [nb, nbG]
  · have h1 := (nb_le h0).1
    have : nb x - 1 < 16 := (Nat.pow_lt_pow_iff_right (a := 2) (by omega)).1 (Nat.lt_of_le_of_lt h1 (by omega : x < 2 ^ 16))
    omega
def len8 : ByteArray := { data := #[0, 1, 2, 2, 3, 3, 3, 3, 4, 4, 4, 4, 4, 4, 4, 4, 5, 5, 5, 5, 5, 5, 5, 5, 5, 5, 5, 5, 5, 5, 5, 5, 6, 6, 6, 6, 6, 6, 6, 6, 6, 6, 6, 6, 6, 6, 6, 6, 6, 6, 6, 6, 6, 6, 6, 6, 6, 6, 6, 6, 6, 6, 6, 6, 7, 7, 7, 7, 7, 7, 7, 7, 7, 7, 7, 7, 7, 7, 7, 7, 7, 7, 7, 7, 7, 7, 7, 7, 7, 7, 7, 7, 7, 7, 7, 7, 7, 7, 7, 7, 7, 7, 7, 7, 7, 7, 7, 7, 7, 7, 7, 7, 7, 7, 7, 7, 7, 7, 7, 7, 7, 7, 7, 7, 7, 7, 7, 7, 8, 8, 8, 8, 8, 8, 8, 8, 8, 8, 8, 8, 8, 8, 8, 8, 8, 8, 8, 8, 8, 8, 8, 8, 8, 8, 8, 8, 8, 8, 8, 8, 8, 8, 8, 8, 8, 8, 8, 8, 8, 8, 8, 8, 8, 8, 8, 8, 8, 8, 8, 8, 8, 8, 8, 8, 8, 8, 8, 8, 8, 8, 8, 8, 8, 8, 8, 8, 8, 8, 8, 8, 8, 8, 8, 8, 8, 8, 8, 8, 8, 8, 8, 8, 8, 8, 8, 8, 8, 8, 8, 8, 8, 8, 8, 8, 8, 8, 8, 8, 8, 8, 8, 8, 8, 8, 8, 8, 8, 8, 8, 8, 8, 8, 8, 8, 8, 8, 8, 8, 8, 8, 8, 8, 8, 8, 8, 8] }
theorem len8_all : ((List.range 256).all fun n => (len8.data.getD n 0).toNat == nb n) = true := by decide +kernel
theorem len8_at {n : Nat} (h : n < 256) : (len8.data.getD n 0).toNat = nb n := eq_of_beq (List.all_eq_true.1 len8_all n (List.mem_range.2 h))
theorem len8_idx (P : Program) {t : TypeId} (ht : P.underlying t = some .string) {n : Nat} (h : n < 256) : vindex P t (some (.str { data := #[0, 1, 2, 2, 3, 3, 3, 3, 4, 4, 4, 4, 4, 4, 4, 4, 5, 5, 5, 5, 5, 5, 5, 5, 5, 5, 5, 5, 5, 5, 5, 5, 6, 6, 6, 6, 6, 6, 6, 6, 6, 6, 6, 6, 6, 6, 6, 6, 6, 6, 6, 6, 6, 6, 6, 6, 6, 6, 6, 6, 6, 6, 6, 6, 7, 7, 7, 7, 7, 7, 7, 7, 7, 7, 7, 7, 7, 7, 7, 7, 7, 7, 7, 7, 7, 7, 7, 7, 7, 7, 7, 7, 7, 7, 7, 7, 7, 7, 7, 7, 7, 7, 7, 7, 7, 7, 7, 7, 7, 7, 7, 7, 7, 7, 7, 7, 7, 7, 7, 7, 7, 7, 7, 7, 7, 7, 7, 7, 8, 8, 8, 8, 8, 8, 8, 8, 8, 8, 8, 8, 8, 8, 8, 8, 8, 8, 8, 8, 8, 8, 8, 8, 8, 8, 8, 8, 8, 8, 8, 8, 8, 8, 8, 8, 8, 8, 8, 8, 8, 8, 8, 8, 8, 8, 8, 8, 8, 8, 8, 8, 8, 8, 8, 8, 8, 8, 8, 8, 8, 8, 8, 8, 8, 8, 8, 8, 8, 8, 8, 8, 8, 8, 8, 8, 8, 8, 8, 8, 8, 8, 8, 8, 8, 8, 8, 8, 8, 8, 8, 8, 8, 8, 8, 8, 8, 8, 8, 8, 8, 8, 8, 8, 8, 8, 8, 8, 8, 8, 8, 8, 8, 8, 8, 8, 8, 8, 8, 8, 8, 8, 8, 8, 8, 8, 8, 8] })) (some (.int .u8 (n : Int))) = some (.int .u8 (nb n : Nat)) := by
  show toV1 (indexA P t (.str len8) (.int .u8 (n : Int))) = _
  have h1 := len8_at h
  have h2 : len8.size = 256 := rfl
  unfold indexA
  have h3 : (0 : Int) ≤ n ∧ (n : Int) < ((256 : Nat) : Int) := ⟨by omega, by omega⟩
  simp only [ht, h2, if_true, if_pos h3, Int.toNat_natCast, h1]; rfl
theorem conv_u8 {n : Nat} (h : n < 256) : IntKind.wrap .u8 (n : Int) = n := by
  simp [IntKind.wrap, IntKind.bits, IntKind.signed]; omega
theorem Len64_v (d : Nat) {x : Nat} (hx : x < 65536) : vrun Tryd.prog kn (d + 1) 53 [.int .u64 (x : Int)] [] = some (.int .i64 (nb x), []) := by
  have hs := nb_16 hx
  by_cases h : 256 ≤ x
  · have e : nb x = 8 + nb (x / 2 ^ 8) := nb_shift 8 (by omega)
    have hq : x / 2 ^ 8 < 256 := by omega
    have h1 := len8_idx Tryd.prog Tryd.underlying9 hq
    have h2 := conv_u8 hq
    have h4 : ((x : Int)).fdiv 256 = ((x / 2 ^ 8 : Nat) : Int) := by rw [Int.fdiv_eq_ediv_of_nonneg _ (by omega)]; rfl
    have h5 : min (Int.toNat 8) (IntKind.bits .u64) = 8 := rfl
    have h6 : (8 : Int) + (nb (x / 2 ^ 8) : Nat) = (nb x : Nat) := by omega
    generalize x / 2 ^ 8 = q at *
    generalize nb q = a at *
    generalize nb x = b at *
    rw [vrun_v Tryd.func53 rfl rfl rfl]; simp only [Tryd.f53]
    simp (implicitDefEqProofs := false) (disch := omega) [go_sem, tab53, h1, h2, h4, h5, h6]
  · have h1 := len8_idx Tryd.prog Tryd.underlying9 (n := x) (by omega)
    have h2 := conv_u8 (n := x) (by omega)
    generalize nb x = b at *
    rw [vrun_v Tryd.func53 rfl rfl rfl]; simp only [Tryd.f53]
    simp (implicitDefEqProofs := false) (disch := omega) [go_sem, tab53, h1, h2]
theorem Len_v (d : Nat) {x : Nat} (hx : x < 65536) : vrun Tryd.prog kn (d + 2) 39 [.int .u64 (x : Int)] [] = some (.int .i64 (nb x), []) := by
  have h1 := fun d => Len64_v d hx
  rw [vrun_v Tryd.func39 rfl rfl rfl]; simp only [Tryd.f39]
  simp (disch := omega) [go_sem, tab39, h1]
section
variable {z m : Nat}
def dsS (z m : Nat) (i : Nat) : VE × VH := ([(0, some (.ints .i64 (D z))), (1, some (.int .i64 m)), (6, some (.sl 0 0 (D z).length 1)), (7, some (.int .i64 ((z / 65536 ^ i % m : Nat) : Int))), (8, some (.int .i64 ((i : Int) - 1)))], [.ints true .i64 (hi (z / m) (D z).length i)])
theorem ds_r (call : CallV) (hm : 0 < m) (hm2 : m ≤ 65536) (hx : (D z).length < 1000000) (i : Nat) (hi' : i < (D z).length) :
    vCode Tryd.prog kn call 42 (loopAt Tryd.f42 0) (dsS z m (i + 1)).1 (dsS z m (i + 1)).2 = some (.norm, dsS z m i) := by
  have b1 := dg_bd z i
  obtain ⟨e1, e2⟩ := divs_nat (x := z) (j := i) (d := m) hm
  have b3 := Nat.mod_lt (z / 65536 ^ (i + 1)) hm
  have b4 := divs_lt (d := m) b3 (Nat.mod_lt (z / 65536 ^ i) (by omega : 0 < 65536))
  have hd : dg (z / m) i = (((z / 65536 ^ (i + 1) % m * 65536 + z / 65536 ^ i % 65536) / m : Nat) : Int) := by
    unfold dg
    rw [Nat.div_div_eq_div_mul, Nat.mul_comm, ← Nat.div_div_eq_div_mul, e1, Nat.mul_add_mod, Nat.mod_eq_of_lt b4]
  have hq : (((z / 65536 ^ (i + 1) % m : Nat) : Int) * 65536 + dg z i) / (m : Int) = dg (z / m) i := by
    rw [hd, Int.natCast_ediv, Int.natCast_add, Int.natCast_mul]; rfl
  have hr : (((z / 65536 ^ (i + 1) % m : Nat) : Int) * 65536 + dg z i) % (m : Int) = ((z / 65536 ^ i % m : Nat) : Int) := by
    rw [e2]
    refine Eq.trans ?_ (Int.natCast_emod _ _).symm
    congr 1
  rw [round_v]; simp only [loopAt, nthC, bodyC, loops, List.nil_append, List.cons_append, List.append_nil, Tryd.f42, dsS, ← hi_set hi']
  have e0 : (((i + 1 : Nat) : Int) - 1) = i := by omega
  have hl := hi_len (q := z / m) (n := (D z).length) (i := i + 1) (by omega)
  have b5 := dg_bd (z / m) i
  generalize hr0 : ((z / 65536 ^ (i + 1) % m : Nat) : Int) = r at *
  have b6 : 0 ≤ r := by rw [← hr0]; exact Int.natCast_nonneg _
  have b7 : r < m := by rw [← hr0]; exact Int.ofNat_lt.2 b3
  rw [e0]
  generalize hi (z / m) (D z).length (i + 1) = H at *
  generalize dg (z / m) i = q at *
  simp (disch := omega) [go_sem, tab42, nil42, gt_D, hl, hq, hr]
theorem ds_x (call : CallV) :
    vCode Tryd.prog kn call 42 (loopAt Tryd.f42 0) (dsS z m 0).1 (dsS z m 0).2 = some (.exit 0, (dsS z m 0).1 ++ [(16, some (.bool false))], (dsS z m 0).2) := by
  rw [round_v]; simp only [loopAt, nthC, bodyC, loops, List.nil_append, List.cons_append, List.append_nil, Tryd.f42, dsS]
  simp (disch := omega) [go_sem, tab42, nil42]
theorem divideSmall_v (d : Nat) (hm : 0 < m) (hm2 : m ≤ 65536) (hx : (D z).length < 1000000) :
    vrun Tryd.prog kn (d + 2) 42 [.ints .i64 (D z), .int .i64 (m : Int)] [] = some (.tup [.sl 0 0 (D (z / m)).length 1, .int .i64 ((z % m : Nat) : Int)], [.ints true .i64 (D (z / m))]) := by
  have key : ∀ i n, i ≤ (D z).length → i < n → viter (vCode Tryd.prog kn (vrun Tryd.prog kn (d + 1)) 42 (loopAt Tryd.f42 0)) n (dsS z m i).1 (dsS z m i).2 = some (.exit 0, (dsS z m 0).1 ++ [(16, some (.bool false))], (dsS z m 0).2) := by
    intro i
    induction i with
    | zero => intro n _ hn; obtain ⟨n, rfl⟩ : ∃ q, n = q + 1 := ⟨n - 1, by omega⟩; exact vi_exit (ds_x _)
    | succ i ih => intro n h1 hn; obtain ⟨n, rfl⟩ : ∃ q, n = q + 1 := ⟨n - 1, by omega⟩; rw [vi_norm (ds_r _ hm hm2 hx i (by omega))]; exact ih n (by omega) (by omega)
  have hl0 := fun ks => loop_v (P := Tryd.prog) (K := kn) (ks := ks) (key (D z).length kn.cf.rounds (Nat.le_refl _) (by rw [k_cf, c_rounds]; omega))
  have h0 : hi (z / m) (D z).length (D z).length = List.replicate (D z).length 0 := by unfold hi; rw [List.drop_eq_nil_of_le (by rw [dgs_len]; omega), List.append_nil]
  have h1 : hi (z / m) (D z).length 0 = dgs (z / m) (D z).length := by unfold hi; rw [List.replicate_zero, List.nil_append, List.drop_zero]
  simp only [loopAt, nthC, bodyC, loops, List.nil_append, List.cons_append, List.append_nil, Tryd.f42, dsS, h0, h1, quo_end, Nat.zero_mod, Nat.pow_zero, Nat.div_one, Int.natCast_zero, List.cons_append, List.nil_append] at hl0
  have c2 : z / m < 65536 ^ (D z).length := Nat.lt_of_le_of_lt (Nat.div_le_self _ _) (lt_len_D z)
  have ht := trim0_v d (l := dgs (z / m) (D z).length) (n := (D z).length) (v := z / m) (by rw [dgs_len]; omega) (by rw [dgs_len]) (dgs_good _ _) (by rw [dgs_val, lo_len (lt_pow_len c2)])
  have ht2 := (dgs_tl c2).2
  rw [vrun_v Tryd.func42 rfl rfl rfl]; simp only [Tryd.f42]
  simp (disch := omega) [go_sem, tab42, nil42, hl0, dgs_len, ht, ht2]
end
end
/- Division, digit by digit: the guess of a digit; taking a multiple away; adding once. No conditions. -/
section
open Num
section
variable {u v : List Int} {j n : Nat} {P vr ur : Int}
def doS (u v : List Int) (j n : Nat) (q r : Int) (x : VE) : VE × VH := ((0, some (.ints .i64 u)) :: (1, some (.ints .i64 v)) :: (2, some (.int .i64 j)) :: (7, some (.int .i64 n)) :: (9, some (.int .i64 q)) :: (10, some (.int .i64 r)) :: x, [])
theorem mul_q {q b : Int} (q0 : 0 ≤ q) (q1 : q ≤ 65537) (b0 : 0 ≤ b) (b1 : b < 65536) : 0 ≤ q * b ∧ q * b ≤ 4295032832 := by
  refine ⟨Int.mul_nonneg q0 b0, ?_⟩
  have : q * b ≤ 65537 * 65536 := Int.mul_le_mul q1 (by omega) b0 (by omega)
  omega
theorem do_x (call : CallV) {x : VE} (hn : 2 ≤ n) (hv : v.length = n) (hu : j + n < u.length) (hul : u.length < 1000000) (hgu : GoodL u) (hgv : GoodL v) {q r : Int} (q0 : 0 ≤ q) (q1 : q < 65536) (r0 : 0 ≤ r) (r1 : r < 65536) (c : q * gt v (n - 2) ≤ r * 65536 + gt u (j + n - 2)) :
    vCode Tryd.prog kn call 43 (loopAt Tryd.f43 0) (doS u v j n q r x).1 (doS u v j n q r x).2 = some (.exit 0, (doS u v j n q r []).1 ++ [(63, some (.bool false))], []) := by
  have g1 := hgv.gtB (n - 2)
  have g2 := hgu.gtB (j + n - 2)
  have m := mul_q q0 (by omega) g1.1 g1.2
  have e1 : ((n : Int) - 2).toNat = n - 2 := by omega
  have e2 : ((j : Int) + n - 2).toNat = j + n - 2 := by omega
  rw [round_v]; simp only [loopAt, nthC, bodyC, loops, List.nil_append, List.cons_append, List.append_nil, Tryd.f43, doS]
  generalize k2 : gt v (n - 2) = v2 at *
  generalize k3 : gt u (j + n - 2) = u2 at *
  simp (implicitDefEqProofs := false) (disch := omega) [go_sem, tab43, e1, e2, k2, k3]
theorem do_b (call : CallV) {x : VE} (hn : 2 ≤ n) (hv : v.length = n) (hu : j + n < u.length) (hul : u.length < 1000000) (hgu : GoodL u) (hgv : GoodL v) {q r : Int} (q0 : 0 ≤ q) (q1 : q ≤ 65537) (r0 : 0 ≤ r) (r1 : r < 65536) (c : 65536 ≤ q ∨ r * 65536 + gt u (j + n - 2) < q * gt v (n - 2)) (b : 65536 ≤ r + gt v (n - 1)) :
    vCode Tryd.prog kn call 43 (loopAt Tryd.f43 0) (doS u v j n q r x).1 (doS u v j n q r x).2 = some (.exit 0, (doS u v j n (q - 1) (r + gt v (n - 1)) []).1 ++ [(74, some (.bool true))], []) := by
  have g1 := hgv.gtB (n - 2)
  have g2 := hgu.gtB (j + n - 2)
  have g3 := hgv.gtB (n - 1)
  have m := mul_q q0 q1 g1.1 g1.2
  have e1 : ((n : Int) - 2).toNat = n - 2 := by omega
  have e2 : ((j : Int) + n - 2).toNat = j + n - 2 := by omega
  have e3 : ((n : Int) - 1).toNat = n - 1 := by omega
  rw [round_v]; simp only [loopAt, nthC, bodyC, loops, List.nil_append, List.cons_append, List.append_nil, Tryd.f43, doS]
  generalize k2 : gt v (n - 2) = v2 at *
  generalize k1 : gt v (n - 1) = v1 at *
  generalize k3 : gt u (j + n - 2) = u2 at *
  by_cases h : 65536 ≤ q
  · simp (implicitDefEqProofs := false) (disch := omega) [go_sem, tab43, e1, e2, e3, k1, k2, k3]
  · have c2 : r * 65536 + u2 < q * v2 := c.resolve_left h
    generalize k6 : q * v2 = p at *
    simp (implicitDefEqProofs := false) (disch := omega) [go_sem, tab43, e1, e2, e3, k1, k2, k3, k6]
theorem do_n (call : CallV) {x : VE} (hn : 2 ≤ n) (hv : v.length = n) (hu : j + n < u.length) (hul : u.length < 1000000) (hgu : GoodL u) (hgv : GoodL v) {q r : Int} (q0 : 0 ≤ q) (q1 : q ≤ 65537) (r0 : 0 ≤ r) (r1 : r < 65536) (c : 65536 ≤ q ∨ r * 65536 + gt u (j + n - 2) < q * gt v (n - 2)) (b : r + gt v (n - 1) < 65536) :
    vCode Tryd.prog kn call 43 (loopAt Tryd.f43 0) (doS u v j n q r x).1 (doS u v j n q r x).2 = some (.norm, doS u v j n (q - 1) (r + gt v (n - 1)) [(74, some (.bool false))]) := by
  have g1 := hgv.gtB (n - 2)
  have g2 := hgu.gtB (j + n - 2)
  have g3 := hgv.gtB (n - 1)
  have m := mul_q q0 q1 g1.1 g1.2
  have e1 : ((n : Int) - 2).toNat = n - 2 := by omega
  have e2 : ((j : Int) + n - 2).toNat = j + n - 2 := by omega
  have e3 : ((n : Int) - 1).toNat = n - 1 := by omega
  rw [round_v]; simp only [loopAt, nthC, bodyC, loops, List.nil_append, List.cons_append, List.append_nil, Tryd.f43, doS]
  generalize k2 : gt v (n - 2) = v2 at *
  generalize k1 : gt v (n - 1) = v1 at *
  generalize k3 : gt u (j + n - 2) = u2 at *
  by_cases h : 65536 ≤ q
  · simp (implicitDefEqProofs := false) (disch := omega) [go_sem, tab43, e1, e2, e3, k1, k2, k3]
  · have c2 : r * 65536 + u2 < q * v2 := c.resolve_left h
    generalize k6 : q * v2 = p at *
    simp (implicitDefEqProofs := false) (disch := omega) [go_sem, tab43, e1, e2, e3, k1, k2, k3, k6]
theorem do_l (call : CallV) (hn : 2 ≤ n) (hv : v.length = n) (hu : j + n < u.length) (hul : u.length < 1000000) (hgu : GoodL u) (hgv : GoodL v)
    (K : Kt P (gt v (n - 1)) (gt v (n - 2)) vr (gt u (j + n) * 65536 + gt u (j + n - 1)) (gt u (j + n - 2)) ur) :
    ∀ (m N : Nat) (q r : Int) (x : VE), q * gt v (n - 1) + r = gt u (j + n) * 65536 + gt u (j + n - 1) → 0 ≤ q → 0 ≤ r → r < 65536 → ((gt u (j + n) * 65536 + gt u (j + n - 1)) * 65536 + gt u (j + n - 2)) * P + ur < (q + 1) * ((gt v (n - 1) * 65536 + gt v (n - 2)) * P + vr) → 65536 ≤ r + m * 32768 → m < N →
      ∃ q' r' k b, viter (vCode Tryd.prog kn call 43 (loopAt Tryd.f43 0)) N (doS u v j n q r x).1 (doS u v j n q r x).2 = some (.exit 0, (doS u v j n q' r' []).1 ++ [(k, some (.bool b))], []) ∧ 0 ≤ q' ∧ q' < 65536 ∧
        ((gt u (j + n) * 65536 + gt u (j + n - 1)) * 65536 + gt u (j + n - 2)) * P + ur < (q' + 1) * ((gt v (n - 1) * 65536 + gt v (n - 2)) * P + vr) ∧ (q' - 1) * ((gt v (n - 1) * 65536 + gt v (n - 2)) * P + vr) ≤ ((gt u (j + n) * 65536 + gt u (j + n - 1)) * 65536 + gt u (j + n - 2)) * P + ur := by
  intro m
  induction m with
  | zero => intro N q r x _ _ _ h1 _ h2 _; omega
  | succ m ih =>
    intro N q r x e q0 r0 r1 hU hm hN
    obtain ⟨N, rfl⟩ : ∃ z, N = z + 1 := ⟨N - 1, by omega⟩
    have q1 := K.q_le e r0
    by_cases c : 65536 ≤ q ∨ r * 65536 + gt u (j + n - 2) < q * gt v (n - 2)
    · have hd := K.dec e q0 c
      have qp : 1 ≤ q := by
        rcases c with c | c
        · omega
        · rcases Int.lt_or_le 0 q with h | h
          · omega
          · obtain rfl : q = 0 := by omega
            have := K.u20
            rw [Int.zero_mul] at c; omega
      have e' : (q - 1) * gt v (n - 1) + (r + gt v (n - 1)) = gt u (j + n) * 65536 + gt u (j + n - 1) := by rw [← e]; grind
      have hU' : ((gt u (j + n) * 65536 + gt u (j + n - 1)) * 65536 + gt u (j + n - 2)) * P + ur < (q - 1 + 1) * ((gt v (n - 1) * 65536 + gt v (n - 2)) * P + vr) := by rw [show q - 1 + 1 = q by omega]; exact hd
      have hvl := K.v1l
      by_cases b : 65536 ≤ r + gt v (n - 1)
      · have hb := K.brk e r0 b
        exact ⟨q - 1, r + gt v (n - 1), 74, true, vi_exit (do_b call hn hv hu hul hgu hgv q0 q1 r0 r1 c b), by omega, by omega, hU', K.fin e' (by omega) (by omega) (K.brk2 (by omega) (by omega) b)⟩
      · rw [vi_norm (do_n call hn hv hu hul hgu hgv q0 q1 r0 r1 c (by omega))]
        exact ih N (q - 1) (r + gt v (n - 1)) _ e' (by omega) (by omega) (by omega) hU' (by omega) (by omega)
    · have c1 : q < 65536 := by omega
      have c2 : q * gt v (n - 2) ≤ r * 65536 + gt u (j + n - 2) := by omega
      exact ⟨q, r, 63, false, vi_exit (do_x call hn hv hu hul hgu hgv q0 c1 r0 r1 c2), q0, c1, hU, K.fin e q0 c1 c2⟩
theorem digitOf_v (d : Nat) (hn : 2 ≤ n) (hv : v.length = n) (hu : j + n < u.length) (hul : u.length < 1000000) (hgu : GoodL u) (hgv : GoodL v)
    (K : Kt P (gt v (n - 1)) (gt v (n - 2)) vr (gt u (j + n) * 65536 + gt u (j + n - 1)) (gt u (j + n - 2)) ur) :
    ∃ q, vrun Tryd.prog kn (d + 1) 43 [.ints .i64 u, .ints .i64 v, .int .i64 j] [] = some (.int .i64 q, []) ∧ 0 ≤ q ∧ q < 65536 ∧
        ((gt u (j + n) * 65536 + gt u (j + n - 1)) * 65536 + gt u (j + n - 2)) * P + ur < (q + 1) * ((gt v (n - 1) * 65536 + gt v (n - 2)) * P + vr) ∧ (q - 1) * ((gt v (n - 1) * 65536 + gt v (n - 2)) * P + vr) ≤ ((gt u (j + n) * 65536 + gt u (j + n - 1)) * 65536 + gt u (j + n - 2)) * P + ur := by
  have hvl := K.v1l
  have hvu := K.v1u
  have ht0 := K.t0
  have htop : gt u (j + n) * 65536 + gt u (j + n - 1) < 4294967296 := by have := hgu.gtB (j + n); have := hgu.gtB (j + n - 1); omega
  have hq0 : 0 ≤ (gt u (j + n) * 65536 + gt u (j + n - 1)) / gt v (n - 1) := Int.ediv_nonneg ht0 (by omega)
  have hr0 := Int.emod_nonneg (gt u (j + n) * 65536 + gt u (j + n - 1)) (b := gt v (n - 1)) (by omega)
  have hr1 := Int.emod_lt_of_pos (gt u (j + n) * 65536 + gt u (j + n - 1)) (b := gt v (n - 1)) (by omega)
  have he := Int.mul_ediv_add_emod (gt u (j + n) * 65536 + gt u (j + n - 1)) (gt v (n - 1))
  rw [Int.mul_comm] at he
  have hU : ((gt u (j + n) * 65536 + gt u (j + n - 1)) * 65536 + gt u (j + n - 2)) * P + ur < ((gt u (j + n) * 65536 + gt u (j + n - 1)) / gt v (n - 1) + 1) * ((gt v (n - 1) * 65536 + gt v (n - 2)) * P + vr) := by
    have h1 : ((gt u (j + n) * 65536 + gt u (j + n - 1)) * 65536 + gt u (j + n - 2) + 1) * P ≤ (((gt u (j + n) * 65536 + gt u (j + n - 1)) / gt v (n - 1) + 1) * (gt v (n - 1) * 65536 + gt v (n - 2))) * P := by
      refine K.mulP ?_
      have h2 : ((gt u (j + n) * 65536 + gt u (j + n - 1)) / gt v (n - 1) + 1) * (gt v (n - 1) * 65536 + gt v (n - 2)) = ((gt u (j + n) * 65536 + gt u (j + n - 1)) / gt v (n - 1) * gt v (n - 1) + gt v (n - 1)) * 65536 + ((gt u (j + n) * 65536 + gt u (j + n - 1)) / gt v (n - 1) + 1) * gt v (n - 2) := by grind
      have h3 : 0 ≤ ((gt u (j + n) * 65536 + gt u (j + n - 1)) / gt v (n - 1) + 1) * gt v (n - 2) := Int.mul_nonneg (by omega) K.v20
      have := K.u2u
      rw [h2]; omega
    have h4 : 0 ≤ ((gt u (j + n) * 65536 + gt u (j + n - 1)) / gt v (n - 1) + 1) * vr := Int.mul_nonneg (by omega) K.vr0
    have := K.uru
    grind
  obtain ⟨q, r, k, b, hl, a1, a2, a3, a4⟩ := do_l (vrun Tryd.prog kn d) hn hv hu hul hgu hgv K 2 kn.cf.rounds _ _ [] he hq0 hr0 (by omega) hU (by omega) (by rw [k_cf, c_rounds]; omega)
  refine ⟨q, ?_, a1, a2, a3, a4⟩
  have hl0 := fun ks => loop_v (P := Tryd.prog) (K := kn) (ks := ks) hl
  have g1 := hgu.gtB (j + n)
  have g2 := hgu.gtB (j + n - 1)
  have e1 : ((j : Int) + n).toNat = j + n := by omega
  have e2 : ((j : Int) + n - 1).toNat = j + n - 1 := by omega
  have e3 : ((n : Int) - 1).toNat = n - 1 := by omega
  have hqle : (gt u (j + n) * 65536 + gt u (j + n - 1)) / gt v (n - 1) ≤ 65537 := K.q_le he hr0
  simp only [loopAt, nthC, bodyC, loops, List.nil_append, List.cons_append, List.append_nil, Tryd.f43, doS, List.cons_append, List.nil_append] at hl0
  clear a3 a4 hU K he
  rw [vrun_v Tryd.func43 rfl rfl rfl]; simp only [Tryd.f43]
  generalize k1 : gt v (n - 1) = v1 at *
  generalize k4 : gt u (j + n) = w1 at *
  generalize k5 : gt u (j + n - 1) = w2 at *
  simp (implicitDefEqProofs := false) (disch := omega) [go_sem, tab43, e1, e2, e3, hv, hl0, k1, k4, k5]
end
end
/- Division, digit by digit: taking a multiple away; adding once. No conditions. -/
section
open Num
/-- What a multiple's taking away leaves: the list, the borrow. -/
def tkS (u v : List Int) (j : Nat) (q : Int) : Nat → List Int × Int
  | 0 => (u, 0)
  | i + 1 => ((tkS u v j q i).1.set (j + i) ((gt (tkS u v j q i).1 (j + i) - q * gt v i - (tkS u v j q i).2) % 65536), -((gt (tkS u v j q i).1 (j + i) - q * gt v i - (tkS u v j q i).2) / 65536))
def adS (u v : List Int) (j : Nat) : Nat → List Int × Int
  | 0 => (u, 0)
  | i + 1 => ((adS u v j i).1.set (j + i) (((adS u v j i).2 + (gt (adS u v j i).1 (j + i) + gt v i)) % 65536), ((adS u v j i).2 + (gt (adS u v j i).1 (j + i) + gt v i)) / 65536)
theorem take_succ' {l : List Int} {i : Nat} (h : i < l.length) : l.take (i + 1) = l.take i ++ [gt l i] := by
  rw [List.take_add_one, gt_some h]; rfl
theorem val_take_succ {l : List Int} {i : Nat} (h : i < l.length) : val (l.take (i + 1)) = val (l.take i) + 65536 ^ i * gt l i := by
  rw [take_succ' h, val_snoc, List.length_take, Nat.min_eq_left (by omega)]
section
variable {u v : List Int} {j n : Nat} {q : Int}
theorem tk_len : ∀ i, (tkS u v j q i).1.length = u.length
  | 0 => rfl
  | i + 1 => by rw [tkS, List.length_set]; exact tk_len i
theorem tk_hi : ∀ i k, j + i ≤ k → gt (tkS u v j q i).1 k = gt u k
  | 0, _, _ => rfl
  | i + 1, k, h => by rw [tkS, gt_set_ne (by omega)]; exact tk_hi i k (by omega)
theorem tk_good (hu : GoodL u) : ∀ i, GoodL (tkS u v j q i).1
  | 0 => hu
  | i + 1 => by rw [tkS]; exact (tk_good hu i).set _ (by omega) (by omega)
theorem tk_bd (hu : GoodL u) (hv : GoodL v) (q0 : 0 ≤ q) (q1 : q < 65536) : ∀ i, 0 ≤ (tkS u v j q i).2 ∧ (tkS u v j q i).2 < 65536
  | 0 => by simp [tkS]
  | i + 1 => by
    have h1 := tk_bd hu hv q0 q1 i
    have h2 := (tk_good hu i (v := v) (j := j) (q := q)).gtB (j + i)
    have h3 := hv.gtB i
    have h4 : 0 ≤ q * gt v i ∧ q * gt v i ≤ 4294836225 := mul_bd ⟨q0, q1⟩ h3
    simp only [tkS]
    omega
theorem tk_val (hj : j + n ≤ u.length) (hn : n ≤ v.length) : ∀ i, i ≤ n → val (tkS u v j q i).1 - 65536 ^ j * 65536 ^ i * (tkS u v j q i).2 = val u - q * 65536 ^ j * val (v.take i)
  | 0, _ => by simp [tkS, val]
  | i + 1, h => by
    have h1 := tk_val hj hn i (by omega)
    rw [val_take_succ (by omega), Int.pow_succ]
    refine take_step h1 rfl ?_
    simp only [tkS]
    rw [val_setG (by rw [tk_len]; omega), Int.pow_add, tk_hi i (j + i) (Nat.le_refl _)]
theorem ad_len : ∀ i, (adS u v j i).1.length = u.length
  | 0 => rfl
  | i + 1 => by rw [adS, List.length_set]; exact ad_len i
theorem ad_hi : ∀ i k, j + i ≤ k → gt (adS u v j i).1 k = gt u k
  | 0, _, _ => rfl
  | i + 1, k, h => by rw [adS, gt_set_ne (by omega)]; exact ad_hi i k (by omega)
theorem ad_good (hu : GoodL (u.set (j + n) 0)) : ∀ i, i ≤ n → GoodL ((adS u v j i).1.set (j + n) 0)
  | 0, _ => hu
  | i + 1, h => by
    rw [adS]
    simp only
    rw [List.set_comm _ _ (by omega)]
    exact (ad_good hu i (by omega)).set _ (by omega) (by omega)
theorem ad_at (hu : GoodL (u.set (j + n) 0)) {i k : Nat} (hi : i ≤ n) (hk : k ≠ j + n) : 0 ≤ gt (adS u v j i).1 k ∧ gt (adS u v j i).1 k < 65536 := by
  have := (ad_good (v := v) hu i hi).gtB k
  rwa [gt_set_ne (Ne.symm hk)] at this
theorem ad_bd (hu : GoodL (u.set (j + n) 0)) (hv : GoodL v) : ∀ i, i ≤ n → 0 ≤ (adS u v j i).2 ∧ (adS u v j i).2 < 65536
  | 0, _ => by simp [adS]
  | i + 1, h => by
    have h1 := ad_bd hu hv i (by omega)
    have h2 := ad_at (v := v) hu (i := i) (k := j + i) (by omega) (by omega)
    have h3 := hv.gtB i
    simp only [adS]
    omega
theorem ad_val (hj : j + n ≤ u.length) (hn : n ≤ v.length) : ∀ i, i ≤ n → val (adS u v j i).1 + 65536 ^ j * 65536 ^ i * (adS u v j i).2 = val u + 65536 ^ j * val (v.take i)
  | 0, _ => by simp [adS, val]
  | i + 1, h => by
    have h1 := ad_val hj hn i (by omega)
    rw [val_take_succ (by omega), Int.pow_succ]
    refine add_step h1 rfl ?_
    simp only [adS]
    rw [val_setG (by rw [ad_len]; omega), Int.pow_add, ad_hi i (j + i) (Nat.le_refl _)]
end
section
variable {u v : List Int} {j n : Nat} {q : Int}
def takeT (v u o : List Int) (j : Nat) (q b : Int) (i : Nat) : VE × VH := ([(0, some (.sl 1 0 u.length 1)), (1, some (.sl 0 0 v.length 1)), (2, some (.int .i64 j)), (3, some (.int .i64 q)), (9, some (.int .i64 b)), (13, some (.sl 0 0 v.length 1)), (14, some (.int .i64 v.length)), (15, some (.int .i64 i))], [.ints true .i64 v, .ints true .i64 u, .ints true .i64 o])
theorem take_r (call : CallV) {o : List Int} (hu : GoodL u) (hv : GoodL v) (q0 : 0 ≤ q) (q1 : q < 65536) (hj : j + v.length < u.length) (hul : u.length < 1000000) {i : Nat} (hi : i < v.length) :
    vCode Tryd.prog kn call 44 (loopAt Tryd.f44 0) (takeT v (tkS u v j q i).1 o j q (tkS u v j q i).2 i).1 (takeT v (tkS u v j q i).1 o j q (tkS u v j q i).2 i).2 = some (.norm, takeT v (tkS u v j q (i + 1)).1 o j q (tkS u v j q (i + 1)).2 (i + 1)) := by
  have h1 := tk_bd hu hv q0 q1 i (j := j)
  have h2 := (tk_good hu i (v := v) (j := j) (q := q)).gtB (j + i)
  have h3 := hv.gtB i
  have h4 : 0 ≤ q * gt v i ∧ q * gt v i ≤ 4294836225 := mul_bd ⟨q0, q1⟩ h3
  have hl := tk_len (u := u) (v := v) (j := j) (q := q) i
  have e1 : ((j : Int) + i).toNat = j + i := by omega
  obtain ⟨t1, t2, t3⟩ := take_borrow (gt (tkS u v j q i).1 (j + i) - q * gt v i - (tkS u v j q i).2)
  rw [round_v]; simp only [loopAt, nthC, bodyC, loops, List.nil_append, List.cons_append, List.append_nil, Tryd.f44, tkS, takeT, List.length_set]
  generalize (tkS u v j q i).1 = U at *
  generalize (tkS u v j q i).2 = b at *
  generalize hxx : gt v i = x at *
  generalize hx : q * x = p at *
  generalize hw : gt U (j + i) = w at *
  by_cases h : w - p - b < 0
  · have t4 := t2 h
    have t5 : -(w - p - b) + 65536 - 1 = -(w - p - b) + 65535 := by omega
    generalize hd : w - p - b = d at *
    have t6 : 0 ≤ -(d / 65536) ∧ -(d / 65536) < 70000 := by omega
    have t7 : 0 ≤ d % 65536 ∧ d % 65536 < 65536 := by omega
    generalize -(d / 65536) = b' at *
    generalize d % 65536 = d' at *
    simp (implicitDefEqProofs := false) (disch := omega) [go_sem, tab44, e1, hw, hxx, hx, hd, hl, t1, t4, t5]
  · have t4 := t3 (by omega) (by omega)
    have t8 : (w - p - b) % 65536 = w - p - b := by omega
    rw [t4, t8]
    generalize hd : w - p - b = d at *
    simp (implicitDefEqProofs := false) (disch := omega) [go_sem, tab44, e1, hw, hxx, hx, hd, hl]
theorem take_x (call : CallV) {o u : List Int} {b : Int} (hul : u.length < 1000000) (hvl : v.length < 1000000) :
    vCode Tryd.prog kn call 44 (loopAt Tryd.f44 0) (takeT v u o j q b v.length).1 (takeT v u o j q b v.length).2 = some (.exit 0, (takeT v u o j q b v.length).1 ++ [(16, some (.bool false))], (takeT v u o j q b v.length).2) := by
  rw [round_v]; simp only [loopAt, nthC, bodyC, loops, List.nil_append, List.cons_append, List.append_nil, Tryd.f44, takeT]
  simp (implicitDefEqProofs := false) (disch := omega) [go_sem, tab44]
theorem takeAway_v (d : Nat) {o : List Int} (hu : GoodL u) (hv : GoodL v) (q0 : 0 ≤ q) (q1 : q < 65536) (hj : j + v.length < u.length) (hul : u.length < 1000000) :
    vrun Tryd.prog kn (d + 1) 44 [.sl 1 0 u.length 1, .sl 0 0 v.length 1, .int .i64 j, .int .i64 q] [.ints true .i64 v, .ints true .i64 u, .ints true .i64 o] = some (.bool (decide (gt u (j + v.length) - (tkS u v j q v.length).2 < 0)), [.ints true .i64 v, .ints true .i64 ((tkS u v j q v.length).1.set (j + v.length) (gt u (j + v.length) - (tkS u v j q v.length).2)), .ints true .i64 o]) := by
  have hl0 := fun ks => loop_v (P := Tryd.prog) (K := kn) (ks := ks) (vi_for (fun i => takeT v (tkS u v j q i).1 o j q (tkS u v j q i).2 i) v.length (n := kn.cf.rounds) (by rw [k_cf, c_rounds]; omega) (fun i hi => take_r (vrun Tryd.prog kn d) hu hv q0 q1 hj hul hi) fun m => vi_exit (take_x _ (by rw [tk_len]; exact hul) (by omega)))
  have h1 := tk_bd hu hv q0 q1 v.length (j := j)
  have h2 := hu.gtB (j + v.length)
  have h3 := tk_hi (u := u) (v := v) (q := q) v.length (j + v.length) (Nat.le_refl _)
  have hl := tk_len (u := u) (v := v) (j := j) (q := q) v.length
  have e1 : ((j : Int) + v.length).toNat = j + v.length := by omega
  simp only [loopAt, nthC, bodyC, loops, List.nil_append, List.cons_append, List.append_nil, Tryd.f44, takeT, tkS, Int.natCast_zero, List.cons_append, List.nil_append] at hl0
  generalize (tkS u v j q v.length).1 = U at *
  generalize (tkS u v j q v.length).2 = b at *
  rw [hl] at hl0
  generalize hw : gt u (j + v.length) = w at *
  generalize u.length = L at *
  have h4 : gt (U.set (j + v.length) (w - b)) (j + v.length) = w - b := gt_set_eq (by omega) _
  generalize hZ : U.set (j + v.length) (w - b) = Z at *
  have hlz : Z.length = L := by rw [← hZ, List.length_set, hl]
  rw [vrun_v Tryd.func44 rfl rfl rfl]; simp only [Tryd.f44]
  simp (implicitDefEqProofs := false) (disch := omega) [go_sem, tab44, e1, hl, hl0, h3, hZ, hlz, h4]
def addT (v u o : List Int) (j : Nat) (c : Int) (i : Nat) : VE × VH := ([(0, some (.sl 1 0 u.length 1)), (1, some (.sl 0 0 v.length 1)), (2, some (.int .i64 j)), (6, some (.int .i64 c)), (9, some (.sl 0 0 v.length 1)), (10, some (.int .i64 v.length)), (11, some (.int .i64 i))], [.ints true .i64 v, .ints true .i64 u, .ints true .i64 o])
theorem addb_r (call : CallV) {o : List Int} (hu : GoodL (u.set (j + v.length) 0)) (hv : GoodL v) (hj : j + v.length < u.length) (hul : u.length < 1000000) {i : Nat} (hi : i < v.length) :
    vCode Tryd.prog kn call 45 (loopAt Tryd.f45 0) (addT v (adS u v j i).1 o j (adS u v j i).2 i).1 (addT v (adS u v j i).1 o j (adS u v j i).2 i).2 = some (.norm, addT v (adS u v j (i + 1)).1 o j (adS u v j (i + 1)).2 (i + 1)) := by
  have h1 := ad_bd hu hv i (by omega)
  have h2 := ad_at (v := v) hu (i := i) (k := j + i) (by omega) (by omega)
  have h3 := hv.gtB i
  have hl := ad_len (u := u) (v := v) (j := j) i
  have e1 : ((j : Int) + i).toNat = j + i := by omega
  rw [round_v]; simp only [loopAt, nthC, bodyC, loops, List.nil_append, List.cons_append, List.append_nil, Tryd.f45, adS, addT, List.length_set]
  generalize (adS u v j i).1 = U at *
  generalize (adS u v j i).2 = c at *
  generalize hxx : gt v i = x at *
  generalize hw : gt U (j + i) = w at *
  generalize hs : c + (w + x) = s at *
  simp (implicitDefEqProofs := false) (disch := omega) [go_sem, tab45, e1, hw, hxx, hs, hl]
theorem addb_x (call : CallV) {o u : List Int} {c : Int} (hul : u.length < 1000000) (hvl : v.length < 1000000) :
    vCode Tryd.prog kn call 45 (loopAt Tryd.f45 0) (addT v u o j c v.length).1 (addT v u o j c v.length).2 = some (.exit 0, (addT v u o j c v.length).1 ++ [(12, some (.bool false))], (addT v u o j c v.length).2) := by
  rw [round_v]; simp only [loopAt, nthC, bodyC, loops, List.nil_append, List.cons_append, List.append_nil, Tryd.f45, addT]
  simp (implicitDefEqProofs := false) (disch := omega) [go_sem, tab45]
theorem addBack_v (d : Nat) {o : List Int} (hu : GoodL (u.set (j + v.length) 0)) (hv : GoodL v) (hj : j + v.length < u.length) (hul : u.length < 1000000) (hb : -100000 ≤ gt u (j + v.length)) (hb' : gt u (j + v.length) ≤ 100000) :
    vrun Tryd.prog kn (d + 1) 45 [.sl 1 0 u.length 1, .sl 0 0 v.length 1, .int .i64 j] [.ints true .i64 v, .ints true .i64 u, .ints true .i64 o] = some (.tup [], [.ints true .i64 v, .ints true .i64 ((adS u v j v.length).1.set (j + v.length) (gt u (j + v.length) + (adS u v j v.length).2)), .ints true .i64 o]) := by
  have hl0 := fun ks => loop_v (P := Tryd.prog) (K := kn) (ks := ks) (vi_for (fun i => addT v (adS u v j i).1 o j (adS u v j i).2 i) v.length (n := kn.cf.rounds) (by rw [k_cf, c_rounds]; omega) (fun i hi => addb_r (vrun Tryd.prog kn d) hu hv hj hul hi) fun m => vi_exit (addb_x _ (by rw [ad_len]; exact hul) (by omega)))
  have h1 := ad_bd hu hv v.length (Nat.le_refl _)
  have h3 := ad_hi (u := u) (v := v) v.length (j + v.length) (Nat.le_refl _)
  have hl := ad_len (u := u) (v := v) (j := j) v.length
  have e1 : ((j : Int) + v.length).toNat = j + v.length := by omega
  simp only [loopAt, nthC, bodyC, loops, List.nil_append, List.cons_append, List.append_nil, Tryd.f45, addT, adS, Int.natCast_zero, List.cons_append, List.nil_append] at hl0
  generalize (adS u v j v.length).1 = U at *
  generalize (adS u v j v.length).2 = c at *
  rw [hl] at hl0
  generalize hw : gt u (j + v.length) = w at *
  generalize u.length = L at *
  rw [vrun_v Tryd.func45 rfl rfl rfl]; simp only [Tryd.f45]
  simp (implicitDefEqProofs := false) (disch := omega) [go_sem, tab45, e1, hl, hl0, h3]
end
end
/- Division, digit by digit: one round, in numbers. No conditions. -/
section
open Num
/-- A list whose digits above one place are nought. -/
theorem val_top {l : List Int} {k : Nat} (hk : k < l.length) (hz : ∀ i, k < i → gt l i = 0) : val l = val (l.take k) + 65536 ^ k * gt l k := by
  have e : l = l.take k ++ (gt l k :: l.drop (k + 1)) := by
    conv => lhs; rw [← List.take_append_drop k l]
    rw [List.drop_eq_getElem_cons hk, gt_get]
  have hd : val (l.drop (k + 1)) = 0 := by
    have : ∀ (m : List Int), (∀ i, gt m i = 0) → val m = 0 := by
      intro m
      induction m with
      | nil => intro _; rfl
      | cons a r ih =>
        intro h
        have h0 : a = 0 := h 0
        rw [val_cons, h0, ih fun i => h (i + 1)]; rfl
    refine this _ fun i => ?_
    have := hz (k + 1 + i) (by omega)
    unfold gt at this ⊢
    rw [List.getD_eq_getElem?_getD] at this ⊢
    rw [List.getElem?_drop]; exact this
  conv => lhs; rw [e]
  rw [val_append, val_cons, hd, List.length_take, Nat.min_eq_left (by omega), Int.mul_zero, Int.add_zero]
theorem val_take_bd {l : List Int} {k : Nat} (hk : k ≤ l.length) (hg : GoodL (l.take k)) : 0 ≤ val (l.take k) ∧ val (l.take k) < 65536 ^ k := by
  refine ⟨val_nonneg hg, ?_⟩
  have := val_lt hg
  rwa [List.length_take, Nat.min_eq_left hk] at this
theorem take_set_ge {l : List Int} {k : Nat} (x : Int) : (l.set k x).take k = l.take k := List.take_set_of_le (Nat.le_refl k)
theorem good_of_set {l : List Int} {k : Nat} (hk : k < l.length) (h : GoodL (l.set k 0)) (h0 : 0 ≤ gt l k) (h1 : gt l k < 65536) : GoodL l := by
  have e : l = (l.set k 0).set k (gt l k) := by
    rw [List.set_set, ← gt_get l k hk]; exact (List.set_getElem_self hk).symm
  rw [e]; exact h.set _ h0 h1
theorem gt_dgs0 {q n i : Nat} (h : n ≤ i) : gt (dgs q n) i = 0 := by
  unfold gt; rw [List.getD_eq_getElem?_getD, List.getElem?_eq_none (by rw [dgs_len]; exact h)]; rfl
section
variable {X V n L j : Nat} {q : Int}
/-- How the numbers of a round lie. -/
structure Rdv (X V n L j : Nat) : Prop where
  n2 : 2 ≤ n
  Vl : (D V).length = n
  Vh : 32768 ≤ dg V (n - 1)
  jl : j + n < L
  Xl : X % (V * 65536 ^ (j + 1)) < 65536 ^ L
namespace Rdv
theorem Vp (h : Rdv X V n L j) : 0 < V := by
  rcases Nat.eq_zero_or_pos V with e | e
  · have := h.Vl; rw [e, D_zero] at this; have := h.n2; simp at *; omega
  · exact e
theorem Ul (h : Rdv X V n L j) : X % (V * 65536 ^ (j + 1)) < V * 65536 ^ (j + 1) := Nat.mod_lt _ (Nat.mul_pos h.Vp (powN_pos _))
theorem Wl (h : Rdv X V n L j) : X % (V * 65536 ^ (j + 1)) / 65536 ^ j < V * 65536 := by
  rw [Nat.div_lt_iff_lt_mul (powN_pos j), Nat.mul_assoc, Nat.mul_comm 65536, ← Nat.pow_succ]
  exact h.Ul
theorem Vlt (h : Rdv X V n L j) : V < 65536 ^ n := by have := lt_len_D V; rwa [h.Vl] at this
theorem digit (h : Rdv X V n L j) : dg (X / V) j = ((X % (V * 65536 ^ (j + 1)) / 65536 ^ j / V : Nat) : Int) := by
  unfold dg
  congr 1
  rw [Nat.div_div_eq_div_mul _ _ V, Nat.mul_comm (65536 ^ j) V, Nat.pow_succ, ← Nat.mul_assoc, Nat.mod_mul_right_div_self, Nat.div_div_eq_div_mul]
theorem three (h : Rdv X V n L j) {W : Nat} (hW : W < V * 65536) : (W : Int) = ((dg W n * 65536 + dg W (n - 1)) * 65536 + dg W (n - 2)) * ((65536 ^ (n - 2) : Nat) : Int) + ((W % 65536 ^ (n - 2) : Nat) : Int) := by
  have hlt : W < 65536 ^ (n + 1) := Nat.lt_of_lt_of_le hW (by rw [Nat.pow_succ]; exact Nat.mul_le_mul_right _ (Nat.le_of_lt h.Vlt))
  have hn := h.n2
  have e1 := Nat.div_add_mod W (65536 ^ (n - 2))
  have e2 : W / 65536 ^ (n - 2) / 65536 = W / 65536 ^ (n - 1) := by rw [Nat.div_div_eq_div_mul, ← Nat.pow_succ]; congr 2; omega
  have e3 : W / 65536 ^ (n - 1) / 65536 = W / 65536 ^ n := by rw [Nat.div_div_eq_div_mul, ← Nat.pow_succ]; congr 2; omega
  have e4 : W / 65536 ^ n / 65536 = 0 := by rw [Nat.div_div_eq_div_mul, ← Nat.pow_succ]; exact Nat.div_eq_of_lt hlt
  have e5 : W / 65536 ^ (n - 2) = (W / 65536 ^ n % 65536 * 65536 + W / 65536 ^ (n - 1) % 65536) * 65536 + W / 65536 ^ (n - 2) % 65536 := by omega
  unfold dg
  generalize W / 65536 ^ (n - 2) = a at *
  have : W = ((W / 65536 ^ n % 65536 * 65536 + W / 65536 ^ (n - 1) % 65536) * 65536 + a % 65536) * 65536 ^ (n - 2) + W % 65536 ^ (n - 2) := by
    rw [← e5, Nat.mul_comm]; exact e1.symm
  exact congrArg Int.ofNat this
theorem two (h : Rdv X V n L j) : (V : Int) = (dg V (n - 1) * 65536 + dg V (n - 2)) * ((65536 ^ (n - 2) : Nat) : Int) + ((V % 65536 ^ (n - 2) : Nat) : Int) := by
  have hn := h.n2
  have e1 := Nat.div_add_mod V (65536 ^ (n - 2))
  have e2 : V / 65536 ^ (n - 2) / 65536 = V / 65536 ^ (n - 1) := by rw [Nat.div_div_eq_div_mul, ← Nat.pow_succ]; congr 2; omega
  have e4 : V / 65536 ^ (n - 1) / 65536 = 0 := by
    rw [Nat.div_div_eq_div_mul, ← Nat.pow_succ, show (n - 1).succ = n by omega]; exact Nat.div_eq_of_lt h.Vlt
  have e5 : V / 65536 ^ (n - 2) = V / 65536 ^ (n - 1) % 65536 * 65536 + V / 65536 ^ (n - 2) % 65536 := by omega
  unfold dg
  generalize V / 65536 ^ (n - 2) = a at *
  have : V = (V / 65536 ^ (n - 1) % 65536 * 65536 + a % 65536) * 65536 ^ (n - 2) + V % 65536 ^ (n - 2) := by
    rw [← e5, Nat.mul_comm]; exact e1.symm
  exact congrArg Int.ofNat this
theorem at_u (h : Rdv X V n L j) {i : Nat} (hi : i ≤ n) : gt (dgs (X % (V * 65536 ^ (j + 1))) L) (j + i) = dg (X % (V * 65536 ^ (j + 1)) / 65536 ^ j) i := by
  have := h.jl
  rw [gt_dgs2 (by omega)]
  unfold dg
  rw [Nat.div_div_eq_div_mul, ← Nat.pow_add]
theorem kt (h : Rdv X V n L j) : Kt ((65536 ^ (n - 2) : Nat) : Int) (gt (D V) (n - 1)) (gt (D V) (n - 2)) ((V % 65536 ^ (n - 2) : Nat) : Int)
    (gt (dgs (X % (V * 65536 ^ (j + 1))) L) (j + n) * 65536 + gt (dgs (X % (V * 65536 ^ (j + 1))) L) (j + n - 1)) (gt (dgs (X % (V * 65536 ^ (j + 1))) L) (j + n - 2)) ((X % (V * 65536 ^ (j + 1)) / 65536 ^ j % 65536 ^ (n - 2) : Nat) : Int) := by
  have hn := h.n2
  have a0 := h.at_u (i := n) (Nat.le_refl _)
  have a1 := h.at_u (i := n - 1) (by omega)
  have a2 := h.at_u (i := n - 2) (by omega)
  rw [show j + (n - 1) = j + n - 1 by omega] at a1
  rw [show j + (n - 2) = j + n - 2 by omega] at a2
  have hW := h.Wl
  have t3 := h.three hW
  have t2 := h.two
  rw [a0, a1, a2, gt_D, gt_D]
  generalize X % (V * 65536 ^ (j + 1)) / 65536 ^ j = W at *
  have b0 := dg_bd W n
  have b1 := dg_bd W (n - 1)
  have b2 := dg_bd W (n - 2)
  have c1 := dg_bd V (n - 1)
  have c2 := dg_bd V (n - 2)
  refine ⟨by have := powN_pos (n - 2); omega, h.Vh, c1.2, c2.1, c2.2, Int.natCast_nonneg _, ?_, by omega, b2.1, b2.2, Int.natCast_nonneg _, ?_, ?_⟩
  · exact Int.ofNat_lt.2 (Nat.mod_lt _ (powN_pos _))
  · exact Int.ofNat_lt.2 (Nat.mod_lt _ (powN_pos _))
  · rw [← t3, ← t2]; omega
/-- What the guess says. -/
theorem gs (h : Rdv X V n L j) (h1 : ((gt (dgs (X % (V * 65536 ^ (j + 1))) L) (j + n) * 65536 + gt (dgs (X % (V * 65536 ^ (j + 1))) L) (j + n - 1)) * 65536 + gt (dgs (X % (V * 65536 ^ (j + 1))) L) (j + n - 2)) * ((65536 ^ (n - 2) : Nat) : Int) + ((X % (V * 65536 ^ (j + 1)) / 65536 ^ j % 65536 ^ (n - 2) : Nat) : Int) < (q + 1) * ((gt (D V) (n - 1) * 65536 + gt (D V) (n - 2)) * ((65536 ^ (n - 2) : Nat) : Int) + ((V % 65536 ^ (n - 2) : Nat) : Int)))
    (h2 : (q - 1) * ((gt (D V) (n - 1) * 65536 + gt (D V) (n - 2)) * ((65536 ^ (n - 2) : Nat) : Int) + ((V % 65536 ^ (n - 2) : Nat) : Int)) ≤ ((gt (dgs (X % (V * 65536 ^ (j + 1))) L) (j + n) * 65536 + gt (dgs (X % (V * 65536 ^ (j + 1))) L) (j + n - 1)) * 65536 + gt (dgs (X % (V * 65536 ^ (j + 1))) L) (j + n - 2)) * ((65536 ^ (n - 2) : Nat) : Int) + ((X % (V * 65536 ^ (j + 1)) / 65536 ^ j % 65536 ^ (n - 2) : Nat) : Int)) :
    q = dg (X / V) j ∨ q = dg (X / V) j + 1 := by
  have hn := h.n2
  have a0 := h.at_u (i := n) (Nat.le_refl _)
  have a1 := h.at_u (i := n - 1) (by omega)
  have a2 := h.at_u (i := n - 2) (by omega)
  rw [show j + (n - 1) = j + n - 1 by omega] at a1
  rw [show j + (n - 2) = j + n - 2 by omega] at a2
  have t3 := h.three h.Wl
  have t2 := h.two
  rw [a0, a1, a2, gt_D, gt_D, ← t3, ← t2] at h1 h2
  have hV := h.Vp
  have hd := h.digit
  generalize X % (V * 65536 ^ (j + 1)) / 65536 ^ j = W at *
  obtain ⟨g1, g2⟩ := guess (t := dg (X / V) j) (U := (W : Int)) (V := (V : Int)) (q := q) (by omega) (by rw [hd, Int.natCast_ediv]) h1 h2
  omega
theorem Uval (h : Rdv X V n L j) : val (dgs (X % (V * 65536 ^ (j + 1))) L) = ((X % (V * 65536 ^ (j + 1)) : Nat) : Int) := by
  rw [dgs_val, lo_len (lt_pow_len h.Xl)]
theorem Unext (h : Rdv X V n L j) : ((X % (V * 65536 ^ (j + 1)) : Nat) : Int) = ((X % (V * 65536 ^ j) : Nat) : Int) + dg (X / V) j * 65536 ^ j * V := by
  have e1 : X % (V * 65536 ^ (j + 1)) % (V * 65536 ^ j) = X % (V * 65536 ^ j) := by
    rw [Nat.pow_succ, ← Nat.mul_assoc]; exact Nat.mod_mul_right_mod _ _ _
  have e2 := Nat.div_add_mod (X % (V * 65536 ^ (j + 1))) (V * 65536 ^ j)
  rw [e1] at e2
  have e3 : X % (V * 65536 ^ (j + 1)) / (V * 65536 ^ j) = X % (V * 65536 ^ (j + 1)) / 65536 ^ j / V := by rw [Nat.div_div_eq_div_mul _ _ V, Nat.mul_comm (65536 ^ j) V]
  rw [e3] at e2
  have e4 := congrArg (fun z : Nat => (z : Int)) e2
  simp only [Int.natCast_add, Int.natCast_mul, pow_cast] at e4
  rw [h.digit, ← e4]
  generalize ((X % (V * 65536 ^ (j + 1)) / 65536 ^ j / V : Nat) : Int) = a
  generalize ((X % (V * 65536 ^ j) : Nat) : Int) = R
  generalize (65536 : Int) ^ j = b
  generalize (V : Int) = w
  clear e1 e2 e3 e4
  grind
theorem Uhi (h : Rdv X V n L j) {i : Nat} (hi : j + n < i) : gt (dgs (X % (V * 65536 ^ (j + 1))) L) i = 0 := by
  by_cases hl : i < L
  · rw [gt_dgs2 hl]
    refine dg_len ?_
    rw [len_D_le]
    refine Nat.lt_of_lt_of_le h.Ul ?_
    have h1 : V * 65536 ^ (j + 1) ≤ 65536 ^ n * 65536 ^ (j + 1) := Nat.mul_le_mul_right _ (Nat.le_of_lt h.Vlt)
    rw [← Nat.pow_add] at h1
    exact Nat.le_trans h1 (Nat.pow_le_pow_right (by omega) (by omega))
  · exact gt_dgs0 (by omega)
theorem Rl (h : Rdv X V n L j) : X % (V * 65536 ^ j) < 65536 ^ (j + n) := by
  have h1 := Nat.mod_lt X (Nat.mul_pos h.Vp (powN_pos j))
  refine Nat.lt_of_lt_of_le h1 ?_
  rw [Nat.pow_add, Nat.mul_comm]
  exact Nat.mul_le_mul_left _ (Nat.le_of_lt h.Vlt)
/-- What a round leaves. -/
theorem out (h : Rdv X V n L j) (q0 : 0 ≤ q) (q1 : q < 65536) (hq : q = dg (X / V) j ∨ q = dg (X / V) j + 1) {u Z : List Int} {z : Int} (hu : u = dgs (X % (V * 65536 ^ (j + 1))) L)
    (hz : z = gt u (j + n) - (tkS u (D V) j q n).2) (hZ : Z = (tkS u (D V) j q n).1.set (j + n) z) :
    Z.length = L ∧ GoodL (Z.set (j + n) 0) ∧ gt Z (j + n) = z ∧ -65536 ≤ z ∧ z < 65536 ∧
    ((q = dg (X / V) j ∧ ¬ z < 0 ∧ Z = dgs (X % (V * 65536 ^ j)) L) ∨
      (q - 1 = dg (X / V) j ∧ z < 0 ∧ (adS Z (D V) j n).1.set (j + n) (z + (adS Z (D V) j n).2) = dgs (X % (V * 65536 ^ j)) L)) := by
  have hjl := h.jl
  have hul : u.length = L := by rw [hu, dgs_len]
  have hgu : GoodL u := by rw [hu]; exact dgs_good _ _
  have hgv := good_D V
  have hvl := h.Vl
  have tl := tk_len (u := u) (v := D V) (j := j) (q := q) n
  have tg := tk_good hgu n (v := D V) (j := j) (q := q)
  have tb := tk_bd hgu hgv q0 q1 n (j := j)
  have tv := tk_val (u := u) (v := D V) (j := j) (q := q) (n := n) (by omega) (by omega) n (Nat.le_refl _)
  have th := fun k => tk_hi (u := u) (v := D V) (j := j) (q := q) n k
  have gu := hgu.gtB (j + n)
  have hV : val ((D V).take n) = V := by rw [List.take_of_length_le (by omega), val_D]
  have hUv : val u = ((X % (V * 65536 ^ (j + 1)) : Nat) : Int) := by rw [hu]; exact h.Uval
  rw [hV, hUv, h.Unext] at tv
  have hhi : ∀ i, j + n < i → gt u i = 0 := fun i hi => by rw [hu]; exact h.Uhi hi
  generalize (tkS u (D V) j q n).1 = T at *
  generalize (tkS u (D V) j q n).2 = b at *
  have hZl : Z.length = L := by rw [hZ, List.length_set, tl, hul]
  have hZg : GoodL (Z.set (j + n) 0) := by rw [hZ, List.set_set]; exact tg.set _ (by omega) (by omega)
  have hZz : gt Z (j + n) = z := by rw [hZ]; exact gt_set_eq (by omega) _
  have hZv : val Z = ((X % (V * 65536 ^ j) : Nat) : Int) + (dg (X / V) j - q) * 65536 ^ j * V := by
    rw [hZ, val_setG (by omega), th (j + n) (Nat.le_refl _), hz, Int.pow_add]
    generalize (65536 : Int) ^ j = p at *
    generalize (65536 : Int) ^ n = r at *
    generalize ((X % (V * 65536 ^ j) : Nat) : Int) = R at *
    generalize dg (X / V) j = t at *
    grind
  have hZhi : ∀ i, j + n < i → gt Z i = 0 := fun i hi => by rw [hZ, gt_set_ne (by omega), th i (by omega)]; exact hhi i hi
  have hZt := val_top (l := Z) (k := j + n) (by omega) hZhi
  have hZb := val_take_bd (l := Z) (k := j + n) (by omega) (by rw [← take_set_ge 0]; exact hZg.take _)
  have hp := pow_pos' (j + n)
  have hRl : ((X % (V * 65536 ^ j) : Nat) : Int) < 65536 ^ (j + n) := by rw [← pow_cast]; exact Int.ofNat_lt.2 h.Rl
  refine ⟨hZl, hZg, hZz, by omega, by omega, ?_⟩
  rw [hZz] at hZt
  rcases hq with hq | hq
  · left
    rw [← hq, Int.sub_self, Int.zero_mul, Int.zero_mul, Int.add_zero] at hZv
    have hz0 : ¬ z < 0 := fun hc => by
      have h5 : 65536 ^ (j + n) * z ≤ 65536 ^ (j + n) * (-1) := Int.mul_le_mul_of_nonneg_left (by omega) (by omega)
      have h6 : (0 : Int) ≤ ((X % (V * 65536 ^ j) : Nat) : Int) := Int.natCast_nonneg _
      omega
    exact ⟨hq, hz0, good_dgs (good_of_set (k := j + n) (by omega) hZg (by omega) (by omega)) hZl hZv⟩
  · right
    have hq' : q - 1 = dg (X / V) j := by omega
    rw [show dg (X / V) j - q = -1 by omega] at hZv
    have hVj : ((X % (V * 65536 ^ j) : Nat) : Int) < 65536 ^ j * V := by
      rw [← pow_cast, ← Int.natCast_mul]
      exact Int.ofNat_lt.2 (Nat.lt_of_lt_of_eq (Nat.mod_lt X (Nat.mul_pos h.Vp (powN_pos j))) (Nat.mul_comm _ _))
    have hzn : z < 0 := by
      rcases Int.lt_or_le z 0 with hc | hc
      · exact hc
      · have h5 : 0 ≤ 65536 ^ (j + n) * z := Int.mul_nonneg (by omega) hc
        have h6 : -1 * 65536 ^ j * (V : Int) = -(65536 ^ j * V) := by grind
        omega
    refine ⟨hq', hzn, ?_⟩
    have al := ad_len (u := Z) (v := D V) (j := j) n
    have ag := ad_good (v := D V) hZg n (Nat.le_refl _)
    have ab := ad_bd (v := D V) hZg hgv n (Nat.le_refl _)
    have av := ad_val (u := Z) (v := D V) (j := j) (n := n) (by omega) (by omega) n (Nat.le_refl _)
    have ah := fun k => ad_hi (u := Z) (v := D V) (j := j) n k
    rw [hV, hZv] at av
    generalize (adS Z (D V) j n).1 = A at *
    generalize (adS Z (D V) j n).2 = c at *
    have az : gt A (j + n) = z := by rw [ah _ (Nat.le_refl _), hZz]
    generalize hY : A.set (j + n) (z + c) = Y
    have hYl : Y.length = L := by rw [← hY, List.length_set, al, hZl]
    have hYg : GoodL (Y.set (j + n) 0) := by rw [← hY, List.set_set]; exact ag
    have hYz : gt Y (j + n) = z + c := by rw [← hY]; exact gt_set_eq (by omega) _
    have hYv : val Y = ((X % (V * 65536 ^ j) : Nat) : Int) := by
      rw [← hY, val_setG (by omega), az, Int.pow_add]
      generalize (65536 : Int) ^ j = p at *
      generalize (65536 : Int) ^ n = r at *
      generalize ((X % (V * 65536 ^ j) : Nat) : Int) = R at *
      grind
    have hYhi : ∀ i, j + n < i → gt Y i = 0 := fun i hi => by rw [← hY, gt_set_ne (by omega), ah i (by omega)]; exact hZhi i hi
    have hYt := val_top (l := Y) (k := j + n) (by omega) hYhi
    have hYb := val_take_bd (l := Y) (k := j + n) (by omega) (by rw [← take_set_ge 0]; exact hYg.take _)
    rw [hYz, hYv] at hYt
    have hzc : z + c = 0 := by
      have h6 : (0 : Int) ≤ ((X % (V * 65536 ^ j) : Nat) : Int) := Int.natCast_nonneg _
      rcases Int.lt_trichotomy (z + c) 0 with hc | hc | hc
      · have h5 : 65536 ^ (j + n) * (z + c) ≤ 65536 ^ (j + n) * (-1) := Int.mul_le_mul_of_nonneg_left (by omega) (by omega)
        omega
      · exact hc
      · have h5 : 65536 ^ (j + n) * 1 ≤ 65536 ^ (j + n) * (z + c) := Int.mul_le_mul_of_nonneg_left (by omega) (by omega)
        omega
    exact good_dgs (good_of_set (k := j + n) (by omega) hYg (by omega) (by omega)) hYl hYv
end Rdv
end
end
/- Division: the whole. No conditions. -/
section
open Num
section
variable {X V n L M j : Nat} {s : Int}
def divS (X V L M : Nat) (s : Int) (j : Nat) : VE × VH := ([(8, some (.int .i64 s)), (9, some (.sl 0 0 (D V).length 1)), (10, some (.sl 1 0 L 1)), (11, some (.sl 2 0 M 1)), (12, some (.int .i64 ((j : Int) - 1)))], [.ints true .i64 (D V), .ints true .i64 (dgs (X % (V * 65536 ^ j)) L), .ints true .i64 (hi (X / V) M j)])
theorem div_r (d : Nat) (h : Rdv X V n L j) (hL : L < 1000000) (hM : M < 1000000) (hj : j < M) :
    vCode Tryd.prog kn (vrun Tryd.prog kn (d + 2 + 1)) 29 (loopAt Tryd.f29 0) (divS X V L M s (j + 1)).1 (divS X V L M s (j + 1)).2 = some (.norm, divS X V L M s j) := by
  have hjl := h.jl
  have hvl := h.Vl
  have hn2 := h.n2
  have hul : (dgs (X % (V * 65536 ^ (j + 1))) L).length = L := dgs_len _ _
  have hgu : GoodL (dgs (X % (V * 65536 ^ (j + 1))) L) := dgs_good _ _
  obtain ⟨q, hq, q0, q1, g1, g2⟩ := digitOf_v (u := dgs (X % (V * 65536 ^ (j + 1))) L) (v := D V) (j := j) (n := n) (d + 2) hn2 hvl (by omega) (by omega) hgu (good_D V) h.kt
  have hg := h.gs g1 g2
  have ht := takeAway_v (u := dgs (X % (V * 65536 ^ (j + 1))) L) (v := D V) (j := j) (q := q) (d + 2) (o := hi (X / V) M (j + 1)) hgu (good_D V) q0 q1 (by omega) (by omega)
  obtain ⟨o1, o2, o3, o4, o5, o6⟩ := h.out q0 q1 hg rfl rfl rfl
  rw [← hvl] at o1 o2 o3 o4 o5 o6
  have hb := dg_bd (X / V) j
  have hol := hi_len (q := X / V) (n := M) (i := j + 1) (by omega)
  have hset := hi_set (q := X / V) (n := M) (i := j) hj
  clear g1 g2 hg
  generalize hz : gt (dgs (X % (V * 65536 ^ (j + 1))) L) (j + (D V).length) - (tkS (dgs (X % (V * 65536 ^ (j + 1))) L) (D V) j q (D V).length).2 = z at *
  generalize hZ : (tkS (dgs (X % (V * 65536 ^ (j + 1))) L) (D V) j q (D V).length).1.set (j + (D V).length) z = Z at *
  have e0 : (((j + 1 : Nat) : Int) - 1) = j := by omega
  rw [hul] at ht
  rw [round_v]; simp only [loopAt, nthC, bodyC, loops, List.nil_append, List.cons_append, List.append_nil, Tryd.f29, divS, e0]
  rcases o6 with ⟨r1, r2, r3⟩ | ⟨r1, r2, r3⟩
  · rw [← r3]
    rw [← r1] at hset
    generalize dgs (X % (V * 65536 ^ (j + 1))) L = u at *
    generalize hi (X / V) M (j + 1) = o at *
    generalize hi (X / V) M j = o' at *
    generalize D V = v at *
    rw [decide_eq_false r2] at ht
    clear r3 o2
    simp (implicitDefEqProofs := false) (disch := omega) [go_sem, tab29, nil29, hul, hq, ht, hol, hset]
  · rw [← r3]
    rw [← r1] at hset
    have ha := addBack_v (u := Z) (v := D V) (j := j) (d + 2) (o := hi (X / V) M (j + 1)) o2 (good_D V) (by omega) (by omega) (by omega) (by omega)
    rw [o3, o1] at ha
    generalize hY : (adS Z (D V) j (D V).length).1.set (j + (D V).length) (z + (adS Z (D V) j (D V).length).2) = Y at *
    generalize dgs (X % (V * 65536 ^ (j + 1))) L = u at *
    generalize hi (X / V) M (j + 1) = o at *
    generalize hi (X / V) M j = o' at *
    generalize D V = v at *
    rw [decide_eq_true r2] at ht
    clear r3 o2 hY
    simp (implicitDefEqProofs := false) (disch := omega) [go_sem, tab29, nil29, hul, hq, ht, ha, hol, hset]
theorem div_x (call : CallV) :
    vCode Tryd.prog kn call 29 (loopAt Tryd.f29 0) (divS X V L M s 0).1 (divS X V L M s 0).2 = some (.exit 0, (divS X V L M s 0).1 ++ [(68, some (.bool false))], (divS X V L M s 0).2) := by
  rw [round_v]; simp only [loopAt, nthC, bodyC, loops, List.nil_append, List.cons_append, List.append_nil, Tryd.f29, divS]
  simp (implicitDefEqProofs := false) (disch := omega) [go_sem, tab29, nil29]
end
theorem trim1_v (d : Nat) {l : List Int} {n v : Nat} (hl : l.length < 1000000000) (hn : n = l.length) (hg : GoodL l) (hv : val l = v) (a b : VO) :
    vrun Tryd.prog kn (d + 1) 38 [.sl 1 0 n 1] [a, .ints false .i64 l, b] = some (.sl 1 0 (D v).length 1, [a, .ints false .i64 l, b]) := by
  rw [trim_v d (h := [a, .ints false .i64 l, b]) (i := 1) (w := false) (l := l) rfl hl n hn, (tl_D hg hv).1]
section
variable {x y : Nat}
theorem dgs_pad {X L : Nat} (h : X < 65536 ^ L) : D X ++ List.replicate (L - (D X).length) 0 = dgs X L := by
  have hl : (D X).length ≤ L := len_D_le.2 h
  refine good_dgs ((good_D X).append (GoodL.zeros _)) (by simp; omega) ?_
  rw [val_append, val_zeros, val_D]; omega
set_option maxHeartbeats 4000000 in
theorem divide_v (d : Nat) (hx : (D x).length < 400000) (hy : (D y).length < 400000) (h0 : y ≠ 0) :
    vrun Tryd.prog kn (d + 4) 29 [.ints .i64 (D x), .ints .i64 (D y)] [] = some (.tup [.sl 0 0 (D (x / y)).length 1, .sl 1 0 (D (x % y)).length 1], [.ints true .i64 (D (x / y)), .ints true .i64 (D (x % y))]) := by
  have h1 := fun d => compare_v (x := x) (y := y) d (by omega) (by omega)
  have hc := fun d => clone_v d (l := D x) (by omega)
  have hyl : 0 < (D y).length := List.length_pos_iff.2 fun e => h0 (D_nil_iff.1 e)
  by_cases hlt : x < y
  · have e1 : cmpI x y = -1 := by unfold cmpI; rw [if_pos hlt]
    rw [Nat.div_eq_of_lt hlt, Nat.mod_eq_of_lt hlt, D_zero]
    rw [e1] at h1
    rw [vrun_v Tryd.func29 rfl rfl rfl]; simp only [Tryd.f29]
    simp (implicitDefEqProofs := false) (disch := omega) [go_sem, tab29, nil29, h1, hc]
  have hge : ¬ cmpI x y < 0 := by unfold cmpI; rw [if_neg hlt]; split <;> omega
  by_cases hn1 : (D y).length = 1
  · have hy1 : y < 65536 := by have := lt_len_D y; rw [hn1] at this; omega
    have hd : D y = [(y : Int)] := by
      rw [D_pos h0, Nat.mod_eq_of_lt hy1, Nat.div_eq_of_lt hy1, D_zero]
    have h2 := fun d => divideSmall_v (z := x) (m := y) d (by omega) (by omega) (by omega)
    have h3 := fun d => small_v (n := x % y) d (by have := Nat.mod_lt x (show 0 < y by omega); omega)
    have hl1 := len_D_mono (Nat.div_le_self x y)
    have hl2 := len_D_mono (Nat.mod_le x y)
    rw [hd] at h1 ⊢
    generalize D (x / y) = Q at *
    generalize D (x % y) = R at *
    generalize ((x % y : Nat) : Int) = r at *
    generalize cmpI x y = c at *
    generalize D x = l at *
    have hg0 : gt [(y : Int)] 0 = y := rfl
    rw [vrun_v Tryd.func29 rfl rfl rfl]; simp only [Tryd.f29]
    simp (implicitDefEqProofs := false) (disch := omega) [go_sem, tab29, nil29, h1, h2, h3, hg0]
  -- the long way
  have hn2 : 2 ≤ (D y).length := by omega
  generalize hn : (D y).length = n at *
  generalize htop : y / 65536 ^ (n - 1) = top
  have hyn : y < 65536 ^ n := by rw [← hn]; exact lt_len_D y
  have hpn : 65536 ^ n = 65536 ^ (n - 1) * 65536 := by rw [← Nat.pow_succ]; congr 1; omega
  have htl : top < 65536 := by rw [← htop, Nat.div_lt_iff_lt_mul (powN_pos _), Nat.mul_comm, ← hpn]; exact hyn
  have hyl1 : 65536 ^ (n - 1) ≤ y := by have := le_of_len_D h0; rwa [hn] at this
  have ht0 : top ≠ 0 := by rw [← htop]; have := Nat.div_pos hyl1 (powN_pos (n - 1)); omega
  obtain ⟨hb1, hb2⟩ := nb_le ht0
  have hb3 := nb_lt top
  have hb4 := nb_16 htl
  generalize hk : nb top = k at *
  generalize hs : 16 - k = s
  have hsk : 2 ^ k * 2 ^ s = 65536 := by rw [← Nat.pow_add, show k + s = 16 by omega]
  have hsk1 : 2 ^ (k - 1) * 2 ^ s = 32768 := by rw [← Nat.pow_add, show k - 1 + s = 15 by omega]
  have htm : top * 2 ^ s < 65536 := by rw [← hsk]; exact Nat.mul_lt_mul_of_pos_right hb3 (Nat.two_pow_pos _)
  have htm2 : 32768 ≤ top * 2 ^ s := by rw [← hsk1]; exact Nat.mul_le_mul_right _ hb1
  have hyd := Nat.div_add_mod y (65536 ^ (n - 1))
  rw [htop] at hyd
  have hym := Nat.mod_lt y (powN_pos (n - 1))
  have hVl : y * 2 ^ s < 65536 ^ n := by
    have h5 : (y + 1) * 2 ^ s ≤ (65536 ^ (n - 1) * (top + 1)) * 2 ^ s := Nat.mul_le_mul_right _ (by rw [Nat.mul_add, Nat.mul_one]; omega)
    have h6 : (65536 ^ (n - 1) * (top + 1)) * 2 ^ s ≤ 65536 ^ (n - 1) * 65536 := by
      rw [Nat.mul_assoc]; refine Nat.mul_le_mul_left _ ?_
      rw [← hsk]; exact Nat.mul_le_mul_right _ hb3
    have h7 := Nat.two_pow_pos s
    rw [Nat.add_mul, Nat.one_mul] at h5
    rw [hpn]; omega
  have hVy : y ≤ y * 2 ^ s := Nat.le_mul_of_pos_right _ (Nat.two_pow_pos _)
  have hVlen : (D (y * 2 ^ s)).length = n := by
    have a1 := len_D_le.2 hVl
    have a2 := len_D_mono hVy
    omega
  have hVtop : 32768 ≤ dg (y * 2 ^ s) (n - 1) := by
    have h5 : 32768 ≤ y * 2 ^ s / 65536 ^ (n - 1) := by
      rw [Nat.le_div_iff_mul_le (powN_pos _)]
      refine Nat.le_trans (Nat.mul_le_mul_right _ htm2) ?_
      rw [Nat.mul_right_comm]
      refine Nat.mul_le_mul_right _ ?_
      rw [Nat.mul_comm]; omega
    have h6 : y * 2 ^ s / 65536 ^ (n - 1) < 65536 := by rw [Nat.div_lt_iff_lt_mul (powN_pos _), Nat.mul_comm 65536, ← hpn]; exact hVl
    unfold dg; omega
  have hmn : n ≤ (D x).length := by have := len_D_mono (show y ≤ x by omega); omega
  generalize hm : (D x).length = m at *
  have hxm : x < 65536 ^ m := by rw [← hm]; exact lt_len_D x
  have hXl : x * 2 ^ s < 65536 ^ (m + 1) := by
    rw [Nat.pow_succ]
    refine Nat.mul_lt_mul_of_lt_of_le hxm ?_ (by omega)
    rw [← hsk]; exact Nat.le_mul_of_pos_left _ (Nat.two_pow_pos _)
  have hXV : x * 2 ^ s < y * 2 ^ s * 65536 ^ (m - n + 1) := by
    rw [Nat.mul_right_comm]
    refine Nat.mul_lt_mul_of_pos_right ?_ (Nat.two_pow_pos _)
    refine Nat.lt_of_lt_of_le hxm ?_
    refine Nat.le_trans ?_ (Nat.mul_le_mul_right _ hyl1)
    rw [← Nat.pow_add]; exact Nat.pow_le_pow_right (by omega) (by omega)
  have hQ : x * 2 ^ s / (y * 2 ^ s) = x / y := Nat.mul_div_mul_right _ _ (Nat.two_pow_pos _)
  have hR : x * 2 ^ s % (y * 2 ^ s) / 2 ^ s = x % y := by rw [Nat.mul_mod_mul_right, Nat.mul_div_cancel _ (Nat.two_pow_pos _)]
  have hRl : x * 2 ^ s % (y * 2 ^ s) < 65536 ^ (m + 1) := Nat.lt_of_le_of_lt (Nat.mod_le _ _) hXl
  have hQl : x / y < 65536 ^ (m - n + 1) := by
    rw [Nat.div_lt_iff_lt_mul (by omega)]
    refine Nat.lt_of_lt_of_le hxm ?_
    refine Nat.le_trans ?_ (Nat.mul_le_mul_left _ hyl1)
    rw [← Nat.pow_add]; exact Nat.pow_le_pow_right (by omega) (by omega)
  have u1 := fun d => up_v (x := y) (k := s) d (by omega) (by omega)
  have u2 := fun d => up_v (x := x) (k := s) d (by omega) (by omega)
  have hXlen : (D (x * 2 ^ s)).length ≤ m + 1 := len_D_le.2 hXl
  have hpad := dgs_pad hXl
  have hlen := fun d => Len_v (x := top) d htl
  rw [hk] at hlen
  have hdt : gt (D y) (n - 1) = (top : Int) := by rw [gt_D]; unfold dg; rw [htop, Nat.mod_eq_of_lt htl]
  have hwu : IntKind.wrap .u64 (top : Int) = top := by simp [IntKind.wrap, IntKind.bits, IntKind.signed]; omega
  have hl0 := fun ks => loop_v (P := Tryd.prog) (K := kn) (ks := ks) (e := (divS (x * 2 ^ s) (y * 2 ^ s) (m + 1) (m - n + 1) s (m - n + 1)).1) (h := (divS (x * 2 ^ s) (y * 2 ^ s) (m + 1) (m - n + 1) s (m - n + 1)).2) (c := loopAt Tryd.f29 0) (call := vrun Tryd.prog kn (d + 2 + 1)) (f := 29) (x := .exit 0) (e' := (divS (x * 2 ^ s) (y * 2 ^ s) (m + 1) (m - n + 1) s 0).1 ++ [(68, some (.bool false))]) (h' := (divS (x * 2 ^ s) (y * 2 ^ s) (m + 1) (m - n + 1) s 0).2) (by
    have key : ∀ i N, i ≤ m - n + 1 → i < N → viter (vCode Tryd.prog kn (vrun Tryd.prog kn (d + 2 + 1)) 29 (loopAt Tryd.f29 0)) N (divS (x * 2 ^ s) (y * 2 ^ s) (m + 1) (m - n + 1) s i).1 (divS (x * 2 ^ s) (y * 2 ^ s) (m + 1) (m - n + 1) s i).2 = some (.exit 0, (divS (x * 2 ^ s) (y * 2 ^ s) (m + 1) (m - n + 1) s 0).1 ++ [(68, some (.bool false))], (divS (x * 2 ^ s) (y * 2 ^ s) (m + 1) (m - n + 1) s 0).2) := by
      intro i
      induction i with
      | zero => intro N _ hN; obtain ⟨N, rfl⟩ : ∃ q, N = q + 1 := ⟨N - 1, by omega⟩; exact vi_exit (div_x _)
      | succ i ih =>
        intro N h1 hN
        obtain ⟨N, rfl⟩ : ∃ q, N = q + 1 := ⟨N - 1, by omega⟩
        rw [vi_norm (div_r (n := n) d ⟨hn2, hVlen, hVtop, by omega, Nat.lt_of_le_of_lt (Nat.mod_le _ _) hXl⟩ (by omega) (by omega) (by omega))]
        exact ih N (by omega) (by omega)
    exact key _ _ (Nat.le_refl _) (by rw [k_cf, c_rounds]; omega))
  have hM0 : hi (x * 2 ^ s / (y * 2 ^ s)) (m - n + 1) (m - n + 1) = List.replicate (m - n + 1) 0 := by unfold hi; rw [List.drop_eq_nil_of_le (by rw [dgs_len]; omega), List.append_nil]
  have hM1 : hi (x * 2 ^ s / (y * 2 ^ s)) (m - n + 1) 0 = dgs (x / y) (m - n + 1) := by unfold hi; rw [List.replicate_zero, List.nil_append, List.drop_zero, hQ]
  simp only [loopAt, nthC, bodyC, loops, List.nil_append, List.cons_append, List.append_nil, Tryd.f29, divS, hM0, hM1, Nat.mod_eq_of_lt hXV, Nat.pow_zero, Nat.mul_one, hVlen, List.cons_append, List.nil_append, Int.natCast_zero, Int.zero_sub] at hl0
  have t2 := fun a b => trim2_v (a := a) (b := b) (d + 2) (l := dgs (x / y) (m - n + 1)) (n := m - n + 1) (v := x / y) (by rw [dgs_len]; omega) (by rw [dgs_len]) (dgs_good _ _) (by rw [dgs_val, lo_len (lt_pow_len hQl)])
  have t1 := fun a b => trim1_v (a := a) (b := b) (d + 2) (l := dgs (x * 2 ^ s % (y * 2 ^ s)) (m + 1)) (n := m + 1) (v := x * 2 ^ s % (y * 2 ^ s)) (by rw [dgs_len]; omega) (by rw [dgs_len]) (dgs_good _ _) (by rw [dgs_val, lo_len (lt_pow_len hRl)])
  have k1 := (dgs_tl hRl).2
  have k2 := (dgs_tl hQl).2
  have u3 := fun d => down_v (x := x * 2 ^ s % (y * 2 ^ s)) (k := s) d (by have := k1.2; omega) (by omega)
  rw [hR] at u3
  have e1 : ((n : Int) - 1).toNat = n - 1 := by omega
  have e2 : (16 : Int) - (k : Nat) = (s : Nat) := by omega
  have e3 : ((m : Int) + 1 - ((D (x * 2 ^ s)).length : Nat)).toNat = m + 1 - (D (x * 2 ^ s)).length := by omega
  have e4 : ((m : Int) - (n : Nat) + 1).toNat = m - n + 1 := by omega
  have d1 : (dgs (x / y) (m - n + 1)).length = m - n + 1 := dgs_len _ _
  have d2 : (dgs (x * 2 ^ s % (y * 2 ^ s)) (m + 1)).length = m + 1 := dgs_len _ _
  have d3 := len_D_mono (Nat.mod_le x y)
  have d4 : (List.replicate (m + 1 - (D (x * 2 ^ s)).length) (0 : Int)).length = m + 1 - (D (x * 2 ^ s)).length := List.length_replicate
  have d5 : (List.replicate (m - n + 1) (0 : Int)).length = m - n + 1 := List.length_replicate
  clear hXV hXl hsk hsk1 htm htm2 hyd hym hVl hVy hVtop hyn hpn hyl1 hQl hRl hxm hb1 hb3 hM0 hM1 hQ hR
  generalize hMM : m - n + 1 = M at *
  generalize cmpI x y = c at *
  generalize x * 2 ^ s % (y * 2 ^ s) = R at *
  generalize x * 2 ^ s = X at *
  generalize y * 2 ^ s = V at *
  generalize x / y = Q at *
  generalize x % y = r at *
  rw [vrun_v Tryd.func29 rfl rfl rfl]; simp only [Tryd.f29]
  simp (implicitDefEqProofs := false) (disch := omega) [go_sem, tab29, nil29, h1, hm, hn, hdt, hwu, hlen, e1, e2, e3, e4, u1, u2, hpad, hl0, t1, t2, k1, k2, u3, hVlen, d1, d2, d4, d5]
end
end
/- Natural numbers: comparison, quotients, program; products, reference. No conditions. -/
section
open Num
section
variable {a b : List Int}
def ncmp (a b : List Int) : Int := if natOkB a && natOkB b then cmpI (nN a) (nN b) else 0
def ndF (a b : List Int) : Bool := natOkB a && natOkB b && decide (b ≠ [])
def ndQ (a b : List Int) : List Int := if ndF a b then D (nN a / nN b) else []
def ndR (a b : List Int) : List Int := if ndF a b then D (nN a % nN b) else []
theorem ndF_t (h : ndF a b = true) : natOkB a = true ∧ natOkB b = true ∧ nN b ≠ 0 ∧ a = D (nN a) ∧ b = D (nN b) ∧ (D (nN a)).length ≤ 100 ∧ (D (nN b)).length ≤ 100 := by
  unfold ndF at h
  rw [Bool.and_eq_true, Bool.and_eq_true, decide_eq_true_eq] at h
  obtain ⟨e1, l1⟩ := okN h.1.1
  obtain ⟨e2, l2⟩ := okN h.1.2
  exact ⟨h.1.1, h.1.2, fun h0 => h.2 (by rw [e2, h0, D_zero]), e1, e2, l1, l2⟩
theorem ndQ_len : (ndQ a b).length ≤ 100 ∧ (ndR a b).length ≤ 100 := by
  unfold ndQ ndR
  cases h : ndF a b with
  | false => simp
  | true =>
    obtain ⟨_, _, h0, e1, e2, l1, l2⟩ := ndF_t h
    simp only [if_true]
    exact ⟨Nat.le_trans (len_D_mono (Nat.div_le_self _ _)) l1, Nat.le_trans (len_D_mono (Nat.mod_le _ _)) l1⟩
theorem NatDiv_v (d : Nat) (ha : a.length < 1000000000) (hb : b.length < 1000000000) : vrun Tryd.prog kn (d + 9) 11 [.agg [.ints .i64 a], .agg [.ints .i64 b]] [] = some (.tup [.agg [.sl 0 0 (ndQ a b).length 1], .agg [.sl 1 0 (ndR a b).length 1], .bool (ndF a b)], [.ints true .i64 (ndQ a b), .ints true .i64 (ndR a b)]) := by
  have h1 := fun d => areNats_v d ha hb
  unfold ndQ ndR
  cases hf : ndF a b with
  | true =>
    obtain ⟨o1, o2, h0, e1, e2, l1, l2⟩ := ndF_t hf
    rw [o1, o2] at h1
    have h2 := fun d => divide_v (x := nN a) (y := nN b) d (by omega) (by omega) h0
    rw [← e1, ← e2] at h2
    have hne : b ≠ [] := fun h => h0 (by rw [h]; rfl)
    have hp : 0 < b.length := List.length_pos_iff.2 hne
    simp only [if_true]
    generalize D (nN a / nN b) = Q at *
    generalize D (nN a % nN b) = R at *
    clear e1 e2
    rw [vrun_v Tryd.func11 rfl rfl rfl]; simp only [Tryd.f11]
    simp (implicitDefEqProofs := false) (disch := omega) [go_sem, tab11, h1, h2, hne]
  | false =>
    cases hq : natOkB a && natOkB b
    · rw [hq] at h1
      rw [vrun_v Tryd.func11 rfl rfl rfl]; simp only [Tryd.f11]
      simp (implicitDefEqProofs := false) (disch := omega) [go_sem, tab11, h1]
    · have hb0 : b = [] := by
        unfold ndF at hf; rw [hq] at hf; simpa using hf
      rw [hq] at h1
      subst hb0
      rw [vrun_v Tryd.func11 rfl rfl rfl]; simp only [Tryd.f11]
      simp (implicitDefEqProofs := false) (disch := omega) [go_sem, tab11, h1]
end
end
end Go.Eng
