/- Numbers: down, and the reference's l2small, l2shl, l2shr. No conditions. -/
import Derived.Test.YtnkhamahhgfbhaaDoorCore6
set_option linter.unusedVariables false
set_option linter.unusedSimpArgs false
namespace Go.Eng
open Go.Proofs
set_option maxRecDepth 100000
set_option linter.unusedSimpArgs false
attribute [local go_sem] r_seq r_skip r_retC r_exitC r_label r_block r_region r_regionW r_xWt r_xW r_cond r_Bt r_Bf r_Ncode r_Nret r_Nexit r_Nblk r_Nblkr r_Nblke r_Nnil r_Es r_Onil r_Oop r_Oif r_Xs r_Gt r_Gf r_wtt r_wtf r_wft r_wff r_wu r_gO r_putS r_putN r_get r_keepN r_keepC r_fr r_fn r_fi r_ff r_fo r_l1 r_l2t r_cun r_cul r_cub r_cui r_cus r_cuis r_cuc r_cusl r_cuti r_cutv r_ven r_vec r_l2f r_l3 r_t1 r_t2 r_t0 r_rt r_rc r_en r_ec r_cM r_oN r_oC r_end r_endt r_endf r_nob0 r_nobN r_nobC r_nobE r_nb0 r_nbi r_nbs r_nbsl r_nbin r_nbce r_nLn r_nLv r_nLc r_nAa r_nAn r_nAk_b r_nAk_i r_nAk_s r_nAk_n r_nAk_is r_nAk_ce r_nAk_fp r_nAk_sl r_nAk_pt r_nAk_fn r_nsn r_nsv r_nsc r_m0 r_mi r_ms r_msl r_min r_mce r_mLn r_mLv r_mLc r_mAa r_mAn r_mAk_b r_mAk_i r_mAk_s r_mAk_n r_mAk_is r_mAk_ce r_mAk_fp r_mAk_sl r_mAk_pt r_mAk_fn r_msn r_msv r_msc r_atb r_ati r_ats r_atn r_atis r_atc r_atf r_atl r_atp r_atfn r_gcn r_gcc r_gLn r_gLc r_gIt r_ndn r_ndc r_gcB r_gLB r_two r_rea r_rea0 r_re1n r_re1c r_ori r_orv r_ord r_orn r_adn r_adc r_ad1 r_ern r_ers r_er0 r_rsl r_rptr r_rb r_ri r_rs r_rn r_ris r_rce r_rfp r_ra4 r_ra3 r_rt4 r_rf4 r_rf3 r_idS r_idc r_nS r_nP r_nF r_nT r_vsl r_vptr r_vb r_vi r_vs r_vn r_vis r_vce r_vfp r_va4 r_va3 r_vt4 r_vf4 r_vf3 r_rV r_Oi r_Ov r_Od r_rE r_rE0 r_En r_Ec r_E0 r_pO r_pk r_agL r_cO r_fO r_fSi r_fSv r_fPv r_fsl r_fptr r_ffn r_fag r_fb r_fint r_fstr r_fnil r_fis r_fce r_ffp r_res r_move r_assign r_pick r_pickt r_pickf r_alloc r_box r_al r_build r_bslice r_load r_store r_nlc r_nl1 r_nl2 r_bin r_un r_conv r_mkf r_mks r_slc r_fad r_fld r_iad r_idx r_ext r_ex1 r_callf r_callt r_callen r_calapp r_calmax r_calmin r_vt r_vcb r_vci r_vcs r_vcn r_vca r_vcf r_vcg r_ofb r_ofi r_ofs r_ofn r_evs r_pn r_prt r_pc r_one_a r_one_b r_one_i r_one_s r_one_n r_one_is r_one_ce r_one_fp r_one_sl r_one_pt r_one_fn r_cs_a r_cs_b r_cs_i r_cs_s r_cs_n r_cs_is r_cs_ce r_cs_fp r_cs_sl r_cs_pt r_cs_fn r_tov r_tovA r_toc r_toa r_tb r_ti r_ts r_tn r_bd r_bd2 r_filn r_fp1 r_filc r_fsn r_fsc r_san r_sac r_bs2 r_bs1 r_newO r_mkq r_mkI r_mkOi r_mkOv r_tIn r_tIc r_repz r_repn r_ldp r_ldf r_l1t r_l1f r_lFt r_lFf r_aggO r_obj r_at r_ati' r_atv r_celli r_cellv r_subi r_subv r_sto r_sto1 r_sto2 r_sets r_setR r_setn r_setc r_s1i r_s1v r_bin1 r_bin2 r_tv1 r_cb r_ci r_cst r_cn r_csl r_cis r_cce r_uni r_unb r_cv r_cvi r_cvs r_cvb r_cvl r_sO r_rdn r_rdi r_rdl r_rdO r_vsub r_vfn r_mk r_mk1 r_mk2 r_zoi r_zov r_leni r_lenv r_bn r_bndV r_bo r_sl0 r_sl1 r_vsz r_ct1 r_cts r_cti r_ctc r_ctn r_lnl r_lni r_lnc r_lnn r_fa r_fap r_faf r_fi1 r_fit r_fif r_ixi r_ixs r_ixc r_ixf r_ixF r_ixF2 r_ix1 r_ixsl r_ixin r_ixce r_len1 r_lenA r_lTs r_lTn r_lTl r_lTi r_lTc r_app0 r_app r_app1 r_app2 r_app3 r_catO r_cati r_catv r_newt r_newf r_pair r_pairK r_trip r_kis r_kiv r_srn r_srl r_sri r_src r_srs r_oln r_oll r_vw r_wi r_wv r_mm r_max r_min' r_str r_cF r_c2t r_c3f r_c3t r_ab r_c2f r_cV r_p1 r_la r_la2t r_la2f r_la3 r_sh r_z_is r_z_ce r_z_fp r_z_b r_z_i r_z_s r_z_n r_z_l r_z_p r_z_a4 r_z_a3 r_z_t4 r_zoI r_zoV r_roN r_roC r_roi r_rod r_zod r_rov r_aR r_trOi r_trOv r_trPv r_trl r_trp r_trf r_tra r_trb r_tri r_trs r_trn r_tris r_trce r_trfp
attribute [local go_sem] b_add b_sub b_mul b_quo b_rem b_shl b_shr b_eql b_neq b_lss b_leq b_gtr b_geq eqB_s b_eqB b_neB u_neg u_not b_nn b_nn' eqS_s zerosT_s zerosT_n zt_i zt_sl zt_st dstOf_z dstOf_n iltT iltF ileT ileF ieqT ieqF nltT nltF nleT nleF neqT neqF tdiv_pos tmod_pos w64 idx0 List.take_of_length_le
open Num
theorem fdiv_m (a : Int) (m : Nat) : a.fdiv (m : Int) = a / m := Int.fdiv_eq_ediv_of_nonneg _ (by omega)
section
variable {x k : Nat}
def downS (z m : Nat) (k : Int) (j : Nat) : VE × VH := ([(1, some (.int .i64 k)), (5, some (.ints .i64 (D z))), (6, some (.sl 0 0 j 1)), (21, some (.ints .i64 (D z))), (22, some (.int .i64 (D z).length)), (23, some (.int .i64 j))], [.ints true .i64 (dgs (z / m) j)])
theorem down_r (call : CallV) {z : Nat} (hx : (D z).length < 1000000) (j : Nat) (hj : j < (D z).length) :
    vCode Tryd.prog kn call 104 (loopAt Tryd.f104 0) (downS z (2 ^ (k % 16)) k j).1 (downS z (2 ^ (k % 16)) k j).2 = some (.norm, downS z (2 ^ (k % 16)) k (j + 1)) := by
  have b1 := dg_bd z j
  have b2 := dg_bd z (j + 1)
  have e := shl_m k
  rw [round_v]; simp only [loopAt, nthC, bodyC, loops, List.nil_append, List.cons_append, List.append_nil, Tryd.f104, downS, dgs_succ, dg_shr z (k % 16) j (by omega)]
  generalize 2 ^ (k % 16) = m at *
  have e2 : ((j : Int) + 1).toNat = j + 1 := by omega
  have b3 : 0 ≤ (dg z j + dg z (j + 1) * 65536) / (m : Int) := Int.ediv_nonneg (by omega) (by omega)
  by_cases h1 : j + 1 < (D z).length
  · simp (disch := omega) [go_sem, tab104, nil104, gt_D, e, e2, fdiv_m, dgs_len, dgs_take]
  · have h2 := dg_len (x := z) (i := j + 1) (by omega)
    rw [h2] at b3 ⊢
    simp only [Int.zero_mul, Int.add_zero] at b3 ⊢
    simp (disch := omega) [go_sem, tab104, nil104, gt_D, e, fdiv_m, dgs_len, dgs_take]
theorem down_x (call : CallV) {z m : Nat} (hx : (D z).length < 1000000) (c : Int) :
    vCode Tryd.prog kn call 104 (loopAt Tryd.f104 0) (downS z m c (D z).length).1 (downS z m c (D z).length).2 = some (.exit 0, (downS z m c (D z).length).1 ++ [(24, some (.bool false))], (downS z m c (D z).length).2) := by
  rw [round_v]; simp only [loopAt, nthC, bodyC, loops, List.nil_append, List.cons_append, List.append_nil, Tryd.f104, downS]
  simp (disch := omega) [go_sem, tab104, nil104]
theorem cut_D (x k : Nat) (h : k / 16 < (D x).length) : ((D x).drop ((k : Int) / 16).toNat).take (((D x).length : Int) - (k : Int) / 16).toNat = D (x / 65536 ^ (k / 16)) := by
  rw [show ((k : Int) / 16).toNat = k / 16 by omega, D_drop, List.take_of_length_le]
  rw [← D_drop, List.length_drop]; omega
theorem down_v (d : Nat) (hx : (D x).length < 1000000) (hk : k < 1000000) :
    vrun Tryd.prog kn (d + 2) 104 [.ints .i64 (D x), .int .i64 (k : Int)] [] = some (.sl 0 0 (D (x / 2 ^ k)).length 1, [.ints true .i64 (D (x / 2 ^ k))]) := by
  by_cases h0 : (D x).length ≤ k / 16
  · have e0 : x / 2 ^ k = 0 := Nat.div_eq_of_lt (Nat.lt_of_lt_of_le (len_D_le.1 h0) (by rw [pow_split k]; exact Nat.le_mul_of_pos_right _ (Nat.two_pow_pos _)))
    rw [e0]
    rw [vrun_v Tryd.func104 rfl rfl rfl]; simp only [Tryd.f104]
    simp (disch := omega) [go_sem, tab104, nil104, D_zero]
  · have hz : (D (x / 65536 ^ (k / 16))).length < 1000000 := by have := len_mono (Nat.div_le_self x (65536 ^ (k / 16))); omega
    have hl0 := fun ks => loop_v (P := Tryd.prog) (K := kn) (ks := ks) (vi_for (downS (x / 65536 ^ (k / 16)) (2 ^ (k % 16)) k) (D (x / 65536 ^ (k / 16))).length (by rw [k_cf, c_rounds]; omega) (down_r (vrun Tryd.prog kn (d + 1)) hz) fun m => vi_exit (down_x _ hz _))
    simp only [loopAt, nthC, bodyC, loops, List.nil_append, List.cons_append, List.append_nil, Tryd.f104, downS, dgs, Int.natCast_zero, List.cons_append, List.nil_append] at hl0
    have ec := cut_D x k (by omega)
    have ev : x / 2 ^ k = x / 65536 ^ (k / 16) / 2 ^ (k % 16) := by rw [Nat.div_div_eq_div_mul, ← pow_split]
    rw [ev]
    have hlen : ((D x).length : Int) - (k : Int) / 16 = ((D (x / 65536 ^ (k / 16))).length : Nat) := by rw [← D_drop, List.length_drop]; omega
    generalize x / 65536 ^ (k / 16) = z at *
    have c2 : z / 2 ^ (k % 16) < 65536 ^ (D z).length := Nat.lt_of_le_of_lt (Nat.div_le_self _ _) (lt_len_D z)
    have ht := trim0_v d (l := dgs (z / 2 ^ (k % 16)) (D z).length) (n := (D z).length) (v := z / 2 ^ (k % 16)) (by rw [dgs_len]; omega) (by rw [dgs_len]) (dgs_good _ _) (by rw [dgs_val, lo_len (lt_pow_len c2)])
    have ht2 := (dgs_tl c2).2
    rw [vrun_v Tryd.func104 rfl rfl rfl]; simp only [Tryd.f104]
    simp (disch := omega) [go_sem, tab104, nil104, ec, hl0, dgs_len, ht, ht2]
end
section
def hi (q n i : Nat) : List Int := List.replicate i 0 ++ (dgs q n).drop i
theorem hi_len {q n i : Nat} (h : i ≤ n) : (hi q n i).length = n := by unfold hi; rw [List.length_append, List.length_replicate, List.length_drop, dgs_len]; omega
theorem gt_dgs : ∀ {q n i : Nat}, i < n → gt (dgs q n) i = dg q i
  | q, n + 1, i, h => by
    rw [dgs_succ]
    by_cases h1 : i < n
    · rw [gt_app_lt (by rw [dgs_len]; exact h1)]; exact gt_dgs h1
    · obtain rfl : i = n := by omega
      have := gt_snoc (dgs q i) (dg q i)
      rwa [dgs_len] at this
theorem hi_set {q n i : Nat} (h : i < n) : (hi q n (i + 1)).set i (dg q i) = hi q n i := by
  unfold hi
  have e : (dgs q n).drop i = dg q i :: (dgs q n).drop (i + 1) := by
    rw [List.drop_eq_getElem_cons (by rw [dgs_len]; exact h), gt_get, gt_dgs h]
  rw [e, List.replicate_succ', List.append_assoc, List.set_append_right _ _ (by simp)]
  simp
variable {z m : Nat}
def smS (z m : Nat) (i : Nat) : VE × VH := ([(1, some (.int .i64 m)), (2, some (.ptr 0 0)), (4, some (.ptr 1 0)), (6, some (.sl 2 0 (D z).length 1)), (7, some (.int .i64 ((z / 65536 ^ i % m : Nat) : Int))), (8, some (.int .i64 ((i : Int) - 1)))], [.vals true [.ints .i64 (D z)], .vals true [.nil], .ints true .i64 (hi (z / m) (D z).length i)])
theorem sm_r (call : CallV) (hm : 0 < m) (hm2 : m ≤ 65536) (hx : (D z).length < 1000000) (i : Nat) (hi' : i < (D z).length) :
    vCode Tryd.prog kn call 111 (loopAt Tryd.f111 0) (smS z m (i + 1)).1 (smS z m (i + 1)).2 = some (.norm, smS z m i) := by
  have b1 := dg_bd z i
  obtain ⟨e1, e2⟩ := divs_nat (x := z) (j := i) (d := m) hm
  have b3 := Nat.mod_lt (z / 65536 ^ (i + 1)) hm
  have b4 := divs_lt (d := m) b3 (Nat.mod_lt (z / 65536 ^ i) (by omega : 0 < 65536))
  have hd : dg (z / m) i = (((z / 65536 ^ (i + 1) % m * 65536 + z / 65536 ^ i % 65536) / m : Nat) : Int) := by
    unfold dg
    rw [Nat.div_div_eq_div_mul, Nat.mul_comm, ← Nat.div_div_eq_div_mul, e1, Nat.mul_add_mod, Nat.mod_eq_of_lt b4]
  have hq : (((z / 65536 ^ (i + 1) % m : Nat) : Int) * 65536 + dg z i) / (m : Int) = dg (z / m) i := by
    rw [hd, Int.natCast_ediv, Int.natCast_add, Int.natCast_mul]; rfl
  have hr : (((z / 65536 ^ (i + 1) % m : Nat) : Int) * 65536 + dg z i) % (m : Int) = ((z / 65536 ^ i % m : Nat) : Int) := by
    rw [e2]
    refine Eq.trans ?_ (Int.natCast_emod _ _).symm
    congr 1
  rw [round_v]; simp only [loopAt, nthC, bodyC, loops, List.nil_append, List.cons_append, List.append_nil, Tryd.f111, smS, ← hi_set hi']
  have e0 : (((i + 1 : Nat) : Int) - 1) = i := by omega
  have hl := hi_len (q := z / m) (n := (D z).length) (i := i + 1) (by omega)
  have b5 := dg_bd (z / m) i
  generalize hr0 : ((z / 65536 ^ (i + 1) % m : Nat) : Int) = r at *
  have b6 : 0 ≤ r := by rw [← hr0]; exact Int.natCast_nonneg _
  have b7 : r < m := by rw [← hr0]; exact Int.ofNat_lt.2 b3
  rw [e0]
  generalize hi (z / m) (D z).length (i + 1) = H at *
  generalize dg (z / m) i = q at *
  simp (disch := omega) [go_sem, tab111, gt_D, hl, hq, hr]
theorem sm_x (call : CallV) :
    vCode Tryd.prog kn call 111 (loopAt Tryd.f111 0) (smS z m 0).1 (smS z m 0).2 = some (.exit 0, (smS z m 0).1 ++ [(19, some (.bool false))], (smS z m 0).2) := by
  rw [round_v]; simp only [loopAt, nthC, bodyC, loops, List.nil_append, List.cons_append, List.append_nil, Tryd.f111, smS]
  simp (disch := omega) [go_sem, tab111]
theorem l2small_v (d : Nat) (hm : 0 < m) (hm2 : m ≤ 65536) (hx : (D z).length < 1000000) :
    vrun Tryd.prog kn (d + 2) 111 [.agg [.ints .i64 (D z)], .int .i64 (m : Int)] [] = some (.tup [.agg [.ints .i64 (D (z / m))], .int .i64 ((z % m : Nat) : Int)], []) := by
  have key : ∀ i n, i ≤ (D z).length → i < n → viter (vCode Tryd.prog kn (vrun Tryd.prog kn (d + 1)) 111 (loopAt Tryd.f111 0)) n (smS z m i).1 (smS z m i).2 = some (.exit 0, (smS z m 0).1 ++ [(19, some (.bool false))], (smS z m 0).2) := by
    intro i
    induction i with
    | zero => intro n _ hn; obtain ⟨n, rfl⟩ : ∃ q, n = q + 1 := ⟨n - 1, by omega⟩; exact vi_exit (sm_x _)
    | succ i ih => intro n h1 hn; obtain ⟨n, rfl⟩ : ∃ q, n = q + 1 := ⟨n - 1, by omega⟩; rw [vi_norm (sm_r _ hm hm2 hx i (by omega))]; exact ih n (by omega) (by omega)
  have hl0 := fun ks => loop_v (P := Tryd.prog) (K := kn) (ks := ks) (key (D z).length kn.cf.rounds (Nat.le_refl _) (by rw [k_cf, c_rounds]; omega))
  have h0 : hi (z / m) (D z).length (D z).length = List.replicate (D z).length 0 := by unfold hi; rw [List.drop_eq_nil_of_le (by rw [dgs_len]; omega), List.append_nil]
  have h1 : hi (z / m) (D z).length 0 = dgs (z / m) (D z).length := by unfold hi; rw [List.replicate_zero, List.nil_append, List.drop_zero]
  simp only [loopAt, nthC, bodyC, loops, List.nil_append, List.cons_append, List.append_nil, Tryd.f111, smS, h0, h1, quo_end, Nat.zero_mod, Nat.pow_zero, Nat.div_one, Int.natCast_zero, List.cons_append, List.nil_append] at hl0
  have c2 : z / m < 65536 ^ (D z).length := Nat.lt_of_le_of_lt (Nat.div_le_self _ _) (lt_len_D z)
  have hn := l2norm_v d (l := dgs (z / m) (D z).length) (v := z / m) (by rw [dgs_len]; omega) (dgs_good _ _) (by rw [dgs_val, lo_len (lt_pow_len c2)])
  rw [vrun_v Tryd.func111 rfl rfl rfl]; simp only [Tryd.f111]
  simp (disch := omega) [go_sem, tab111, hl0, dgs_len, dgs_take, hn]
end
section
variable {x k : Nat}
theorem l2shl_v (d : Nat) (hx : (D x).length < 400000) (hk : k < 1000000) :
    vrun Tryd.prog kn (d + 3) 118 [.agg [.ints .i64 (D x)], .int .i64 (k : Int)] [] = some (.agg [.ints .i64 (D (x * 2 ^ k))], []) := by
  by_cases h0 : x = 0
  · subst h0
    rw [vrun_v Tryd.func118 rfl rfl rfl]; simp only [Tryd.f118]
    simp (disch := omega) [go_sem, tab118, D_zero]
  · have hm := pow16_le k
    have h1 := l2of_v (d + (2 - 1)) (n := 2 ^ (k % 16)) (by omega)
    have hs := D_shift h0 (k / 16)
    have hlen : (D (x * 65536 ^ (k / 16))).length = k / 16 + (D x).length := by rw [← hs, List.length_append, List.length_replicate]
    have hl2 : (D (2 ^ (k % 16))).length ≤ 1 := len_small (by omega)
    have h2 := l2mul_v d (x := x * 65536 ^ (k / 16)) (y := 2 ^ (k % 16)) (by omega) (by omega)
    have ev : x * 2 ^ k = x * 65536 ^ (k / 16) * 2 ^ (k % 16) := by rw [Nat.mul_assoc, ← pow_split]
    rw [ev]
    have hne : ¬ D x = [] := fun e => h0 (D_nil_iff.1 e)
    have e := shl_m k
    have e1 : ((k : Int) / 16).toNat = k / 16 := by omega
    have hz : (List.replicate (k / 16) (0 : Int)).length = k / 16 := List.length_replicate
    rw [vrun_v Tryd.func118 rfl rfl rfl]; simp only [Tryd.f118]
    generalize 2 ^ (k % 16) = m at *
    generalize hZ : List.replicate (k / 16) (0 : Int) = Z at *
    simp (disch := omega) [go_sem, tab118, hne, e, e1, hZ, hz, hs, h1, h2, hlen]
theorem l2shr_v (d : Nat) (hx : (D x).length < 1000000) (hk : k < 1000000) :
    vrun Tryd.prog kn (d + 3) 79 [.agg [.ints .i64 (D x)], .int .i64 (k : Int)] [] = some (.agg [.ints .i64 (D (x / 2 ^ k))], []) := by
  by_cases h0 : (D x).length ≤ k / 16
  · have e0 : x / 2 ^ k = 0 := Nat.div_eq_of_lt (Nat.lt_of_lt_of_le (len_D_le.1 h0) (by rw [pow_split k]; exact Nat.le_mul_of_pos_right _ (Nat.two_pow_pos _)))
    rw [e0]
    rw [vrun_v Tryd.func79 rfl rfl rfl]; simp only [Tryd.f79]
    simp (disch := omega) [go_sem, tab79, D_zero]
  · have hm := pow16_le k
    have hz : (D (x / 65536 ^ (k / 16))).length < 1000000 := by have := len_mono (Nat.div_le_self x (65536 ^ (k / 16))); omega
    have h1 := l2small_v d (z := x / 65536 ^ (k / 16)) (m := 2 ^ (k % 16)) (Nat.two_pow_pos _) (by omega) hz
    have ec := cut_D x k (by omega)
    have ev : x / 2 ^ k = x / 65536 ^ (k / 16) / 2 ^ (k % 16) := by rw [Nat.div_div_eq_div_mul, ← pow_split]
    rw [ev]
    have e := shl_m k
    rw [vrun_v Tryd.func79 rfl rfl rfl]; simp only [Tryd.f79]
    generalize 2 ^ (k % 16) = m at *
    generalize x / 65536 ^ (k / 16) = z at *
    simp (disch := omega) [go_sem, tab79, ec, e, h1]
end
end Go.Eng
