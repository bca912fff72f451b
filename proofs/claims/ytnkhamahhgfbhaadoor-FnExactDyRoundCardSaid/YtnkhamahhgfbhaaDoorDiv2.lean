/- Division, digit by digit: the guess of a digit; taking a multiple away; adding once. No conditions. -/
import Derived.Test.YtnkhamahhgfbhaaDoorDiv1
set_option linter.unusedVariables false
set_option linter.unusedSimpArgs false
namespace Go.Eng
open Go.Proofs
set_option maxRecDepth 100000
set_option linter.unusedSimpArgs false
attribute [local go_sem] r_seq r_skip r_retC r_exitC r_label r_block r_region r_regionW r_xWt r_xW r_cond r_Bt r_Bf r_Ncode r_Nret r_Nexit r_Nblk r_Nblkr r_Nblke r_Nnil r_Es r_Onil r_Oop r_Oif r_Xs r_Gt r_Gf r_wtt r_wtf r_wft r_wff r_wu r_gO r_putS r_putN r_get r_keepN r_keepC r_fr r_fn r_fi r_ff r_fo r_l1 r_l2t r_cun r_cul r_cub r_cui r_cus r_cuis r_cuc r_cusl r_cuti r_cutv r_ven r_vec r_l2f r_l3 r_t1 r_t2 r_t0 r_rt r_rc r_en r_ec r_cM r_oN r_oC r_end r_endt r_endf r_nob0 r_nobN r_nobC r_nobE r_nb0 r_nbi r_nbs r_nbsl r_nbin r_nbce r_nLn r_nLv r_nLc r_nAa r_nAn r_nAk_b r_nAk_i r_nAk_s r_nAk_n r_nAk_is r_nAk_ce r_nAk_fp r_nAk_sl r_nAk_pt r_nAk_fn r_nsn r_nsv r_nsc r_m0 r_mi r_ms r_msl r_min r_mce r_mLn r_mLv r_mLc r_mAa r_mAn r_mAk_b r_mAk_i r_mAk_s r_mAk_n r_mAk_is r_mAk_ce r_mAk_fp r_mAk_sl r_mAk_pt r_mAk_fn r_msn r_msv r_msc r_atb r_ati r_ats r_atn r_atis r_atc r_atf r_atl r_atp r_atfn r_gcn r_gcc r_gLn r_gLc r_gIt r_ndn r_ndc r_gcB r_gLB r_two r_rea r_rea0 r_re1n r_re1c r_ori r_orv r_ord r_orn r_adn r_adc r_ad1 r_ern r_ers r_er0 r_rsl r_rptr r_rb r_ri r_rs r_rn r_ris r_rce r_rfp r_ra4 r_ra3 r_rt4 r_rf4 r_rf3 r_idS r_idc r_nS r_nP r_nF r_nT r_vsl r_vptr r_vb r_vi r_vs r_vn r_vis r_vce r_vfp r_va4 r_va3 r_vt4 r_vf4 r_vf3 r_rV r_Oi r_Ov r_Od r_rE r_rE0 r_En r_Ec r_E0 r_pO r_pk r_agL r_cO r_fO r_fSi r_fSv r_fPv r_fsl r_fptr r_ffn r_fag r_fb r_fint r_fstr r_fnil r_fis r_fce r_ffp r_res r_move r_assign r_pick r_pickt r_pickf r_alloc r_box r_al r_build r_bslice r_load r_store r_nlc r_nl1 r_nl2 r_bin r_un r_conv r_mkf r_mks r_slc r_fad r_fld r_iad r_idx r_ext r_ex1 r_callf r_callt r_callen r_calapp r_calmax r_calmin r_vt r_vcb r_vci r_vcs r_vcn r_vca r_vcf r_vcg r_ofb r_ofi r_ofs r_ofn r_evs r_pn r_prt r_pc r_one_a r_one_b r_one_i r_one_s r_one_n r_one_is r_one_ce r_one_fp r_one_sl r_one_pt r_one_fn r_cs_a r_cs_b r_cs_i r_cs_s r_cs_n r_cs_is r_cs_ce r_cs_fp r_cs_sl r_cs_pt r_cs_fn r_tov r_tovA r_toc r_toa r_tb r_ti r_ts r_tn r_bd r_bd2 r_filn r_fp1 r_filc r_fsn r_fsc r_san r_sac r_bs2 r_bs1 r_newO r_mkq r_mkI r_mkOi r_mkOv r_tIn r_tIc r_repz r_repn r_ldp r_ldf r_l1t r_l1f r_lFt r_lFf r_aggO r_obj r_at r_ati' r_atv r_celli r_cellv r_subi r_subv r_sto r_sto1 r_sto2 r_sets r_setR r_setn r_setc r_s1i r_s1v r_bin1 r_bin2 r_tv1 r_cb r_ci r_cst r_cn r_csl r_cis r_cce r_uni r_unb r_cv r_cvi r_cvs r_cvb r_cvl r_sO r_rdn r_rdi r_rdl r_rdO r_vsub r_vfn r_mk r_mk1 r_mk2 r_zoi r_zov r_leni r_lenv r_bn r_bndV r_bo r_sl0 r_sl1 r_vsz r_ct1 r_cts r_cti r_ctc r_ctn r_lnl r_lni r_lnc r_lnn r_fa r_fap r_faf r_fi1 r_fit r_fif r_ixi r_ixs r_ixc r_ixf r_ixF r_ixF2 r_ix1 r_ixsl r_ixin r_ixce r_len1 r_lenA r_lTs r_lTn r_lTl r_lTi r_lTc r_app0 r_app r_app1 r_app2 r_app3 r_catO r_cati r_catv r_newt r_newf r_pair r_pairK r_trip r_kis r_kiv r_srn r_srl r_sri r_src r_srs r_oln r_oll r_vw r_wi r_wv r_mm r_max r_min' r_str r_cF r_c2t r_c3f r_c3t r_ab r_c2f r_cV r_p1 r_la r_la2t r_la2f r_la3 r_sh r_z_is r_z_ce r_z_fp r_z_b r_z_i r_z_s r_z_n r_z_l r_z_p r_z_a4 r_z_a3 r_z_t4 r_zoI r_zoV r_roN r_roC r_roi r_rod r_zod r_rov r_aR r_trOi r_trOv r_trPv r_trl r_trp r_trf r_tra r_trb r_tri r_trs r_trn r_tris r_trce r_trfp
attribute [local go_sem] b_add b_sub b_mul b_quo b_rem b_shl b_shr b_eql b_neq b_lss b_leq b_gtr b_geq eqB_s b_eqB b_neB u_neg u_not b_nn b_nn' eqS_s zerosT_s zerosT_n zt_i zt_sl zt_st dstOf_z dstOf_n iltT iltF ileT ileF ieqT ieqF nltT nltF nleT nleF neqT neqF tdiv_pos tmod_pos w64 idx0 List.take_of_length_le
open Num
section
variable {u v : List Int} {j n : Nat} {P vr ur : Int}
def doS (u v : List Int) (j n : Nat) (q r : Int) (x : VE) : VE × VH := ((0, some (.ints .i64 u)) :: (1, some (.ints .i64 v)) :: (2, some (.int .i64 j)) :: (7, some (.int .i64 n)) :: (9, some (.int .i64 q)) :: (10, some (.int .i64 r)) :: x, [])
theorem mul_q {q b : Int} (q0 : 0 ≤ q) (q1 : q ≤ 65537) (b0 : 0 ≤ b) (b1 : b < 65536) : 0 ≤ q * b ∧ q * b ≤ 4295032832 := by
  refine ⟨Int.mul_nonneg q0 b0, ?_⟩
  have : q * b ≤ 65537 * 65536 := Int.mul_le_mul q1 (by omega) b0 (by omega)
  omega
theorem do_x (call : CallV) {x : VE} (hn : 2 ≤ n) (hv : v.length = n) (hu : j + n < u.length) (hul : u.length < 1000000) (hgu : GoodL u) (hgv : GoodL v) {q r : Int} (q0 : 0 ≤ q) (q1 : q < 65536) (r0 : 0 ≤ r) (r1 : r < 65536) (c : q * gt v (n - 2) ≤ r * 65536 + gt u (j + n - 2)) :
    vCode Tryd.prog kn call 138 (loopAt Tryd.f138 0) (doS u v j n q r x).1 (doS u v j n q r x).2 = some (.exit 0, (doS u v j n q r []).1 ++ [(63, some (.bool false))], []) := by
  have g1 := hgv.gtB (n - 2)
  have g2 := hgu.gtB (j + n - 2)
  have m := mul_q q0 (by omega) g1.1 g1.2
  have e1 : ((n : Int) - 2).toNat = n - 2 := by omega
  have e2 : ((j : Int) + n - 2).toNat = j + n - 2 := by omega
  rw [round_v]; simp only [loopAt, nthC, bodyC, loops, List.nil_append, List.cons_append, List.append_nil, Tryd.f138, doS]
  generalize k2 : gt v (n - 2) = v2 at *
  generalize k3 : gt u (j + n - 2) = u2 at *
  simp (implicitDefEqProofs := false) (disch := omega) [go_sem, tab138, e1, e2, k2, k3]
theorem do_b (call : CallV) {x : VE} (hn : 2 ≤ n) (hv : v.length = n) (hu : j + n < u.length) (hul : u.length < 1000000) (hgu : GoodL u) (hgv : GoodL v) {q r : Int} (q0 : 0 ≤ q) (q1 : q ≤ 65537) (r0 : 0 ≤ r) (r1 : r < 65536) (c : 65536 ≤ q ∨ r * 65536 + gt u (j + n - 2) < q * gt v (n - 2)) (b : 65536 ≤ r + gt v (n - 1)) :
    vCode Tryd.prog kn call 138 (loopAt Tryd.f138 0) (doS u v j n q r x).1 (doS u v j n q r x).2 = some (.exit 0, (doS u v j n (q - 1) (r + gt v (n - 1)) []).1 ++ [(74, some (.bool true))], []) := by
  have g1 := hgv.gtB (n - 2)
  have g2 := hgu.gtB (j + n - 2)
  have g3 := hgv.gtB (n - 1)
  have m := mul_q q0 q1 g1.1 g1.2
  have e1 : ((n : Int) - 2).toNat = n - 2 := by omega
  have e2 : ((j : Int) + n - 2).toNat = j + n - 2 := by omega
  have e3 : ((n : Int) - 1).toNat = n - 1 := by omega
  rw [round_v]; simp only [loopAt, nthC, bodyC, loops, List.nil_append, List.cons_append, List.append_nil, Tryd.f138, doS]
  generalize k2 : gt v (n - 2) = v2 at *
  generalize k1 : gt v (n - 1) = v1 at *
  generalize k3 : gt u (j + n - 2) = u2 at *
  by_cases h : 65536 ≤ q
  · simp (implicitDefEqProofs := false) (disch := omega) [go_sem, tab138, e1, e2, e3, k1, k2, k3]
  · have c2 : r * 65536 + u2 < q * v2 := c.resolve_left h
    generalize k6 : q * v2 = p at *
    simp (implicitDefEqProofs := false) (disch := omega) [go_sem, tab138, e1, e2, e3, k1, k2, k3, k6]
theorem do_n (call : CallV) {x : VE} (hn : 2 ≤ n) (hv : v.length = n) (hu : j + n < u.length) (hul : u.length < 1000000) (hgu : GoodL u) (hgv : GoodL v) {q r : Int} (q0 : 0 ≤ q) (q1 : q ≤ 65537) (r0 : 0 ≤ r) (r1 : r < 65536) (c : 65536 ≤ q ∨ r * 65536 + gt u (j + n - 2) < q * gt v (n - 2)) (b : r + gt v (n - 1) < 65536) :
    vCode Tryd.prog kn call 138 (loopAt Tryd.f138 0) (doS u v j n q r x).1 (doS u v j n q r x).2 = some (.norm, doS u v j n (q - 1) (r + gt v (n - 1)) [(74, some (.bool false))]) := by
  have g1 := hgv.gtB (n - 2)
  have g2 := hgu.gtB (j + n - 2)
  have g3 := hgv.gtB (n - 1)
  have m := mul_q q0 q1 g1.1 g1.2
  have e1 : ((n : Int) - 2).toNat = n - 2 := by omega
  have e2 : ((j : Int) + n - 2).toNat = j + n - 2 := by omega
  have e3 : ((n : Int) - 1).toNat = n - 1 := by omega
  rw [round_v]; simp only [loopAt, nthC, bodyC, loops, List.nil_append, List.cons_append, List.append_nil, Tryd.f138, doS]
  generalize k2 : gt v (n - 2) = v2 at *
  generalize k1 : gt v (n - 1) = v1 at *
  generalize k3 : gt u (j + n - 2) = u2 at *
  by_cases h : 65536 ≤ q
  · simp (implicitDefEqProofs := false) (disch := omega) [go_sem, tab138, e1, e2, e3, k1, k2, k3]
  · have c2 : r * 65536 + u2 < q * v2 := c.resolve_left h
    generalize k6 : q * v2 = p at *
    simp (implicitDefEqProofs := false) (disch := omega) [go_sem, tab138, e1, e2, e3, k1, k2, k3, k6]
theorem do_l (call : CallV) (hn : 2 ≤ n) (hv : v.length = n) (hu : j + n < u.length) (hul : u.length < 1000000) (hgu : GoodL u) (hgv : GoodL v)
    (K : Kt P (gt v (n - 1)) (gt v (n - 2)) vr (gt u (j + n) * 65536 + gt u (j + n - 1)) (gt u (j + n - 2)) ur) :
    ∀ (m N : Nat) (q r : Int) (x : VE), q * gt v (n - 1) + r = gt u (j + n) * 65536 + gt u (j + n - 1) → 0 ≤ q → 0 ≤ r → r < 65536 → ((gt u (j + n) * 65536 + gt u (j + n - 1)) * 65536 + gt u (j + n - 2)) * P + ur < (q + 1) * ((gt v (n - 1) * 65536 + gt v (n - 2)) * P + vr) → 65536 ≤ r + m * 32768 → m < N →
      ∃ q' r' k b, viter (vCode Tryd.prog kn call 138 (loopAt Tryd.f138 0)) N (doS u v j n q r x).1 (doS u v j n q r x).2 = some (.exit 0, (doS u v j n q' r' []).1 ++ [(k, some (.bool b))], []) ∧ 0 ≤ q' ∧ q' < 65536 ∧
        ((gt u (j + n) * 65536 + gt u (j + n - 1)) * 65536 + gt u (j + n - 2)) * P + ur < (q' + 1) * ((gt v (n - 1) * 65536 + gt v (n - 2)) * P + vr) ∧ (q' - 1) * ((gt v (n - 1) * 65536 + gt v (n - 2)) * P + vr) ≤ ((gt u (j + n) * 65536 + gt u (j + n - 1)) * 65536 + gt u (j + n - 2)) * P + ur := by
  intro m
  induction m with
  | zero => intro N q r x _ _ _ h1 _ h2 _; omega
  | succ m ih =>
    intro N q r x e q0 r0 r1 hU hm hN
    obtain ⟨N, rfl⟩ : ∃ z, N = z + 1 := ⟨N - 1, by omega⟩
    have q1 := K.q_le e r0
    by_cases c : 65536 ≤ q ∨ r * 65536 + gt u (j + n - 2) < q * gt v (n - 2)
    · have hd := K.dec e q0 c
      have qp : 1 ≤ q := by
        rcases c with c | c
        · omega
        · rcases Int.lt_or_le 0 q with h | h
          · omega
          · obtain rfl : q = 0 := by omega
            have := K.u20
            rw [Int.zero_mul] at c; omega
      have e' : (q - 1) * gt v (n - 1) + (r + gt v (n - 1)) = gt u (j + n) * 65536 + gt u (j + n - 1) := by rw [← e]; grind
      have hU' : ((gt u (j + n) * 65536 + gt u (j + n - 1)) * 65536 + gt u (j + n - 2)) * P + ur < (q - 1 + 1) * ((gt v (n - 1) * 65536 + gt v (n - 2)) * P + vr) := by rw [show q - 1 + 1 = q by omega]; exact hd
      have hvl := K.v1l
      by_cases b : 65536 ≤ r + gt v (n - 1)
      · have hb := K.brk e r0 b
        exact ⟨q - 1, r + gt v (n - 1), 74, true, vi_exit (do_b call hn hv hu hul hgu hgv q0 q1 r0 r1 c b), by omega, by omega, hU', K.fin e' (by omega) (by omega) (K.brk2 (by omega) (by omega) b)⟩
      · rw [vi_norm (do_n call hn hv hu hul hgu hgv q0 q1 r0 r1 c (by omega))]
        exact ih N (q - 1) (r + gt v (n - 1)) _ e' (by omega) (by omega) (by omega) hU' (by omega) (by omega)
    · have c1 : q < 65536 := by omega
      have c2 : q * gt v (n - 2) ≤ r * 65536 + gt u (j + n - 2) := by omega
      exact ⟨q, r, 63, false, vi_exit (do_x call hn hv hu hul hgu hgv q0 c1 r0 r1 c2), q0, c1, hU, K.fin e q0 c1 c2⟩
theorem digitOf_v (d : Nat) (hn : 2 ≤ n) (hv : v.length = n) (hu : j + n < u.length) (hul : u.length < 1000000) (hgu : GoodL u) (hgv : GoodL v)
    (K : Kt P (gt v (n - 1)) (gt v (n - 2)) vr (gt u (j + n) * 65536 + gt u (j + n - 1)) (gt u (j + n - 2)) ur) :
    ∃ q, vrun Tryd.prog kn (d + 1) 138 [.ints .i64 u, .ints .i64 v, .int .i64 j] [] = some (.int .i64 q, []) ∧ 0 ≤ q ∧ q < 65536 ∧
        ((gt u (j + n) * 65536 + gt u (j + n - 1)) * 65536 + gt u (j + n - 2)) * P + ur < (q + 1) * ((gt v (n - 1) * 65536 + gt v (n - 2)) * P + vr) ∧ (q - 1) * ((gt v (n - 1) * 65536 + gt v (n - 2)) * P + vr) ≤ ((gt u (j + n) * 65536 + gt u (j + n - 1)) * 65536 + gt u (j + n - 2)) * P + ur := by
  have hvl := K.v1l
  have hvu := K.v1u
  have ht0 := K.t0
  have htop : gt u (j + n) * 65536 + gt u (j + n - 1) < 4294967296 := by have := hgu.gtB (j + n); have := hgu.gtB (j + n - 1); omega
  have hq0 : 0 ≤ (gt u (j + n) * 65536 + gt u (j + n - 1)) / gt v (n - 1) := Int.ediv_nonneg ht0 (by omega)
  have hr0 := Int.emod_nonneg (gt u (j + n) * 65536 + gt u (j + n - 1)) (b := gt v (n - 1)) (by omega)
  have hr1 := Int.emod_lt_of_pos (gt u (j + n) * 65536 + gt u (j + n - 1)) (b := gt v (n - 1)) (by omega)
  have he := Int.mul_ediv_add_emod (gt u (j + n) * 65536 + gt u (j + n - 1)) (gt v (n - 1))
  rw [Int.mul_comm] at he
  have hU : ((gt u (j + n) * 65536 + gt u (j + n - 1)) * 65536 + gt u (j + n - 2)) * P + ur < ((gt u (j + n) * 65536 + gt u (j + n - 1)) / gt v (n - 1) + 1) * ((gt v (n - 1) * 65536 + gt v (n - 2)) * P + vr) := by
    have h1 : ((gt u (j + n) * 65536 + gt u (j + n - 1)) * 65536 + gt u (j + n - 2) + 1) * P ≤ (((gt u (j + n) * 65536 + gt u (j + n - 1)) / gt v (n - 1) + 1) * (gt v (n - 1) * 65536 + gt v (n - 2))) * P := by
      refine K.mulP ?_
      have h2 : ((gt u (j + n) * 65536 + gt u (j + n - 1)) / gt v (n - 1) + 1) * (gt v (n - 1) * 65536 + gt v (n - 2)) = ((gt u (j + n) * 65536 + gt u (j + n - 1)) / gt v (n - 1) * gt v (n - 1) + gt v (n - 1)) * 65536 + ((gt u (j + n) * 65536 + gt u (j + n - 1)) / gt v (n - 1) + 1) * gt v (n - 2) := by grind
      have h3 : 0 ≤ ((gt u (j + n) * 65536 + gt u (j + n - 1)) / gt v (n - 1) + 1) * gt v (n - 2) := Int.mul_nonneg (by omega) K.v20
      have := K.u2u
      rw [h2]; omega
    have h4 : 0 ≤ ((gt u (j + n) * 65536 + gt u (j + n - 1)) / gt v (n - 1) + 1) * vr := Int.mul_nonneg (by omega) K.vr0
    have := K.uru
    grind
  obtain ⟨q, r, k, b, hl, a1, a2, a3, a4⟩ := do_l (vrun Tryd.prog kn d) hn hv hu hul hgu hgv K 2 kn.cf.rounds _ _ [] he hq0 hr0 (by omega) hU (by omega) (by rw [k_cf, c_rounds]; omega)
  refine ⟨q, ?_, a1, a2, a3, a4⟩
  have hl0 := fun ks => loop_v (P := Tryd.prog) (K := kn) (ks := ks) hl
  have g1 := hgu.gtB (j + n)
  have g2 := hgu.gtB (j + n - 1)
  have e1 : ((j : Int) + n).toNat = j + n := by omega
  have e2 : ((j : Int) + n - 1).toNat = j + n - 1 := by omega
  have e3 : ((n : Int) - 1).toNat = n - 1 := by omega
  have hqle : (gt u (j + n) * 65536 + gt u (j + n - 1)) / gt v (n - 1) ≤ 65537 := K.q_le he hr0
  simp only [loopAt, nthC, bodyC, loops, List.nil_append, List.cons_append, List.append_nil, Tryd.f138, doS, List.cons_append, List.nil_append] at hl0
  clear a3 a4 hU K he
  rw [vrun_v Tryd.func138 rfl rfl rfl]; simp only [Tryd.f138]
  generalize k1 : gt v (n - 1) = v1 at *
  generalize k4 : gt u (j + n) = w1 at *
  generalize k5 : gt u (j + n - 1) = w2 at *
  simp (implicitDefEqProofs := false) (disch := omega) [go_sem, tab138, e1, e2, e3, hv, hl0, k1, k4, k5]
end
end Go.Eng
