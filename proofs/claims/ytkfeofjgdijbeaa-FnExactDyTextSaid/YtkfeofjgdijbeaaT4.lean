/- What the functions of this seat do, one after another, told by plain values. No conditions. -/
import Derived.Test.YtkfeofjgdijbeaaSeat
import Derived.Test.YtkfeofjgdijbeaaVb
import Derived.Test.YtkfeofjgdijbeaaT3
set_option linter.unusedVariables false
set_option linter.unusedSimpArgs false
namespace Go.Eng
open Go.Proofs
set_option maxRecDepth 100000
set_option linter.unusedSimpArgs false
attribute [local go_sem] r_seq r_skip r_retC r_exitC r_label r_block r_region r_or0 r_regionW r_xWt r_xW r_cond r_Bt r_Bf r_Ncode r_Nret r_Nexit r_Nblk r_Nblkr r_Nblke r_Nnil r_Es r_Onil r_Oop r_Oif r_Xs r_Gt r_Gf r_wtt r_wtf r_wft r_wff r_wu r_gO r_putS r_putN r_get r_keepN r_keepC r_fr r_fn r_fi r_ff r_fo r_l1 r_l2t r_cun r_cul r_cub r_cui r_cus r_cuis r_cuc r_cusl r_cuti r_cutv r_ven r_vec r_l2f r_l3 r_t1 r_t2 r_t0 r_rt r_rc r_en r_ec r_cM r_oN r_oC r_end r_endt r_endf r_nob0 r_nobN r_nobC r_nobE r_nb0 r_nbi r_nbs r_nbsl r_nbin r_nbce r_nLn r_nLv r_nLc r_nAa r_nAn r_nAk_b r_nAk_i r_nAk_s r_nAk_n r_nAk_is r_nAk_ce r_nAk_fp r_nAk_sl r_nAk_pt r_nAk_fn r_nsn r_nsv r_nsc r_m0 r_mi r_ms r_msl r_min r_mce r_mLn r_mLv r_mLc r_mAa r_mAn r_mAk_b r_mAk_i r_mAk_s r_mAk_n r_mAk_is r_mAk_ce r_mAk_fp r_mAk_sl r_mAk_pt r_mAk_fn r_msn r_msv r_msc r_atb r_ati r_ats r_atn r_atis r_atc r_atf r_atl r_atp r_atfn r_gcn r_gcc r_gLn r_gLc r_gIt r_ndn r_ndc r_gcB r_gLB r_two r_rea r_rea0 r_re1n r_re1c r_ori r_orv r_ord r_orn r_adn r_adc r_ad1 r_ern r_ers r_er0 r_rsl r_rptr r_rb r_ri r_rs r_rn r_ris r_rce r_rfp r_ra4 r_ra3 r_rt4 r_rf4 r_rf3 r_idS r_idc r_nS r_nP r_nF r_nT r_vsl r_vptr r_vb r_vi r_vs r_vn r_vis r_vce r_vfp r_va4 r_va3 r_vt4 r_vf4 r_vf3 r_rV r_Oi r_Ov r_Od r_rE r_rE0 r_En r_Ec r_E0 r_pO r_pk r_agL r_cO r_fO r_fSi r_fSv r_fPv r_fsl r_fptr r_ffn r_fag r_fb r_fint r_fstr r_fnil r_fis r_fce r_ffp r_res r_move r_assign r_pick r_pickt r_pickf r_alloc r_box r_al r_build r_bslice r_load r_store r_nlc r_nl1 r_nl2 r_bin r_un r_conv r_mkf r_mks r_slc r_fad r_fld r_iad r_idx r_ext r_ex1 r_callf r_callt r_callen r_calapp r_calcp r_calmax r_calmin r_vt r_vcb r_vci r_vcs r_vcnp r_vcn r_vca r_vcf r_vcg r_ofb r_ofi r_ofs r_ofn r_evs r_pn r_prt r_pc r_one_a r_one_b r_one_i r_one_s r_one_n r_one_is r_one_ce r_one_fp r_one_sl r_one_pt r_one_fn r_cs_a r_cs_b r_cs_i r_cs_s r_cs_n r_cs_is r_cs_ce r_cs_fp r_cs_sl r_cs_pt r_cs_fn r_tov r_tovA r_toc r_toa r_tb r_ti r_ts r_tn r_bd r_bd2 r_filn r_fp1 r_filc r_fsn r_fsc r_san r_sac r_bs2 r_bs1 r_nE r_newO r_mkq r_mkI r_mkOi r_mkOv r_tIn r_tIc r_repz r_repn r_ldp r_ldf r_l1t r_l1f r_lFt r_lFf r_aggO r_obj r_at r_ati' r_atv r_celli r_cellv r_subi r_subv r_sto r_sto1 r_sto2 r_sets r_setR r_setn r_setc r_s1i r_s1v r_bin1 r_bin2 r_tv1 r_cb r_ci r_cst r_cn r_csl r_cis r_cce r_uni r_unb r_cv r_cvO r_cvN r_cv0 r_cvS r_wB r_cvi r_cvs r_cvb r_cvl r_sO r_rdn r_rdi r_rdl r_rdO r_vsub r_vfn r_mk r_mk1 r_mk2 r_zoi r_zov r_leni r_lenv r_bn r_bndV r_bo r_sl0 r_sl1 r_vsz r_ct1 r_cts r_cti r_ctc r_ctn r_lnl r_lni r_lnc r_lnn r_fa r_fap r_faf r_fi1 r_fit r_fif r_ixi r_ixs r_ixc r_ixf r_ixF r_ixF2 r_ix1 r_ixsl r_ixin r_ixce r_len1 r_lenA r_lTs r_lTn r_lTl r_lTi r_lTc r_cp0 r_cp1 r_cp2 r_cp3 r_cp4 r_nts r_nti r_ntn r_app0 r_app9 r_paf r_pat r_pal r_son r_soe r_sos r_frn r_fre r_tt1 r_tt2 r_tt3 r_app r_app1 r_app2 r_app3 r_catO r_cati r_catv r_newt r_newf r_pair r_pairK r_trip r_kis r_kiv r_srn r_srl r_sri r_src r_srs r_oln r_ole r_oll r_vw r_wi r_wv r_mm r_max r_min' r_str r_cF r_c2t r_c3f r_c3t r_ab r_c2f r_cV r_p1 r_la r_la2t r_la2f r_la3 r_sh r_z_is r_z_ce r_z_fp r_z_b r_z_i r_z_s r_z_n r_z_l r_z_p r_z_a4 r_z_a3 r_z_t4 r_zoI r_zoV r_roN r_roC r_roi r_rod r_zod r_rov r_aR r_trOi r_trOv r_trPv r_trl r_trp r_trf r_tra r_trb r_tri r_trs r_trn r_tris r_trce r_trfp r_vJ r_vJs r_vJn
attribute [local go_sem] b_add b_sub b_mul b_quo b_rem b_shl b_shr b_eql b_neq b_lss b_leq b_gtr b_geq eqB_s b_eqB b_neB u_neg u_not b_nn b_nn' eqS_s zerosT_s zerosT_n zt_i zt_sl zt_st dstOf_z dstOf_n iltT iltF ileT ileF ieqT ieqF nltT nltF nleT nleF neqT neqF tdiv_pos tmod_pos w64 idx0 List.take_of_length_le
/- The reference's text of a dyadic number, whole; DyText of the reference. No conditions. -/
section
open Num
theorem orS (a0 a1 a2 a3 a4 a5 a6 a7 a8 a9 a10 a11 a12 a13 a14 a15 a16 a17 : Oper) : ordR (some [0, 1, 2, 3, 4, 5, 6, 8, 7, 9, 10, 11, 12, 13, 14, 15, 16, 17]) [a0, a1, a2, a3, a4, a5, a6, a7, a8, a9, a10, a11, a12, a13, a14, a15, a16, a17] = [a0, a1, a2, a3, a4, a5, a6, a8, a7, a9, a10, a11, a12, a13, a14, a15, a16, a17] := rfl
theorem fin_f {A B : List Int} {q n : Nat} (hA : A.length = q) (hB : B.length = n) : List.take (q + 1 + n) (List.take (q + 1) (List.take q A ++ [46]) ++ List.take n B) = A ++ 46 :: B := by
  subst hA; subst hB
  have e1 : List.take (A.length + 1) (A ++ [46]) = A ++ [46] := List.take_of_length_le (by simp)
  have e2 : List.take (A.length + 1 + B.length) (A ++ [46] ++ B) = A ++ [46] ++ B := List.take_of_length_le (by simp; omega)
  rw [List.take_length, List.take_length, e1, e2]; simp
theorem fin_t {A B : List Int} {q n : Nat} (hA : A.length = q) (hB : B.length = n) : List.take (1 + q + 1 + n) (List.take (1 + q + 1) (List.take (1 + q) (45 :: A) ++ [46]) ++ List.take n B) = 45 :: (A ++ 46 :: B) := by
  have := fin_f (A := 45 :: A) (B := B) (q := 1 + q) (n := n) (by simp; omega) hB
  rw [this]; rfl
section
variable {neg : Bool} {m k : Nat}
theorem l4dec_p (d : Nat) (hm : (D m).length ≤ 100) (hk : k ≤ 1000) : vrun Try.prog kn (d + 4) 48 [.agg [.bool neg, .ints .i64 (D m), .int .i64 k]] [] = some (.ints .u8 (dyTx neg m k), []) := by
  have u1 := fun d => l2shl_v (x := m) (k := k) d (by omega) (by omega)
  have l1 := len_shl m k
  have u2 := fun d => l2text_v (n := m * 2 ^ k) d (by omega)
  have l3 := text_le2 (n := m * 2 ^ k) (by omega)
  have hx : dyTx neg m k = (if neg then [45] else []) ++ text (m * 2 ^ k) := by
    unfold dyTx; congr 1
  rw [hx]
  clear hx
  generalize D (m * 2 ^ k) = N at *
  generalize text (m * 2 ^ k) = T at *
  generalize D m = M at *
  have w1 := wu8' (x := 45) (by omega) (by omega)
  have htk : List.take T.length T = T := List.take_of_length_le (Nat.le_refl _)
  have htk2 : List.take (1 + T.length) (45 :: T) = 45 :: T := List.take_of_length_le (by rw [List.length_cons]; omega)
  cases neg with
  | false =>
    rw [vrun_v Try.func48 rfl rfl rfl]; simp only [Try.f48]
    simp (implicitDefEqProofs := false) (disch := omega) [go_sem, tab48, u1, u2, htk]
  | true =>
    rw [vrun_v Try.func48 rfl rfl rfl]; simp only [Try.f48]
    simp (implicitDefEqProofs := false) (disch := omega) [go_sem, tab48, u1, u2, htk, htk2, w1]
set_option maxHeartbeats 1000000 in
theorem l4dec_n (d : Nat) (hm : (D m).length ≤ 100) (ho : m % 2 = 1) (h1k : 1 ≤ k) (hk : k ≤ 100) : vrun Try.prog kn (d + 4) 48 [.agg [.bool neg, .ints .i64 (D m), .int .i64 (-(k : Int))]] [] = some (.ints .u8 (dyTx neg m (-(k : Int))), []) := by
  have hN : m * 5 ^ k ≠ 0 := Nat.mul_ne_zero (by omega) (by have := Nat.pow_pos (n := k) (show 0 < 5 by omega); omega)
  have hR := odd_rest (k := k) ho (by omega)
  obtain ⟨d1, d2⟩ := dec_nums m k
  obtain ⟨s1, s2⟩ := padT_split (N := m * 5 ^ k) (k := k) hN (by rw [d2]; exact hR)
  rw [d1] at s1
  rw [d2] at s2
  have pl := powR_len (a := 5) (w := 3) (by omega) k
  have m4 := len_mul m (5 ^ k)
  have u2 := fun d => l2text_v (n := m * 5 ^ k) d (by omega)
  have l2 := text_le2 (n := m * 5 ^ k) (by omega)
  have hl0 := fun ks => loop_v (P := Try.prog) (K := kn) (ks := ks) (vi_for (decS neg m k) k (n := kn.cf.rounds) (by rw [k_cf, c_rounds]; omega) (fun i hi => dec_r d hm hk hi) fun q => vi_exit (dec_x _))
  have hl1 := fun ks => loop_v (P := Try.prog) (K := kn) (ks := ks) (vi_for (pdS neg (text (m * 5 ^ k)) k) (k + 1 - (text (m * 5 ^ k)).length) (n := kn.cf.rounds) (by rw [k_cf, c_rounds]; omega) (fun j hj => pd_r (vrun Try.prog kn (d + 3)) (by omega) hk hj) fun q => vi_exit (pd_x _ (by omega) hk (by omega)))
  have hx : dyTx neg m (-(k : Int)) = (if neg then [45] else []) ++ (text (m / 2 ^ k) ++ (46 :: (List.replicate (k - (text (m % 2 ^ k * 5 ^ k)).length) 48 ++ text (m % 2 ^ k * 5 ^ k)))) := by
    unfold dyTx
    rw [if_neg (show ¬ (0 : Int) ≤ -(k : Int) by omega), Int.neg_neg, Int.toNat_natCast]
  rw [hx, ← s1, ← s2]
  have hpl : (padT (m * 5 ^ k) k).length = k + 1 - (text (m * 5 ^ k)).length + (text (m * 5 ^ k)).length := by unfold padT; simp
  have hpk : k < (padT (m * 5 ^ k) k).length := by omega
  have hpm : (padT (m * 5 ^ k) k).length ≤ 1000000 := by omega
  have e0 : m * 5 ^ 0 = m := by simp
  have e1 : List.replicate 0 (48 : Int) ++ text (m * 5 ^ k) = text (m * 5 ^ k) := rfl
  have e2 : List.replicate (k + 1 - (text (m * 5 ^ k)).length) (48 : Int) ++ text (m * 5 ^ k) = padT (m * 5 ^ k) k := rfl
  simp only [loopAt, nthC, bodyC, loops, List.nil_append, List.cons_append, List.append_nil, Try.f48, decS, pdS, e0, e1, e2, Int.natCast_zero, Nat.zero_add, List.cons_append, List.nil_append] at hl0 hl1
  rw [← hpl] at hl1
  clear hx hR hN d1 d2 s1 s2 pl m4 ho e0 e1 e2
  generalize padT (m * 5 ^ k) k = W at *
  generalize text (m * 5 ^ k) = T at *
  generalize D (m * 5 ^ k) = N at *
  generalize D m = M at *
  have w1 := wu8' (x := 45) (by omega) (by omega)
  have w2 := wu8' (x := 46) (by omega) (by omega)
  obtain ⟨q, hq⟩ : ∃ q, W.length - k = q := ⟨_, rfl⟩
  have hq2 : (W.length : Int) - k = q := by omega
  rw [hq]
  have hk0 : ¬ (0 : Int) ≤ -(k : Int) := by omega
  cases neg with
  | false =>
    simp only [sgT, sgH, sgI, Bool.false_eq_true, if_false] at hl0 hl1
    rw [vrun_v Try.func48 rfl rfl rfl]; simp only [Try.f48]
    simp (implicitDefEqProofs := false) (disch := omega) [go_sem, tab48, orS, hk0, hl0, u2, hl1, hq2, w1, w2]
    exact fin_f (by rw [List.length_take]; omega) (by rw [List.length_drop])
  | true =>
    simp only [sgT, sgH, sgI, if_true] at hl0 hl1
    rw [vrun_v Try.func48 rfl rfl rfl]; simp only [Try.f48]
    simp (implicitDefEqProofs := false) (disch := omega) [go_sem, tab48, orS, hk0, hl0, u2, hl1, hq2, w1, w2]
    exact fin_t (by rw [List.length_take]; omega) (by rw [List.length_drop])
end
section
variable {x : DyT}
theorem l4dec_v (d : Nat) (h : dyTok x = true) : vrun Try.prog kn (d + 4) 48 [.agg [.bool x.neg, .ints .i64 x.l, .int .i64 x.e]] [] = some (.ints .u8 (dyTx x.neg x.n x.e), []) := by
  obtain ⟨_, h1, h2, h3, h4, h5⟩ := dyTok_t h
  rw [h1]
  by_cases he : 0 ≤ x.e
  · obtain ⟨k, hk⟩ : ∃ k : Nat, x.e = k := ⟨x.e.toNat, by omega⟩
    rw [hk]
    exact l4dec_p d h2 (by omega)
  · obtain ⟨k, hk⟩ : ∃ k : Nat, x.e = -(k : Int) := ⟨(-x.e).toNat, by omega⟩
    rw [hk]
    exact l4dec_n d h2 (h5 (by omega)) (by omega) (by omega)
theorem sDyText_v (d : Nat) (hx : x.sz) : vrun Try.prog kn (d + 5) 17 [.agg [.bool x.neg, .ints .i64 x.l, .int .i64 x.e]] [] = some (.tup [.ints .u8 (dyR x), .bool (dyTok x)], []) := by
  have h1 := fun d => sDyOk_v d x.neg (l := x.l) x.e (by unfold DyT.sz at hx; omega)
  rw [show (⟨x.neg, x.l, x.e⟩ : DyT) = x from rfl] at h1
  unfold dyR
  cases hq : dyTok x with
  | false =>
    simp only [Bool.false_eq_true, if_false]
    cases ho : dyOkB x with
    | false =>
      rw [ho] at h1
      rw [vrun_v Try.func17 rfl rfl rfl]; simp only [Try.f17]
      simp (implicitDefEqProofs := false) (disch := omega) [go_sem, tab17, nil17, h1]
    | true =>
      rw [ho] at h1
      have hc : x.e < -100 ∨ (¬ x.e < -100 ∧ 1000 < x.e) := by
        unfold dyTok at hq; rw [ho, Bool.true_and] at hq
        by_cases e1 : -100 ≤ x.e
        · rw [decide_eq_true e1, Bool.true_and] at hq
          have := of_decide_eq_false hq
          omega
        · omega
      rcases hc with hc | ⟨hc, hc'⟩
      · rw [vrun_v Try.func17 rfl rfl rfl]; simp only [Try.f17]
        simp (implicitDefEqProofs := false) (disch := omega) [go_sem, tab17, nil17, h1, hc]
      · rw [vrun_v Try.func17 rfl rfl rfl]; simp only [Try.f17]
        simp (implicitDefEqProofs := false) (disch := omega) [go_sem, tab17, nil17, h1, hc, hc']
  | true =>
    have h3 := fun d => l4dec_v (x := x) d hq
    obtain ⟨ho, _, _, e1, e2, _⟩ := dyTok_t hq
    rw [ho] at h1
    have e1' : ¬ x.e < -100 := by omega
    have e2' : ¬ 1000 < x.e := by omega
    simp only [if_true]
    generalize dyTx x.neg x.n x.e = T at *
    rw [vrun_v Try.func17 rfl rfl rfl]; simp only [Try.f17]
    simp (implicitDefEqProofs := false) (disch := omega) [go_sem, tab17, nil17, h1, h3, e1', e2']
end
end
/- What the exact laws do beside: sizes and equality of whole numbers' lists, naturals, wholes, dyadics. No conditions. -/
section
open Num
section
variable {l a b : List Int} {left e : Int} {n : Bool}
theorem szIntS_v (d : Nat) (hl : l.length ≤ 9223372036854775807) (h0 : 0 ≤ left) (h1 : left ≤ 1048576) : ∃ r : Int, vrun Try.prog kn (d + 1) 116 [.ints .i64 l, .int .i64 left] [] = some (.int .i64 r, []) ∧ r ≤ left ∧ (0 ≤ r → l.length ≤ 1048576) := by
  by_cases h : left < l.length
  · refine ⟨-1, ?_, by omega, fun h => by omega⟩
    rw [vrun_v Try.func116 rfl rfl rfl]; simp only [Try.f116]
    simp (disch := omega) [go_sem, tab116]
  · refine ⟨left - l.length, ?_, by omega, fun h => by omega⟩
    rw [vrun_v Try.func116 rfl rfl rfl]; simp only [Try.f116]
    simp (disch := omega) [go_sem, tab116]
theorem szNat_v (d : Nat) (hl : l.length ≤ 9223372036854775807) (h0 : 0 ≤ left) (h1 : left ≤ 1048576) : ∃ r : Int, vrun Try.prog kn (d + 2) 78 [.agg [.ints .i64 l], .int .i64 left] [] = some (.int .i64 r, []) ∧ r ≤ left ∧ (0 ≤ r → l.length ≤ 1048576) := by
  obtain ⟨r, hr, h2, h3⟩ := szIntS_v d hl h0 h1
  by_cases h : r < 0
  · refine ⟨-1, ?_, by omega, fun h => by omega⟩
    rw [vrun_v Try.func78 rfl rfl rfl]; simp only [Try.f78]
    simp (disch := omega) [go_sem, tab78, hr]
  · refine ⟨r, ?_, by omega, h3⟩
    rw [vrun_v Try.func78 rfl rfl rfl]; simp only [Try.f78]
    simp (disch := omega) [go_sem, tab78, hr]
theorem szWhole_v (d : Nat) (hl : l.length ≤ 9223372036854775807) (h0 : 0 ≤ left) (h1 : left ≤ 1048576) : ∃ r : Int, vrun Try.prog kn (d + 3) 46 [.agg [.bool n, .ints .i64 l], .int .i64 left] [] = some (.int .i64 r, []) ∧ r ≤ left ∧ (0 ≤ r → l.length ≤ 1048576) := by
  obtain ⟨r, hr, h2, h3⟩ := szNat_v d hl h0 h1
  by_cases h : r < 0
  · refine ⟨-1, ?_, by omega, fun h => by omega⟩
    rw [vrun_v Try.func46 rfl rfl rfl]; simp only [Try.f46]
    simp (disch := omega) [go_sem, tab46, hr]
  · refine ⟨r, ?_, by omega, h3⟩
    rw [vrun_v Try.func46 rfl rfl rfl]; simp only [Try.f46]
    simp (disch := omega) [go_sem, tab46, hr]
theorem szDy_v (d : Nat) (hl : l.length ≤ 9223372036854775807) (h0 : 0 ≤ left) (h1 : left ≤ 1048576) : ∃ r : Int, vrun Try.prog kn (d + 4) 16 [.agg [.bool n, .ints .i64 l, .int .i64 e], .int .i64 left] [] = some (.int .i64 r, []) ∧ r ≤ left ∧ (0 ≤ r → l.length ≤ 1048576) := by
  obtain ⟨r, hr, h2, h3⟩ := szWhole_v (n := n) d hl h0 h1
  by_cases h : r < 0
  · refine ⟨-1, ?_, by omega, fun h => by omega⟩
    rw [vrun_v Try.func16 rfl rfl rfl]; simp only [Try.f16]
    simp (disch := omega) [go_sem, tab16, hr]
  · refine ⟨r, ?_, by omega, h3⟩
    rw [vrun_v Try.func16 rfl rfl rfl]; simp only [Try.f16]
    simp (disch := omega) [go_sem, tab16, hr]
def eqIS (a b : List Int) (j : Nat) : VE × VH := ([(0, some (.ints .i64 a)), (1, some (.ints .i64 b)), (5, some (.int .i64 j))], [])
theorem eqIntS_v (d : Nat) (ha : a.length < 1000000000) (hb : b.length < 1000000000) : vrun Try.prog kn (d + 1) 123 [.ints .i64 a, .ints .i64 b] [] = some (.bool (decide (a = b)), []) := by
  by_cases hl : ¬ a.length = b.length
  · have : ¬ a = b := fun h => hl (by rw [h])
    have h' : ¬ (a.length : Int) = b.length := by omega
    rw [vrun_v Try.func123 rfl rfl rfl]; simp only [Try.f123]
    simp (disch := omega) [go_sem, tab123, h', this, hl]
  rw [Decidable.not_not] at hl
  have key := vi_inv (n := kn.cf.rounds) (body := vCode Try.prog kn (vrun Try.prog kn d) 123 (loopAt Try.f123 0)) (fun j s => s = eqIS a b j ∧ a.take j = b.take j)
    (fun r => (r = some (.exit 0, (eqIS a b a.length).1 ++ [(14, some (.bool false))], []) ∧ a = b) ∨ (r = some (.ret, [(4, some (.bool false))], []) ∧ ¬ a = b)) a.length (by rw [k_cf, c_rounds]; omega)
    (fun j s hj hI => by
      obtain ⟨rfl, hI⟩ := hI
      have hja : a[j]? = some (gt a j) := by rw [gt]; simp [hj]
      have hjb : b[j]? = some (gt b j) := by rw [gt]; simp [show j < b.length by omega]
      by_cases hq : gt a j = gt b j
      · left
        refine ⟨eqIS a b (j + 1), ?_, rfl, ?_⟩
        · rw [round_v]; simp only [loopAt, nthC, bodyC, loops, List.nil_append, List.cons_append, List.append_nil, Try.f123, eqIS]
          simp (disch := omega) [go_sem, tab123, hq]
        · rw [List.take_add_one, List.take_add_one, hI, hja, hjb, hq]
      · right; intro m; right
        refine ⟨vi_ret ?_, fun h => hq (by rw [h])⟩
        rw [round_v]; simp only [loopAt, nthC, bodyC, loops, List.nil_append, List.cons_append, List.append_nil, Try.f123, eqIS]
        simp (disch := omega) [go_sem, tab123, hq])
    (fun s hI m => by
      obtain ⟨rfl, hI⟩ := hI
      left
      refine ⟨vi_exit ?_, by rwa [List.take_length, hl, List.take_length] at hI⟩
      rw [round_v]; simp only [loopAt, nthC, bodyC, loops, List.nil_append, List.cons_append, List.append_nil, Try.f123, eqIS]
      simp (disch := omega) [go_sem, tab123])
    (eqIS a b 0) ⟨rfl, by simp⟩
  rcases key with ⟨hv, hq⟩ | ⟨hv, hq⟩
  · rw [decide_eq_true hq]
    have hl0 := fun ks => loop_v (P := Try.prog) (K := kn) (ks := ks) hv
    simp only [loopAt, nthC, bodyC, loops, List.nil_append, List.cons_append, List.append_nil, Try.f123, eqIS, Int.natCast_zero, List.cons_append, List.nil_append] at hl0
    rw [vrun_v Try.func123 rfl rfl rfl]; simp only [Try.f123]
    simp (disch := omega) [go_sem, tab123, hl, hl0]
  · rw [decide_eq_false hq]
    have hl0 := fun ks => loop_v (P := Try.prog) (K := kn) (ks := ks) hv
    simp only [loopAt, nthC, bodyC, loops, List.nil_append, List.cons_append, List.append_nil, Try.f123, eqIS, Int.natCast_zero, List.cons_append, List.nil_append] at hl0
    rw [vrun_v Try.func123 rfl rfl rfl]; simp only [Try.f123]
    simp (disch := omega) [go_sem, tab123, hl, hl0]
theorem eqNat_v (d : Nat) (ha : a.length < 1000000000) (hb : b.length < 1000000000) : vrun Try.prog kn (d + 2) 94 [.agg [.ints .i64 a], .agg [.ints .i64 b]] [] = some (.bool (decide (a = b)), []) := by
  have h1 := fun d => eqIntS_v d ha hb
  by_cases h : a = b <;> simp only [h, decide_true, decide_false] at h1 ⊢
  all_goals
    rw [vrun_v Try.func94 rfl rfl rfl]; simp only [Try.f94]
    simp (disch := omega) [go_sem, tab94, h1]
theorem eqWhole_v (d : Nat) {n1 n2 : Bool} (ha : a.length < 1000000000) (hb : b.length < 1000000000) : vrun Try.prog kn (d + 3) 52 [.agg [.bool n1, .ints .i64 a], .agg [.bool n2, .ints .i64 b]] [] = some (.bool (decide (n1 = n2) && decide (a = b)), []) := by
  have h1 := fun d => eqNat_v d ha hb
  by_cases h : a = b <;> simp only [h, decide_true, decide_false, Bool.and_true, Bool.and_false] at h1 ⊢
  all_goals
    rw [vrun_v Try.func52 rfl rfl rfl]; simp only [Try.f52]
    cases n1 <;> cases n2 <;> simp (disch := omega) [go_sem, tab52, h1]
theorem eqDy_v (d : Nat) {n1 n2 : Bool} {e1 e2 : Int} (ha : a.length < 1000000000) (hb : b.length < 1000000000) : vrun Try.prog kn (d + 4) 21 [.agg [.bool n1, .ints .i64 a, .int .i64 e1], .agg [.bool n2, .ints .i64 b, .int .i64 e2]] [] = some (.bool (decide (n1 = n2) && decide (a = b) && decide (e1 = e2)), []) := by
  have h1 := fun d => eqWhole_v (n1 := n1) (n2 := n2) d ha hb
  cases hc : (decide (n1 = n2) && decide (a = b)) <;> rw [hc] at h1 <;> by_cases he : e1 = e2
  all_goals
    rw [vrun_v Try.func21 rfl rfl rfl]; simp only [Try.f21]
    simp (disch := omega) [go_sem, tab21, h1, he]
end
end
/- The exact laws copy an argument (each in memory of its own): lists, naturals, wholes, dyadics. No conditions. -/
section
open Num
section
variable {l : List Int}
def cpL (l : List Int) (j : Nat) : List Int := l.take j ++ List.replicate (l.length - j) 0
theorem cpL_len {j : Nat} (h : j ≤ l.length) : (cpL l j).length = l.length := by unfold cpL; simp; omega
theorem cpL_set {j : Nat} (h : j < l.length) : (cpL l j).set j (gt l j) = cpL l (j + 1) := by
  have hj : l[j]? = some (gt l j) := by rw [gt]; simp [h]
  unfold cpL
  rw [List.set_append_right _ _ (by simp; omega), List.take_add_one, hj, show l.length - j = (l.length - (j + 1)) + 1 by omega, List.replicate_succ]
  simp [show j - min j l.length = 0 by omega]
theorem cpL_end : cpL l l.length = l := by unfold cpL; simp
theorem cpL_0 : cpL l 0 = List.replicate l.length 0 := by unfold cpL; simp
def toIS (l : List Int) (j : Nat) : VE × VH := ([(0, some (.ints .i64 l)), (3, some (.sl 0 0 l.length 1)), (4, some (.int .i64 j))], [.ints true .i64 (cpL l j)])
theorem toI_r (d : Nat) {j : Nat} (hl : l.length < 1000000000) (hj : j < l.length) : vCode Try.prog kn (vrun Try.prog kn d) 118 (loopAt Try.f118 0) (toIS l j).1 (toIS l j).2 = some (.norm, toIS l (j + 1)) := by
  have h1 := cpL_len (l := l) (Nat.le_of_lt hj)
  rw [round_v]; simp only [loopAt, nthC, bodyC, loops, List.nil_append, List.cons_append, List.append_nil, Try.f118, toIS]
  simp (disch := omega) [go_sem, tab118, nil118, h1, cpL_set hj]
theorem toI_x (d : Nat) (hl : l.length < 1000000000) : vCode Try.prog kn (vrun Try.prog kn d) 118 (loopAt Try.f118 0) (toIS l l.length).1 (toIS l l.length).2 = some (.exit 0, (toIS l l.length).1 ++ [(11, some (.bool false))], (toIS l l.length).2) := by
  rw [round_v]; simp only [loopAt, nthC, bodyC, loops, List.nil_append, List.cons_append, List.append_nil, Try.f118, toIS]
  simp (disch := omega) [go_sem, tab118, nil118]
theorem toIntS_v (d : Nat) (hl : l.length < 1000000000) : vrun Try.prog kn (d + 1) 118 [.ints .i64 l] [] = some (.sl 0 0 l.length 1, [.ints true .i64 l]) := by
  have hl0 := fun ks => loop_v (P := Try.prog) (K := kn) (ks := ks) (vi_for (toIS l) l.length (n := kn.cf.rounds) (by rw [k_cf, c_rounds]; omega) (fun j hj => toI_r d hl hj) fun m => vi_exit (toI_x d hl))
  simp only [loopAt, nthC, bodyC, loops, List.nil_append, List.cons_append, List.append_nil, Try.f118, toIS, Int.natCast_zero, List.cons_append, List.nil_append, cpL_0, cpL_end] at hl0
  rw [vrun_v Try.func118 rfl rfl rfl]; simp only [Try.f118]
  simp (disch := omega) [go_sem, tab118, nil118, hl0]
theorem toNat_v (d : Nat) (hl : l.length < 1000000000) : vrun Try.prog kn (d + 2) 84 [.agg [.ints .i64 l]] [] = some (.agg [.sl 0 0 l.length 1], [.ints true .i64 l]) := by
  have h1 := fun d => toIntS_v d hl
  rw [vrun_v Try.func84 rfl rfl rfl]; simp only [Try.f84]
  simp (disch := omega) [go_sem, tab84, h1]
theorem toWhole_v (d : Nat) {n : Bool} (hl : l.length < 1000000000) : vrun Try.prog kn (d + 3) 49 [.agg [.bool n, .ints .i64 l]] [] = some (.agg [.bool n, .sl 0 0 l.length 1], [.ints true .i64 l]) := by
  have h1 := fun d => toNat_v d hl
  rw [vrun_v Try.func49 rfl rfl rfl]; simp only [Try.f49]
  simp (disch := omega) [go_sem, tab49, h1]
theorem toDy_v (d : Nat) {n : Bool} {e : Int} (hl : l.length < 1000000000) : vrun Try.prog kn (d + 4) 18 [.agg [.bool n, .ints .i64 l, .int .i64 e]] [] = some (.agg [.bool n, .sl 0 0 l.length 1, .int .i64 e], [.ints true .i64 l]) := by
  have h1 := fun d => toWhole_v (n := n) d hl
  rw [vrun_v Try.func18 rfl rfl rfl]; simp only [Try.f18]
  simp (disch := omega) [go_sem, tab18, h1]
end
end
/- The exact laws write marks into what they hold, and look whether the marks stand: lists, naturals, wholes, dyadics. No conditions. -/
section
open Num
section
variable {h : VH} {i : Nat} {l : List Int} {k : Int}
def mkL (l : List Int) (k : Int) (j : Nat) : List Int := iota k j ++ l.drop j
theorem mkL_len {j : Nat} (hj : j ≤ l.length) : (mkL l k j).length = l.length := by unfold mkL; rw [List.length_append, iota_len, List.length_drop]; omega
theorem mkL_set {j : Nat} (hj : j < l.length) : (mkL l k j).set j (k + j) = mkL l k (j + 1) := by
  unfold mkL
  rw [List.set_append_right _ _ (by rw [iota_len]; omega), iota_len, Nat.sub_self, List.drop_eq_getElem_cons hj, iota, List.append_assoc]; rfl
theorem mkL_end : mkL l k l.length = iota k l.length := by unfold mkL; simp
theorem mkL_0 : mkL l k 0 = l := by unfold mkL; simp [iota]
theorem set_self (hi : h[i]? = some (.ints true .i64 l)) : h.set i (.ints true .i64 l) = h := by
  obtain ⟨h1, h2⟩ := List.getElem?_eq_some_iff.1 hi
  rw [← h2]; exact List.set_getElem_self _
def mkS (h : VH) (i : Nat) (l : List Int) (k : Int) (j : Nat) : VE × VH := ([(0, some (.sl i 0 l.length 1)), (1, some (.int .i64 (k + j))), (5, some (.int .i64 j))], h.set i (.ints true .i64 (mkL l k j)))
theorem mkI_r (call : CallV) (hi : i < h.length) (hl : l.length < 100000000) (hk : 0 ≤ k) (hk' : k < 1000000000) {j : Nat} (hj : j < l.length) :
    vCode Try.prog kn call 124 (loopAt Try.f124 0) (mkS h i l k j).1 (mkS h i l k j).2 = some (.norm, mkS h i l k (j + 1)) := by
  have h1 := mkL_len (k := k) (Nat.le_of_lt hj)
  have h2 := mkL_set (k := k) hj
  have h3 : k + j + 1 = k + ((j + 1 : Nat) : Int) := by omega
  have hs : ∀ a : VO, (h.set i a)[i]? = some a := fun a => by simp [hi]
  rw [round_v]; simp only [loopAt, nthC, bodyC, loops, List.nil_append, List.cons_append, List.append_nil, Try.f124, mkS, ← h3, ← h2]
  simp (disch := omega) [go_sem, tab124, h1, hs, List.set_set]
theorem mkI_x (call : CallV) (hl : l.length < 100000000) :
    vCode Try.prog kn call 124 (loopAt Try.f124 0) (mkS h i l k l.length).1 (mkS h i l k l.length).2 = some (.exit 0, (mkS h i l k l.length).1 ++ [(9, some (.bool false))], (mkS h i l k l.length).2) := by
  rw [round_v]; simp only [loopAt, nthC, bodyC, loops, List.nil_append, List.cons_append, List.append_nil, Try.f124, mkS]
  simp (disch := omega) [go_sem, tab124]
theorem markIntS_v (d : Nat) (hi : h[i]? = some (.ints true .i64 l)) (hl : l.length < 100000000) (hk : 0 ≤ k) (hk' : k < 1000000000) :
    vrun Try.prog kn (d + 1) 124 [.sl i 0 l.length 1, .int .i64 k] h = some (.int .i64 (k + l.length), h.set i (.ints true .i64 (iota k l.length))) := by
  have hi' : i < h.length := (List.getElem?_eq_some_iff.1 hi).1
  have hl0 := fun ks => loop_v (P := Try.prog) (K := kn) (ks := ks) (vi_for (mkS h i l k) l.length (n := kn.cf.rounds) (by rw [k_cf, c_rounds]; omega) (fun j hj => mkI_r (vrun Try.prog kn d) hi' hl hk hk' hj) fun m => vi_exit (mkI_x _ hl))
  simp only [loopAt, nthC, bodyC, loops, List.nil_append, List.cons_append, List.append_nil, Try.f124, mkS, Int.natCast_zero, Int.add_zero, List.cons_append, List.nil_append, mkL_0, mkL_end, set_self hi] at hl0
  rw [vrun_v Try.func124 rfl rfl rfl]; simp only [Try.f124]
  simp (disch := omega) [go_sem, tab124, hl0]
theorem ge_app {n : Nat} {o : VO} (a : List VO) (hn : h[n]? = some o) : (h ++ a)[n]? = some o := by
  rw [List.getElem?_append_left (List.getElem?_eq_some_iff.1 hn).1]; exact hn
theorem set_app {n : Nat} {o : VO} (a : List VO) (q : VO) (hn : h[n]? = some o) : (h ++ a).set n q = h.set n q ++ a := List.set_append_left _ _ (List.getElem?_eq_some_iff.1 hn).1
theorem markNat_v (d : Nat) (hi : h[i]? = some (.ints true .i64 l)) (hl : l.length < 100000000) (hk : 0 ≤ k) (hk' : k < 1000000000) :
    vrun Try.prog kn (d + 2) 95 [.agg [.sl i 0 l.length 1], .int .i64 k] h = some (.int .i64 (k + l.length), h.set i (.ints true .i64 (iota k l.length)) ++ [.vals true [.sl i 0 l.length 1]]) := by
  have h1 := markIntS_v (h := h ++ [.vals true [.sl i 0 l.length 1]]) d (ge_app _ hi) hl hk hk'
  rw [set_app _ _ hi] at h1
  rw [vrun_v Try.func95 rfl rfl rfl]; simp only [Try.f95]
  simp (disch := omega) [go_sem, tab95, h1, List.getElem?_concat_length]
theorem markWhole_v (d : Nat) {n : Bool} (hi : h[i]? = some (.ints true .i64 l)) (hl : l.length < 100000000) (hk : 0 ≤ k) (hk' : k < 1000000000) :
    vrun Try.prog kn (d + 3) 53 [.agg [.bool n, .sl i 0 l.length 1], .int .i64 k] h = some (.int .i64 (k + l.length), h.set i (.ints true .i64 (iota k l.length)) ++ [.vals true [.bool n, .sl i 0 l.length 1], .vals true [.sl i 0 l.length 1]]) := by
  have h1 := markNat_v (h := h ++ [.vals true [.bool n, .sl i 0 l.length 1]]) d (ge_app _ hi) hl hk hk'
  rw [set_app _ _ hi, List.append_assoc] at h1
  rw [vrun_v Try.func53 rfl rfl rfl]; simp only [Try.f53]
  simp (disch := omega) [go_sem, tab53, h1, List.getElem?_concat_length]
theorem markDy_v (d : Nat) {n : Bool} {e : Int} (hi : h[i]? = some (.ints true .i64 l)) (hl : l.length < 100000000) (hk : 0 ≤ k) (hk' : k < 1000000000) :
    vrun Try.prog kn (d + 4) 22 [.agg [.bool n, .sl i 0 l.length 1, .int .i64 e], .int .i64 k] h = some (.int .i64 (k + l.length), h.set i (.ints true .i64 (iota k l.length)) ++ [.vals true [.bool n, .sl i 0 l.length 1, .int .i64 e], .vals true [.bool n, .sl i 0 l.length 1], .vals true [.sl i 0 l.length 1]]) := by
  have h1 := markWhole_v (n := n) (h := h ++ [.vals true [.bool n, .sl i 0 l.length 1, .int .i64 e]]) d (ge_app _ hi) hl hk hk'
  rw [set_app _ _ hi, List.append_assoc] at h1
  rw [vrun_v Try.func22 rfl rfl rfl]; simp only [Try.f22]
  simp (disch := omega) [go_sem, tab22, h1, List.getElem?_concat_length]
/-! ### as rules that read the heap -/
def mkStep (r : Option (V × VH)) (i m : Nat) (k : Int) (h : VH) (tail : List VO) : Option VO → Option (V × VH)
  | some (.ints true .i64 l) => if l.length = m ∧ l.length < 100000000 ∧ 0 ≤ k ∧ k < 1000000000 then some (.int .i64 (k + m), h.set i (.ints true .i64 (iota k m)) ++ tail) else r
  | _ => r
theorem mkStep_i (r : Option (V × VH)) (i m : Nat) (k : Int) (h : VH) (tail : List VO) (l : List Int) : mkStep r i m k h tail (some (.ints true .i64 l)) = if l.length = m ∧ l.length < 100000000 ∧ 0 ≤ k ∧ k < 1000000000 then some (.int .i64 (k + m), h.set i (.ints true .i64 (iota k m)) ++ tail) else r := rfl
theorem mkStep_of {r : Option (V × VH)} {i m : Nat} {k : Int} {h : VH} {tail : List VO} (hr : ∀ l, h[i]? = some (.ints true .i64 l) → l.length = m → l.length < 100000000 → 0 ≤ k → k < 1000000000 → r = some (.int .i64 (k + m), h.set i (.ints true .i64 (iota k m)) ++ tail)) : r = mkStep r i m k h tail h[i]? := by
  unfold mkStep
  split
  · rename_i l hl
    split
    · rename_i hc
      exact hr l hl hc.1 hc.2.1 hc.2.2.1 hc.2.2.2
    · rfl
  · rfl
noncomputable def xMarkIntS (d i m : Nat) (k : Int) (h : VH) := vrun Try.prog kn (d + 1) 124 [.sl i 0 m 1, .int .i64 k] h
noncomputable def xMarkNat (d i m : Nat) (k : Int) (h : VH) := vrun Try.prog kn (d + 2) 95 [.agg [.sl i 0 m 1], .int .i64 k] h
noncomputable def xMarkWhole (d : Nat) (n : Bool) (i m : Nat) (k : Int) (h : VH) := vrun Try.prog kn (d + 3) 53 [.agg [.bool n, .sl i 0 m 1], .int .i64 k] h
noncomputable def xMarkDy (d : Nat) (n : Bool) (i m : Nat) (e k : Int) (h : VH) := vrun Try.prog kn (d + 4) 22 [.agg [.bool n, .sl i 0 m 1, .int .i64 e], .int .i64 k] h
theorem markIntS_s (d i m : Nat) (k : Int) (h : VH) : vrun Try.prog kn (d + 1) 124 [.sl i 0 m 1, .int .i64 k] h = mkStep (xMarkIntS d i m k h) i m k h [] h[i]? :=
  mkStep_of (r := xMarkIntS d i m k h) fun l hi hm h1 h2 h3 => by subst hm; rw [List.append_nil]; exact markIntS_v d hi h1 h2 h3
theorem markNat_s (d i m : Nat) (k : Int) (h : VH) : vrun Try.prog kn (d + 2) 95 [.agg [.sl i 0 m 1], .int .i64 k] h = mkStep (xMarkNat d i m k h) i m k h [.vals true [.sl i 0 m 1]] h[i]? :=
  mkStep_of (r := xMarkNat d i m k h) fun l hi hm h1 h2 h3 => by subst hm; exact markNat_v d hi h1 h2 h3
theorem markWhole_s (d : Nat) (n : Bool) (i m : Nat) (k : Int) (h : VH) : vrun Try.prog kn (d + 3) 53 [.agg [.bool n, .sl i 0 m 1], .int .i64 k] h = mkStep (xMarkWhole d n i m k h) i m k h [.vals true [.bool n, .sl i 0 m 1], .vals true [.sl i 0 m 1]] h[i]? :=
  mkStep_of (r := xMarkWhole d n i m k h) fun l hi hm h1 h2 h3 => by subst hm; exact markWhole_v d hi h1 h2 h3
theorem markDy_s (d : Nat) (n : Bool) (i m : Nat) (e k : Int) (h : VH) : vrun Try.prog kn (d + 4) 22 [.agg [.bool n, .sl i 0 m 1, .int .i64 e], .int .i64 k] h = mkStep (xMarkDy d n i m e k h) i m k h [.vals true [.bool n, .sl i 0 m 1, .int .i64 e], .vals true [.bool n, .sl i 0 m 1], .vals true [.sl i 0 m 1]] h[i]? :=
  mkStep_of (r := xMarkDy d n i m e k h) fun l hi hm h1 h2 h3 => by subst hm; exact markDy_v d hi h1 h2 h3
end
section
variable {k : Int} {n : Nat}
def heS (k : Int) (n j : Nat) : VE × VH := ([(0, some (.ints .i64 (iota k n))), (1, some (.int .i64 (k + j))), (5, some (.int .i64 j))], [])
end
end
/- The exact laws copy, compare and mark lists of bytes. No conditions. -/
section
open Num
section
variable {l a b : List Int} {h : VH} {i : Nat} {k : Int}
def eqBS (a b : List Int) (j : Nat) : VE × VH := ([(0, some (.ints .u8 a)), (1, some (.ints .u8 b)), (5, some (.int .i64 j))], [])
theorem eqByteS_v (d : Nat) (ha : a.length < 1000000000) (hb : b.length < 1000000000) : vrun Try.prog kn (d + 1) 20 [.ints .u8 a, .ints .u8 b] [] = some (.bool (decide (a = b)), []) := by
  by_cases hl : ¬ a.length = b.length
  · have : ¬ a = b := fun h => hl (by rw [h])
    have h' : ¬ (a.length : Int) = b.length := by omega
    rw [vrun_v Try.func20 rfl rfl rfl]; simp only [Try.f20]
    simp (disch := omega) [go_sem, tab20, h', this, hl]
  rw [Decidable.not_not] at hl
  have key := vi_inv (n := kn.cf.rounds) (body := vCode Try.prog kn (vrun Try.prog kn d) 20 (loopAt Try.f20 0)) (fun j s => s = eqBS a b j ∧ a.take j = b.take j)
    (fun r => (r = some (.exit 0, (eqBS a b a.length).1 ++ [(14, some (.bool false))], []) ∧ a = b) ∨ (r = some (.ret, [(4, some (.bool false))], []) ∧ ¬ a = b)) a.length (by rw [k_cf, c_rounds]; omega)
    (fun j s hj hI => by
      obtain ⟨rfl, hI⟩ := hI
      have hja : a[j]? = some (gt a j) := by rw [gt]; simp [hj]
      have hjb : b[j]? = some (gt b j) := by rw [gt]; simp [show j < b.length by omega]
      by_cases hq : gt a j = gt b j
      · left
        refine ⟨eqBS a b (j + 1), ?_, rfl, ?_⟩
        · rw [round_v]; simp only [loopAt, nthC, bodyC, loops, List.nil_append, List.cons_append, List.append_nil, Try.f20, eqBS]
          simp (disch := omega) [go_sem, tab20, hq]
        · rw [List.take_add_one, List.take_add_one, hI, hja, hjb, hq]
      · right; intro m; right
        refine ⟨vi_ret ?_, fun h => hq (by rw [h])⟩
        rw [round_v]; simp only [loopAt, nthC, bodyC, loops, List.nil_append, List.cons_append, List.append_nil, Try.f20, eqBS]
        simp (disch := omega) [go_sem, tab20, hq])
    (fun s hI m => by
      obtain ⟨rfl, hI⟩ := hI
      left
      refine ⟨vi_exit ?_, by rwa [List.take_length, hl, List.take_length] at hI⟩
      rw [round_v]; simp only [loopAt, nthC, bodyC, loops, List.nil_append, List.cons_append, List.append_nil, Try.f20, eqBS]
      simp (disch := omega) [go_sem, tab20])
    (eqBS a b 0) ⟨rfl, by simp⟩
  rcases key with ⟨hv, hq⟩ | ⟨hv, hq⟩
  · rw [decide_eq_true hq]
    have hl0 := fun ks => loop_v (P := Try.prog) (K := kn) (ks := ks) hv
    simp only [loopAt, nthC, bodyC, loops, List.nil_append, List.cons_append, List.append_nil, Try.f20, eqBS, Int.natCast_zero, List.cons_append, List.nil_append] at hl0
    rw [vrun_v Try.func20 rfl rfl rfl]; simp only [Try.f20]
    simp (disch := omega) [go_sem, tab20, hl, hl0]
  · rw [decide_eq_false hq]
    have hl0 := fun ks => loop_v (P := Try.prog) (K := kn) (ks := ks) hv
    simp only [loopAt, nthC, bodyC, loops, List.nil_append, List.cons_append, List.append_nil, Try.f20, eqBS, Int.natCast_zero, List.cons_append, List.nil_append] at hl0
    rw [vrun_v Try.func20 rfl rfl rfl]; simp only [Try.f20]
    simp (disch := omega) [go_sem, tab20, hl, hl0]
def toBS (l : List Int) (j : Nat) : VE × VH := ([(0, some (.ints .u8 l)), (3, some (.sl 0 0 l.length 1)), (4, some (.int .i64 j))], [.ints true .u8 (cpL l j)])
def wiota (k : Int) (n : Nat) : List Int := (iota k n).map (IntKind.wrap .u8)
theorem wiota_len (k : Int) (n : Nat) : (wiota k n).length = n := by unfold wiota; simp [iota_len]
def mkLB (l : List Int) (k : Int) (j : Nat) : List Int := wiota k j ++ l.drop j
theorem mkLB_len {j : Nat} (hj : j ≤ l.length) : (mkLB l k j).length = l.length := by unfold mkLB; rw [List.length_append, wiota_len, List.length_drop]; omega
theorem mkLB_set {j : Nat} (hj : j < l.length) : (mkLB l k j).set j (IntKind.wrap .u8 (k + j)) = mkLB l k (j + 1) := by
  unfold mkLB
  rw [List.set_append_right _ _ (by rw [wiota_len]; omega), wiota_len, Nat.sub_self, List.drop_eq_getElem_cons hj]
  unfold wiota
  rw [iota, List.map_append, List.append_assoc]; rfl
theorem mkLB_end : mkLB l k l.length = wiota k l.length := by unfold mkLB; simp
theorem mkLB_0 : mkLB l k 0 = l := by unfold mkLB wiota; simp [iota]
theorem set_selfB (hi : h[i]? = some (.ints true .u8 l)) : h.set i (.ints true .u8 l) = h := by
  obtain ⟨h1, h2⟩ := List.getElem?_eq_some_iff.1 hi
  rw [← h2]; exact List.set_getElem_self _
def mkSB (h : VH) (i : Nat) (l : List Int) (k : Int) (j : Nat) : VE × VH := ([(0, some (.sl i 0 l.length 1)), (1, some (.int .i64 (k + j))), (5, some (.int .i64 j))], h.set i (.ints true .u8 (mkLB l k j)))
theorem mkB_r (call : CallV) (hi : i < h.length) (hl : l.length < 100000000) (hk : 0 ≤ k) (hk' : k < 1000000000) {j : Nat} (hj : j < l.length) :
    vCode Try.prog kn call 23 (loopAt Try.f23 0) (mkSB h i l k j).1 (mkSB h i l k j).2 = some (.norm, mkSB h i l k (j + 1)) := by
  have h1 := mkLB_len (k := k) (Nat.le_of_lt hj)
  have h2 := mkLB_set (k := k) hj
  have h3 : k + j + 1 = k + ((j + 1 : Nat) : Int) := by omega
  have hs : ∀ a : VO, (h.set i a)[i]? = some a := fun a => by simp [hi]
  rw [round_v]; simp only [loopAt, nthC, bodyC, loops, List.nil_append, List.cons_append, List.append_nil, Try.f23, mkSB, ← h3, ← h2]
  simp (disch := omega) [go_sem, tab23, h1, hs, List.set_set]
theorem mkB_x (call : CallV) (hl : l.length < 100000000) :
    vCode Try.prog kn call 23 (loopAt Try.f23 0) (mkSB h i l k l.length).1 (mkSB h i l k l.length).2 = some (.exit 0, (mkSB h i l k l.length).1 ++ [(9, some (.bool false))], (mkSB h i l k l.length).2) := by
  rw [round_v]; simp only [loopAt, nthC, bodyC, loops, List.nil_append, List.cons_append, List.append_nil, Try.f23, mkSB]
  simp (disch := omega) [go_sem, tab23]
theorem markByteS_v (d : Nat) (hi : h[i]? = some (.ints true .u8 l)) (hl : l.length < 100000000) (hk : 0 ≤ k) (hk' : k < 1000000000) :
    vrun Try.prog kn (d + 1) 23 [.sl i 0 l.length 1, .int .i64 k] h = some (.int .i64 (k + l.length), h.set i (.ints true .u8 (wiota k l.length))) := by
  have hi' : i < h.length := (List.getElem?_eq_some_iff.1 hi).1
  have hl0 := fun ks => loop_v (P := Try.prog) (K := kn) (ks := ks) (vi_for (mkSB h i l k) l.length (n := kn.cf.rounds) (by rw [k_cf, c_rounds]; omega) (fun j hj => mkB_r (vrun Try.prog kn d) hi' hl hk hk' hj) fun m => vi_exit (mkB_x _ hl))
  simp only [loopAt, nthC, bodyC, loops, List.nil_append, List.cons_append, List.append_nil, Try.f23, mkSB, Int.natCast_zero, Int.add_zero, List.cons_append, List.nil_append, mkLB_0, mkLB_end, set_selfB hi] at hl0
  rw [vrun_v Try.func23 rfl rfl rfl]; simp only [Try.f23]
  simp (disch := omega) [go_sem, tab23, hl0]
def mkStepB (r : Option (V × VH)) (i m : Nat) (k : Int) (h : VH) : Option VO → Option (V × VH)
  | some (.ints true .u8 l) => if l.length = m ∧ l.length < 100000000 ∧ 0 ≤ k ∧ k < 1000000000 then some (.int .i64 (k + m), h.set i (.ints true .u8 (wiota k m))) else r
  | _ => r
theorem mkStepB_i (r : Option (V × VH)) (i m : Nat) (k : Int) (h : VH) (l : List Int) : mkStepB r i m k h (some (.ints true .u8 l)) = if l.length = m ∧ l.length < 100000000 ∧ 0 ≤ k ∧ k < 1000000000 then some (.int .i64 (k + m), h.set i (.ints true .u8 (wiota k m))) else r := rfl
noncomputable def xMarkByteS (d i m : Nat) (k : Int) (h : VH) := vrun Try.prog kn (d + 1) 23 [.sl i 0 m 1, .int .i64 k] h
theorem markByteS_s (d i m : Nat) (k : Int) (h : VH) : vrun Try.prog kn (d + 1) 23 [.sl i 0 m 1, .int .i64 k] h = mkStepB (xMarkByteS d i m k h) i m k h h[i]? := by
  unfold mkStepB
  split
  · rename_i l hl
    split
    · rename_i hc
      obtain ⟨hm, h1, h2, h3⟩ := hc
      subst hm; exact markByteS_v d hl h1 h2 h3
    · rfl
  · rfl
end
end
/- The laws' types as values. No conditions. -/
section
open Go.Proofs Num
def DyT.row (x : DyT) : Prop := x.l.length ≤ 9223372036854775807 ∧ (∀ y ∈ x.l, (Lit.int .i64 y).wf = true) ∧ (Lit.int .i64 x.e).wf = true
def TInt (vs : List V) : Prop := ∃ x : Int, vs = [.int .i64 x] ∧ (Lit.int .i64 x).wf = true
def TBool (vs : List V) : Prop := ∃ x : Bool, vs = [.bool x]
def TInts (vs : List V) : Prop := ∃ l : List Int, vs = [.ints .i64 l] ∧ l.length ≤ 9223372036854775807 ∧ ∀ x ∈ l, (Lit.int .i64 x).wf = true
def TDys (vs : List V) : Prop := ∃ ds : List DyT, vs = [.cells 3 ds.length (flat DyT.v ds)] ∧ ds.length ≤ 9223372036854775807 ∧ ∀ x ∈ ds, x.row
theorem opInt : OpV Try.prog 3 1 TInt := OpV.int Try.underlying3 (by kernel_rfl)
theorem opBool : OpV Try.prog 4 1 TBool := OpV.bool Try.underlying4 (by kernel_rfl)
theorem opInts : OpV Try.prog 24 1 TInts := OpV.ints Try.underlying24 (by kernel_rfl) Try.underlying3 (by kernel_rfl)
theorem opBytes : OpV Try.prog 22 1 (fun vs => ∃ l : List Int, vs = [.ints .u8 l] ∧ l.length ≤ 9223372036854775807 ∧ ∀ x ∈ l, (Lit.int .u8 x).wf = true) := OpV.ints Try.underlying22 (by kernel_rfl) Try.underlying5 (by kernel_rfl)
theorem opNat : OpV Try.prog 37 1 TInts := OpV.struct1 Try.underlying37 (by kernel_rfl) rfl opInts
theorem opWhole : OpV Try.prog 39 2 (fun vs => ∃ (n : Bool) (l : List Int), vs = [.bool n, .ints .i64 l] ∧ l.length ≤ 9223372036854775807 ∧ ∀ x ∈ l, (Lit.int .i64 x).wf = true) :=
  (OpV.struct2 Try.underlying39 (by kernel_rfl) rfl rfl opBool opNat).imp fun vs ⟨_, _, e, ⟨n, e1⟩, ⟨l, e2, h1, h2⟩⟩ => ⟨n, l, by rw [e, e1, e2]; rfl, h1, h2⟩
theorem opDy : OpV Try.prog 41 3 (fun vs => ∃ x : DyT, vs = x.v ∧ x.row) :=
  (OpV.struct2 Try.underlying41 (by kernel_rfl) rfl rfl opWhole opInt).imp fun vs ⟨_, _, e, ⟨n, l, e1, h1, h2⟩, ⟨x, e2, h3⟩⟩ => ⟨⟨n, l, x⟩, by rw [e, e1, e2]; rfl, h1, h2, h3⟩
theorem opDys : OpV Try.prog 52 1 TDys := OpV.cells Try.underlying52 (by kernel_rfl) opDy (by omega)
theorem opMat : OpV Try.prog 54 2 (fun vs => ∃ (N : Int) (ds : List DyT), vs = [.int .i64 N, .cells 3 ds.length (flat DyT.v ds)] ∧ (Lit.int .i64 N).wf = true ∧ ds.length ≤ 9223372036854775807 ∧ ∀ x ∈ ds, x.row) :=
  (OpV.struct2 Try.underlying54 (by kernel_rfl) rfl rfl opInt opDys).imp fun vs ⟨_, _, e, ⟨n, e1, h1⟩, ⟨ds, e2, h2, h3⟩⟩ => ⟨n, ds, by rw [e, e1, e2]; rfl, h1, h2, h3⟩
end
end Go.Eng
