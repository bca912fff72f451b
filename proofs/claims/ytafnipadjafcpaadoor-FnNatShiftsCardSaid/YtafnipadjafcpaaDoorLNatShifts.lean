/- What the functions of this seat do, one after another, told by plain values. No conditions. -/
import Derived.Test.YtafnipadjafcpaaDoorSeat
import Derived.Test.YtafnipadjafcpaaDoorVb
import Derived.Test.YtafnipadjafcpaaDoorMNatShifts
set_option linter.unusedVariables false
set_option linter.unusedSimpArgs false
namespace Go.Eng
open Go.Proofs
set_option maxRecDepth 100000
set_option linter.unusedSimpArgs false
attribute [local go_sem] r_seq r_skip r_retC r_exitC r_label r_block r_region r_regionW r_xWt r_xW r_cond r_Bt r_Bf r_Ncode r_Nret r_Nexit r_Nblk r_Nblkr r_Nblke r_Nnil r_Es r_Onil r_Oop r_Oif r_Xs r_Gt r_Gf r_wtt r_wtf r_wft r_wff r_wu r_gO r_putS r_putN r_get r_keepN r_keepC r_fr r_fn r_fi r_ff r_fo r_l1 r_l2t r_cun r_cul r_cub r_cui r_cus r_cuis r_cuc r_cusl r_cuti r_cutv r_ven r_vec r_l2f r_l3 r_t1 r_t2 r_t0 r_rt r_rc r_en r_ec r_cM r_oN r_oC r_end r_endt r_endf r_nob0 r_nobN r_nobC r_nobE r_nb0 r_nbi r_nbs r_nbsl r_nbin r_nbce r_nLn r_nLv r_nLc r_nAa r_nAn r_nAk_b r_nAk_i r_nAk_s r_nAk_n r_nAk_is r_nAk_ce r_nAk_fp r_nAk_sl r_nAk_pt r_nAk_fn r_nsn r_nsv r_nsc r_m0 r_mi r_ms r_msl r_min r_mce r_mLn r_mLv r_mLc r_mAa r_mAn r_mAk_b r_mAk_i r_mAk_s r_mAk_n r_mAk_is r_mAk_ce r_mAk_fp r_mAk_sl r_mAk_pt r_mAk_fn r_msn r_msv r_msc r_atb r_ati r_ats r_atn r_atis r_atc r_atf r_atl r_atp r_atfn r_gcn r_gcc r_gLn r_gLc r_gIt r_ndn r_ndc r_gcB r_gLB r_two r_rea r_rea0 r_re1n r_re1c r_ori r_orv r_ord r_orn r_adn r_adc r_ad1 r_ern r_ers r_er0 r_rsl r_rptr r_rb r_ri r_rs r_rn r_ris r_rce r_rfp r_ra4 r_ra3 r_rt4 r_rf4 r_rf3 r_idS r_idc r_nS r_nP r_nF r_nT r_vsl r_vptr r_vb r_vi r_vs r_vn r_vis r_vce r_vfp r_va4 r_va3 r_vt4 r_vf4 r_vf3 r_rV r_Oi r_Ov r_Od r_rE r_rE0 r_En r_Ec r_E0 r_pO r_pk r_agL r_cO r_fO r_fSi r_fSv r_fPv r_fsl r_fptr r_ffn r_fag r_fb r_fint r_fstr r_fnil r_fis r_fce r_ffp r_res r_move r_assign r_pick r_pickt r_pickf r_alloc r_box r_al r_build r_bslice r_load r_store r_nlc r_nl1 r_nl2 r_bin r_un r_conv r_mkf r_mks r_slc r_fad r_fld r_iad r_idx r_ext r_ex1 r_callf r_callt r_callen r_calapp r_calmax r_calmin r_vt r_vcb r_vci r_vcs r_vcnp r_vcn r_vca r_vcf r_vcg r_ofb r_ofi r_ofs r_ofn r_evs r_pn r_prt r_pc r_one_a r_one_b r_one_i r_one_s r_one_n r_one_is r_one_ce r_one_fp r_one_sl r_one_pt r_one_fn r_cs_a r_cs_b r_cs_i r_cs_s r_cs_n r_cs_is r_cs_ce r_cs_fp r_cs_sl r_cs_pt r_cs_fn r_tov r_tovA r_toc r_toa r_tb r_ti r_ts r_tn r_bd r_bd2 r_filn r_fp1 r_filc r_fsn r_fsc r_san r_sac r_bs2 r_bs1 r_newO r_mkq r_mkI r_mkOi r_mkOv r_tIn r_tIc r_repz r_repn r_ldp r_ldf r_l1t r_l1f r_lFt r_lFf r_aggO r_obj r_at r_ati' r_atv r_celli r_cellv r_subi r_subv r_sto r_sto1 r_sto2 r_sets r_setR r_setn r_setc r_s1i r_s1v r_bin1 r_bin2 r_tv1 r_cb r_ci r_cst r_cn r_csl r_cis r_cce r_uni r_unb r_cv r_cvO r_cvN r_cv0 r_cvS r_wB r_cvi r_cvs r_cvb r_cvl r_sO r_rdn r_rdi r_rdl r_rdO r_vsub r_vfn r_mk r_mk1 r_mk2 r_zoi r_zov r_leni r_lenv r_bn r_bndV r_bo r_sl0 r_sl1 r_vsz r_ct1 r_cts r_cti r_ctc r_ctn r_lnl r_lni r_lnc r_lnn r_fa r_fap r_faf r_fi1 r_fit r_fif r_ixi r_ixs r_ixc r_ixf r_ixF r_ixF2 r_ix1 r_ixsl r_ixin r_ixce r_len1 r_lenA r_lTs r_lTn r_lTl r_lTi r_lTc r_app0 r_app r_app1 r_app2 r_app3 r_catO r_cati r_catv r_newt r_newf r_pair r_pairK r_trip r_kis r_kiv r_srn r_srl r_sri r_src r_srs r_oln r_oll r_vw r_wi r_wv r_mm r_max r_min' r_str r_cF r_c2t r_c3f r_c3t r_ab r_c2f r_cV r_p1 r_la r_la2t r_la2f r_la3 r_sh r_z_is r_z_ce r_z_fp r_z_b r_z_i r_z_s r_z_n r_z_l r_z_p r_z_a4 r_z_a3 r_z_t4 r_zoI r_zoV r_roN r_roC r_roi r_rod r_zod r_rov r_aR r_trOi r_trOv r_trPv r_trl r_trp r_trf r_tra r_trb r_tri r_trs r_trn r_tris r_trce r_trfp r_vJ r_vJs r_vJn
attribute [local go_sem] b_add b_sub b_mul b_quo b_rem b_shl b_shr b_eql b_neq b_lss b_leq b_gtr b_geq eqB_s b_eqB b_neB u_neg u_not b_nn b_nn' eqS_s zerosT_s zerosT_n zt_i zt_sl zt_st dstOf_z dstOf_n iltT iltF ileT ileF ieqT ieqF nltT nltF nleT nleF neqT neqF tdiv_pos tmod_pos w64 idx0 List.take_of_length_le
/- FnNatShifts: to shift is to multiply by a power of two, or to divide. No conditions. -/
section
open Num
section
variable {b : List Int}
def shL : List Int := [0, 1, 15, 16, 17, 33, 100, 1599, 1600, 1601, -1, 4611686018427387904]
set_option maxHeartbeats 2000000 in
theorem DrawNatShl_v (d : Nat) (hb : Cod b) : ∃ (x : List Int) (k : Int), vrun Tryd.prog kn (d + 7) 4 [.ints .u8 b] [] = some (.tup [.agg [.ints .i64 x], .int .i64 k], []) ∧ x.length ≤ 101 ∧ -9223372036854775808 ≤ k ∧ k ≤ 9223372036854775807 := by
  obtain ⟨s, e0⟩ := l1New_v (h := [.vals true [.nil]]) (d + 5) hb
  simp only [List.length_cons, List.length_nil, List.cons_append, List.nil_append] at e0
  have c0 : Cu b 1 [.vals true [.nil], cur b 0 s] := ⟨0, s, rfl, by omega, by omega⟩
  obtain ⟨x, k, g0, eb, hl, q0, f0, hk, hk0, hB⟩ := l2bent_v (d + 0) hb c0
  simp only [List.length_cons, List.length_nil] at hk
  obtain ⟨y, g1, e1, ym, q1, f1, l1⟩ := l1Pick_v (d + 3) hb (q0.app [.ints true .i64 shL]) (L := shL) (last_at _ _) (n := 12) rfl (by simp [shL]) (by simp [shL])
  have hk1 : g1[k]? = some (.ints true .i64 x) := f1.at (gap hk0 _) (by omega)
  have z0 : g0[0]? = some (.vals true [.nil]) := f0.at rfl (by omega)
  have z1 : g1[0]? = some (.vals true [.nil]) := f1.at (gap z0 _) (by omega)
  have zs : ∀ A, (g1.set 0 A)[0]? = some A := fun A => by have := (List.getElem?_eq_some_iff.1 z1).1; simp [this]
  have zk : ∀ A, (g1.set 0 A)[k]? = some (.ints true .i64 x) := fun A => by rw [List.getElem?_set_ne (by omega)]; exact hk1
  have yb : -9223372036854775808 ≤ y ∧ y ≤ 9223372036854775807 := by
    unfold shL at ym
    simp only [List.mem_cons, List.not_mem_nil, or_false] at ym
    omega
  unfold shL at e1
  refine ⟨x, y, ?_, hl, yb.1, yb.2⟩
  rw [vrun_v Tryd.func4 rfl rfl rfl]; simp only [Tryd.f4]
  simp (implicitDefEqProofs := false) (disch := omega) [go_sem, tab4, e0, eb, e1, z0, z1, zs, zk, hk0, hk1, last_at]
set_option maxHeartbeats 4000000 in
theorem FnNatShifts_v (d : Nat) (hb : b.length ≤ 140737488351232) (hw : ∀ x ∈ b, (Lit.int .u8 x).wf = true) : vrun Tryd.prog kn (d + 10) 3 [.ints .u8 b] [] = some (.bool true, []) := by
  have hc := cod_of hb hw
  obtain ⟨l, k, d1, hl, k0, k1⟩ := DrawNatShl_v (d + 2) hc
  have n1 := fun d => sNatOk_v (l := l) d (by omega)
  have l8 : (D 8).length ≤ 4 := len_small (by omega)
  have l2 : (D 2).length ≤ 4 := len_small (by omega)
  by_cases hbad : natOkB l = false ∨ (natOkB l = true ∧ k < 0) ∨ (natOkB l = true ∧ 1600 < k)
  · obtain ⟨f, s1, hf⟩ := NatShl_n (d + 1) (l := l) (j := k) (by omega) hbad
    have b8 := fun d => NatBits_v (x := 8) d (by omega)
    rw [show nb 8 = 4 from nb_uniq (k := 3) (by omega) (by omega)] at b8
    have a8 := fun d => nat_law (n := 8) d (by omega)
    simp only [show ((8 : Nat) : Int) = 8 from rfl, show ((4 : Nat) : Int) = 4 from rfl] at a8 b8
    generalize D 8 = E at *
    have hq : f = false ∨ (f = true ∧ l = []) := by
      cases f
      · exact .inl rfl
      · exact .inr ⟨rfl, hf rfl⟩
    clear hf
    rcases hbad with h | ⟨h, hj⟩ | ⟨h, hj⟩
    · rw [h] at n1
      rcases hq with rfl | ⟨rfl, rfl⟩
      all_goals
        rw [vrun_v Tryd.func3 rfl rfl rfl]; simp only [Tryd.f3]
        simp (implicitDefEqProofs := false) (disch := omega) [go_sem, tab3, d1, s1, n1, a8, b8]
    · rw [h] at n1
      rcases hq with rfl | ⟨rfl, rfl⟩
      all_goals
        rw [vrun_v Tryd.func3 rfl rfl rfl]; simp only [Tryd.f3]
        simp (implicitDefEqProofs := false) (disch := omega) [go_sem, tab3, d1, s1, n1, a8, b8, hj]
    · have hj0 : ¬ k < 0 := by omega
      rw [h] at n1
      rcases hq with rfl | ⟨rfl, rfl⟩
      all_goals
        rw [vrun_v Tryd.func3 rfl rfl rfl]; simp only [Tryd.f3]
        simp (implicitDefEqProofs := false) (disch := omega) [go_sem, tab3, d1, s1, n1, a8, b8, hj, hj0]
  · have ho : natOkB l = true := by
      cases h : natOkB l
      · exact absurd (.inl h) hbad
      · rfl
    have hk0 : 0 ≤ k := by
      rcases Int.lt_or_le k 0 with h | h
      · exact absurd (.inr (.inl ⟨ho, h⟩)) hbad
      · exact h
    have hk1 : k ≤ 1600 := by
      rcases Int.lt_or_le 1600 k with h | h
      · exact absurd (.inr (.inr ⟨ho, h⟩)) hbad
      · exact h
    clear hbad
    obtain ⟨j, rfl⟩ : ∃ j : Nat, k = j := ⟨k.toNat, by omega⟩
    obtain ⟨e, le⟩ := okN ho
    generalize nN l = n at *
    subst e
    rw [ho] at n1
    have s1 := fun d => NatShl_v (x := n) (k := j) d le (by omega)
    have s2 := fun d => NatShr_v (x := n) (k := j) d le (by omega)
    have p1 := fun d => NatPow2_v (k := j) d (by omega)
    have a2 := fun d => nat_law (n := 2) d (by omega)
    simp only [show ((2 : Nat) : Int) = 2 from rfl] at a2
    have lsh := fitL_len (D (n * 2 ^ j))
    have lsr := len_shr n j
    by_cases hj : j = 1600
    · have pf : decide (j ≤ 1599) = false := by simp; omega
      rw [pf] at p1
      have pl : pwL j = [] := by unfold pwL; rw [if_neg (by omega)]
      rw [pl] at p1
      generalize D (n / 2 ^ j) = R at *
      generalize fitL (D (n * 2 ^ j)) = S at *
      generalize decide ((D (n * 2 ^ j)).length ≤ 100) = F at *
      generalize D 2 = E at *
      have hj1 : (1600 : Int) ≤ j := by omega
      rw [vrun_v Tryd.func3 rfl rfl rfl]; simp only [Tryd.f3]
      simp (implicitDefEqProofs := false) (disch := omega) [go_sem, tab3, d1, s1, s2, n1, a2, p1, hj1]
    have pf : decide (j ≤ 1599) = true := by simp; omega
    rw [pf] at p1
    have lp := len_p2 (k := j) (by omega)
    have pl : pwL j = D (2 ^ j) := by unfold pwL; rw [if_pos (by omega)]
    rw [pl] at p1
    have hpp := Nat.two_pow_pos j
    have v1 := fun d => NatDiv_v (a := D n) (b := D (2 ^ j)) d (by omega) (by omega)
    have hF : ndF (D n) (D (2 ^ j)) = true := by
      unfold ndF
      rw [natOk_D le, natOk_D lp]
      simp only [Bool.true_and, decide_eq_true_eq]
      intro h0; have := D_nil_iff.1 h0; omega
    have hQ : ndQ (D n) (D (2 ^ j)) = D (n / 2 ^ j) := by unfold ndQ; rw [if_pos hF, nN_D, nN_D]
    have lq := ndQ_len (a := D n) (b := D (2 ^ j))
    rw [hF, hQ] at v1
    rw [hQ] at lq
    have q1 := fun d => sameNat_v (a := D (n / 2 ^ j)) (b := D (n / 2 ^ j)) d (by omega) (by omega)
    have m1 := fun d => NatMul_v (a := D n) (b := D (2 ^ j)) d (by omega) (by omega)
    have hN : nok (· * ·) (D n) (D (2 ^ j)) = decide ((D (n * 2 ^ j)).length ≤ 100) := by
      unfold nok; rw [natOk_D le, natOk_D lp, nN_D, nN_D]; rfl
    have hR : nres (· * ·) (D n) (D (2 ^ j)) = fitL (D (n * 2 ^ j)) := by
      unfold nres; rw [natOk_D le, natOk_D lp, nN_D, nN_D]; rfl
    rw [hN, hR] at m1
    have q2 := fun d => sameNat_v (a := fitL (D (n * 2 ^ j))) (b := fitL (D (n * 2 ^ j))) d (by omega) (by omega)
    have q3 := fun d => sameNat_v (a := D n) (b := D n) d (by omega) (by omega)
    simp only [decide_true] at q1 q2 q3
    generalize ndR (D n) (D (2 ^ j)) = R at *
    clear hF hQ hN hR pl pf
    by_cases hfit : (D (n * 2 ^ j)).length ≤ 100
    · have ef : fitL (D (n * 2 ^ j)) = D (n * 2 ^ j) := by unfold fitL; rw [if_pos hfit]
      rw [ef] at s1 m1 q2 lsh
      rw [decide_eq_true hfit] at s1 m1
      have r1 := fun d => NatShr_v (x := n * 2 ^ j) (k := j) d hfit (by omega)
      rw [Nat.mul_div_cancel _ hpp] at r1
      by_cases h0 : n = 0
      · subst h0
        rw [Nat.zero_mul, Nat.zero_div] at *
        rw [D_zero] at *
        generalize D (2 ^ j) = P at *
        generalize D 2 = E at *
        clear hb hw hc hfit ef
        rw [vrun_v Tryd.func3 rfl rfl rfl]; simp only [Tryd.f3]
        simp (implicitDefEqProofs := false) (disch := omega) [go_sem, tab3, d1, s1, s2, n1, a2, p1, v1, m1, q1, q2, q3, r1]
      · have g1 := fun d => NatBits_v (x := n * 2 ^ j) d hfit
        have g2 := fun d => NatBits_v (x := n) d le
        have g3 := fun d => NatTrail_v (x := n * 2 ^ j) d hfit
        have g4 := fun d => NatTrail_v (x := n) d le
        have g5 := fun d => NatBit_v (x := n * 2 ^ j) (k := j) d hfit (by omega)
        have g6 := fun d => NatBit_v (x := n) (k := 0) d le (by omega)
        rw [nb_shl h0] at g1
        rw [tz_shl h0] at g3
        rw [bit_shl] at g5
        simp only [show ((0 : Nat) : Int) = 0 from rfl, Int.natCast_add] at g1 g3 g6
        have hne : D n ≠ [] := fun e => h0 (D_nil_iff.1 e)
        have hp : 0 < (D n).length := List.length_pos_iff.2 hne
        have t1 := tz_lt h0
        have t2 := nb_lenS h0
        generalize nb n = N1 at *
        generalize tz n = T1 at *
        generalize ((n / 2 ^ 0 % 2 : Nat) : Int) = B1 at *
        generalize D (n * 2 ^ j) = M at *
        generalize D (n / 2 ^ j) = Q at *
        generalize D (2 ^ j) = P at *
        generalize D 2 = E at *
        generalize D n = A at *
        clear hb hw hc ef h0 hpp
        rw [vrun_v Tryd.func3 rfl rfl rfl]; simp only [Tryd.f3]
        simp (implicitDefEqProofs := false) (disch := omega) [go_sem, tab3, d1, s1, s2, n1, a2, p1, v1, m1, q1, q2, q3, r1, g1, g2, g3, g4, g5, g6, hne]
    · rw [decide_eq_false hfit] at s1 m1
      generalize fitL (D (n * 2 ^ j)) = M at *
      generalize D (n / 2 ^ j) = Q at *
      generalize D (2 ^ j) = P at *
      generalize D 2 = E at *
      clear hb hw hc hfit
      rw [vrun_v Tryd.func3 rfl rfl rfl]; simp only [Tryd.f3]
      simp (implicitDefEqProofs := false) (disch := omega) [go_sem, tab3, d1, s1, s2, n1, a2, p1, v1, m1, q1, q2, q3]
end
end
end Go.Eng
