/- What the functions of this seat do, one after another, told by plain values. No conditions. -/
import Derived.Test.YteojcbmelbohlaaSeat
import Derived.Test.YteojcbmelbohlaaVb
import Derived.Test.YteojcbmelbohlaaMNatRoots
set_option linter.unusedVariables false
set_option linter.unusedSimpArgs false
namespace Go.Eng
open Go.Proofs
set_option maxRecDepth 100000
set_option linter.unusedSimpArgs false
attribute [local go_sem] r_seq r_skip r_retC r_exitC r_label r_block r_region r_regionW r_xWt r_xW r_cond r_Bt r_Bf r_Ncode r_Nret r_Nexit r_Nblk r_Nblkr r_Nblke r_Nnil r_Es r_Onil r_Oop r_Oif r_Xs r_Gt r_Gf r_wtt r_wtf r_wft r_wff r_wu r_gO r_putS r_putN r_get r_keepN r_keepC r_fr r_fn r_fi r_ff r_fo r_l1 r_l2t r_cun r_cul r_cub r_cui r_cus r_cuis r_cuc r_cusl r_cuti r_cutv r_ven r_vec r_l2f r_l3 r_t1 r_t2 r_t0 r_rt r_rc r_en r_ec r_cM r_oN r_oC r_end r_endt r_endf r_nob0 r_nobN r_nobC r_nobE r_nb0 r_nbi r_nbs r_nbsl r_nbin r_nbce r_nLn r_nLv r_nLc r_nAa r_nAn r_nAk_b r_nAk_i r_nAk_s r_nAk_n r_nAk_is r_nAk_ce r_nAk_fp r_nAk_sl r_nAk_pt r_nAk_fn r_nsn r_nsv r_nsc r_m0 r_mi r_ms r_msl r_min r_mce r_mLn r_mLv r_mLc r_mAa r_mAn r_mAk_b r_mAk_i r_mAk_s r_mAk_n r_mAk_is r_mAk_ce r_mAk_fp r_mAk_sl r_mAk_pt r_mAk_fn r_msn r_msv r_msc r_atb r_ati r_ats r_atn r_atis r_atc r_atf r_atl r_atp r_atfn r_gcn r_gcc r_gLn r_gLc r_gIt r_ndn r_ndc r_gcB r_gLB r_two r_rea r_rea0 r_re1n r_re1c r_ori r_orv r_ord r_orn r_adn r_adc r_ad1 r_ern r_ers r_er0 r_rsl r_rptr r_rb r_ri r_rs r_rn r_ris r_rce r_rfp r_ra4 r_ra3 r_rt4 r_rf4 r_rf3 r_idS r_idc r_nS r_nP r_nF r_nT r_vsl r_vptr r_vb r_vi r_vs r_vn r_vis r_vce r_vfp r_va4 r_va3 r_vt4 r_vf4 r_vf3 r_rV r_Oi r_Ov r_Od r_rE r_rE0 r_En r_Ec r_E0 r_pO r_pk r_agL r_cO r_fO r_fSi r_fSv r_fPv r_fsl r_fptr r_ffn r_fag r_fb r_fint r_fstr r_fnil r_fis r_fce r_ffp r_res r_move r_assign r_pick r_pickt r_pickf r_alloc r_box r_al r_build r_bslice r_load r_store r_nlc r_nl1 r_nl2 r_bin r_un r_conv r_mkf r_mks r_slc r_fad r_fld r_iad r_idx r_ext r_ex1 r_callf r_callt r_callen r_calapp r_calmax r_calmin r_vt r_vcb r_vci r_vcs r_vcnp r_vcn r_vca r_vcf r_vcg r_ofb r_ofi r_ofs r_ofn r_evs r_pn r_prt r_pc r_one_a r_one_b r_one_i r_one_s r_one_n r_one_is r_one_ce r_one_fp r_one_sl r_one_pt r_one_fn r_cs_a r_cs_b r_cs_i r_cs_s r_cs_n r_cs_is r_cs_ce r_cs_fp r_cs_sl r_cs_pt r_cs_fn r_tov r_tovA r_toc r_toa r_tb r_ti r_ts r_tn r_bd r_bd2 r_filn r_fp1 r_filc r_fsn r_fsc r_san r_sac r_bs2 r_bs1 r_newO r_mkq r_mkI r_mkOi r_mkOv r_tIn r_tIc r_repz r_repn r_ldp r_ldf r_l1t r_l1f r_lFt r_lFf r_aggO r_obj r_at r_ati' r_atv r_celli r_cellv r_subi r_subv r_sto r_sto1 r_sto2 r_sets r_setR r_setn r_setc r_s1i r_s1v r_bin1 r_bin2 r_tv1 r_cb r_ci r_cst r_cn r_csl r_cis r_cce r_uni r_unb r_cv r_cvO r_cvN r_cv0 r_cvS r_wB r_cvi r_cvs r_cvb r_cvl r_sO r_rdn r_rdi r_rdl r_rdO r_vsub r_vfn r_mk r_mk1 r_mk2 r_zoi r_zov r_leni r_lenv r_bn r_bndV r_bo r_sl0 r_sl1 r_vsz r_ct1 r_cts r_cti r_ctc r_ctn r_lnl r_lni r_lnc r_lnn r_fa r_fap r_faf r_fi1 r_fit r_fif r_ixi r_ixs r_ixc r_ixf r_ixF r_ixF2 r_ix1 r_ixsl r_ixin r_ixce r_len1 r_lenA r_lTs r_lTn r_lTl r_lTi r_lTc r_app0 r_app r_app1 r_app2 r_app3 r_catO r_cati r_catv r_newt r_newf r_pair r_pairK r_trip r_kis r_kiv r_srn r_srl r_sri r_src r_srs r_oln r_oll r_vw r_wi r_wv r_mm r_max r_min' r_str r_cF r_c2t r_c3f r_c3t r_ab r_c2f r_cV r_p1 r_la r_la2t r_la2f r_la3 r_sh r_z_is r_z_ce r_z_fp r_z_b r_z_i r_z_s r_z_n r_z_l r_z_p r_z_a4 r_z_a3 r_z_t4 r_zoI r_zoV r_roN r_roC r_roi r_rod r_zod r_rov r_aR r_trOi r_trOv r_trPv r_trl r_trp r_trf r_tra r_trb r_tri r_trs r_trn r_tris r_trce r_trfp r_vJ r_vJs r_vJn
attribute [local go_sem] b_add b_sub b_mul b_quo b_rem b_shl b_shr b_eql b_neq b_lss b_leq b_gtr b_geq eqB_s b_eqB b_neB u_neg u_not b_nn b_nn' eqS_s zerosT_s zerosT_n zt_i zt_sl zt_st dstOf_z dstOf_n iltT iltF ileT ileF ieqT ieqF nltT nltF nleT nleF neqT neqF tdiv_pos tmod_pos w64 idx0 List.take_of_length_le
/- FnNatRoots: the root is the greatest whose square is not above. No conditions. -/
section
open Num
section
variable {b : List Int}
theorem DrawNatRoot_v (d : Nat) (hb : Cod b) : ∃ x : List Int, vrun Try.prog kn (d + 7) 46 [.ints .u8 b] [] = some (.agg [.ints .i64 x], []) ∧ x.length ≤ 5000 := by
  obtain ⟨s, e0⟩ := l1New_v (h := [.vals true [.nil]]) (d + 5) hb
  simp only [List.length_cons, List.length_nil, List.cons_append, List.nil_append] at e0
  have c0 : Cu b 1 [.vals true [.nil], cur b 0 s] := ⟨0, s, rfl, by omega, by omega⟩
  obtain ⟨x, k, g0, eb, hl, q0, f0, hk, hk0, -⟩ := l2bent_v (d + 0) hb c0
  simp only [List.length_cons, List.length_nil] at hk
  have z0 : g0[0]? = some (.vals true [.nil]) := f0.at rfl (by omega)
  have hkl := (List.getElem?_eq_some_iff.1 hk0).1
  have hset : ∀ (g : VH) (X Y : VO), (g ++ [X]).set g.length Y = g ++ [Y] := fun g X Y => by rw [List.set_append_right _ _ (Nat.le_refl _)]; simp
  obtain ⟨x1, g1, e1, q1, f1, l1⟩ := l1Once_v (d + 3) hb (q0.app [.vals true [.sl k 0 x.length 1]]) (n := 3) (by omega) (by omega)
  have h0 : g1[0]? = some (.vals true [.nil]) := f1.at (gap z0 _) (by omega)
  have hp : g1[g0.length]? = some (.vals true [.sl k 0 x.length 1]) := f1.at (last_at _ _) (by omega)
  have hk1 : g1[k]? = some (.ints true .i64 x) := f1.at (gap hk0 _) (by omega)
  have w1 : ¬ (0 = g0.length) := by omega
  have n1 := fun d => sNatOk_v (l := x) d (by omega)
  have zs : ∀ (G : VH) (A : VO), G[0]? = some (.vals true [.nil]) → (G.set 0 A)[0]? = some A := fun G A h => by have := (List.getElem?_eq_some_iff.1 h).1; simp [this]
  have p0 : ∀ M : VH, (g0 ++ M)[0]? = some (.vals true [.nil]) := gap z0
  have pk : ∀ M : VH, (g0 ++ M)[k]? = some (.ints true .i64 x) := gap hk0
  by_cases hok : natOkB x = true ∧ x.length < 6
  · obtain ⟨ho, h6⟩ := hok
    rw [ho] at n1
    obtain ⟨e, le⟩ := okN ho
    cases x1
    · have y0 := fun A => zs g1 A h0
      have yk : ∀ A, (g1.set 0 A)[k]? = some (.ints true .i64 x) := fun A => by rw [List.getElem?_set_ne (by omega)]; exact hk1
      refine ⟨x, ?_, by omega⟩
      clear hkl
      rw [vrun_v Try.func46 rfl rfl rfl]; simp only [Try.f46]
      simp (implicitDefEqProofs := false) (disch := omega) [go_sem, tab46, w1, e0, eb, e1, n1, hset, last_at, p0, pk, h0, hp, hk1, y0, yk]
    · have a1 := fun d => l2mul_v (x := nN x) (y := nN x) d (by omega) (by omega)
      rw [← e] at a1
      have hlm := len_mul (nN x) (nN x)
      have hrl := f1.1
      simp only [List.length_append, List.length_cons, List.length_nil] at hrl
      have m0 : ((g1.modify k VO.ro).modify k VO.ro)[0]? = some (.vals true [.nil]) := (mod_ne (by omega)).trans ((mod_ne (by omega)).trans h0)
      have m0' : (g1.modify k VO.ro)[0]? = some (.vals true [.nil]) := (mod_ne (by omega)).trans h0
      have y0 := fun A => zs _ A m0
      have y0' := fun A => zs _ A m0'
      refine ⟨D (nN x * nN x), ?_, by omega⟩
      generalize D (nN x * nN x) = P at *
      clear hkl e hrl
      rw [vrun_v Try.func46 rfl rfl rfl]; simp only [Try.f46]
      simp (implicitDefEqProofs := false) (disch := omega) [go_sem, tab46, w1, e0, eb, e1, n1, a1, hset, last_at, p0, pk, h0, hp, hk1, m0, m0', y0, y0']
  · have hcase : natOkB x = false ∨ (natOkB x = true ∧ ¬ x.length < 6) := by
      cases h : natOkB x
      · exact .inl rfl
      · exact .inr ⟨rfl, fun h' => hok ⟨h, h'⟩⟩
    have y0 := fun A => zs g0 A z0
    have yk : ∀ A (M : VH), (g0.set 0 A ++ M)[k]? = some (.ints true .i64 x) := fun A M => gap (by rw [List.getElem?_set_ne (by omega)]; exact hk0) M
    have yz : ∀ A (M : VH), (g0.set 0 A ++ M)[0]? = some A := fun A M => gap (y0 A) M
    have ys : ∀ A (M : VH), (g0 ++ M).set 0 A = g0.set 0 A ++ M := fun A M => List.set_append_left _ _ (by omega)
    refine ⟨x, ?_, by omega⟩
    clear hkl hok
    rcases hcase with h | ⟨h, h'⟩
    all_goals
      rw [h] at n1
      rw [vrun_v Try.func46 rfl rfl rfl]; simp only [Try.f46]
      simp (implicitDefEqProofs := false) (disch := omega) [go_sem, tab46, w1, e0, eb, n1, hset, last_at, p0, pk, y0, yk, yz, ys]
set_option maxHeartbeats 4000000 in
theorem FnNatRoots_v (d : Nat) (hb : b.length ≤ 140737488351232) (hw : ∀ x ∈ b, (Lit.int .u8 x).wf = true) : vrun Try.prog kn (d + 10) 7 [.ints .u8 b] [] = some (.bool true, []) := by
  have hc := cod_of hb hw
  obtain ⟨x, d1, hx⟩ := DrawNatRoot_v (d + 2) hc
  have a1 := fun d => NatRoot_v (l := x) d (by omega)
  have n1 := fun d => sNatOk_v (l := x) d (by omega)
  cases ho : natOkB x with
  | false =>
    have hr : nrR x = [] := by unfold nrR; rw [ho]; rfl
    rw [ho] at n1
    rw [hr] at a1
    have l10 : (D 10).length ≤ 4 := len_small (by omega)
    have l3 : (D 3).length ≤ 4 := len_small (by omega)
    have b1 := fun d => nat_law (n := 10) d (by omega)
    have b2 := fun d => nat_law (n := 3) d (by omega)
    simp only [show ((10 : Nat) : Int) = 10 from rfl, show ((3 : Nat) : Int) = 3 from rfl] at b1 b2
    have b3 := fun d => NatRoot_v (l := D 10) d (by omega)
    have e3 : nrR (D 10) = D 3 := by
      unfold nrR; rw [if_pos (natOk_D (by omega)), nN_D, ← rt_uniq (a := 10) (s := 3) (by omega) (by omega)]
    rw [e3] at b3
    have b4 := fun d => sameNat_v (a := D 3) (b := D 3) d (by omega) (by omega)
    simp only [decide_true] at b4
    clear e3 hr
    generalize D 10 = t at *
    generalize D 3 = u at *
    rw [vrun_v Try.func7 rfl rfl rfl]; simp only [Try.f7]
    simp (implicitDefEqProofs := false) (disch := omega) [go_sem, tab7, d1, a1, n1, b1, b2, b3, b4]
  | true =>
    obtain ⟨e, le⟩ := okN ho
    have hr : nrR x = D (rt (nN x)) := by unfold nrR; rw [if_pos ho]
    rw [ho] at n1
    rw [hr] at a1
    have q1 := rt_le (nN x)
    have q2 := rt_lt (nN x)
    have lr := Nat.le_trans (len_D_mono (rt_self (nN x))) le
    have lp := Nat.le_trans (len_D_mono q1) le
    have b1 := fun d => nat_law (n := 1) d (by omega)
    simp only [show ((1 : Nat) : Int) = 1 from rfl] at b1
    have l1 : (D 1).length ≤ 4 := len_small (by omega)
    have a2 := fun d => NatMul_v (a := D (rt (nN x))) (b := D (rt (nN x))) d (by omega) (by omega)
    have k2 : nok (· * ·) (D (rt (nN x))) (D (rt (nN x))) = true := by unfold nok; rw [natOk_D lr, nN_D]; simp; exact lp
    have r2 := (nres_t k2).2.2.1
    rw [nN_D] at r2
    rw [k2, r2] at a2
    have hs : (D (rt (nN x) + 1)).length ≤ 100 := by
      by_cases hz : rt (nN x) = 0
      · rw [hz, Nat.zero_add]; omega
      · by_cases h1 : rt (nN x) = 1
        · rw [h1]; exact Nat.le_trans (len_small (k := 4) (by omega)) (by omega)
        · have : rt (nN x) + 1 ≤ rt (nN x) * rt (nN x) := by
            have : rt (nN x) * 2 ≤ rt (nN x) * rt (nN x) := Nat.mul_le_mul_left _ (by omega)
            omega
          exact Nat.le_trans (len_D_mono this) lp
    have a3 := fun d => NatAdd_v (a := D (rt (nN x))) (b := D 1) d (by omega) (by omega)
    have k3 : nok (· + ·) (D (rt (nN x))) (D 1) = true := by unfold nok; rw [natOk_D lr, natOk_D (by omega), nN_D, nN_D]; simp; exact hs
    have r3 := (nres_t k3).2.2.1
    rw [nN_D, nN_D] at r3
    rw [k3, r3] at a3
    have a4 := fun d => NatMul_v (a := D (rt (nN x) + 1)) (b := D (rt (nN x) + 1)) d (by omega) (by omega)
    have a5 := fun d => NatCmp_v (a := D (rt (nN x) * rt (nN x))) (b := x) d (by omega) (by omega)
    have hc5 : ncmp (D (rt (nN x) * rt (nN x))) x ≤ 0 := by
      unfold ncmp; rw [natOk_D lp, ho, nN_D]
      simp only [Bool.and_self, if_true]
      unfold cmpI; split
      · omega
      · rw [if_pos (by omega)]; omega
    have hl4 := nres_len (op := (· * ·)) (a := D (rt (nN x) + 1)) (b := D (rt (nN x) + 1))
    have a6 := fun d => NatCmp_v (a := nres (· * ·) (D (rt (nN x) + 1)) (D (rt (nN x) + 1))) (b := x) d (by omega) (by omega)
    have hc6 : nok (· * ·) (D (rt (nN x) + 1)) (D (rt (nN x) + 1)) = true → 0 < ncmp (nres (· * ·) (D (rt (nN x) + 1)) (D (rt (nN x) + 1))) x := fun h => by
      obtain ⟨_, _, h3, h4⟩ := nres_t h
      rw [nN_D] at h3 h4
      unfold ncmp; rw [h3, natOk_D h4, ho, nN_D]
      simp only [Bool.and_self, if_true]
      unfold cmpI; rw [if_neg (by omega), if_neg (by omega)]; omega
    clear k2 r2 k3 r3 q1 q2 e hr
    generalize ncmp (D (rt (nN x) * rt (nN x))) x = c5 at *
    generalize ncmp (nres (· * ·) (D (rt (nN x) + 1)) (D (rt (nN x) + 1))) x = c6 at *
    generalize nres (· * ·) (D (rt (nN x) + 1)) (D (rt (nN x) + 1)) = q at *
    generalize nok (· * ·) (D (rt (nN x) + 1)) (D (rt (nN x) + 1)) = f at *
    have s1 : (D (rt (nN x) + (fun x => x) 1)) = D (rt (nN x) + 1) := rfl
    clear s1
    generalize D (rt (nN x) * rt (nN x)) = P at *
    generalize D (rt (nN x) + 1) = S at *
    generalize D (rt (nN x)) = R at *
    generalize D 1 = o at *
    cases f
    · rw [vrun_v Try.func7 rfl rfl rfl]; simp only [Try.f7]
      simp (implicitDefEqProofs := false) (disch := omega) [go_sem, tab7, d1, a1, n1, b1, a2, a3, a4, a5, hc5]
    · have hc6' := hc6 rfl
      rw [vrun_v Try.func7 rfl rfl rfl]; simp only [Try.f7]
      simp (implicitDefEqProofs := false) (disch := omega) [go_sem, tab7, d1, a1, n1, b1, a2, a3, a4, a5, a6, hc5, hc6']
end
end
end Go.Eng
