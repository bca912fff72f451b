/- DyRound, program and reference. No conditions. -/
import Derived.Test.YtnkhamahhgfbhaaDoorRnd1
set_option linter.unusedVariables false
set_option linter.unusedSimpArgs false
namespace Go.Eng
open Go.Proofs
set_option maxRecDepth 100000
set_option linter.unusedSimpArgs false
attribute [local go_sem] r_seq r_skip r_retC r_exitC r_label r_block r_region r_regionW r_xWt r_xW r_cond r_Bt r_Bf r_Ncode r_Nret r_Nexit r_Nblk r_Nblkr r_Nblke r_Nnil r_Es r_Onil r_Oop r_Oif r_Xs r_Gt r_Gf r_wtt r_wtf r_wft r_wff r_wu r_gO r_putS r_putN r_get r_keepN r_keepC r_fr r_fn r_fi r_ff r_fo r_l1 r_l2t r_cun r_cul r_cub r_cui r_cus r_cuis r_cuc r_cusl r_cuti r_cutv r_ven r_vec r_l2f r_l3 r_t1 r_t2 r_t0 r_rt r_rc r_en r_ec r_cM r_oN r_oC r_end r_endt r_endf r_nob0 r_nobN r_nobC r_nobE r_nb0 r_nbi r_nbs r_nbsl r_nbin r_nbce r_nLn r_nLv r_nLc r_nAa r_nAn r_nAk_b r_nAk_i r_nAk_s r_nAk_n r_nAk_is r_nAk_ce r_nAk_fp r_nAk_sl r_nAk_pt r_nAk_fn r_nsn r_nsv r_nsc r_m0 r_mi r_ms r_msl r_min r_mce r_mLn r_mLv r_mLc r_mAa r_mAn r_mAk_b r_mAk_i r_mAk_s r_mAk_n r_mAk_is r_mAk_ce r_mAk_fp r_mAk_sl r_mAk_pt r_mAk_fn r_msn r_msv r_msc r_atb r_ati r_ats r_atn r_atis r_atc r_atf r_atl r_atp r_atfn r_gcn r_gcc r_gLn r_gLc r_gIt r_ndn r_ndc r_gcB r_gLB r_two r_rea r_rea0 r_re1n r_re1c r_ori r_orv r_ord r_orn r_adn r_adc r_ad1 r_ern r_ers r_er0 r_rsl r_rptr r_rb r_ri r_rs r_rn r_ris r_rce r_rfp r_ra4 r_ra3 r_rt4 r_rf4 r_rf3 r_idS r_idc r_nS r_nP r_nF r_nT r_vsl r_vptr r_vb r_vi r_vs r_vn r_vis r_vce r_vfp r_va4 r_va3 r_vt4 r_vf4 r_vf3 r_rV r_Oi r_Ov r_Od r_rE r_rE0 r_En r_Ec r_E0 r_pO r_pk r_agL r_cO r_fO r_fSi r_fSv r_fPv r_fsl r_fptr r_ffn r_fag r_fb r_fint r_fstr r_fnil r_fis r_fce r_ffp r_res r_move r_assign r_pick r_pickt r_pickf r_alloc r_box r_al r_build r_bslice r_load r_store r_nlc r_nl1 r_nl2 r_bin r_un r_conv r_mkf r_mks r_slc r_fad r_fld r_iad r_idx r_ext r_ex1 r_callf r_callt r_callen r_calapp r_calmax r_calmin r_vt r_vcb r_vci r_vcs r_vcn r_vca r_vcf r_vcg r_ofb r_ofi r_ofs r_ofn r_evs r_pn r_prt r_pc r_one_a r_one_b r_one_i r_one_s r_one_n r_one_is r_one_ce r_one_fp r_one_sl r_one_pt r_one_fn r_cs_a r_cs_b r_cs_i r_cs_s r_cs_n r_cs_is r_cs_ce r_cs_fp r_cs_sl r_cs_pt r_cs_fn r_tov r_tovA r_toc r_toa r_tb r_ti r_ts r_tn r_bd r_bd2 r_filn r_fp1 r_filc r_fsn r_fsc r_san r_sac r_bs2 r_bs1 r_newO r_mkq r_mkI r_mkOi r_mkOv r_tIn r_tIc r_repz r_repn r_ldp r_ldf r_l1t r_l1f r_lFt r_lFf r_aggO r_obj r_at r_ati' r_atv r_celli r_cellv r_subi r_subv r_sto r_sto1 r_sto2 r_sets r_setR r_setn r_setc r_s1i r_s1v r_bin1 r_bin2 r_tv1 r_cb r_ci r_cst r_cn r_csl r_cis r_cce r_uni r_unb r_cv r_cvi r_cvs r_cvb r_cvl r_sO r_rdn r_rdi r_rdl r_rdO r_vsub r_vfn r_mk r_mk1 r_mk2 r_zoi r_zov r_leni r_lenv r_bn r_bndV r_bo r_sl0 r_sl1 r_vsz r_ct1 r_cts r_cti r_ctc r_ctn r_lnl r_lni r_lnc r_lnn r_fa r_fap r_faf r_fi1 r_fit r_fif r_ixi r_ixs r_ixc r_ixf r_ixF r_ixF2 r_ix1 r_ixsl r_ixin r_ixce r_len1 r_lenA r_lTs r_lTn r_lTl r_lTi r_lTc r_app0 r_app r_app1 r_app2 r_app3 r_catO r_cati r_catv r_newt r_newf r_pair r_pairK r_trip r_kis r_kiv r_srn r_srl r_sri r_src r_srs r_oln r_oll r_vw r_wi r_wv r_mm r_max r_min' r_str r_cF r_c2t r_c3f r_c3t r_ab r_c2f r_cV r_p1 r_la r_la2t r_la2f r_la3 r_sh r_z_is r_z_ce r_z_fp r_z_b r_z_i r_z_s r_z_n r_z_l r_z_p r_z_a4 r_z_a3 r_z_t4 r_zoI r_zoV r_roN r_roC r_roi r_rod r_zod r_rov r_aR r_trOi r_trOv r_trPv r_trl r_trp r_trf r_tra r_trb r_tri r_trs r_trn r_tris r_trce r_trfp
attribute [local go_sem] b_add b_sub b_mul b_quo b_rem b_shl b_shr b_eql b_neq b_lss b_leq b_gtr b_geq eqB_s b_eqB b_neB u_neg u_not b_nn b_nn' eqS_s zerosT_s zerosT_n zt_i zt_sl zt_st dstOf_z dstOf_n iltT iltF ileT ileF ieqT ieqF nltT nltF nleT nleF neqT neqF tdiv_pos tmod_pos w64 idx0 List.take_of_length_le
open Num
def rndOk (x : DyT) (low mode : Int) : Bool := dyOkB x && (decide (-3000 ≤ low) && decide (low ≤ 3000)) && (decide (0 ≤ mode) && decide (mode ≤ 4))
def rndSame (x : DyT) (low : Int) : Bool := decide (low ≤ x.e) || decide (x.n = 0)
def rndR (x : DyT) (low mode : Int) : DyT := if rndSame x low then x else mkD x.neg (qS x.neg x.n (low - x.e).toNat mode) low
def rndX (x : DyT) (low mode : Int) : DyT := if rndOk x low mode && dyFit (rndR x low mode) then rndR x low mode else zT
def rndF (x : DyT) (low mode : Int) : Bool := rndOk x low mode && dyFit (rndR x low mode)
def rndS (x : DyT) (low mode : Int) : Bool := rndOk x low mode && rndSame x low && dyFit (rndR x low mode)
theorem okOdd {x : DyT} (hx : dyOkB x = true) : x.n = 0 ∨ x.n % 2 = 1 := by
  obtain ⟨n, h1, h2, h3, h4, h5⟩ := (dyOkB_iff x).1 hx
  have : x.n = n := by unfold DyT.n; rw [h1, val_D]; rfl
  rw [this]; omega
theorem mkD_ok {x : DyT} (hx : dyOkB x = true) : mkD x.neg x.n x.e = x := by
  obtain ⟨e1, x1, x2, x3, x4⟩ := okD hx
  unfold mkD
  by_cases h0 : x.n = 0
  · rw [if_pos h0]
    obtain ⟨n, h1, h2, h3, h4, h5⟩ := (dyOkB_iff x).1 hx
    have hn : x.n = n := by unfold DyT.n; rw [h1, val_D]; rfl
    rcases h5 with ⟨_, h6, h7⟩ | h5
    · obtain ⟨xn, xl, xe⟩ := x
      simp only at h6 h7 e1 h0
      subst h6 h7
      rw [h0, D_zero] at e1
      rw [e1]
    · omega
  · rw [if_neg h0]
    have ho : x.n % 2 = 1 := by have := okOdd hx; omega
    have ht : tz x.n = 0 := tz_eq (o := x.n / 2) (by rw [Nat.pow_zero]; omega)
    rw [ht, Nat.pow_zero, Nat.div_one, ← e1]
    obtain ⟨xn, xl, xe⟩ := x
    simp
theorem okFit {x : DyT} (hx : dyOkB x = true) : dyFit x = true := by
  have := dyOkB_mkD (n := x.neg) (a := x.n) (e := x.e)
  rw [mkD_ok hx] at this
  rw [← this]; exact hx
theorem rndR_len {x : DyT} {low mode : Int} (hx : dyOkB x = true) : (rndR x low mode).l.length ≤ 102 := by
  obtain ⟨e1, x1, x2, x3, x4⟩ := okD hx
  unfold rndR
  cases rndSame x low
  · simp only [Bool.false_eq_true, if_false]
    have h1 := mkD_len (n := x.neg) (a := qS x.neg x.n (low - x.e).toNat mode) (e := low)
    have h2 : qS x.neg x.n (low - x.e).toNat mode ≤ x.n + 1 := by
      unfold qS
      have := Nat.div_le_self x.n (2 ^ (low - x.e).toNat)
      split <;> omega
    have h3 := len_D_mono h2
    have hl1 : (D 1).length ≤ 1 := len_small (by omega)
    have h4 := len_add (x := x.n) (y := 1) (n := 101) (by omega) (by omega)
    omega
  · simp only [if_true]; rw [e1]; omega
theorem qR_odd {n : Bool} {a k : Nat} {mode : Int} (ho : a % 2 = 1) (hk : 0 < k) : qR n a (2 ^ k) mode = qS n a k mode ∧ ¬ a % 2 ^ k = 0 := by
  have h : ¬ a % 2 ^ k = 0 := fun h => by
    have e : 2 ^ k = 2 * 2 ^ (k - 1) := by rw [← Nat.pow_succ']; congr 1; omega
    have := Nat.div_add_mod a (2 ^ k)
    rw [h, e, Nat.add_zero, Nat.mul_assoc] at this
    omega
  refine ⟨?_, h⟩
  unfold qR qS; rw [if_neg h]
section
variable {x : DyT} {low mode : Int}
set_option maxHeartbeats 4000000 in
theorem DyRound_v (d : Nat) (hx : x.sz) : vrun Tryd.prog kn (d + 10) 23 [.agg [.bool x.neg, .ints .i64 x.l, .int .i64 x.e], .int .i64 low, .int .i64 mode] [] = some (.tup [.agg [.bool (rndX x low mode).neg, .sl 0 0 (rndX x low mode).l.length 1, .int .i64 (rndX x low mode).e], .bool (rndS x low mode), .bool (rndF x low mode)], [.ints true .i64 (rndX x low mode).l]) := by
  unfold DyT.sz at hx
  have a1 := fun d => DyOk_v d x.neg (l := x.l) x.e (by omega)
  change ∀ d, _ = some (V.bool (dyOkB x), []) at a1
  have a2 := fun d => isLow_v (low := low) d
  have a3 := fun d => isMode_v (mode := mode) d
  cases hq : rndOk x low mode with
  | false =>
    have e1 : rndX x low mode = zT := by unfold rndX; rw [hq]; rfl
    have e2 : rndS x low mode = false := by unfold rndS; rw [hq]; rfl
    have e3 : rndF x low mode = false := by unfold rndF; rw [hq]; rfl
    rw [e1, e2, e3]
    unfold zT
    unfold rndOk at hq
    cases h1 : dyOkB x with
    | false =>
      rw [h1] at a1
      rw [vrun_v Tryd.func23 rfl rfl rfl]; simp only [Tryd.f23]
      simp (implicitDefEqProofs := false) (disch := omega) [go_sem, tab23, a1]
    | true =>
      rw [h1] at a1 hq
      cases h2 : (decide (-3000 ≤ low) && decide (low ≤ 3000)) with
      | false =>
        rw [h2] at a2
        rw [vrun_v Tryd.func23 rfl rfl rfl]; simp only [Tryd.f23]
        simp (implicitDefEqProofs := false) (disch := omega) [go_sem, tab23, a1, a2]
      | true =>
        rw [h2] at a2 hq
        have h3 : (decide (0 ≤ mode) && decide (mode ≤ 4)) = false := by simpa using hq
        rw [h3] at a3
        rw [vrun_v Tryd.func23 rfl rfl rfl]; simp only [Tryd.f23]
        simp (implicitDefEqProofs := false) (disch := omega) [go_sem, tab23, a1, a2, a3]
  | true =>
    have hq' := hq
    unfold rndOk at hq'
    rw [Bool.and_eq_true, Bool.and_eq_true] at hq'
    obtain ⟨⟨h1, h2⟩, h3⟩ := hq'
    have e1 : rndX x low mode = fitT (rndR x low mode) := by unfold rndX fitT; rw [hq, Bool.true_and]
    have e2 : rndS x low mode = (rndSame x low && dyFit (rndR x low mode)) := by unfold rndS; rw [hq, Bool.true_and]
    have e3 : rndF x low mode = dyFit (rndR x low mode) := by unfold rndF; rw [hq, Bool.true_and]
    rw [h1] at a1
    rw [h2] at a2
    rw [h3] at a3
    obtain ⟨b1, x1, x2, x3, x4⟩ := okD h1
    simp at h2 h3
    have c1 := fun l n e d => exactOf_v (n := n) (ex := e) d l
    have c2 := fun d => rounded_v (n := x.neg) (a := x.n) (ex := x.e) (low := low) (mode := mode) d (by omega) (by omega) (by omega) (by omega) (by omega)
    rw [← b1] at c2
    rw [e1, e2, e3]
    cases hs : rndSame x low with
    | true =>
      have hc : low ≤ x.e ∨ x.n = 0 := by unfold rndSame at hs; simpa using hs
      rw [if_pos hc] at c2
      have er : rndR x low mode = x := by unfold rndR; rw [hs]; rfl
      have c3 := fun d => dy_v (n := x.neg) (a := x.n) (e := x.e) d (by omega) (by omega) (by omega)
      rw [mkD_ok h1, ← b1] at c3
      rw [er]
      have hf := okFit h1
      unfold fitT at c3 ⊢
      rw [hf] at c3 ⊢
      simp only [if_true] at c3 ⊢
      rw [vrun_v Tryd.func23 rfl rfl rfl]; simp only [Tryd.f23]
      simp (implicitDefEqProofs := false) (disch := omega) [go_sem, tab23, a1, a2, a3, c1, c2, c3]
    | false =>
      have hc : ¬ (low ≤ x.e ∨ x.n = 0) := by unfold rndSame at hs; simpa using hs
      rw [if_neg hc] at c2
      have ho : x.n % 2 = 1 := by have := okOdd h1; omega
      obtain ⟨g1, g2⟩ := qR_odd (n := x.neg) (a := x.n) (k := (low - x.e).toNat) (mode := mode) ho (by omega)
      rw [g1, decide_eq_false g2] at c2
      have er : rndR x low mode = mkD x.neg (qS x.neg x.n (low - x.e).toNat mode) low := by unfold rndR; rw [hs]; rfl
      have hlen : (D (qS x.neg x.n (low - x.e).toNat mode)).length < 60000 := by
        have h2 : qS x.neg x.n (low - x.e).toNat mode ≤ x.n + 1 := by
          unfold qS
          have := Nat.div_le_self x.n (2 ^ (low - x.e).toNat)
          split <;> omega
        have h3 := len_D_mono h2
        have hl1 : (D 1).length ≤ 1 := len_small (by omega)
        have h4 := len_add (x := x.n) (y := 1) (n := 101) (by omega) (by omega)
        omega
      have c3 := fun d => dy_v (n := x.neg && decide (qS x.neg x.n (low - x.e).toNat mode ≠ 0)) (a := qS x.neg x.n (low - x.e).toNat mode) (e := low) d hlen (by omega) (by omega)
      rw [mkD_and, ← er] at c3
      generalize (x.neg && decide (qS x.neg x.n (low - x.e).toNat mode ≠ 0)) = s at *
      generalize fitT (rndR x low mode) = q at *
      generalize dyFit (rndR x low mode) = f at *
      generalize D (qS x.neg x.n (low - x.e).toNat mode) = Q at *
      rw [vrun_v Tryd.func23 rfl rfl rfl]; simp only [Tryd.f23]
      simp (implicitDefEqProofs := false) (disch := omega) [go_sem, tab23, a1, a2, a3, c1, c2, c3]
set_option maxHeartbeats 4000000 in
theorem sDyRound_v (d : Nat) (hx : x.sz) : vrun Tryd.prog kn (d + 6) 21 [.agg [.bool x.neg, .ints .i64 x.l, .int .i64 x.e], .int .i64 low, .int .i64 mode] [] = some (.tup [.agg [.bool (rndX x low mode).neg, .ints .i64 (rndX x low mode).l, .int .i64 (rndX x low mode).e], .bool (rndS x low mode), .bool (rndF x low mode)], []) := by
  unfold DyT.sz at hx
  have a1 := fun d => sDyOk_v d x.neg (l := x.l) x.e (by omega)
  change ∀ d, _ = some (V.bool (dyOkB x), []) at a1
  have a3 := fun d => l4mode_v (mode := mode) d
  cases hq : rndOk x low mode with
  | false =>
    have e1 : rndX x low mode = zT := by unfold rndX; rw [hq]; rfl
    have e2 : rndS x low mode = false := by unfold rndS; rw [hq]; rfl
    have e3 : rndF x low mode = false := by unfold rndF; rw [hq]; rfl
    rw [e1, e2, e3]
    unfold zT
    unfold rndOk at hq
    cases h1 : dyOkB x with
    | false =>
      rw [h1] at a1
      rw [vrun_v Tryd.func21 rfl rfl rfl]; simp only [Tryd.f21]
      simp (implicitDefEqProofs := false) (disch := omega) [go_sem, tab21, a1]
    | true =>
      rw [h1] at a1 hq
      by_cases q1 : low < -3000
      · rw [vrun_v Tryd.func21 rfl rfl rfl]; simp only [Tryd.f21]
        simp (implicitDefEqProofs := false) (disch := omega) [go_sem, tab21, a1, q1]
      · by_cases q2 : 3000 < low
        · rw [vrun_v Tryd.func21 rfl rfl rfl]; simp only [Tryd.f21]
          simp (implicitDefEqProofs := false) (disch := omega) [go_sem, tab21, a1, q1, q2]
        · have h3 : (decide (0 ≤ mode) && decide (mode ≤ 4)) = false := by
            rw [decide_eq_true (by omega : -3000 ≤ low), decide_eq_true (by omega : low ≤ 3000)] at hq
            simpa using hq
          rw [h3] at a3
          rw [vrun_v Tryd.func21 rfl rfl rfl]; simp only [Tryd.f21]
          simp (implicitDefEqProofs := false) (disch := omega) [go_sem, tab21, a1, a3, q1, q2]
  | true =>
    have hq' := hq
    unfold rndOk at hq'
    rw [Bool.and_eq_true, Bool.and_eq_true] at hq'
    obtain ⟨⟨h1, h2⟩, h3⟩ := hq'
    have e1 : rndX x low mode = fitT (rndR x low mode) := by unfold rndX fitT; rw [hq, Bool.true_and]
    have e2 : rndS x low mode = (rndSame x low && dyFit (rndR x low mode)) := by unfold rndS; rw [hq, Bool.true_and]
    have e3 : rndF x low mode = dyFit (rndR x low mode) := by unfold rndF; rw [hq, Bool.true_and]
    rw [h1] at a1
    rw [h3] at a3
    obtain ⟨b1, x1, x2, x3, x4⟩ := okD h1
    simp at h2 h3
    have c2 := fun d => l4round_v (n := x.neg) (a := x.n) (ex := x.e) (low := low) (mode := mode) d (by omega) (by omega) (by omega) (by omega) (by omega) (by omega) (by omega)
    rw [← b1] at c2
    have hok : dyOkB (rndR x low mode) = dyFit (rndR x low mode) := by
      unfold rndR
      cases rndSame x low
      · simp only [Bool.false_eq_true, if_false]; exact dyOkB_mkD
      · simp only [if_true]; rw [h1, okFit h1]
    have c3 := fun d => l4fits_v d (rndR x low mode) (by have := rndR_len (low := low) (mode := mode) h1; omega)
    rw [hok] at c3
    change ∀ d, _ = some (V.tup [V.agg (fitT (rndR x low mode)).v, V.bool (dyFit (rndR x low mode))], []) at c3
    rw [e1, e2, e3]
    have c2' : ∀ d, vrun Tryd.prog kn (d + 5) 47 [.agg [.bool x.neg, .ints .i64 x.l, .int .i64 x.e], .int .i64 low, .int .i64 mode] [] = some (.tup [.agg (rndR x low mode).v, .bool (rndSame x low)], []) := fun d => by
      rw [c2 d]
      unfold rndR
      cases hs : rndSame x low with
      | true =>
        have hc : low ≤ x.e ∨ x.n = 0 := by unfold rndSame at hs; simpa using hs
        rw [if_pos hc]; rfl
      | false =>
        have hc : ¬ (low ≤ x.e ∨ x.n = 0) := by unfold rndSame at hs; simpa using hs
        rw [if_neg hc]; rfl
    have hfl := fitT_len (rndR x low mode)
    cases hf : dyFit (rndR x low mode) with
    | false =>
      have ez : fitT (rndR x low mode) = zT := by unfold fitT; rw [hf]; rfl
      rw [hf, ez] at c3
      rw [ez]
      generalize rndR x low mode = r at *
      unfold zT DyT.v at *
      rw [vrun_v Tryd.func21 rfl rfl rfl]; simp only [Tryd.f21]
      simp (implicitDefEqProofs := false) (disch := omega) [go_sem, tab21, a1, a3, c2', c3, h2, h3]
    | true =>
      have ez : fitT (rndR x low mode) = rndR x low mode := by unfold fitT; rw [hf]; rfl
      rw [hf, ez] at c3
      rw [ez]
      have hd := okD (hok.trans hf)
      obtain ⟨d1, d2, d3, d4, d5⟩ := hd
      have c4 := fun d => l3make_v (n := (rndR x low mode).neg) (a := (rndR x low mode).n) d (by omega)
      have hng : ((rndR x low mode).neg && decide ((rndR x low mode).n ≠ 0)) = (rndR x low mode).neg := by
        by_cases h0 : (rndR x low mode).n = 0
        · rw [d5 h0]; rfl
        · simp [h0]
      rw [hng, ← d1] at c4
      generalize rndR x low mode = r at *
      unfold DyT.v at *
      rw [vrun_v Tryd.func21 rfl rfl rfl]; simp only [Tryd.f21]
      simp (implicitDefEqProofs := false) (disch := omega) [go_sem, tab21, a1, a3, c2', c3, c4, h2, h3]
end
end Go.Eng
