/- Dyadic numbers: products, sums, differences, program and reference. No conditions. -/
import Derived.Test.YtnkhamahhgfbhaaDoorEx2
set_option linter.unusedVariables false
set_option linter.unusedSimpArgs false
namespace Go.Eng
open Go.Proofs
set_option maxRecDepth 100000
set_option linter.unusedSimpArgs false
attribute [local go_sem] r_seq r_skip r_retC r_exitC r_label r_block r_region r_regionW r_xWt r_xW r_cond r_Bt r_Bf r_Ncode r_Nret r_Nexit r_Nblk r_Nblkr r_Nblke r_Nnil r_Es r_Onil r_Oop r_Oif r_Xs r_Gt r_Gf r_wtt r_wtf r_wft r_wff r_wu r_gO r_putS r_putN r_get r_keepN r_keepC r_fr r_fn r_fi r_ff r_fo r_l1 r_l2t r_cun r_cul r_cub r_cui r_cus r_cuis r_cuc r_cusl r_cuti r_cutv r_ven r_vec r_l2f r_l3 r_t1 r_t2 r_t0 r_rt r_rc r_en r_ec r_cM r_oN r_oC r_end r_endt r_endf r_nob0 r_nobN r_nobC r_nobE r_nb0 r_nbi r_nbs r_nbsl r_nbin r_nbce r_nLn r_nLv r_nLc r_nAa r_nAn r_nAk_b r_nAk_i r_nAk_s r_nAk_n r_nAk_is r_nAk_ce r_nAk_fp r_nAk_sl r_nAk_pt r_nAk_fn r_nsn r_nsv r_nsc r_m0 r_mi r_ms r_msl r_min r_mce r_mLn r_mLv r_mLc r_mAa r_mAn r_mAk_b r_mAk_i r_mAk_s r_mAk_n r_mAk_is r_mAk_ce r_mAk_fp r_mAk_sl r_mAk_pt r_mAk_fn r_msn r_msv r_msc r_atb r_ati r_ats r_atn r_atis r_atc r_atf r_atl r_atp r_atfn r_gcn r_gcc r_gLn r_gLc r_gIt r_ndn r_ndc r_gcB r_gLB r_two r_rea r_rea0 r_re1n r_re1c r_ori r_orv r_ord r_orn r_adn r_adc r_ad1 r_ern r_ers r_er0 r_rsl r_rptr r_rb r_ri r_rs r_rn r_ris r_rce r_rfp r_ra4 r_ra3 r_rt4 r_rf4 r_rf3 r_idS r_idc r_nS r_nP r_nF r_nT r_vsl r_vptr r_vb r_vi r_vs r_vn r_vis r_vce r_vfp r_va4 r_va3 r_vt4 r_vf4 r_vf3 r_rV r_Oi r_Ov r_Od r_rE r_rE0 r_En r_Ec r_E0 r_pO r_pk r_agL r_cO r_fO r_fSi r_fSv r_fPv r_fsl r_fptr r_ffn r_fag r_fb r_fint r_fstr r_fnil r_fis r_fce r_ffp r_res r_move r_assign r_pick r_pickt r_pickf r_alloc r_box r_al r_build r_bslice r_load r_store r_nlc r_nl1 r_nl2 r_bin r_un r_conv r_mkf r_mks r_slc r_fad r_fld r_iad r_idx r_ext r_ex1 r_callf r_callt r_callen r_calapp r_calmax r_calmin r_vt r_vcb r_vci r_vcs r_vcn r_vca r_vcf r_vcg r_ofb r_ofi r_ofs r_ofn r_evs r_pn r_prt r_pc r_one_a r_one_b r_one_i r_one_s r_one_n r_one_is r_one_ce r_one_fp r_one_sl r_one_pt r_one_fn r_cs_a r_cs_b r_cs_i r_cs_s r_cs_n r_cs_is r_cs_ce r_cs_fp r_cs_sl r_cs_pt r_cs_fn r_tov r_tovA r_toc r_toa r_tb r_ti r_ts r_tn r_bd r_bd2 r_filn r_fp1 r_filc r_fsn r_fsc r_san r_sac r_bs2 r_bs1 r_newO r_mkq r_mkI r_mkOi r_mkOv r_tIn r_tIc r_repz r_repn r_ldp r_ldf r_l1t r_l1f r_lFt r_lFf r_aggO r_obj r_at r_ati' r_atv r_celli r_cellv r_subi r_subv r_sto r_sto1 r_sto2 r_sets r_setR r_setn r_setc r_s1i r_s1v r_bin1 r_bin2 r_tv1 r_cb r_ci r_cst r_cn r_csl r_cis r_cce r_uni r_unb r_cv r_cvi r_cvs r_cvb r_cvl r_sO r_rdn r_rdi r_rdl r_rdO r_vsub r_vfn r_mk r_mk1 r_mk2 r_zoi r_zov r_leni r_lenv r_bn r_bndV r_bo r_sl0 r_sl1 r_vsz r_ct1 r_cts r_cti r_ctc r_ctn r_lnl r_lni r_lnc r_lnn r_fa r_fap r_faf r_fi1 r_fit r_fif r_ixi r_ixs r_ixc r_ixf r_ixF r_ixF2 r_ix1 r_ixsl r_ixin r_ixce r_len1 r_lenA r_lTs r_lTn r_lTl r_lTi r_lTc r_app0 r_app r_app1 r_app2 r_app3 r_catO r_cati r_catv r_newt r_newf r_pair r_pairK r_trip r_kis r_kiv r_srn r_srl r_sri r_src r_srs r_oln r_oll r_vw r_wi r_wv r_mm r_max r_min' r_str r_cF r_c2t r_c3f r_c3t r_ab r_c2f r_cV r_p1 r_la r_la2t r_la2f r_la3 r_sh r_z_is r_z_ce r_z_fp r_z_b r_z_i r_z_s r_z_n r_z_l r_z_p r_z_a4 r_z_a3 r_z_t4 r_zoI r_zoV r_roN r_roC r_roi r_rod r_zod r_rov r_aR r_trOi r_trOv r_trPv r_trl r_trp r_trf r_tra r_trb r_tri r_trs r_trn r_tris r_trce r_trfp
attribute [local go_sem] b_add b_sub b_mul b_quo b_rem b_shl b_shr b_eql b_neq b_lss b_leq b_gtr b_geq eqB_s b_eqB b_neB u_neg u_not b_nn b_nn' eqS_s zerosT_s zerosT_n zt_i zt_sl zt_st dstOf_z dstOf_n iltT iltF ileT ileF ieqT ieqF nltT nltF nleT nleF neqT neqF tdiv_pos tmod_pos w64 idx0 List.take_of_length_le
open Num
def mulR (x y : DyT) : DyT := mkD (x.neg != y.neg) (x.n * y.n) (x.e + y.e)
def addR (x y : DyT) : DyT := mkD (ssN x.neg (alA x.n x.e y.n y.e) y.neg (alB x.n x.e y.n y.e)) (ssV x.neg (alA x.n x.e y.n y.e) y.neg (alB x.n x.e y.n y.e)) (alE x.n x.e y.n y.e)
def negT (y : DyT) : DyT := ⟨!y.neg && decide (y.n ≠ 0), y.l, y.e⟩
def subR (x y : DyT) : DyT := addR x (negT y)
/-- What an operation answers. -/
def res2 (R : DyT → DyT → DyT) (x y : DyT) : DyT := if dyOkB x && dyOkB y && dyFit (R x y) then R x y else zT
def ok2 (R : DyT → DyT → DyT) (x y : DyT) : Bool := dyOkB x && dyOkB y && dyFit (R x y)
theorem res2_ok {R : DyT → DyT → DyT} {x y : DyT} (h : dyOkB x = true) (h' : dyOkB y = true) : res2 R x y = fitT (R x y) ∧ ok2 R x y = dyFit (R x y) := by
  unfold res2 ok2 fitT; rw [h, h']; simp
theorem res2_no {R : DyT → DyT → DyT} {x y : DyT} (h : (dyOkB x && dyOkB y) = false) : res2 R x y = zT ∧ ok2 R x y = false := by
  unfold res2 ok2; rw [h]; simp
theorem fitT_len (r : DyT) : (fitT r).l.length ≤ 100 := by
  unfold fitT
  cases h : dyFit r with
  | false => simp [zT]
  | true => unfold dyFit at h; simp at h; simp only [if_true]; omega
theorem res2_len {R : DyT → DyT → DyT} {x y : DyT} : (res2 R x y).l.length ≤ 100 := by
  cases h : (dyOkB x && dyOkB y) with
  | false => rw [(res2_no h).1]; simp [zT]
  | true => rw [Bool.and_eq_true] at h; rw [(res2_ok h.1 h.2).1]; exact fitT_len _
/-- A valid one, whole. -/
theorem okD {x : DyT} (hx : dyOkB x = true) : x.l = D x.n ∧ (D x.n).length ≤ 100 ∧ -3000 ≤ x.e ∧ x.e ≤ 3000 ∧ (x.n = 0 → x.neg = false) := by
  obtain ⟨n, h1, h2, h3, h4, h5⟩ := (dyOkB_iff x).1 hx
  have : x.n = n := by unfold DyT.n; rw [h1, val_D]; rfl
  rw [this]
  refine ⟨h1, by omega, by omega, by omega, fun h => ?_⟩
  rcases h5 with ⟨_, h, _⟩ | h5
  · exact h
  · omega
section
variable {x y : DyT}
theorem neg_dbl {b : Nat} {m : Bool} (h : b = 0 → m = false) : (!(!m && decide (b ≠ 0)) && decide (b ≠ 0)) = m := by
  by_cases h0 : b = 0
  · rw [h h0]; simp [h0]
  · cases m <;> simp [h0]
theorem al_small {a b : Nat} {ex ey : Int} (ha : (D a).length ≤ 100) (hb : (D b).length ≤ 100) (he : -3000 ≤ ex) (he' : ex ≤ 3000) (hf : -3000 ≤ ey) (hf' : ey ≤ 3000) : (D (alA a ex b ey)).length < 1000 ∧ (D (alB a ex b ey)).length < 1000 ∧ -3000 ≤ alE a ex b ey ∧ alE a ex b ey ≤ 3000 := by
  have q1 : -3000 ≤ alE a ex b ey ∧ alE a ex b ey ≤ 3000 := by unfold alE; split <;> (try split) <;> (try split) <;> omega
  have h1 := len_shl a (ex - alE a ex b ey).toNat
  have h2 := len_shl b (ey - alE a ex b ey).toNat
  unfold alA alB
  omega
theorem DyMul_v (d : Nat) (hx : x.sz) (hy : y.sz) : vrun Tryd.prog kn (d + 15) 12 [.agg [.bool x.neg, .ints .i64 x.l, .int .i64 x.e], .agg [.bool y.neg, .ints .i64 y.l, .int .i64 y.e]] [] = some (.tup [.agg [.bool (res2 mulR x y).neg, .sl 0 0 (res2 mulR x y).l.length 1, .int .i64 (res2 mulR x y).e], .bool (ok2 mulR x y)], [.ints true .i64 (res2 mulR x y).l]) := by
  have a1 := fun d => areDys2_v d x.neg y.neg x.e y.e hx hy
  change ∀ d, _ = some (V.bool (dyOkB x && dyOkB y), []) at a1
  cases hq : dyOkB x && dyOkB y with
  | false =>
    rw [hq] at a1
    rw [(res2_no (R := mulR) hq).1, (res2_no (R := mulR) hq).2]
    unfold zT
    rw [vrun_v Tryd.func12 rfl rfl rfl]; simp only [Tryd.f12]
    simp (disch := omega) [go_sem, tab12, a1]
  | true =>
    rw [hq] at a1
    rw [Bool.and_eq_true] at hq
    rw [(res2_ok (R := mulR) hq.1 hq.2).1, (res2_ok (R := mulR) hq.1 hq.2).2]
    obtain ⟨e1, x1, x2, x3, x4⟩ := okD hq.1
    obtain ⟨e2, y1, y2, y3, y4⟩ := okD hq.2
    have h1 := fun l n e d => exactOf_v (n := n) (ex := e) d l
    have h2 := fun d => times_e (n := x.neg) (m := y.neg) (a := x.n) (b := y.n) (ex := x.e) (ey := y.e) d (by omega) (by omega) (by omega) (by omega) (by omega) (by omega)
    rw [← e1, ← e2] at h2
    have hl := len_mul x.n y.n
    have h3 := fun d => dy_v (n := (x.neg != y.neg) && decide (x.n * y.n ≠ 0)) (a := x.n * y.n) (e := x.e + y.e) d (by omega) (by omega) (by omega)
    rw [mkD_and] at h3
    change ∀ d, _ = some (V.tup [V.agg [V.bool (fitT (mulR x y)).neg, V.sl 0 0 (fitT (mulR x y)).l.length 1, V.int .i64 (fitT (mulR x y)).e], V.bool (dyFit (mulR x y))], [VO.ints true .i64 (fitT (mulR x y)).l]) at h3
    generalize ((x.neg != y.neg) && decide (x.n * y.n ≠ 0)) = s at *
    generalize D (x.n * y.n) = P at *
    generalize fitT (mulR x y) = q at *
    generalize dyFit (mulR x y) = f at *
    rw [vrun_v Tryd.func12 rfl rfl rfl]; simp only [Tryd.f12]
    simp (disch := omega) [go_sem, tab12, a1, h1, h2, h3]
theorem sDyMul_v (d : Nat) (hx : x.sz) (hy : y.sz) : vrun Tryd.prog kn (d + 6) 27 [.agg [.bool x.neg, .ints .i64 x.l, .int .i64 x.e], .agg [.bool y.neg, .ints .i64 y.l, .int .i64 y.e]] [] = some (.tup [.agg [.bool (res2 mulR x y).neg, .ints .i64 (res2 mulR x y).l, .int .i64 (res2 mulR x y).e], .bool (ok2 mulR x y)], []) := by
  unfold DyT.sz at hx hy
  have a1 := fun d => sDyOk_v d x.neg (l := x.l) x.e (by omega)
  change ∀ d, _ = some (V.bool (dyOkB x), []) at a1
  have a2 := fun d => sDyOk_v d y.neg (l := y.l) y.e (by omega)
  change ∀ d, _ = some (V.bool (dyOkB y), []) at a2
  cases hq : dyOkB x with
  | false =>
    rw [hq] at a1
    rw [(res2_no (R := mulR) (by rw [hq]; rfl)).1, (res2_no (R := mulR) (by rw [hq]; rfl)).2]
    unfold zT
    rw [vrun_v Tryd.func27 rfl rfl rfl]; simp only [Tryd.f27]
    simp (disch := omega) [go_sem, tab27, a1]
  | true =>
  cases hr : dyOkB y with
  | false =>
    rw [hq] at a1
    rw [hr] at a2
    rw [(res2_no (R := mulR) (by rw [hq, hr]; rfl)).1, (res2_no (R := mulR) (by rw [hq, hr]; rfl)).2]
    unfold zT
    rw [vrun_v Tryd.func27 rfl rfl rfl]; simp only [Tryd.f27]
    simp (disch := omega) [go_sem, tab27, a1, a2]
  | true =>
    rw [hq] at a1
    rw [hr] at a2
    rw [(res2_ok (R := mulR) hq hr).1, (res2_ok (R := mulR) hq hr).2]
    obtain ⟨e1, x1, x2, x3, x4⟩ := okD hq
    obtain ⟨e2, y1, y2, y3, y4⟩ := okD hr
    have hl := len_mul x.n y.n
    have h2 := fun d => l4mul_v (n := x.neg) (m := y.neg) (a := x.n) (b := y.n) (ex := x.e) (ey := y.e) d (by omega) (by omega) (by omega) (by omega) (by omega) (by omega)
    rw [← e1, ← e2] at h2
    change ∀ d, _ = some (V.agg (mulR x y).v, []) at h2
    have h3 := fun d => l4fits_v d (mulR x y) (by have := mkD_len (n := x.neg != y.neg) (a := x.n * y.n) (e := x.e + y.e); unfold mulR; omega)
    have hfit : dyOkB (mulR x y) = dyFit (mulR x y) := dyOkB_mkD
    rw [hfit] at h3
    change ∀ d, _ = some (V.tup [V.agg (fitT (mulR x y)).v, V.bool (dyFit (mulR x y))], []) at h3
    generalize fitT (mulR x y) = q at *
    generalize dyFit (mulR x y) = f at *
    generalize mulR x y = r at *
    unfold DyT.v at *
    rw [vrun_v Tryd.func27 rfl rfl rfl]; simp only [Tryd.f27]
    simp (disch := omega) [go_sem, tab27, a1, a2, h2, h3]
theorem DyAdd_v (d : Nat) (hx : x.sz) (hy : y.sz) : vrun Tryd.prog kn (d + 15) 11 [.agg [.bool x.neg, .ints .i64 x.l, .int .i64 x.e], .agg [.bool y.neg, .ints .i64 y.l, .int .i64 y.e]] [] = some (.tup [.agg [.bool (res2 addR x y).neg, .sl 0 0 (res2 addR x y).l.length 1, .int .i64 (res2 addR x y).e], .bool (ok2 addR x y)], [.ints true .i64 (res2 addR x y).l]) := by
  have a1 := fun d => areDys2_v d x.neg y.neg x.e y.e hx hy
  change ∀ d, _ = some (V.bool (dyOkB x && dyOkB y), []) at a1
  cases hq : dyOkB x && dyOkB y with
  | false =>
    rw [hq] at a1
    rw [(res2_no (R := addR) hq).1, (res2_no (R := addR) hq).2]
    unfold zT
    rw [vrun_v Tryd.func11 rfl rfl rfl]; simp only [Tryd.f11]
    simp (disch := omega) [go_sem, tab11, a1]
  | true =>
    rw [hq] at a1
    rw [Bool.and_eq_true] at hq
    rw [(res2_ok (R := addR) hq.1 hq.2).1, (res2_ok (R := addR) hq.1 hq.2).2]
    obtain ⟨e1, x1, x2, x3, x4⟩ := okD hq.1
    obtain ⟨e2, y1, y2, y3, y4⟩ := okD hq.2
    have h1 := fun l n e d => exactOf_v (n := n) (ex := e) d l
    have h2 := fun d => plus_e (n := x.neg) (m := y.neg) (a := x.n) (b := y.n) (ex := x.e) (ey := y.e) d (by omega) (by omega) (by omega) (by omega) (by omega) (by omega)
    rw [← e1, ← e2] at h2
    obtain ⟨l1, l2, l3, l4⟩ := al_small x1 y1 x2 x3 y2 y3
    have hl := ssV_len (n := x.neg) (m := y.neg) l1 l2
    have h3 := fun d => dy_v (n := ssN x.neg (alA x.n x.e y.n y.e) y.neg (alB x.n x.e y.n y.e) && decide (ssV x.neg (alA x.n x.e y.n y.e) y.neg (alB x.n x.e y.n y.e) ≠ 0)) (a := ssV x.neg (alA x.n x.e y.n y.e) y.neg (alB x.n x.e y.n y.e)) (e := alE x.n x.e y.n y.e) d (by omega) (by omega) (by omega)
    rw [mkD_and] at h3
    change ∀ d, _ = some (V.tup [V.agg [V.bool (fitT (addR x y)).neg, V.sl 0 0 (fitT (addR x y)).l.length 1, V.int .i64 (fitT (addR x y)).e], V.bool (dyFit (addR x y))], [VO.ints true .i64 (fitT (addR x y)).l]) at h3
    generalize (ssN x.neg (alA x.n x.e y.n y.e) y.neg (alB x.n x.e y.n y.e) && decide (ssV x.neg (alA x.n x.e y.n y.e) y.neg (alB x.n x.e y.n y.e) ≠ 0)) = s at *
    generalize D (ssV x.neg (alA x.n x.e y.n y.e) y.neg (alB x.n x.e y.n y.e)) = P at *
    generalize alE x.n x.e y.n y.e = E at *
    generalize fitT (addR x y) = q at *
    generalize dyFit (addR x y) = f at *
    rw [vrun_v Tryd.func11 rfl rfl rfl]; simp only [Tryd.f11]
    simp (disch := omega) [go_sem, tab11, a1, h1, h2, h3]
theorem sDyAdd_v (d : Nat) (hx : x.sz) (hy : y.sz) : vrun Tryd.prog kn (d + 6) 28 [.agg [.bool x.neg, .ints .i64 x.l, .int .i64 x.e], .agg [.bool y.neg, .ints .i64 y.l, .int .i64 y.e]] [] = some (.tup [.agg [.bool (res2 addR x y).neg, .ints .i64 (res2 addR x y).l, .int .i64 (res2 addR x y).e], .bool (ok2 addR x y)], []) := by
  unfold DyT.sz at hx hy
  have a1 := fun d => sDyOk_v d x.neg (l := x.l) x.e (by omega)
  change ∀ d, _ = some (V.bool (dyOkB x), []) at a1
  have a2 := fun d => sDyOk_v d y.neg (l := y.l) y.e (by omega)
  change ∀ d, _ = some (V.bool (dyOkB y), []) at a2
  cases hq : dyOkB x with
  | false =>
    rw [hq] at a1
    rw [(res2_no (R := addR) (by rw [hq]; rfl)).1, (res2_no (R := addR) (by rw [hq]; rfl)).2]
    unfold zT
    rw [vrun_v Tryd.func28 rfl rfl rfl]; simp only [Tryd.f28]
    simp (disch := omega) [go_sem, tab28, a1]
  | true =>
  cases hr : dyOkB y with
  | false =>
    rw [hq] at a1
    rw [hr] at a2
    rw [(res2_no (R := addR) (by rw [hq, hr]; rfl)).1, (res2_no (R := addR) (by rw [hq, hr]; rfl)).2]
    unfold zT
    rw [vrun_v Tryd.func28 rfl rfl rfl]; simp only [Tryd.f28]
    simp (disch := omega) [go_sem, tab28, a1, a2]
  | true =>
    rw [hq] at a1
    rw [hr] at a2
    rw [(res2_ok (R := addR) hq hr).1, (res2_ok (R := addR) hq hr).2]
    obtain ⟨e1, x1, x2, x3, x4⟩ := okD hq
    obtain ⟨e2, y1, y2, y3, y4⟩ := okD hr
    obtain ⟨l1, l2, l3, l4⟩ := al_small x1 y1 x2 x3 y2 y3
    have hl := ssV_len (n := x.neg) (m := y.neg) l1 l2
    have h2 := fun d => l4add_v (n := x.neg) (m := y.neg) (a := x.n) (b := y.n) (ex := x.e) (ey := y.e) d (by omega) (by omega) (by omega) (by omega) (by omega) (by omega) x4 y4
    rw [← e1, ← e2] at h2
    change ∀ d, _ = some (V.agg (addR x y).v, []) at h2
    have h3 := fun d => l4fits_v d (addR x y) (by have := mkD_len (n := ssN x.neg (alA x.n x.e y.n y.e) y.neg (alB x.n x.e y.n y.e)) (a := ssV x.neg (alA x.n x.e y.n y.e) y.neg (alB x.n x.e y.n y.e)) (e := alE x.n x.e y.n y.e); unfold addR; omega)
    have hfit : dyOkB (addR x y) = dyFit (addR x y) := dyOkB_mkD
    rw [hfit] at h3
    change ∀ d, _ = some (V.tup [V.agg (fitT (addR x y)).v, V.bool (dyFit (addR x y))], []) at h3
    generalize fitT (addR x y) = q at *
    generalize dyFit (addR x y) = f at *
    generalize addR x y = r at *
    unfold DyT.v at *
    rw [vrun_v Tryd.func28 rfl rfl rfl]; simp only [Tryd.f28]
    simp (disch := omega) [go_sem, tab28, a1, a2, h2, h3]
theorem DySub_v (d : Nat) (hx : x.sz) (hy : y.sz) : vrun Tryd.prog kn (d + 15) 18 [.agg [.bool x.neg, .ints .i64 x.l, .int .i64 x.e], .agg [.bool y.neg, .ints .i64 y.l, .int .i64 y.e]] [] = some (.tup [.agg [.bool (res2 subR x y).neg, .sl 0 0 (res2 subR x y).l.length 1, .int .i64 (res2 subR x y).e], .bool (ok2 subR x y)], [.ints true .i64 (res2 subR x y).l]) := by
  have a1 := fun d => areDys2_v d x.neg y.neg x.e y.e hx hy
  change ∀ d, _ = some (V.bool (dyOkB x && dyOkB y), []) at a1
  cases hq : dyOkB x && dyOkB y with
  | false =>
    rw [hq] at a1
    rw [(res2_no (R := subR) hq).1, (res2_no (R := subR) hq).2]
    unfold zT
    rw [vrun_v Tryd.func18 rfl rfl rfl]; simp only [Tryd.f18]
    simp (disch := omega) [go_sem, tab18, a1]
  | true =>
    rw [hq] at a1
    rw [Bool.and_eq_true] at hq
    rw [(res2_ok (R := subR) hq.1 hq.2).1, (res2_ok (R := subR) hq.1 hq.2).2]
    obtain ⟨e1, x1, x2, x3, x4⟩ := okD hq.1
    obtain ⟨e2, y1, y2, y3, y4⟩ := okD hq.2
    have h1 := fun l n e d => exactOf_v (n := n) (ex := e) d l
    have h2 := fun d => minus_e (n := x.neg) (m := y.neg) (a := x.n) (b := y.n) (ex := x.e) (ey := y.e) d (by omega) (by omega) (by omega) (by omega) (by omega) (by omega)
    rw [← e1, ← e2] at h2
    obtain ⟨l1, l2, l3, l4⟩ := al_small x1 y1 x2 x3 y2 y3
    have hl := ssV_len (n := x.neg) (m := !y.neg && decide (y.n ≠ 0)) l1 l2
    have h3 := fun d => dy_v (n := ssN x.neg (alA x.n x.e y.n y.e) (!y.neg && decide (y.n ≠ 0)) (alB x.n x.e y.n y.e) && decide (ssV x.neg (alA x.n x.e y.n y.e) (!y.neg && decide (y.n ≠ 0)) (alB x.n x.e y.n y.e) ≠ 0)) (a := ssV x.neg (alA x.n x.e y.n y.e) (!y.neg && decide (y.n ≠ 0)) (alB x.n x.e y.n y.e)) (e := alE x.n x.e y.n y.e) d (by omega) (by omega) (by omega)
    rw [mkD_and] at h3
    change ∀ d, _ = some (V.tup [V.agg [V.bool (fitT (subR x y)).neg, V.sl 0 0 (fitT (subR x y)).l.length 1, V.int .i64 (fitT (subR x y)).e], V.bool (dyFit (subR x y))], [VO.ints true .i64 (fitT (subR x y)).l]) at h3
    generalize (ssN x.neg (alA x.n x.e y.n y.e) (!y.neg && decide (y.n ≠ 0)) (alB x.n x.e y.n y.e) && decide (ssV x.neg (alA x.n x.e y.n y.e) (!y.neg && decide (y.n ≠ 0)) (alB x.n x.e y.n y.e) ≠ 0)) = s at *
    generalize D (ssV x.neg (alA x.n x.e y.n y.e) (!y.neg && decide (y.n ≠ 0)) (alB x.n x.e y.n y.e)) = P at *
    generalize alE x.n x.e y.n y.e = E at *
    generalize fitT (subR x y) = q at *
    generalize dyFit (subR x y) = f at *
    rw [vrun_v Tryd.func18 rfl rfl rfl]; simp only [Tryd.f18]
    simp (disch := omega) [go_sem, tab18, a1, h1, h2, h3]
theorem sDySub_v (d : Nat) (hx : x.sz) (hy : y.sz) : vrun Tryd.prog kn (d + 6) 29 [.agg [.bool x.neg, .ints .i64 x.l, .int .i64 x.e], .agg [.bool y.neg, .ints .i64 y.l, .int .i64 y.e]] [] = some (.tup [.agg [.bool (res2 subR x y).neg, .ints .i64 (res2 subR x y).l, .int .i64 (res2 subR x y).e], .bool (ok2 subR x y)], []) := by
  unfold DyT.sz at hx hy
  have a1 := fun d => sDyOk_v d x.neg (l := x.l) x.e (by omega)
  change ∀ d, _ = some (V.bool (dyOkB x), []) at a1
  have a2 := fun d => sDyOk_v d y.neg (l := y.l) y.e (by omega)
  change ∀ d, _ = some (V.bool (dyOkB y), []) at a2
  cases hq : dyOkB x with
  | false =>
    rw [hq] at a1
    rw [(res2_no (R := subR) (by rw [hq]; rfl)).1, (res2_no (R := subR) (by rw [hq]; rfl)).2]
    unfold zT
    rw [vrun_v Tryd.func29 rfl rfl rfl]; simp only [Tryd.f29]
    simp (disch := omega) [go_sem, tab29, a1]
  | true =>
  cases hr : dyOkB y with
  | false =>
    rw [hq] at a1
    rw [hr] at a2
    rw [(res2_no (R := subR) (by rw [hq, hr]; rfl)).1, (res2_no (R := subR) (by rw [hq, hr]; rfl)).2]
    unfold zT
    rw [vrun_v Tryd.func29 rfl rfl rfl]; simp only [Tryd.f29]
    simp (disch := omega) [go_sem, tab29, a1, a2]
  | true =>
    rw [hq] at a1
    rw [hr] at a2
    rw [(res2_ok (R := subR) hq hr).1, (res2_ok (R := subR) hq hr).2]
    obtain ⟨e1, x1, x2, x3, x4⟩ := okD hq
    obtain ⟨e2, y1, y2, y3, y4⟩ := okD hr
    obtain ⟨l1, l2, l3, l4⟩ := al_small x1 y1 x2 x3 y2 y3
    have hl := ssV_len (n := x.neg) (m := !y.neg && decide (y.n ≠ 0)) l1 l2
    have h0 := fun d => l4neg_v (n := y.neg) (a := y.n) (e := y.e) d (by omega)
    have h2 := fun d => l4add_v (n := x.neg) (m := !y.neg && decide (y.n ≠ 0)) (a := x.n) (b := y.n) (ex := x.e) (ey := y.e) d (by omega) (by omega) (by omega) (by omega) (by omega) (by omega) x4 (fun h => by simp [h])
    rw [← e2] at h0
    rw [← e1, ← e2] at h2
    change ∀ d, _ = some (V.agg (subR x y).v, []) at h2
    have h3 := fun d => l4fits_v d (subR x y) (Nat.lt_of_le_of_lt (show (subR x y).l.length ≤ _ from mkD_len (n := ssN x.neg (alA x.n x.e y.n y.e) (!y.neg && decide (y.n ≠ 0)) (alB x.n x.e y.n y.e)) (a := ssV x.neg (alA x.n x.e y.n y.e) (!y.neg && decide (y.n ≠ 0)) (alB x.n x.e y.n y.e)) (e := alE x.n x.e y.n y.e)) (by omega))
    have hfit : dyOkB (subR x y) = dyFit (subR x y) := dyOkB_mkD
    generalize (!y.neg && decide (y.n ≠ 0)) = s at *
    rw [hfit] at h3
    change ∀ d, _ = some (V.tup [V.agg (fitT (subR x y)).v, V.bool (dyFit (subR x y))], []) at h3
    generalize fitT (subR x y) = q at *
    generalize dyFit (subR x y) = f at *
    generalize subR x y = r at *
    unfold DyT.v at *
    rw [vrun_v Tryd.func29 rfl rfl rfl]; simp only [Tryd.f29]
    simp (disch := omega) [go_sem, tab29, a1, a2, h0, h2, h3]
end
end Go.Eng
