/- Numbers of any size: their one form, products; trailing noughts. No conditions. -/
import Derived.Test.YtnkhamahhgfbhaaDoorMake4
import Derived.Test.YtnkhamahhgfbhaaDoorTz
import Derived.Test.YtnkhamahhgfbhaaDoorCore10
set_option linter.unusedVariables false
set_option linter.unusedSimpArgs false
namespace Go.Eng
open Go.Proofs
set_option maxRecDepth 100000
set_option linter.unusedSimpArgs false
attribute [local go_sem] r_seq r_skip r_retC r_exitC r_label r_block r_region r_regionW r_xWt r_xW r_cond r_Bt r_Bf r_Ncode r_Nret r_Nexit r_Nblk r_Nblkr r_Nblke r_Nnil r_Es r_Onil r_Oop r_Oif r_Xs r_Gt r_Gf r_wtt r_wtf r_wft r_wff r_wu r_gO r_putS r_putN r_get r_keepN r_keepC r_fr r_fn r_fi r_ff r_fo r_l1 r_l2t r_cun r_cul r_cub r_cui r_cus r_cuis r_cuc r_cusl r_cuti r_cutv r_ven r_vec r_l2f r_l3 r_t1 r_t2 r_t0 r_rt r_rc r_en r_ec r_cM r_oN r_oC r_end r_endt r_endf r_nob0 r_nobN r_nobC r_nobE r_nb0 r_nbi r_nbs r_nbsl r_nbin r_nbce r_nLn r_nLv r_nLc r_nAa r_nAn r_nAk_b r_nAk_i r_nAk_s r_nAk_n r_nAk_is r_nAk_ce r_nAk_fp r_nAk_sl r_nAk_pt r_nAk_fn r_nsn r_nsv r_nsc r_m0 r_mi r_ms r_msl r_min r_mce r_mLn r_mLv r_mLc r_mAa r_mAn r_mAk_b r_mAk_i r_mAk_s r_mAk_n r_mAk_is r_mAk_ce r_mAk_fp r_mAk_sl r_mAk_pt r_mAk_fn r_msn r_msv r_msc r_atb r_ati r_ats r_atn r_atis r_atc r_atf r_atl r_atp r_atfn r_gcn r_gcc r_gLn r_gLc r_gIt r_ndn r_ndc r_gcB r_gLB r_two r_rea r_rea0 r_re1n r_re1c r_ori r_orv r_ord r_orn r_adn r_adc r_ad1 r_ern r_ers r_er0 r_rsl r_rptr r_rb r_ri r_rs r_rn r_ris r_rce r_rfp r_ra4 r_ra3 r_rt4 r_rf4 r_rf3 r_idS r_idc r_nS r_nP r_nF r_nT r_vsl r_vptr r_vb r_vi r_vs r_vn r_vis r_vce r_vfp r_va4 r_va3 r_vt4 r_vf4 r_vf3 r_rV r_Oi r_Ov r_Od r_rE r_rE0 r_En r_Ec r_E0 r_pO r_pk r_agL r_cO r_fO r_fSi r_fSv r_fPv r_fsl r_fptr r_ffn r_fag r_fb r_fint r_fstr r_fnil r_fis r_fce r_ffp r_res r_move r_assign r_pick r_pickt r_pickf r_alloc r_box r_al r_build r_bslice r_load r_store r_nlc r_nl1 r_nl2 r_bin r_un r_conv r_mkf r_mks r_slc r_fad r_fld r_iad r_idx r_ext r_ex1 r_callf r_callt r_callen r_calapp r_calmax r_calmin r_vt r_vcb r_vci r_vcs r_vcn r_vca r_vcf r_vcg r_ofb r_ofi r_ofs r_ofn r_evs r_pn r_prt r_pc r_one_a r_one_b r_one_i r_one_s r_one_n r_one_is r_one_ce r_one_fp r_one_sl r_one_pt r_one_fn r_cs_a r_cs_b r_cs_i r_cs_s r_cs_n r_cs_is r_cs_ce r_cs_fp r_cs_sl r_cs_pt r_cs_fn r_tov r_tovA r_toc r_toa r_tb r_ti r_ts r_tn r_bd r_bd2 r_filn r_fp1 r_filc r_fsn r_fsc r_san r_sac r_bs2 r_bs1 r_newO r_mkq r_mkI r_mkOi r_mkOv r_tIn r_tIc r_repz r_repn r_ldp r_ldf r_l1t r_l1f r_lFt r_lFf r_aggO r_obj r_at r_ati' r_atv r_celli r_cellv r_subi r_subv r_sto r_sto1 r_sto2 r_sets r_setR r_setn r_setc r_s1i r_s1v r_bin1 r_bin2 r_tv1 r_cb r_ci r_cst r_cn r_csl r_cis r_cce r_uni r_unb r_cv r_cvi r_cvs r_cvb r_cvl r_sO r_rdn r_rdi r_rdl r_rdO r_vsub r_vfn r_mk r_mk1 r_mk2 r_zoi r_zov r_leni r_lenv r_bn r_bndV r_bo r_sl0 r_sl1 r_vsz r_ct1 r_cts r_cti r_ctc r_ctn r_lnl r_lni r_lnc r_lnn r_fa r_fap r_faf r_fi1 r_fit r_fif r_ixi r_ixs r_ixc r_ixf r_ixF r_ixF2 r_ix1 r_ixsl r_ixin r_ixce r_len1 r_lenA r_lTs r_lTn r_lTl r_lTi r_lTc r_app0 r_app r_app1 r_app2 r_app3 r_catO r_cati r_catv r_newt r_newf r_pair r_pairK r_trip r_kis r_kiv r_srn r_srl r_sri r_src r_srs r_oln r_oll r_vw r_wi r_wv r_mm r_max r_min' r_str r_cF r_c2t r_c3f r_c3t r_ab r_c2f r_cV r_p1 r_la r_la2t r_la2f r_la3 r_sh r_z_is r_z_ce r_z_fp r_z_b r_z_i r_z_s r_z_n r_z_l r_z_p r_z_a4 r_z_a3 r_z_t4 r_zoI r_zoV r_roN r_roC r_roi r_rod r_zod r_rov r_aR r_trOi r_trOv r_trPv r_trl r_trp r_trf r_tra r_trb r_tri r_trs r_trn r_tris r_trce r_trfp
attribute [local go_sem] b_add b_sub b_mul b_quo b_rem b_shl b_shr b_eql b_neq b_lss b_leq b_gtr b_geq eqB_s b_eqB b_neB u_neg u_not b_nn b_nn' eqS_s zerosT_s zerosT_n zt_i zt_sl zt_st dstOf_z dstOf_n iltT iltF ileT ileF ieqT ieqF nltT nltF nleT nleF neqT neqF tdiv_pos tmod_pos w64 idx0 List.take_of_length_le
open Num
theorem low_zero {x j : Nat} (h : 16 * j ≤ tz x) : x % 65536 ^ j = 0 := by
  by_cases h0 : x = 0
  · subst h0; simp
  obtain ⟨o, ho⟩ := tz_spec h0
  have e : (65536 : Nat) ^ j = 2 ^ (16 * j) := by rw [show (65536 : Nat) = 2 ^ 16 from rfl, ← Nat.pow_mul]
  have e2 : 2 ^ tz x = 2 ^ (16 * j) * 2 ^ (tz x - 16 * j) := by rw [← Nat.pow_add]; congr 1; omega
  rw [e]
  conv => lhs; lhs; rw [ho, e2, Nat.mul_assoc]
  exact Nat.mul_mod_right _ _
theorem dig_zero {x j : Nat} (h : 16 * (j + 1) ≤ tz x) : x / 65536 ^ j % 65536 = 0 := by
  have h1 := low_zero h
  rw [mod_pow_succ] at h1
  have hp := powN_pos j
  rcases Nat.eq_zero_or_pos (x / 65536 ^ j % 65536) with h2 | h2
  · exact h2
  · have := Nat.mul_pos hp h2; omega
theorem dig_nz {x : Nat} (h0 : x ≠ 0) : x / 65536 ^ (tz x / 16) % 65536 ≠ 0 := by
  intro h
  have hb := tz_bit h0
  have e : 2 ^ tz x = 65536 ^ (tz x / 16) * 2 ^ (tz x % 16) := pow_split _
  rw [e, ← Nat.div_div_eq_div_mul] at hb
  generalize x / 65536 ^ (tz x / 16) = a at *
  have e2 : (65536 : Nat) = 2 ^ (tz x % 16) * (2 * 2 ^ (15 - tz x % 16)) := by
    rw [← Nat.mul_assoc, Nat.mul_right_comm, ← Nat.pow_add, show tz x % 16 + (15 - tz x % 16) = 15 by omega]
  have h2 : a = 65536 * (a / 65536) := by omega
  rw [h2, e2, Nat.mul_assoc, Nat.mul_div_cancel_left _ (Nat.two_pow_pos _), Nat.mul_assoc] at hb
  omega
section
variable {x : Nat}
def toS (x j : Nat) : VE × VH := ([(5, some (.ints .i64 (D x))), (6, some (.int .i64 (D x).length)), (7, some (.int .i64 j))], [])
theorem to_r (call : CallV) (hx : (D x).length < 1000000) {j : Nat} (hj : j < tz x / 16) : vCode Tryd.prog kn call 103 (loopAt Tryd.f103 0) (toS x j).1 (toS x j).2 = some (.norm, toS x (j + 1)) := by
  have h0 : x ≠ 0 := by rintro rfl; simp [tz] at hj
  have hlt := tz_lt h0
  have hd : dg x j = 0 := by unfold dg; rw [dig_zero (by omega)]; rfl
  rw [round_v]; simp only [loopAt, nthC, bodyC, loops, List.nil_append, List.cons_append, List.append_nil, Tryd.f103, toS]
  simp (disch := omega) [go_sem, tab103, gt_D, hd]
theorem to_x (d : Nat) (hx : (D x).length < 1000000) (h0 : x ≠ 0) : vCode Tryd.prog kn (vrun Tryd.prog kn (d + 2)) 103 (loopAt Tryd.f103 0) (toS x (tz x / 16)).1 (toS x (tz x / 16)).2 = some (.ret, [(2, some (.int .i64 (tz x)))], []) := by
  have hlt := tz_lt h0
  have hn := dig_nz h0
  have h1 := fun d => tzs_v d hn (Nat.mod_lt _ (by omega))
  have hf : tz x = 16 * (tz x / 16) + tz (x / 65536 ^ (tz x / 16) % 65536) := tz_first (fun h => hn (by rw [h])) (low_zero (by omega)) hn
  have hd : dg x (tz x / 16) = ((x / 65536 ^ (tz x / 16) % 65536 : Nat) : Int) := rfl
  have hb := Nat.mod_lt (x / 65536 ^ (tz x / 16)) (by omega : 0 < 65536)
  rw [round_v]; simp only [loopAt, nthC, bodyC, loops, List.nil_append, List.cons_append, List.append_nil, Tryd.f103, toS]
  generalize x / 65536 ^ (tz x / 16) % 65536 = q at *
  generalize tz x / 16 = i at *
  have hw : IntKind.wrap .u64 (q : Int) = q := wu64' (by omega) (by omega)
  have hs : (16 * (i : Int)) + (tz q : Int) = tz x := by omega
  simp (disch := omega) [go_sem, tab103, gt_D, hd, hw, h1, hs, hn]
theorem trailOf_v (d : Nat) (hx : (D x).length < 1000000) : vrun Tryd.prog kn (d + 3) 103 [.ints .i64 (D x)] [] = some (.int .i64 (tz x), []) := by
  by_cases h0 : x = 0
  · subst h0
    have hv : ∀ call, vCode Tryd.prog kn call 103 (loopAt Tryd.f103 0) (toS 0 0).1 (toS 0 0).2 = some (.exit 0, (toS 0 0).1 ++ [(8, some (.bool false))], (toS 0 0).2) := fun call => by
      rw [round_v]; simp only [loopAt, nthC, bodyC, loops, List.nil_append, List.cons_append, List.append_nil, Tryd.f103, toS, D_zero]
      simp (disch := omega) [go_sem, tab103]
    have hl0 := fun call ks => loop_v (P := Tryd.prog) (K := kn) (ks := ks) (vi_for (fun _ => toS 0 0) 0 (n := kn.cf.rounds) (by rw [k_cf, c_rounds]; omega) (fun j hj => absurd hj (by omega)) fun m => vi_exit (hv call))
    simp only [loopAt, nthC, bodyC, loops, List.nil_append, List.cons_append, List.append_nil, Tryd.f103, toS, D_zero, Int.natCast_zero, List.length_nil, List.cons_append, List.nil_append] at hl0
    have : tz 0 = 0 := by simp [tz]
    rw [D_zero, this]
    rw [vrun_v Tryd.func103 rfl rfl rfl]; simp only [Tryd.f103]
    simp (disch := omega) [go_sem, tab103, hl0]
  · have hlt := tz_lt h0
    have hl0 := fun ks => loop_v (P := Tryd.prog) (K := kn) (ks := ks) (vi_for (toS x) (tz x / 16) (n := kn.cf.rounds) (by rw [k_cf, c_rounds]; omega) (fun j hj => to_r _ hx hj) fun m => vi_ret (to_x d hx h0))
    simp only [loopAt, nthC, bodyC, loops, List.nil_append, List.cons_append, List.append_nil, Tryd.f103, toS, Int.natCast_zero, List.cons_append, List.nil_append] at hl0
    rw [vrun_v Tryd.func103 rfl rfl rfl]; simp only [Tryd.f103]
    simp (disch := omega) [go_sem, tab103, hl0]
end
section
variable {a b : Nat} {n m : Bool} {e ex ey : Int}
theorem odd_v (d : Nat) (ha : (D a).length < 60000) (he : -1000000000 ≤ e) (he' : e ≤ 1000000000) : vrun Tryd.prog kn (d + 4) 67 [.agg [.bool n, .ints .i64 (D a), .int .i64 e]] [] = some (.agg (mkD n a e).v, []) := by
  unfold mkD
  by_cases h0 : a = 0
  · subst h0
    rw [if_pos rfl, D_zero]
    unfold DyT.v
    rw [vrun_v Tryd.func67 rfl rfl rfl]; simp only [Tryd.f67]
    simp (disch := omega) [go_sem, tab67]
  · rw [if_neg h0]
    have hlt := tz_lt h0
    have hn : ¬ D a = [] := fun h => h0 (D_nil_iff.1 h)
    have h1 := fun d => trailOf_v (x := a) d (by omega)
    have h2 := fun d => down_v (x := a) (k := tz a) d (by omega) (by omega)
    unfold DyT.v
    generalize a / 2 ^ tz a = X at *
    generalize tz a = t at *
    rw [vrun_v Tryd.func67 rfl rfl rfl]; simp only [Tryd.f67]
    simp (disch := omega) [go_sem, tab67, h1, h2, hn]
/-- May it be told? -/
def dyFit (r : DyT) : Bool := decide (r.l.length ≤ 100) && decide (-3000 ≤ r.e) && decide (r.e ≤ 3000)
def zT : DyT := ⟨false, [], 0⟩
def fitT (r : DyT) : DyT := if dyFit r then r else zT
theorem mkD_neg : (mkD n a e).neg = ((mkD n a e).neg && !decide ((mkD n a e).l.length = 0)) := by
  unfold mkD
  by_cases h0 : a = 0
  · rw [if_pos h0]; rfl
  · rw [if_neg h0]
    have hb := tz_bit h0
    have hX : a / 2 ^ tz a ≠ 0 := fun h => by rw [h] at hb; simp at hb
    have : ¬ (D (a / 2 ^ tz a)).length = 0 := fun h => hX (D_nil_iff.1 (List.eq_nil_of_length_eq_zero h))
    simp [this]
theorem mkD_len : (mkD n a e).l.length ≤ (D a).length := by
  unfold mkD
  split
  · simp
  · exact len_D_mono (Nat.div_le_self _ _)
theorem mkD_e (he : -1000000000 ≤ e) (he' : e ≤ 1000000000) (ha : (D a).length < 60000) : -1000000000 ≤ (mkD n a e).e ∧ (mkD n a e).e ≤ 1001000000 := by
  unfold mkD
  by_cases h0 : a = 0
  · rw [if_pos h0]; simp
  · rw [if_neg h0]
    have := tz_lt h0
    simp only; omega
theorem dy_v (d : Nat) (ha : (D a).length < 60000) (he : -1000000000 ≤ e) (he' : e ≤ 1000000000) : vrun Tryd.prog kn (d + 5) 34 [.agg [.bool n, .ints .i64 (D a), .int .i64 e]] [] = some (.tup [.agg [.bool (fitT (mkD n a e)).neg, .sl 0 0 (fitT (mkD n a e)).l.length 1, .int .i64 (fitT (mkD n a e)).e], .bool (dyFit (mkD n a e))], [.ints true .i64 (fitT (mkD n a e)).l]) := by
  have h1 := fun d => odd_v (n := n) d ha he he'
  have hl := mkD_len (n := n) (a := a) (e := e)
  have hne := mkD_neg (n := n) (a := a) (e := e)
  have heb := mkD_e (n := n) he he' ha
  generalize mkD n a e = r at *
  have h2 := fun d => wholeOf_v d r.neg (l := r.l) (by omega)
  have h3 := within_v
  unfold DyT.v at h1
  unfold fitT dyFit
  rw [← hne] at h2
  by_cases q1 : r.l.length ≤ 100
  · have ef : fitL r.l = r.l := by unfold fitL; rw [if_pos q1]
    rw [ef] at h2
    by_cases q2 : -3000 ≤ r.e
    · by_cases q3 : r.e ≤ 3000
      · rw [vrun_v Tryd.func34 rfl rfl rfl]; simp only [Tryd.f34]
        simp (disch := omega) [go_sem, tab34, h1, h2, h3, q1, q2, q3]
      · rw [vrun_v Tryd.func34 rfl rfl rfl]; simp only [Tryd.f34]
        simp (disch := omega) [go_sem, tab34, h1, h2, h3, q1, q2, q3, zT]
    · rw [vrun_v Tryd.func34 rfl rfl rfl]; simp only [Tryd.f34]
      simp (disch := omega) [go_sem, tab34, h1, h2, h3, q1, q2, zT]
  · rw [vrun_v Tryd.func34 rfl rfl rfl]; simp only [Tryd.f34]
    simp (disch := omega) [go_sem, tab34, h1, h2, h3, q1, zT]
theorem l4fits_v (d : Nat) (r : DyT) (hr : r.l.length < 1000000000) : vrun Tryd.prog kn (d + 4) 48 [.agg [.bool r.neg, .ints .i64 r.l, .int .i64 r.e]] [] = some (.tup [.agg (if dyOkB r then r else zT).v, .bool (dyOkB r)], []) := by
  have h1 := fun d => sDyOk_v d r.neg (l := r.l) r.e hr
  change ∀ d, _ = some (V.bool (dyOkB r), []) at h1
  unfold DyT.v
  cases hq : dyOkB r with
  | false =>
    rw [hq] at h1
    rw [vrun_v Tryd.func48 rfl rfl rfl]; simp only [Tryd.f48]
    simp (disch := omega) [go_sem, tab48, h1, zT]
  | true =>
    rw [hq] at h1
    rw [vrun_v Tryd.func48 rfl rfl rfl]; simp only [Tryd.f48]
    simp (disch := omega) [go_sem, tab48, h1]
/-- What is in its one form is valid where it fits. -/
theorem dyOkB_mkD : dyOkB (mkD n a e) = dyFit (mkD n a e) := by
  unfold mkD
  by_cases h0 : a = 0
  · rw [if_pos h0]; rfl
  · rw [if_neg h0]
    have hb := tz_bit h0
    generalize a / 2 ^ tz a = X at *
    have hX : X ≠ 0 := fun h => by rw [h] at hb; simp at hb
    have hl : ¬ (D X).length = 0 := fun h => hX (D_nil_iff.1 (List.eq_nil_of_length_eq_zero h))
    have hg : gt (D X) 0 % 2 = 1 := by rw [gt_D]; unfold dg; rw [Nat.pow_zero, Nat.div_one]; omega
    unfold dyOkB dyFit wholeOkB
    simp only [natOkB_D, hl, hg, decide_false, Bool.and_false, Bool.not_false, Bool.and_true, if_false, decide_true, Bool.and_assoc]
theorem mkD_and : mkD (n && decide (a ≠ 0)) a e = mkD n a e := by
  unfold mkD
  by_cases h0 : a = 0
  · rw [if_pos h0, if_pos h0]
  · rw [if_neg h0, if_neg h0]; simp [h0]
end
end Go.Eng
