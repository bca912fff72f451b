/- What the functions of this seat do, one after another, told by plain values. No conditions. -/
import Derived.Test.YtlejlpooblffbaaDoorSeat
import Derived.Test.YtlejlpooblffbaaDoorVb
import Derived.Test.YtlejlpooblffbaaDoorVc
import Derived.Test.YtlejlpooblffbaaDoorMMatId
set_option linter.unusedVariables false
set_option linter.unusedSimpArgs false
namespace Go.Eng
/- FnExactMatId. No conditions. -/
section
open Go.Proofs
set_option maxRecDepth 100000
set_option linter.unusedSimpArgs false
attribute [local go_sem] r_seq r_skip r_retC r_exitC r_label r_block r_region r_regionW r_xWt r_xW r_cond r_Bt r_Bf r_Ncode r_Nret r_Nexit r_Nblk r_Nblkr r_Nblke r_Nnil r_Es r_Onil r_Oop r_Oif r_Xs r_Gt r_Gf r_wtt r_wtf r_wft r_wff r_wu r_gO r_putS r_putN r_get r_keepN r_keepC r_fr r_fn r_fi r_ff r_fo r_l1 r_l2t r_cun r_cul r_cub r_cui r_cus r_cuis r_cuc r_cusl r_cuti r_cutv r_ven r_vec r_l2f r_l3 r_t1 r_t2 r_t0 r_rt r_rc r_en r_ec r_cM r_oN r_oC r_end r_endt r_endf r_nob0 r_nobN r_nobC r_nobE r_nb0 r_nbi r_nbs r_nbsl r_nbin r_nbce r_nLn r_nLv r_nLc r_nAa r_nAn r_nAk_b r_nAk_i r_nAk_s r_nAk_n r_nAk_is r_nAk_ce r_nAk_fp r_nAk_sl r_nAk_pt r_nAk_fn r_nsn r_nsv r_nsc r_m0 r_mi r_ms r_msl r_min r_mce r_mLn r_mLv r_mLc r_mAa r_mAn r_mAk_b r_mAk_i r_mAk_s r_mAk_n r_mAk_is r_mAk_ce r_mAk_fp r_mAk_sl r_mAk_pt r_mAk_fn r_msn r_msv r_msc r_atb r_ati r_ats r_atn r_atis r_atc r_atf r_atl r_atp r_atfn r_gcn r_gcc r_gLn r_gLc r_gIt r_ndn r_ndc r_gcB r_gLB r_two r_rea r_rea0 r_re1n r_re1c r_ori r_orv r_ord r_orn r_adn r_adc r_ad1 r_ern r_ers r_er0 r_rsl r_rptr r_rb r_ri r_rs r_rn r_ris r_rce r_rfp r_ra4 r_ra3 r_rt4 r_rf4 r_rf3 r_idS r_idc r_nS r_nP r_nF r_nT r_vsl r_vptr r_vb r_vi r_vs r_vn r_vis r_vce r_vfp r_va4 r_va3 r_vt4 r_vf4 r_vf3 r_rV r_Oi r_Ov r_Od r_rE r_rE0 r_En r_Ec r_E0 r_pO r_pk r_agL r_cO r_fO r_fSi r_fSv r_fPv r_fsl r_fptr r_ffn r_fag r_fb r_fint r_fstr r_fnil r_fis r_fce r_ffp r_res r_move r_assign r_pick r_pickt r_pickf r_alloc r_box r_al r_build r_bslice r_load r_store r_nlc r_nl1 r_nl2 r_bin r_un r_conv r_mkf r_mks r_slc r_fad r_fld r_iad r_idx r_ext r_ex1 r_callf r_callt r_callen r_calapp r_calmax r_calmin r_vt r_vcb r_vci r_vcs r_vcnp r_vcn r_vca r_vcf r_vcg r_ofb r_ofi r_ofs r_ofn r_evs r_pn r_prt r_pc r_one_a r_one_b r_one_i r_one_s r_one_n r_one_is r_one_ce r_one_fp r_one_sl r_one_pt r_one_fn r_cs_a r_cs_b r_cs_i r_cs_s r_cs_n r_cs_is r_cs_ce r_cs_fp r_cs_sl r_cs_pt r_cs_fn r_tov r_tovA r_toc r_toa r_tb r_ti r_ts r_tn r_bd r_bd2 r_filn r_fp1 r_filc r_fsn r_fsc r_san r_sac r_bs2 r_bs1 r_newO r_mkq r_mkI r_mkOi r_mkOv r_tIn r_tIc r_repz r_repn r_ldp r_ldf r_l1t r_l1f r_lFt r_lFf r_aggO r_obj r_at r_ati' r_atv r_celli r_cellv r_subi r_subv r_sto r_sto1 r_sto2 r_sets r_setR r_setn r_setc r_s1i r_s1v r_bin1 r_bin2 r_tv1 r_cb r_ci r_cst r_cn r_csl r_cis r_cce r_uni r_unb r_cv r_cvO r_cvN r_cv0 r_cvS r_wB r_cvi r_cvs r_cvb r_cvl r_sO r_rdn r_rdi r_rdl r_rdO r_vsub r_vfn r_mk r_mk1 r_mk2 r_zoi r_zov r_leni r_lenv r_bn r_bndV r_bo r_sl0 r_sl1 r_vsz r_ct1 r_cts r_cti r_ctc r_ctn r_lnl r_lni r_lnc r_lnn r_fa r_fap r_faf r_fi1 r_fit r_fif r_ixi r_ixs r_ixc r_ixf r_ixF r_ixF2 r_ix1 r_ixsl r_ixin r_ixce r_len1 r_lenA r_lTs r_lTn r_lTl r_lTi r_lTc r_app0 r_app r_app1 r_app2 r_app3 r_catO r_cati r_catv r_newt r_newf r_pair r_pairK r_trip r_kis r_kiv r_srn r_srl r_sri r_src r_srs r_oln r_oll r_vw r_wi r_wv r_mm r_max r_min' r_str r_cF r_c2t r_c3f r_c3t r_ab r_c2f r_cV r_p1 r_la r_la2t r_la2f r_la3 r_sh r_z_is r_z_ce r_z_fp r_z_b r_z_i r_z_s r_z_n r_z_l r_z_p r_z_a4 r_z_a3 r_z_t4 r_zoI r_zoV r_roN r_roC r_roi r_rod r_zod r_rov r_aR r_trOi r_trOv r_trPv r_trl r_trp r_trf r_tra r_trb r_tri r_trs r_trn r_tris r_trce r_trfp r_vJ r_vJs r_vJn
attribute [local go_sem] b_add b_sub b_mul b_quo b_rem b_shl b_shr b_eql b_neq b_lss b_leq b_gtr b_geq eqB_s b_eqB b_neB u_neg u_not b_nn b_nn' eqS_s zerosT_s zerosT_n zt_i zt_sl zt_st dstOf_z dstOf_n iltT iltF ileT ileF ieqT ieqF nltT nltF nleT nleF neqT neqF tdiv_pos tmod_pos w64 idx0 List.take_of_length_le
open Num
section
variable {R es : List DyT} {L : List (Option DyT)} {N : Int} {h : VH} {i lo hi : Nat} {p : Nat → Nat}
def eqZS (ds : List DyT) (L : List (Option DyT)) (j : Nat) : VE × VH := ([(0, some (.cells 3 ds.length (flat DyT.v ds))), (1, some (.cells 3 L.length (flat cz L))), (5, some (.int .i64 j))], [])
theorem eqDyS_z (d : Nat) (hd : R.length < 1000000000) (hsd : ∀ x ∈ R, x.l.length < 1000000000) (hz : Zr R L) : vrun Tryd.prog kn (d + 5) 43 [.cells 3 R.length (flat DyT.v R), .cells 3 L.length (flat cz L)] [] = some (.bool true, []) := by
  obtain ⟨hl, hz⟩ := hz
  have hr : ∀ j, j < R.length → vCode Tryd.prog kn (vrun Tryd.prog kn (d + 4)) 43 (loopAt Tryd.f43 0) (eqZS R L j).1 (eqZS R L j).2 = some (.norm, eqZS R L (j + 1)) := fun j hj => by
    have hget : R[j]? = some R[j] := List.getElem?_eq_getElem hj
    have hlen := hsd _ (List.getElem_mem hj)
    have hsub : ((flat DyT.v R).drop (j * 3)).take 3 = [.bool R[j].neg, .ints .i64 R[j].l, .int .i64 R[j].e] := flat_sub DyT.len R j _ hget
    have hzz := hz j _ hget
    generalize R[j] = x at *
    have h1 := eqDy_v (n1 := x.neg) (n2 := x.neg) (e1 := x.e) (e2 := x.e) (a := x.l) (b := x.l) d hlen hlen
    simp only [decide_true, Bool.and_true] at h1
    rw [round_v]; simp only [loopAt, nthC, bodyC, loops, List.nil_append, List.cons_append, List.append_nil, Tryd.f43, eqZS]
    rcases hzz with hzz | ⟨hzz, rfl⟩
    · have hsub2 : ((flat cz L).drop (j * 3)).take 3 = [.bool x.neg, .ints .i64 x.l, .int .i64 x.e] := flat_sub cz_len L j _ hzz
      simp (implicitDefEqProofs := false) (disch := omega) [go_sem, tab43, hsub, hsub2, h1]
    · have hsub2 : ((flat cz L).drop (j * 3)).take 3 = [.bool false, .nil, .int .i64 0] := flat_sub cz_len L j _ hzz
      unfold zT at hsub h1
      simp only at hsub h1
      simp (implicitDefEqProofs := false) (disch := omega) [go_sem, tab43, hsub, hsub2, h1]
  have hx : ∀ call, vCode Tryd.prog kn call 43 (loopAt Tryd.f43 0) (eqZS R L R.length).1 (eqZS R L R.length).2 = some (.exit 0, (eqZS R L R.length).1 ++ [(14, some (.bool false))], (eqZS R L R.length).2) := fun call => by
    rw [round_v]; simp only [loopAt, nthC, bodyC, loops, List.nil_append, List.cons_append, List.append_nil, Tryd.f43, eqZS]
    simp (implicitDefEqProofs := false) (disch := omega) [go_sem, tab43]
  have hl0 := fun ks => loop_v (P := Tryd.prog) (K := kn) (ks := ks) (vi_for (eqZS R L) R.length (n := kn.cf.rounds) (by rw [k_cf, c_rounds]; omega) hr fun m => vi_exit (hx _))
  simp only [loopAt, nthC, bodyC, loops, List.nil_append, List.cons_append, List.append_nil, Tryd.f43, eqZS, hl, Int.natCast_zero, List.cons_append, List.nil_append] at hl0
  rw [hl]
  generalize flat DyT.v R = F at *
  generalize flat cz L = F' at *
  rw [vrun_v Tryd.func43 rfl rfl rfl]; simp only [Tryd.f43]
  simp (implicitDefEqProofs := false) (disch := omega) [go_sem, tab43, hl0]
theorem eqMat_z (d : Nat) (hd : R.length < 1000000000) (hsd : ∀ x ∈ R, x.l.length < 1000000000) (hz : Zr R L) : vrun Tryd.prog kn (d + 6) 14 [.agg [.int .i64 N, .cells 3 R.length (flat DyT.v R)], .agg [.int .i64 N, .cells 3 L.length (flat cz L)]] [] = some (.bool true, []) := by
  have h1 := fun d => eqDyS_z d hd hsd hz
  have hl := hz.1
  rw [hl] at h1 ⊢
  generalize flat DyT.v R = F at *
  generalize flat cz L = F' at *
  rw [vrun_v Tryd.func14 rfl rfl rfl]; simp only [Tryd.f14]
  simp (implicitDefEqProofs := false) (disch := omega) [go_sem, tab14, h1]
theorem eqMatZ_c (d : Nat) (m : HM lo hi h i p R) (hd : R.length < 1000000000) (hsd : ∀ x ∈ R, x.l.length < 1000000000) (hz : Zr R L) :
    vcallF kn (vrun Tryd.prog kn (d + 6)) h 14 (some [.agg [.int .i64 N, .sl i 0 R.length 3], .agg [.int .i64 N, .cells 3 L.length (flat cz L)]]) = some (.bool true, h) := by
  have h1 := eqMat_z d (N := N) hd hsd hz
  have hf := m.frzM (N := N) 3
  refine callF_frz (fa := [.agg [.int .i64 N, .cells 3 R.length (flat DyT.v R)], .agg [.int .i64 N, .cells 3 L.length (flat cz L)]]) (r := .bool true) c_pure14 rfl ?_ ?_ ?_ ?_
  · rw [r_oC, hf]; simp [go_sem]
  · simpa [go_sem] using h1
  · simp [go_sem]
  · simp [go_sem]
def idB (N : Int) : Bool := decide (1 ≤ N) && decide (N ≤ 4)
def idR (N : Int) : List DyT := if idB N then idL N.toNat else []
def idZ (N : Int) : List (Option DyT) := if idB N then izL N.toNat N.toNat else []
def idM (N : Int) : Int := if idB N then N else 0
theorem idB_t (h : idB N = true) : ∃ n : Nat, N = n ∧ 1 ≤ n ∧ n ≤ 4 := by
  unfold idB at h
  simp only [Bool.and_eq_true, decide_eq_true_eq] at h
  exact ⟨N.toNat, by omega, by omega, by omega⟩
theorem id_Z : Zr (idR N) (idZ N) := by
  unfold idR idZ
  cases hq : idB N with
  | false => exact ⟨rfl, fun k x hx => by simp at hx⟩
  | true =>
    obtain ⟨n, rfl, n1, n2⟩ := idB_t hq
    exact id_Zr n1
theorem id_bd : (idR N).length ≤ 16 ∧ ∀ x ∈ idR N, x.l.length ≤ 100 := by
  unfold idR
  cases hq : idB N with
  | false => simp
  | true =>
    obtain ⟨n, rfl, n1, n2⟩ := idB_t hq
    simp only [if_true, Int.toNat_natCast]
    refine ⟨by rw [idL_len]; exact Nat.mul_le_mul n2 n2, fun x hx => ?_⟩
    obtain ⟨e1, x1, _⟩ := okD (idL_all x hx)
    rw [e1]; exact x1
theorem sMatId_v (d : Nat) : vrun Tryd.prog kn (d + 6) 18 [.int .i64 N] [] = some (.tup [.agg [.int .i64 (idM N), .cells 3 (idZ N).length (flat cz (idZ N))], .bool (idB N)], []) := by
  unfold idM idZ
  cases hq : idB N with
  | false =>
    simp only [Bool.false_eq_true, if_false, flat, List.length_nil]
    have hc : N < 1 ∨ (¬ N < 1 ∧ 4 < N) := by
      unfold idB at hq
      by_cases h1 : N < 1
      · exact .inl h1
      · rw [decide_eq_true (show 1 ≤ N by omega)] at hq
        simp at hq
        exact .inr ⟨h1, by omega⟩
    rcases hc with hc | ⟨hc, hc'⟩
    · rw [vrun_v Tryd.func18 rfl rfl rfl]; simp only [Tryd.f18]
      simp (implicitDefEqProofs := false) (disch := omega) [go_sem, tab18, hc]
    · rw [vrun_v Tryd.func18 rfl rfl rfl]; simp only [Tryd.f18]
      simp (implicitDefEqProofs := false) (disch := omega) [go_sem, tab18, hc, hc']
  | true =>
    obtain ⟨n, rfl, n1, n2⟩ := idB_t hq
    have h1 := fun d => l8id_v (n := n) d n1 n2
    simp only [if_true, Int.toNat_natCast]
    rw [izL_len]
    have hnn : n * n ≤ 16 := Nat.mul_le_mul n2 n2
    generalize flat cz (izL n n) = F at *
    generalize n * n = M at *
    have k1 : ¬ (n : Int) < 1 := by omega
    have k2 : ¬ (4 : Int) < n := by omega
    have k1' : ¬ n < 1 := by omega
    have k2' : ¬ 4 < n := by omega
    rw [vrun_v Tryd.func18 rfl rfl rfl]; simp only [Tryd.f18]
    simp (implicitDefEqProofs := false) (disch := omega) [go_sem, tab18, h1, k1, k2, k1', k2']
end
end
section
open Go.Proofs
set_option maxRecDepth 100000
set_option linter.unusedSimpArgs false
attribute [local go_sem] r_seq r_skip r_retC r_exitC r_label r_block r_region r_regionW r_xWt r_xW r_cond r_Bt r_Bf r_Ncode r_Nret r_Nexit r_Nblk r_Nblkr r_Nblke r_Nnil r_Es r_Onil r_Oop r_Oif r_Xs r_Gt r_Gf r_wtt r_wtf r_wft r_wff r_wu r_gO r_putS r_putN r_get r_keepN r_keepC r_fr r_fn r_fi r_ff r_fo r_l1 r_l2t r_cun r_cul r_cub r_cui r_cus r_cuis r_cuc r_cusl r_cuti r_cutv r_ven r_vec r_l2f r_l3 r_t1 r_t2 r_t0 r_rt r_rc r_en r_ec r_cM r_oN r_oC r_end r_endt r_endf r_nob0 r_nobN r_nobC r_nobE r_nb0 r_nbi r_nbs r_nbsl r_nbin r_nbce r_nLn r_nLv r_nLc r_nAa r_nAn r_nAk_b r_nAk_i r_nAk_s r_nAk_n r_nAk_is r_nAk_ce r_nAk_fp r_nAk_sl r_nAk_pt r_nAk_fn r_nsn r_nsv r_nsc r_m0 r_mi r_ms r_msl r_min r_mce r_mLn r_mLv r_mLc r_mAa r_mAn r_mAk_b r_mAk_i r_mAk_s r_mAk_n r_mAk_is r_mAk_ce r_mAk_fp r_mAk_sl r_mAk_pt r_mAk_fn r_msn r_msv r_msc r_atb r_ati r_ats r_atn r_atis r_atc r_atf r_atl r_atp r_atfn r_gcn r_gLn r_gIt r_ndn r_ndc r_gcB r_gLB r_two r_rea r_rea0 r_re1n r_re1c r_ori r_orv r_ord r_orn r_adn r_adc r_ad1 r_ern r_ers r_er0 r_rsl r_rptr r_rb r_ri r_rs r_rn r_ris r_rce r_rfp r_ra4 r_ra3 r_rt4 r_rf4 r_rf3 r_idS r_idc r_nS r_nP r_nF r_nT r_vsl r_vptr r_vb r_vi r_vs r_vn r_vis r_vce r_vfp r_va4 r_va3 r_vt4 r_vf4 r_vf3 r_rV r_Oi r_Ov r_Od r_rE r_rE0 r_En r_Ec r_E0 r_pO r_pk r_agL r_cO r_fO r_fSi r_fSv r_fPv r_fsl r_fptr r_ffn r_fag r_fb r_fint r_fstr r_fnil r_fis r_fce r_ffp r_res r_move r_assign r_pick r_pickt r_pickf r_alloc r_box r_al r_build r_bslice r_load r_store r_nlc r_nl1 r_nl2 r_bin r_un r_conv r_mkf r_mks r_slc r_fad r_fld r_iad r_idx r_ext r_ex1 r_callf r_callt r_callen r_calapp r_calmax r_calmin r_vt r_vcb r_vci r_vcs r_vcnp r_vcn r_vca r_vcf r_vcg r_ofb r_ofi r_ofs r_ofn r_evs r_pn r_prt r_pc r_one_a r_one_b r_one_i r_one_s r_one_n r_one_is r_one_ce r_one_fp r_one_sl r_one_pt r_one_fn r_cs_a r_cs_b r_cs_i r_cs_s r_cs_n r_cs_is r_cs_ce r_cs_fp r_cs_sl r_cs_pt r_cs_fn r_tov r_tovA r_toc r_toa r_tb r_ti r_ts r_tn r_bd r_bd2 r_filn r_fp1 r_filc r_fsn r_fsc r_san r_sac r_bs2 r_bs1 r_newO r_mkq r_mkI r_mkOi r_mkOv r_tIn r_tIc r_repz r_repn r_ldp r_ldf r_l1t r_l1f r_lFt r_lFf r_aggO r_obj r_at r_ati' r_atv r_celli r_cellv r_subi r_subv r_sto r_sto1 r_sto2 r_sets r_setR r_setn r_setc r_s1i r_s1v r_bin1 r_bin2 r_tv1 r_cb r_ci r_cst r_cn r_csl r_cis r_cce r_uni r_unb r_cv r_cvO r_cvN r_cv0 r_cvS r_wB r_cvi r_cvs r_cvb r_cvl r_sO r_rdn r_rdi r_rdl r_rdO r_vsub r_vfn r_mk r_mk1 r_mk2 r_zoi r_zov r_leni r_lenv r_bn r_bndV r_bo r_sl0 r_sl1 r_vsz r_ct1 r_cts r_cti r_ctc r_ctn r_lnl r_lni r_lnc r_lnn r_fa r_fap r_faf r_fi1 r_fit r_fif r_ixi r_ixs r_ixc r_ixf r_ixF r_ixF2 r_ix1 r_ixsl r_ixin r_ixce r_len1 r_lenA r_lTs r_lTn r_lTl r_lTi r_lTc r_app0 r_app r_app1 r_app2 r_app3 r_catO r_cati r_catv r_newt r_newf r_pair r_pairK r_trip r_kis r_kiv r_srn r_srl r_sri r_src r_srs r_oln r_oll r_vw r_wi r_wv r_mm r_max r_min' r_str r_c2t r_c3f r_c3t r_ab r_c2f r_cV r_p1 r_la r_la2t r_la2f r_la3 r_sh r_z_is r_z_ce r_z_fp r_z_b r_z_i r_z_s r_z_n r_z_l r_z_p r_z_a4 r_z_a3 r_z_t4 r_zoI r_zoV r_roN r_roC r_roi r_rod r_zod r_rov r_aR r_trOi r_trOv r_trPv r_trl r_trp r_trf r_tra r_trb r_tri r_trs r_trn r_tris r_trce r_trfp r_vJ r_vJs r_vJn
attribute [local go_sem] b_add b_sub b_mul b_quo b_rem b_shl b_shr b_eql b_neq b_lss b_leq b_gtr b_geq eqB_s b_eqB b_neB u_neg u_not b_nn b_nn' eqS_s zerosT_s zerosT_n zt_i zt_sl zt_st dstOf_z dstOf_n iltT iltF ileT ileF ieqT ieqF nltT nltF nleT nleF neqT neqF tdiv_pos tmod_pos w64 idx0 List.take_of_length_le
open Num
section
variable {N : Int}
theorem MatId_v (d : Nat) : vrun Tryd.prog kn (d + 8) 19 [.int .i64 N] [] = some (.tup [.agg [.int .i64 (idM N), .sl 0 0 (idR N).length 3], .bool (idB N)], mblk 0 (idR N)) := by
  have h1 := fun d => within_v d N 1 4
  have c1 : ∀ call h args, vcallF kn call h 48 (some args) = vcall2 kn call 48 args h (kn.cf.pure 48) := fun _ _ _ => rfl
  have c2 : ∀ call h args, vcallF kn call h 49 (some args) = vcall2 kn call 49 args h (kn.cf.pure 49) := fun _ _ _ => rfl
  have gc1 : ∀ e a, vgc e [a] = vgcBy (reach [a] 3 (addNs [] (erefs e))) e [a] := fun _ _ => rfl
  have gc2 : ∀ e a b, vgc e [a, b] = vgcBy (reach [a, b] 3 (addNs [] (erefs e))) e [a, b] := fun _ _ _ => rfl
  have gl2 : ∀ e a b, vgcL e [a, b] = vgcLBy (reach [a, b] 3 (addNs [] (e.flatMap (vrefs 4)))) e [a, b] := fun _ _ _ => rfl
  change ∀ d, _ = some (V.bool (idB N), []) at h1
  cases hq : idB N with
  | false =>
    have e1 : idR N = [] := by unfold idR; rw [hq]; rfl
    have e2 : idM N = 0 := by unfold idM; rw [hq]; rfl
    rw [e1, e2]
    rw [hq] at h1
    unfold mblk
    simp only [cellsP, List.map_nil]
    rw [vrun_v Tryd.func19 rfl rfl rfl]; simp only [Tryd.f19]
    simp (implicitDefEqProofs := false) (disch := omega) [go_sem, tab19, c1, gc1, gc2, gl2, h1]
  | true =>
    rw [hq] at h1
    obtain ⟨n, rfl, n1, n2⟩ := idB_t hq
    have e1 : idR (n : Int) = idL n := by unfold idR; rw [hq]; rfl
    have e2 : idM (n : Int) = n := by unfold idM; rw [hq]; rfl
    rw [e1, e2]
    have hnn : n * n ≤ 16 := Nat.mul_le_mul n2 n2
    have h2 := fun d => identity_v (n := n) d n1 n2
    have ho' := idL_all (n := n)
    have tl := idL_len (n := n)
    generalize idL n = T at *
    obtain ⟨ea, eb⟩ := mkall_ok ho'
    have eR : xR T = T := by unfold xR; rw [eb, ea]; rfl
    have eN : xNm (n : Int) T = (n : Int) := by unfold xNm; rw [eb]; rfl
    obtain ⟨o, k, p, w, h4⟩ := mat_h (N := (n : Int)) (d + 0) (ds := T) (by omega) (fun x hx => (XOk_ok (ho' x hx)).1)
    rw [eR, eN, eb] at h4
    rw [eR] at w
    have hm := w.land [.vals true [.int .i64 n, .sl (1 + k) 0 T.length 3]]
    simp only [List.length_cons, List.length_nil, Nat.zero_add, List.cons_append, List.nil_append, Nat.reduceAdd] at hm
    have g1 := fun s t b => gcE_own hm (N := (n : Int)) (m := T.length) (sz := 3) (c := 0) (s := s) (t := t) (b := b) rfl
    have hm2 := (own_mblk T).land [.vals true [.int .i64 n, .sl 1 0 T.length 3]]
    simp only [List.length_cons, List.length_nil, Nat.zero_add, List.cons_append, List.nil_append, Nat.reduceAdd, sh_mblk, Nat.add_zero] at hm2
    have g2 := gcL_own hm2 (N := (n : Int)) (m := T.length) (sz := 3) (b := true)
    clear hm hm2 w ho' ea eb eR eN hq e1 e2
    generalize flat DyT.v T = F' at *
    rw [vrun_v Tryd.func19 rfl rfl rfl]; simp only [Tryd.f19]
    simp (implicitDefEqProofs := false) (disch := omega) [go_sem, tab19, c1, c2, gc1, gc2, h1, h2, h4, g1, g2]
end
end
section
open Go.Proofs
set_option maxRecDepth 100000
set_option linter.unusedSimpArgs false
attribute [local go_sem] r_seq r_skip r_retC r_exitC r_label r_block r_region r_regionW r_xWt r_xW r_cond r_Bt r_Bf r_Ncode r_Nret r_Nexit r_Nblk r_Nblkr r_Nblke r_Nnil r_Es r_Onil r_Oop r_Oif r_Xs r_Gt r_Gf r_wtt r_wtf r_wft r_wff r_wu r_gO r_putS r_putN r_get r_keepN r_keepC r_fr r_fn r_fi r_ff r_fo r_l1 r_l2t r_cun r_cul r_cub r_cui r_cus r_cuis r_cuc r_cusl r_cuti r_cutv r_ven r_vec r_l2f r_l3 r_t1 r_t2 r_t0 r_rt r_rc r_en r_ec r_cM r_oN r_oC r_end r_endt r_endf r_nob0 r_nobN r_nobC r_nobE r_nb0 r_nbi r_nbs r_nbsl r_nbin r_nbce r_nLn r_nLv r_nLc r_nAa r_nAn r_nAk_b r_nAk_i r_nAk_s r_nAk_n r_nAk_is r_nAk_ce r_nAk_fp r_nAk_sl r_nAk_pt r_nAk_fn r_nsn r_nsv r_nsc r_m0 r_mi r_ms r_msl r_min r_mce r_mLn r_mLv r_mLc r_mAa r_mAn r_mAk_b r_mAk_i r_mAk_s r_mAk_n r_mAk_is r_mAk_ce r_mAk_fp r_mAk_sl r_mAk_pt r_mAk_fn r_msn r_msv r_msc r_atb r_ati r_ats r_atn r_atis r_atc r_atf r_atl r_atp r_atfn r_gcn r_gcc r_gLn r_gLc r_gIt r_ndn r_ndc r_gcB r_gLB r_two r_rea r_rea0 r_re1n r_re1c r_ori r_orv r_ord r_orn r_adn r_adc r_ad1 r_ern r_ers r_er0 r_rsl r_rptr r_rb r_ri r_rs r_rn r_ris r_rce r_rfp r_ra4 r_ra3 r_rt4 r_rf4 r_rf3 r_idS r_idc r_nS r_nP r_nF r_nT r_vsl r_vptr r_vb r_vi r_vs r_vn r_vis r_vce r_vfp r_va4 r_va3 r_vt4 r_vf4 r_vf3 r_rV r_Oi r_Ov r_Od r_rE r_rE0 r_En r_Ec r_E0 r_pO r_pk r_agL r_cO r_fO r_fSi r_fSv r_fPv r_fsl r_fptr r_ffn r_fag r_fb r_fint r_fstr r_fnil r_fis r_fce r_ffp r_res r_move r_assign r_pick r_pickt r_pickf r_alloc r_box r_al r_build r_bslice r_load r_store r_nlc r_nl1 r_nl2 r_bin r_un r_conv r_mkf r_mks r_slc r_fad r_fld r_iad r_idx r_ext r_ex1 r_callf r_callt r_callen r_calapp r_calmax r_calmin r_vt r_vcb r_vci r_vcs r_vcnp r_vcn r_vca r_vcf r_vcg r_ofb r_ofi r_ofs r_ofn r_evs r_pn r_prt r_pc r_one_a r_one_b r_one_i r_one_s r_one_n r_one_is r_one_ce r_one_fp r_one_sl r_one_pt r_one_fn r_cs_a r_cs_b r_cs_i r_cs_s r_cs_n r_cs_is r_cs_ce r_cs_fp r_cs_sl r_cs_pt r_cs_fn r_tov r_tovA r_toc r_toa r_tb r_ti r_ts r_tn r_bd r_bd2 r_filn r_fp1 r_filc r_fsn r_fsc r_san r_sac r_bs2 r_bs1 r_newO r_mkq r_mkI r_mkOi r_mkOv r_tIn r_tIc r_repz r_repn r_ldp r_ldf r_l1t r_l1f r_lFt r_lFf r_aggO r_obj r_at r_ati' r_atv r_celli r_cellv r_subi r_subv r_sto r_sto1 r_sto2 r_sets r_setR r_setn r_setc r_s1i r_s1v r_bin1 r_bin2 r_tv1 r_cb r_ci r_cst r_cn r_csl r_cis r_cce r_uni r_unb r_cv r_cvO r_cvN r_cv0 r_cvS r_wB r_cvi r_cvs r_cvb r_cvl r_sO r_rdn r_rdi r_rdl r_rdO r_vsub r_vfn r_mk r_mk1 r_mk2 r_zoi r_zov r_leni r_lenv r_bn r_bndV r_bo r_sl0 r_sl1 r_vsz r_ct1 r_cts r_cti r_ctc r_ctn r_lnl r_lni r_lnc r_lnn r_fa r_fap r_faf r_fi1 r_fit r_fif r_ixi r_ixs r_ixc r_ixf r_ixF r_ixF2 r_ix1 r_ixsl r_ixin r_ixce r_len1 r_lenA r_lTs r_lTn r_lTl r_lTi r_lTc r_app0 r_app r_app1 r_app2 r_app3 r_catO r_cati r_catv r_newt r_newf r_pair r_pairK r_trip r_kis r_kiv r_srn r_srl r_sri r_src r_srs r_oln r_oll r_vw r_wi r_wv r_mm r_max r_min' r_str r_c2t r_c3f r_c3t r_ab r_c2f r_cV r_p1 r_la r_la2t r_la2f r_la3 r_sh r_z_is r_z_ce r_z_fp r_z_b r_z_i r_z_s r_z_n r_z_l r_z_p r_z_a4 r_z_a3 r_z_t4 r_zoI r_zoV r_roN r_roC r_roi r_rod r_zod r_rov r_aR r_trOi r_trOv r_trPv r_trl r_trp r_trf r_tra r_trb r_tri r_trs r_trn r_tris r_trce r_trfp r_vJ r_vJs r_vJn
attribute [local go_sem] b_add b_sub b_mul b_quo b_rem b_shl b_shr b_eql b_neq b_lss b_leq b_gtr b_geq eqB_s b_eqB b_neB u_neg u_not b_nn b_nn' eqS_s zerosT_s zerosT_n zt_i zt_sl zt_st dstOf_z dstOf_n iltT iltF ileT ileF ieqT ieqF nltT nltF nleT nleF neqT neqF tdiv_pos tmod_pos w64 idx0 List.take_of_length_le
open Num
section
variable {N : Int}
set_option maxHeartbeats 4000000 in
theorem FnExactMatId_v (d : Nat) (hN : (Lit.int .i64 N).wf = true) : vrun Tryd.prog kn (d + 9) 4 [.int .i64 N] [] = some (.bool true, []) := by
  have vi := fun d => MatId_v (N := N) d
  have vs := fun d => sMatId_v (N := N) d
  obtain ⟨rl, rx⟩ := id_bd (N := N)
  have hz := id_Z (N := N)
  generalize idR N = R at *
  generalize idZ N = Z at *
  generalize idM N = M at *
  generalize idB N = f at *
  have rw1 := wt_bd rx
  have rw2 : R.length * (100 + 2) ≤ 16 * 102 := Nat.mul_le_mul_right _ rl
  have r1 : ∀ x ∈ R, x.l.length < 10000000 := fun x hx => by have := rx x hx; omega
  have r2 : ∀ x ∈ R, x.l.length < 1000000000 := fun x hx => by have := rx x hx; omega
  have c1 : ∀ call h args, vcallF kn call h 18 (some args) = vcall2 kn call 18 args h (kn.cf.pure 18) := fun _ _ _ => rfl
  have hf : ∀ h : VH, omap (vfrz h 6) [V.int .i64 N] = some [.int .i64 N] := fun h => by simp [go_sem]
  obtain ⟨G4, i4, p4, e4, m4, s4⟩ := own_c (call := vrun Tryd.prog kn (d + 8)) (h := [.vals true [.int .i64 M, .cells 3 Z.length (flat cz Z)]]) (q := 19) (R := R) (N := M) (f := f) c_pure19 rfl (hf _) (by simpa [go_sem] using vi (d + 0))
  have w4 := s4.2 0 _ rfl
  have l4 := s4.1
  simp only [List.length_cons, List.length_nil, Nat.zero_add] at m4 l4
  have e5 := fun t => eqMatZ_c (N := M) (d + 2) (m4.app t) (by omega) r2 hz
  obtain ⟨G7, e10, m7, l7, f7⟩ := markMat_c (N := M) (k := 1) (h := G4 ++ [.vals true [.int .i64 M, .sl i4 0 R.length 3]]) (d + 5) (m4.app _) (by omega) r1 (by omega) (by omega) (by simp)
  have w7 := f7 _ _ (.inl (by omega)) (gapM w4 _)
  have g7 := f7 _ _ (.inr (by omega)) (nx0 G4 _ [])
  have e11 := heldMat_c (N := M) (d + 5) m7 (by omega) r1 (by omega) (by omega)
  obtain ⟨G9, i9, p9, e13, m9, s9⟩ := own_c (call := vrun Tryd.prog kn (d + 8)) (h := G7) (q := 19) (R := R) (N := M) (f := f) c_pure19 rfl (hf _) (by simpa [go_sem] using vi (d + 0))
  have w9 := gapM (s9.2 _ _ w7)
  have g9 := gapM (s9.2 _ _ g7)
  have e14 := fun t => eqMatZ_c (N := M) (d + 2) (m9.app t) (by omega) r2 hz
  have e15 := fun t => heldMat_c (N := M) (d + 5) ((m7.sub s9).app t) (by omega) r1 (by omega) (by omega)
  have gw4 := fun t => gapM w4 t
  have hmr : ¬ mkE R 1 < 0 := by have := mkE_wt R 1; omega
  clear l4 l7 s4 s9 f7 m4 m7 m9 r1 r2 rx rw1 rw2 vi hf
  have zl := hz.1
  clear hz
  have vs' := vs
  rw [zl] at *
  generalize flat cz Z = F' at *
  rw [vrun_v Tryd.func4 rfl rfl rfl]; simp only [Tryd.f4]
  cases f
  all_goals
    simp (implicitDefEqProofs := false) (disch := omega) [go_sem, tab4, c1, hmr, vs, e4, e5, e10, e11, e13, e14, e15, w4, w7, w9, g7, g9, gw4, nx0, nx1, nx2, ns0, ns1, ns2]
end
end
end Go.Eng
