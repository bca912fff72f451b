/- What the functions of this seat do, one after another, told by plain values. No conditions. -/
import Derived.Test.YtkfeofjgdijbeaaSeat
import Derived.Test.YtkfeofjgdijbeaaVb
import Derived.Test.YtkfeofjgdijbeaaT4
set_option linter.unusedVariables false
set_option linter.unusedSimpArgs false
namespace Go.Eng
open Go.Proofs
set_option maxRecDepth 100000
set_option linter.unusedSimpArgs false
attribute [local go_sem] r_seq r_skip r_retC r_exitC r_label r_block r_region r_regionW r_xWt r_xW r_cond r_Bt r_Bf r_Ncode r_Nret r_Nexit r_Nblk r_Nblkr r_Nblke r_Nnil r_Es r_Onil r_Oop r_Oif r_Xs r_Gt r_Gf r_wtt r_wtf r_wft r_wff r_wu r_gO r_putS r_putN r_get r_keepN r_keepC r_fr r_fn r_fi r_ff r_fo r_l1 r_l2t r_cun r_cul r_cub r_cui r_cus r_cuis r_cuc r_cusl r_cuti r_cutv r_ven r_vec r_l2f r_l3 r_t1 r_t2 r_t0 r_rt r_rc r_en r_ec r_cM r_oN r_oC r_end r_endt r_endf r_nob0 r_nobN r_nobC r_nobE r_nb0 r_nbi r_nbs r_nbsl r_nbin r_nbce r_nLn r_nLv r_nLc r_nAa r_nAn r_nAk_b r_nAk_i r_nAk_s r_nAk_n r_nAk_is r_nAk_ce r_nAk_fp r_nAk_sl r_nAk_pt r_nAk_fn r_nsn r_nsv r_nsc r_m0 r_mi r_ms r_msl r_min r_mce r_mLn r_mLv r_mLc r_mAa r_mAn r_mAk_b r_mAk_i r_mAk_s r_mAk_n r_mAk_is r_mAk_ce r_mAk_fp r_mAk_sl r_mAk_pt r_mAk_fn r_msn r_msv r_msc r_atb r_ati r_ats r_atn r_atis r_atc r_atf r_atl r_atp r_atfn r_gcn r_gcc r_gLn r_gLc r_gIt r_ndn r_ndc r_gcB r_gLB r_two r_rea r_rea0 r_re1n r_re1c r_ori r_orv r_ord r_orn r_adn r_adc r_ad1 r_ern r_ers r_er0 r_rsl r_rptr r_rb r_ri r_rs r_rn r_ris r_rce r_rfp r_ra4 r_ra3 r_rt4 r_rf4 r_rf3 r_idS r_idc r_nS r_nP r_nF r_nT r_vsl r_vptr r_vb r_vi r_vs r_vn r_vis r_vce r_vfp r_va4 r_va3 r_vt4 r_vf4 r_vf3 r_rV r_Oi r_Ov r_Od r_rE r_rE0 r_En r_Ec r_E0 r_pO r_pk r_agL r_cO r_fO r_fSi r_fSv r_fPv r_fsl r_fptr r_ffn r_fag r_fb r_fint r_fstr r_fnil r_fis r_fce r_ffp r_res r_move r_assign r_pick r_pickt r_pickf r_alloc r_box r_al r_build r_bslice r_load r_store r_nlc r_nl1 r_nl2 r_bin r_un r_conv r_mkf r_mks r_slc r_fad r_fld r_iad r_idx r_ext r_ex1 r_callf r_callt r_callen r_calapp r_calmax r_calmin r_vt r_vcb r_vci r_vcs r_vcnp r_vcn r_vca r_vcf r_vcg r_ofb r_ofi r_ofs r_ofn r_evs r_pn r_prt r_pc r_one_a r_one_b r_one_i r_one_s r_one_n r_one_is r_one_ce r_one_fp r_one_sl r_one_pt r_one_fn r_cs_a r_cs_b r_cs_i r_cs_s r_cs_n r_cs_is r_cs_ce r_cs_fp r_cs_sl r_cs_pt r_cs_fn r_tov r_tovA r_toc r_toa r_tb r_ti r_ts r_tn r_bd r_bd2 r_filn r_fp1 r_filc r_fsn r_fsc r_san r_sac r_bs2 r_bs1 r_nE r_newO r_mkq r_mkI r_mkOi r_mkOv r_tIn r_tIc r_repz r_repn r_ldp r_ldf r_l1t r_l1f r_lFt r_lFf r_aggO r_obj r_at r_ati' r_atv r_celli r_cellv r_subi r_subv r_sto r_sto1 r_sto2 r_sets r_setR r_setn r_setc r_s1i r_s1v r_bin1 r_bin2 r_tv1 r_cb r_ci r_cst r_cn r_csl r_cis r_cce r_uni r_unb r_cv r_cvO r_cvN r_cv0 r_cvS r_wB r_cvi r_cvs r_cvb r_cvl r_sO r_rdn r_rdi r_rdl r_rdO r_vsub r_vfn r_mk r_mk1 r_mk2 r_zoi r_zov r_leni r_lenv r_bn r_bndV r_bo r_sl0 r_sl1 r_vsz r_ct1 r_cts r_cti r_ctc r_ctn r_lnl r_lni r_lnc r_lnn r_fa r_fap r_faf r_fi1 r_fit r_fif r_ixi r_ixs r_ixc r_ixf r_ixF r_ixF2 r_ix1 r_ixsl r_ixin r_ixce r_len1 r_lenA r_lTs r_lTn r_lTl r_lTi r_lTc r_app0 r_app9 r_paf r_pat r_frn r_fre r_tt1 r_tt2 r_tt3 r_app r_app1 r_app2 r_app3 r_catO r_cati r_catv r_newt r_newf r_pair r_pairK r_trip r_kis r_kiv r_srn r_srl r_sri r_src r_srs r_oln r_ole r_oll r_vw r_wi r_wv r_mm r_max r_min' r_str r_cF r_c2t r_c3f r_c3t r_ab r_c2f r_cV r_p1 r_la r_la2t r_la2f r_la3 r_sh r_z_is r_z_ce r_z_fp r_z_b r_z_i r_z_s r_z_n r_z_l r_z_p r_z_a4 r_z_a3 r_z_t4 r_zoI r_zoV r_roN r_roC r_roi r_rod r_zod r_rov r_aR r_trOi r_trOv r_trPv r_trl r_trp r_trf r_tra r_trb r_tri r_trs r_trn r_tris r_trce r_trfp r_vJ r_vJs r_vJn
attribute [local go_sem] b_add b_sub b_mul b_quo b_rem b_shl b_shr b_eql b_neq b_lss b_leq b_gtr b_geq eqB_s b_eqB b_neB u_neg u_not b_nn b_nn' eqS_s zerosT_s zerosT_n zt_i zt_sl zt_st dstOf_z dstOf_n iltT iltF ileT ileF ieqT ieqF nltT nltF nleT nleF neqT neqF tdiv_pos tmod_pos w64 idx0 List.take_of_length_le
/- FnPlains: what is plain is its own plain text, and means the same. No conditions. -/
section
open Num
section
variable {b : List Int}
theorem eq_str (P : Program) (t : TypeId) (s : ByteArray) : toV1 (binE P .eql t (.str s) (.str s)) = some (.bool true) := by
  show vbin P .eql t (some (.str s)) (some (.str s)) = some (.bool true)
  rw [r_str]; simp
theorem sameBytes_v (d : Nat) {a : List Int} (ha : a.length < 1000000) : vrun Try.prog kn (d + 1) 14 [.ints .u8 a, .ints .u8 a] [] = some (.bool true, []) := by
  rw [vrun_v Try.func14 rfl rfl rfl]; simp only [Try.f14]
  simp (implicitDefEqProofs := false) (disch := omega) [go_sem, tab14, eq_str]
def flH (P xl PT yl RS : List Int) (xn yn : Bool) : VH := [.ints true .u8 P, .ints true .i64 xl, .vals true [.bool xn, .sl 1 0 xl.length 1], .ints true .u8 PT, .ints true .i64 yl, .vals true [.bool yn, .sl 4 0 yl.length 1], .ints true .i64 RS]
def flE (P RS : List Int) (f1 f2 : Bool) (j : Nat) : VE := [(4, some (.sl 0 0 P.length 1)), (6, some (.ptr 2 0)), (7, some (.bool f1)), (8, some (.ptr 5 0)), (9, some (.bool f2)), (10, some (.sl 6 0 RS.length 1)), (11, some (.int .i64 j))]
theorem fl_r (d : Nat) {P xl PT yl RS : List Int} {xn yn f1 f2 : Bool} {j : Nat} (hj : j < RS.length) (hR : RS.length < 100000) (hok : ∀ z ∈ RS, (0 ≤ digF z → z ≤ 57) ∧ (blkF z = true → z = 32) ∧ (sgnF z ≠ 0 → z ≤ 45)) : vCode Try.prog kn (vrun Try.prog kn (d + 7)) 3 (loopAt Try.f3 0) (flE P RS f1 f2 j) (flH P xl PT yl RS xn yn) = some (.norm, flE P RS f1 f2 (j + 1), flH P xl PT yl RS xn yn) := by
  obtain ⟨k1, k2, k3⟩ := hok _ (gt_mem hj)
  generalize hz : gt RS j = z at *
  have e1 := fun d => DigitOf_v d (r := z)
  have e2 := fun d => IsBlank_v d (r := z)
  have e3 := fun d => SignOf_v d (r := z)
  clear hok
  rw [round_v]; simp only [loopAt, nthC, bodyC, loops, List.nil_append, List.cons_append, List.append_nil, Try.f3, flE, flH]
  by_cases c1 : 0 ≤ digF z
  · have c1' : ¬ 57 < z := by have := k1 c1; omega
    cases c2 : blkF z with
    | false =>
      by_cases c3 : sgnF z = 0
      · simp (implicitDefEqProofs := false) (disch := omega) [go_sem, tab3, hz, e1, e2, e3, c1, c1', c2, c3]
      · have c3' : ¬ 45 < z := by have := k3 c3; omega
        simp (implicitDefEqProofs := false) (disch := omega) [go_sem, tab3, hz, e1, e2, e3, c1, c1', c2, c3, c3']
    | true =>
      obtain rfl := k2 c2
      by_cases c3 : sgnF 32 = 0
      · simp (implicitDefEqProofs := false) (disch := omega) [go_sem, tab3, hz, e1, e2, e3, c1, c2, c3]
      · exact absurd (by decide) c3
  · cases c2 : blkF z with
    | false =>
      by_cases c3 : sgnF z = 0
      · simp (implicitDefEqProofs := false) (disch := omega) [go_sem, tab3, hz, e1, e2, e3, c1, c2, c3]
      · have c3' : ¬ 45 < z := by have := k3 c3; omega
        simp (implicitDefEqProofs := false) (disch := omega) [go_sem, tab3, hz, e1, e2, e3, c1, c2, c3, c3']
    | true =>
      obtain rfl := k2 c2
      by_cases c3 : sgnF 32 = 0
      · simp (implicitDefEqProofs := false) (disch := omega) [go_sem, tab3, hz, e1, e2, e3, c1, c2, c3]
      · exact absurd (by decide) c3
theorem fl_x (call : CallV) {P xl PT yl RS : List Int} {xn yn f1 f2 : Bool} (hR : RS.length < 100000) : vCode Try.prog kn call 3 (loopAt Try.f3 0) (flE P RS f1 f2 RS.length) (flH P xl PT yl RS xn yn) = some (.exit 0, flE P RS f1 f2 RS.length ++ [(50, some (.bool false))], flH P xl PT yl RS xn yn) := by
  rw [round_v]; simp only [loopAt, nthC, bodyC, loops, List.nil_append, List.cons_append, List.append_nil, Try.f3, flE, flH]
  simp (implicitDefEqProofs := false) (disch := omega) [go_sem, tab3]
set_option maxHeartbeats 4000000 in
theorem FnPlains_v (d : Nat) (hb : b.length ≤ 140737488351232) (hw : ∀ x ∈ b, (Lit.int .u8 x).wf = true) : vrun Try.prog kn (d + 8) 3 [.ints .u8 b] [] = some (.bool true, []) := by
  have hc := cod_of hb hw
  obtain ⟨B, d1, hB, hBb⟩ := DrawPlain_v (d + 1) hc
  obtain ⟨T, d2, hT, hTb⟩ := DrawWholeRead_v (d + 0) hc
  by_cases h4 : 400 < B.length
  · have p1 := fun d => Plain_l (b := B) d h4 (by omega)
    clear hBb hTb hb hw hc
    rw [vrun_v Try.func3 rfl rfl rfl]; simp only [Try.f3]
    simp (implicitDefEqProofs := false) (disch := omega) [go_sem, tab3, d1, p1, h4]
  have p1 := fun d => Plain_v (b := B) d (by omega) hBb
  have hPb := plainF_byte hBb
  have hPl := plainF_len B
  have e2 := plainF_2 hBb
  have eR := runesF_plain hBb
  have hRl := runesF_len (plainF B)
  by_cases h5 : 400 < (plainF B).length
  · generalize plainF B = P at *
    clear hBb hTb hPb hb hw hc
    rw [vrun_v Try.func3 rfl rfl rfl]; simp only [Try.f3]
    simp (implicitDefEqProofs := false) (disch := omega) [go_sem, tab3, d1, p1, h4, h5]
  have p2 := fun d => Plain_v (b := plainF B) d (by omega) hPb
  rw [e2] at p2
  have r1 := fun d => Runes_v (b := plainF B) d (by omega) hPb
  have hok : ∀ z ∈ runesF (plainF B), (0 ≤ digF z → z ≤ 57) ∧ (blkF z = true → z = 32) ∧ (sgnF z ≠ 0 → z ≤ 45) := by
    rw [eR]
    intro z hz
    obtain ⟨r, _, rfl⟩ := List.mem_map.1 hz
    exact nrm_ok r
  have w1 := fun d => WholeRead_v (b := T) d (by omega) hTb
  have lw := wrT_len T
  obtain ⟨PT, p3, hPTl, hPTb, w2, w3⟩ : ∃ PT : List Int, (∀ d, vrun Try.prog kn (d + 6) 7 [.ints .u8 T] [] = some (.sl 0 0 PT.length 1, [.ints true .u8 PT])) ∧ PT.length < 1000000 ∧ (∀ x ∈ PT, 0 ≤ x ∧ x < 256) ∧ wrT PT = wrT T ∧ wrF PT = wrF T := by
    by_cases h6 : T.length ≤ 400
    · have hl := plainF_len T
      obtain ⟨a1, a2⟩ := wr_plain hTb h6
      exact ⟨plainF T, fun d => Plain_v (b := T) d h6 hTb, by omega, plainF_byte hTb, a1, a2⟩
    · obtain ⟨a1, a2⟩ := wr_no (b := T) (by omega)
      obtain ⟨a3, a4⟩ := wr_nil
      exact ⟨[], fun d => Plain_l (b := T) d (by omega) (by omega), by simp, fun x hx => by simp at hx, by rw [a1, a3], by rw [a2, a4]⟩
  have w4 := fun d => WholeRead_v (b := PT) d (by omega) hPTb
  rw [w2, w3] at w4
  have sw := fun d => sameWhole_v (a := (wrT T).l) (b := (wrT T).l) (n1 := (wrT T).neg) (n2 := (wrT T).neg) d (by omega) (by omega)
  simp only [decide_true, Bool.and_true] at sw
  have sb := fun d => sameBytes_v (a := plainF B) d (by omega)
  have dg := fun d => DigitOf_v d (r := 1634)
  rw [show digF 1634 = 2 from by decide] at dg
  have hl0 := fun ks => loop_v (P := Try.prog) (K := kn) (ks := ks) (vi_for (fun j => (flE (plainF B) (runesF (plainF B)) (wrF T) (wrF T) j, flH (plainF B) (wrT T).l PT (wrT T).l (runesF (plainF B)) (wrT T).neg (wrT T).neg)) (runesF (plainF B)).length (n := kn.cf.rounds) (by rw [k_cf, c_rounds]; omega) (fun j hj => fl_r d hj (by omega) hok) fun m => vi_exit (fl_x _ (by omega)))
  simp only [loopAt, nthC, bodyC, loops, List.nil_append, List.cons_append, List.append_nil, Try.f3, flE, flH, Int.natCast_zero, List.cons_append, List.nil_append] at hl0
  clear e2 eR hok hPb hPTb hBb hTb w2 w3 hb hw hc
  generalize runesF (plainF B) = RS at *
  generalize plainF B = P at *
  generalize (wrT T).l = xl at *
  generalize (wrT T).neg = xn at *
  cases hf : wrF T
  all_goals
    rw [hf] at hl0 w1 w4
    rw [vrun_v Try.func3 rfl rfl rfl]; simp only [Try.f3]
    simp (implicitDefEqProofs := false) (disch := omega) [go_sem, tab3, d1, d2, p1, p2, p3, r1, w1, w4, sw, sb, dg, hl0, h4, h5]
end
end
end Go.Eng
