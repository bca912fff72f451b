/- What two intervals have in common; interval matrices that meet: program and reference. No conditions. -/
import Derived.Test.YtlcoopdgammmjaaMaxMin
import Derived.Test.YtlcoopdgammmjaaIvMatOk
import Derived.Test.YtlcoopdgammmjaaDcmp
set_option linter.unusedVariables false
set_option linter.unusedSimpArgs false
namespace Go.Eng
open Go.Proofs
set_option maxRecDepth 100000
set_option linter.unusedSimpArgs false
attribute [local go_sem] r_seq r_skip r_retC r_exitC r_label r_block r_region r_regionW r_xWt r_xW r_cond r_Bt r_Bf r_Ncode r_Nret r_Nexit r_Nblk r_Nblkr r_Nblke r_Nnil r_Es r_Onil r_Oop r_Oif r_Xs r_Gt r_Gf r_wtt r_wtf r_wft r_wff r_wu r_gO r_putS r_putN r_get r_keepN r_keepC r_fr r_fn r_fi r_ff r_fo r_l1 r_l2t r_cun r_cul r_cub r_cui r_cus r_cuis r_cuc r_cusl r_cuti r_cutv r_ven r_vec r_l2f r_l3 r_t1 r_t2 r_t0 r_rt r_rc r_en r_ec r_cM r_oN r_oC r_end r_endt r_endf r_nob0 r_nobN r_nobC r_nobE r_nb0 r_nbi r_nbs r_nbsl r_nbin r_nbce r_nLn r_nLv r_nLc r_nAa r_nAn r_nAk_b r_nAk_i r_nAk_s r_nAk_n r_nAk_is r_nAk_ce r_nAk_fp r_nAk_sl r_nAk_pt r_nAk_fn r_nsn r_nsv r_nsc r_m0 r_mi r_ms r_msl r_min r_mce r_mLn r_mLv r_mLc r_mAa r_mAn r_mAk_b r_mAk_i r_mAk_s r_mAk_n r_mAk_is r_mAk_ce r_mAk_fp r_mAk_sl r_mAk_pt r_mAk_fn r_msn r_msv r_msc r_atb r_ati r_ats r_atn r_atis r_atc r_atf r_atl r_atp r_atfn r_gcn r_gcc r_gLn r_gLc r_gIt r_ndn r_ndc r_gcB r_gLB r_two r_rea r_rea0 r_re1n r_re1c r_ori r_orv r_ord r_orn r_adn r_adc r_ad1 r_ern r_ers r_er0 r_rsl r_rptr r_rb r_ri r_rs r_rn r_ris r_rce r_rfp r_ra4 r_ra3 r_rt4 r_rf4 r_rf3 r_idS r_idc r_nS r_nP r_nF r_nT r_vsl r_vptr r_vb r_vi r_vs r_vn r_vis r_vce r_vfp r_va4 r_va3 r_vt4 r_vf4 r_vf3 r_rV r_Oi r_Ov r_Od r_rE r_rE0 r_En r_Ec r_E0 r_pO r_pk r_agL r_cO r_fO r_fSi r_fSv r_fPv r_fsl r_fptr r_ffn r_fag r_fb r_fint r_fstr r_fnil r_fis r_fce r_ffp r_res r_move r_assign r_pick r_pickt r_pickf r_alloc r_box r_al r_build r_bslice r_load r_store r_nlc r_nl1 r_nl2 r_bin r_un r_conv r_mkf r_mks r_slc r_fad r_fld r_iad r_idx r_ext r_ex1 r_callf r_callt r_callen r_calapp r_calmax r_calmin r_vt r_vcb r_vci r_vcs r_vcn r_vca r_vcf r_vcg r_ofb r_ofi r_ofs r_ofn r_evs r_pn r_prt r_pc r_one_a r_one_b r_one_i r_one_s r_one_n r_one_is r_one_ce r_one_fp r_one_sl r_one_pt r_one_fn r_cs_a r_cs_b r_cs_i r_cs_s r_cs_n r_cs_is r_cs_ce r_cs_fp r_cs_sl r_cs_pt r_cs_fn r_tov r_tovA r_toc r_toa r_tb r_ti r_ts r_tn r_bd r_bd2 r_filn r_fp1 r_filc r_fsn r_fsc r_san r_sac r_bs2 r_bs1 r_newO r_mkq r_mkI r_mkOi r_mkOv r_tIn r_tIc r_repz r_repn r_ldp r_ldf r_l1t r_l1f r_lFt r_lFf r_aggO r_obj r_at r_ati' r_atv r_celli r_cellv r_subi r_subv r_sto r_sto1 r_sto2 r_sets r_setR r_setn r_setc r_s1i r_s1v r_bin1 r_bin2 r_tv1 r_cb r_ci r_cst r_cn r_csl r_cis r_cce r_uni r_unb r_cv r_cvi r_cvs r_cvb r_cvl r_sO r_rdn r_rdi r_rdl r_rdO r_vsub r_vfn r_mk r_mk1 r_mk2 r_zoi r_zov r_leni r_lenv r_bn r_bndV r_bo r_sl0 r_sl1 r_vsz r_ct1 r_cts r_cti r_ctc r_ctn r_lnl r_lni r_lnc r_lnn r_fa r_fap r_faf r_fi1 r_fit r_fif r_ixi r_ixs r_ixc r_ixf r_ixF r_ixF2 r_ix1 r_ixsl r_ixin r_ixce r_len1 r_lenA r_lTs r_lTn r_lTl r_lTi r_lTc r_app0 r_app r_app1 r_app2 r_app3 r_catO r_cati r_catv r_newt r_newf r_pair r_pairK r_trip r_kis r_kiv r_srn r_srl r_sri r_src r_srs r_oln r_oll r_vw r_wi r_wv r_mm r_max r_min' r_str r_cF r_c2t r_c3f r_c3t r_ab r_c2f r_cV r_p1 r_la r_la2t r_la2f r_la3 r_sh r_z_is r_z_ce r_z_fp r_z_b r_z_i r_z_s r_z_n r_z_l r_z_p r_z_a4 r_z_a3 r_z_t4 r_zoI r_zoV r_roN r_roC r_roi r_rod r_zod r_rov r_aR r_trOi r_trOv r_trPv r_trl r_trp r_trf r_tra r_trb r_tri r_trs r_trn r_tris r_trce r_trfp
attribute [local go_sem] b_add b_sub b_mul b_quo b_rem b_shl b_shr b_eql b_neq b_lss b_leq b_gtr b_geq eqB_s b_eqB b_neB u_neg u_not b_nn b_nn' eqS_s zerosT_s zerosT_n zt_i zt_sl zt_st dstOf_z dstOf_n iltT iltF ileT ileF ieqT ieqF nltT nltF nleT nleF neqT neqF tdiv_pos tmod_pos w64 idx0 List.take_of_length_le
open Num
section
variable {v w : IvT}
def meetT (v w : IvT) : IvT := ⟨mxF v.lo w.lo, mnF v.hi w.hi⟩
theorem meet_v (d : Nat) (h1 : exOk v.lo) (h2 : exOk v.hi) (h3 : exOk w.lo) (h4 : exOk w.hi) : vrun Try.prog kn (d + 8) 51 [.agg [.bool v.lo.neg, .ints .i64 v.lo.l, .int .i64 v.lo.e, .bool v.hi.neg, .ints .i64 v.hi.l, .int .i64 v.hi.e], .agg [.bool w.lo.neg, .ints .i64 w.lo.l, .int .i64 w.lo.e, .bool w.hi.neg, .ints .i64 w.hi.l, .int .i64 w.hi.e]] [] = some (.tup [.agg (meetT v w).v, .bool (decide (dcmp (meetT v w).lo (meetT v w).hi ≤ 0))], []) := by
  have m1 := fun d => most_v d (a := v.lo) (r := [w.lo]) (by simp) h1 (by simpa using h3)
  have m2 := fun d => least_v d (a := v.hi) (r := [w.hi]) (by simp) h2 (by simpa using h4)
  have k1 := mxF_ok h1 h3
  have k2 := mnF_ok h2 h4
  simp only [List.foldl_cons, List.foldl_nil, flat, DyT.v, List.cons_append, List.nil_append, List.append_nil, List.length_cons, List.length_nil, Nat.zero_add] at m1 m2
  unfold meetT IvT.v
  simp only
  generalize mxF v.lo w.lo = x at *
  generalize mnF v.hi w.hi = y at *
  have c1 := fun d => dcmpE_v d k1 k2
  by_cases hq : dcmp x y ≤ 0
  · rw [vrun_v Try.func51 rfl rfl rfl]; simp only [Try.f51]
    simp (disch := omega) [go_sem, tab51, m1, m2, c1, hq]
  · rw [vrun_v Try.func51 rfl rfl rfl]; simp only [Try.f51]
    simp (disch := omega) [go_sem, tab51, m1, m2, c1, hq]
end
section
variable {vs ws : List IvT} {N M : Int}
theorem areIvMats_v (d : Nat) (hd : vs.length < 100000000) (hsd : ∀ x ∈ vs, x.sz) (he : ws.length < 100000000) (hse : ∀ x ∈ ws, x.sz) : vrun Try.prog kn (d + 22) 50 [.agg [.int .i64 N, .cells 6 vs.length (flat IvT.v vs)], .agg [.int .i64 M, .cells 6 ws.length (flat IvT.v ws)]] [] = some (.bool (ivMatOkB N vs && ivMatOkB M ws && decide (N = M)), []) := by
  have h1 := fun d => IvMatOk_v (N := N) d hd hsd
  have h2 := fun d => IvMatOk_v (N := M) d he hse
  cases hq : ivMatOkB N vs <;> rw [hq] at h1
  · rw [vrun_v Try.func50 rfl rfl rfl]; simp only [Try.f50]
    simp (disch := omega) [go_sem, tab50, h1]
  · cases hr : ivMatOkB M ws <;> rw [hr] at h2
    · rw [vrun_v Try.func50 rfl rfl rfl]; simp only [Try.f50]
      simp (disch := omega) [go_sem, tab50, h1, h2]
    · by_cases hn : N = M
      · subst hn
        rw [vrun_v Try.func50 rfl rfl rfl]; simp only [Try.f50]
        simp (disch := omega) [go_sem, tab50, h1, h2]
      · rw [vrun_v Try.func50 rfl rfl rfl]; simp only [Try.f50]
        simp (disch := omega) [go_sem, tab50, h1, h2, hn]
theorem l10both_v (d : Nat) (hd : vs.length < 100000000) (hsd : ∀ x ∈ vs, x.sz) (he : ws.length < 100000000) (hse : ∀ x ∈ ws, x.sz) : vrun Try.prog kn (d + 8) 49 [.agg [.int .i64 N, .cells 6 vs.length (flat IvT.v vs)], .agg [.int .i64 M, .cells 6 ws.length (flat IvT.v ws)]] [] = some (.bool (ivMatOkB N vs && ivMatOkB M ws && decide (N = M)), []) := by
  have h1 := fun d => sIvMatOk_v (N := N) d hd hsd
  have h2 := fun d => sIvMatOk_v (N := M) d he hse
  cases hq : ivMatOkB N vs <;> rw [hq] at h1
  · rw [vrun_v Try.func49 rfl rfl rfl]; simp only [Try.f49]
    simp (disch := omega) [go_sem, tab49, h1]
  · cases hr : ivMatOkB M ws <;> rw [hr] at h2
    · rw [vrun_v Try.func49 rfl rfl rfl]; simp only [Try.f49]
      simp (disch := omega) [go_sem, tab49, h1, h2]
    · by_cases hn : N = M
      · subst hn
        rw [vrun_v Try.func49 rfl rfl rfl]; simp only [Try.f49]
        simp (disch := omega) [go_sem, tab49, h1, h2]
      · rw [vrun_v Try.func49 rfl rfl rfl]; simp only [Try.f49]
        simp (disch := omega) [go_sem, tab49, h1, h2, hn]
def meetB (v w : IvT) : Bool := decide (dcmp v.lo w.hi ≤ 0) && decide (dcmp w.lo v.hi ≤ 0)
theorem meet_eq {v w : IvT} (hv : ivOkB v = true) (hw : ivOkB w = true) : decide (dcmp (meetT v w).lo (meetT v w).hi ≤ 0) = meetB v w := by
  obtain ⟨v1, v2⟩ := ivOk_and hv
  obtain ⟨w1, w2⟩ := ivOk_and hw
  have lv : dcmp v.lo v.hi ≤ 0 := by unfold ivOkB at hv; rw [Bool.and_eq_true, decide_eq_true_eq] at hv; exact hv.2
  have lw : dcmp w.lo w.hi ≤ 0 := by unfold ivOkB at hw; rw [Bool.and_eq_true, decide_eq_true_eq] at hw; exact hw.2
  unfold meetB meetT mxF mnF
  simp only
  have pos : ∀ {x y : DyT}, dyOkB x = true → dyOkB y = true → (0 < dcmp x y ↔ y.sv (-3000) < x.sv (-3000)) := fun hx hy => by have := dcmp_le hx hy; omega
  have neg : ∀ {x y : DyT}, dyOkB x = true → dyOkB y = true → (dcmp x y < 0 ↔ x.sv (-3000) < y.sv (-3000)) := fun hx hy => by have := dcmp_le hx hy; have := dcmp_eq hx hy; omega
  rw [dcmp_le v1 v2] at lv
  rw [dcmp_le w1 w2] at lw
  have p := pos w1 v1
  have q := neg w2 v2
  have e1 := dcmp_le v1 w2
  have e2 := dcmp_le w1 v2
  have e3 := dcmp_le v1 v2
  have e4 := dcmp_le w1 w2
  rw [Bool.eq_iff_iff, Bool.and_eq_true, decide_eq_true_eq, decide_eq_true_eq, decide_eq_true_eq]
  by_cases a : 0 < dcmp w.lo v.lo <;> by_cases b : dcmp w.hi v.hi < 0 <;> simp only [a, b, if_true, if_false] <;> omega
end
end Go.Eng
