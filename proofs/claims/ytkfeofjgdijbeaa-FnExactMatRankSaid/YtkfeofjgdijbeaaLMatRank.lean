/- What the functions of this seat do, one after another, told by plain values. No conditions. -/
import Derived.Test.YtkfeofjgdijbeaaSeat
import Derived.Test.YtkfeofjgdijbeaaVb
import Derived.Test.YtkfeofjgdijbeaaVc
import Derived.Test.YtkfeofjgdijbeaaT5
set_option linter.unusedVariables false
set_option linter.unusedSimpArgs false
namespace Go.Eng
open Go.Proofs
set_option maxRecDepth 100000
set_option linter.unusedSimpArgs false
attribute [local go_sem] r_seq r_skip r_retC r_exitC r_label r_block r_region r_regionW r_xWt r_xW r_cond r_Bt r_Bf r_Ncode r_Nret r_Nexit r_Nblk r_Nblkr r_Nblke r_Nnil r_Es r_Onil r_Oop r_Oif r_Xs r_Gt r_Gf r_wtt r_wtf r_wft r_wff r_wu r_gO r_putS r_putN r_get r_keepN r_keepC r_fr r_fn r_fi r_ff r_fo r_l1 r_l2t r_cun r_cul r_cub r_cui r_cus r_cuis r_cuc r_cusl r_cuti r_cutv r_ven r_vec r_l2f r_l3 r_t1 r_t2 r_t0 r_rt r_rc r_en r_ec r_cM r_oN r_oC r_end r_endt r_endf r_nob0 r_nobN r_nobC r_nobE r_nb0 r_nbi r_nbs r_nbsl r_nbin r_nbce r_nLn r_nLv r_nLc r_nAa r_nAn r_nAk_b r_nAk_i r_nAk_s r_nAk_n r_nAk_is r_nAk_ce r_nAk_fp r_nAk_sl r_nAk_pt r_nAk_fn r_nsn r_nsv r_nsc r_m0 r_mi r_ms r_msl r_min r_mce r_mLn r_mLv r_mLc r_mAa r_mAn r_mAk_b r_mAk_i r_mAk_s r_mAk_n r_mAk_is r_mAk_ce r_mAk_fp r_mAk_sl r_mAk_pt r_mAk_fn r_msn r_msv r_msc r_atb r_ati r_ats r_atn r_atis r_atc r_atf r_atl r_atp r_atfn r_gcn r_gcc r_gLn r_gLc r_gIt r_ndn r_ndc r_gcB r_gLB r_two r_rea r_rea0 r_re1n r_re1c r_ori r_orv r_ord r_orn r_adn r_adc r_ad1 r_ern r_ers r_er0 r_rsl r_rptr r_rb r_ri r_rs r_rn r_ris r_rce r_rfp r_ra4 r_ra3 r_rt4 r_rf4 r_rf3 r_idS r_idc r_nS r_nP r_nF r_nT r_vsl r_vptr r_vb r_vi r_vs r_vn r_vis r_vce r_vfp r_va4 r_va3 r_vt4 r_vf4 r_vf3 r_rV r_Oi r_Ov r_Od r_rE r_rE0 r_En r_Ec r_E0 r_pO r_pk r_agL r_cO r_fO r_fSi r_fSv r_fPv r_fsl r_fptr r_ffn r_fag r_fb r_fint r_fstr r_fnil r_fis r_fce r_ffp r_res r_move r_assign r_pick r_pickt r_pickf r_alloc r_box r_al r_build r_bslice r_load r_store r_nlc r_nl1 r_nl2 r_bin r_un r_conv r_mkf r_mks r_slc r_fad r_fld r_iad r_idx r_ext r_ex1 r_callf r_callt r_callen r_calapp r_calmax r_calmin r_vt r_vcb r_vci r_vcs r_vcnp r_vcn r_vca r_vcf r_vcg r_ofb r_ofi r_ofs r_ofn r_evs r_pn r_prt r_pc r_one_a r_one_b r_one_i r_one_s r_one_n r_one_is r_one_ce r_one_fp r_one_sl r_one_pt r_one_fn r_cs_a r_cs_b r_cs_i r_cs_s r_cs_n r_cs_is r_cs_ce r_cs_fp r_cs_sl r_cs_pt r_cs_fn r_tov r_tovA r_toc r_toa r_tb r_ti r_ts r_tn r_bd r_bd2 r_filn r_fp1 r_filc r_fsn r_fsc r_san r_sac r_bs2 r_bs1 r_nE r_newO r_mkq r_mkI r_mkOi r_mkOv r_tIn r_tIc r_repz r_repn r_ldp r_ldf r_l1t r_l1f r_lFt r_lFf r_aggO r_obj r_at r_ati' r_atv r_celli r_cellv r_subi r_subv r_sto r_sto1 r_sto2 r_sets r_setR r_setn r_setc r_s1i r_s1v r_bin1 r_bin2 r_tv1 r_cb r_ci r_cst r_cn r_csl r_cis r_cce r_uni r_unb r_cv r_cvO r_cvN r_cv0 r_cvS r_wB r_cvi r_cvs r_cvb r_cvl r_sO r_rdn r_rdi r_rdl r_rdO r_vsub r_vfn r_mk r_mk1 r_mk2 r_zoi r_zov r_leni r_lenv r_bn r_bndV r_bo r_sl0 r_sl1 r_vsz r_ct1 r_cts r_cti r_ctc r_ctn r_lnl r_lni r_lnc r_lnn r_fa r_fap r_faf r_fi1 r_fit r_fif r_ixi r_ixs r_ixc r_ixf r_ixF r_ixF2 r_ix1 r_ixsl r_ixin r_ixce r_len1 r_lenA r_lTs r_lTn r_lTl r_lTi r_lTc r_app0 r_app9 r_paf r_pat r_frn r_fre r_tt1 r_tt2 r_tt3 r_app r_app1 r_app2 r_app3 r_catO r_cati r_catv r_newt r_newf r_pair r_pairK r_trip r_kis r_kiv r_srn r_srl r_sri r_src r_srs r_oln r_ole r_oll r_vw r_wi r_wv r_mm r_max r_min' r_str r_cF r_c2t r_c3f r_c3t r_ab r_c2f r_cV r_p1 r_la r_la2t r_la2f r_la3 r_sh r_z_is r_z_ce r_z_fp r_z_b r_z_i r_z_s r_z_n r_z_l r_z_p r_z_a4 r_z_a3 r_z_t4 r_zoI r_zoV r_roN r_roC r_roi r_rod r_zod r_rov r_aR r_trOi r_trOv r_trPv r_trl r_trp r_trf r_tra r_trb r_tri r_trs r_trn r_tris r_trce r_trfp r_vJ r_vJs r_vJn
attribute [local go_sem] b_add b_sub b_mul b_quo b_rem b_shl b_shr b_eql b_neq b_lss b_leq b_gtr b_geq eqB_s b_eqB b_neB u_neg u_not b_nn b_nn' eqS_s zerosT_s zerosT_n zt_i zt_sl zt_st dstOf_z dstOf_n iltT iltF ileT ileF ieqT ieqF nltT nltF nleT nleF neqT neqF tdiv_pos tmod_pos w64 idx0 List.take_of_length_le
/- FnExactMatRank. No conditions. -/
section
open Num
def mRank (N : Int) (ds : List DyT) : Nat := if matOkB N ds then outB ds N.toNat (2 ^ N.toNat - 1) (2 ^ N.toNat - 1) else 0
theorem rw0_eq (ds : List DyT) (n : Nat) : rw0 ds n = (List.range n).map fun i c => (fAt ds n i c).sv (-((3000 : Nat) : Int)) := by
  unfold rw0 rowsOf
  rw [List.map_map]
  refine List.map_congr_left fun i _ => ?_
  show rF (-((rE 0 : Nat) : Int)) (rowAt ds n i) = _
  rw [rF_f]; rfl
theorem matOk_r {N : Int} {ds : List DyT} (h : matOkB N ds = true) : ∃ n : Nat, N = n ∧ 1 ≤ n ∧ n ≤ 4 ∧ ds.length = n * n ∧ ∀ x ∈ ds, dyOkB x = true := by
  unfold matOkB at h
  simp only [Bool.and_eq_true, decide_eq_true_eq] at h
  obtain ⟨⟨⟨h1, h2⟩, h3⟩, h4⟩ := h
  obtain ⟨n, rfl⟩ : ∃ n : Nat, N = n := ⟨N.toNat, by omega⟩
  exact ⟨n, rfl, by omega, by omega, by exact_mod_cast h3, List.all_eq_true.1 h4⟩
theorem ok_EF {x : DyT} (h : dyOkB x = true) : EF (rB 0) (rE 0) x := by
  obtain ⟨h1, h2, h3, h4, _⟩ := okD h
  exact ⟨h1, h2, by show -((3000 * 2 ^ 0 : Nat) : Int) ≤ _; omega, by show _ ≤ ((3000 * 2 ^ 0 : Nat) : Int); omega⟩
theorem f_bd {ds : List DyT} {n K T : Nat} (hK : K = 3000) (hT : T = 7600) (ho : ∀ x ∈ ds, dyOkB x = true) (i c : Nat) : BD K T (fAt ds n i c) :=
  fAt_all (P := BD K T) (fun x hx => ok_bdg (ho x hx) hK rfl rfl rfl (by omega)) (.zero K T) i c
end
section
open Num
section
variable {ds : List DyT} {N : Int}
theorem MatRank_v (d : Nat) (hl : ds.length < 100000000) (hs : ∀ x ∈ ds, x.sz) : vrun Try.prog kn (d + 16) 28 [.agg [.int .i64 N, .cells 3 ds.length (flat DyT.v ds)]] [] = some (.int .i64 (mRank N ds), []) := by
  have h1 := fun d => MatOk_v (N := N) d hl hs
  unfold mRank
  cases hm : matOkB N ds with
  | false =>
    rw [hm] at h1
    rw [vrun_v Try.func28 rfl rfl rfl]; simp only [Try.f28]
    simp (disch := omega) [go_sem, tab28, h1]
  | true =>
    rw [hm] at h1
    obtain ⟨n, rfl, n1, n2, hln, ho⟩ := matOk_r hm
    have hnn : n * n ≤ 16 := Nat.mul_le_mul n2 n2
    have h2 := fun d => grid_v (N := (n : Int)) d (ds := ds) (by omega) (by have := Nat.mul_pos (show 0 < n by omega) (show 0 < n by omega); omega) (fun y hy => by obtain ⟨e1, x1, _⟩ := okD (ho y hy); rw [e1]; omega)
    obtain ⟨r, L, h3, h4⟩ := rank_v (d + 6) n1 n2 hln (fun x hx => ok_EF (ho x hx))
    obtain ⟨g1, g2⟩ := outB_nz (K := 3000) (T := 7600) (f_bd rfl rfl ho) n2 hln
    rw [rw0_eq, ← List.range_eq_range'] at h4
    have he := rank_eq h4 g1 g2
    simp only [if_true, Int.toNat_natCast]
    rw [he]
    clear h4 g1 g2 he ho hm hs hl hln
    generalize flat DyT.v ds = F at *
    rw [vrun_v Try.func28 rfl rfl rfl]; simp only [Try.f28]
    simp (disch := omega) [go_sem, tab28, h1, h2, h3]
theorem sMatRank_v (d : Nat) (hl : ds.length < 100000000) (hs : ∀ x ∈ ds, x.sz) : vrun Try.prog kn (d + 4 + 8) 26 [.agg [.int .i64 N, .cells 3 ds.length (flat DyT.v ds)]] [] = some (.int .i64 (mRank N ds), []) := by
  have h1 := fun d => sMatOk_v (N := N) d hl hs
  unfold mRank
  cases hm : matOkB N ds with
  | false =>
    rw [hm] at h1
    rw [vrun_v Try.func26 rfl rfl rfl]; simp only [Try.f26]
    simp (disch := omega) [go_sem, tab26, h1]
  | true =>
    rw [hm] at h1
    obtain ⟨n, rfl, n1, n2, hln, ho⟩ := matOk_r hm
    have h2 := fun d => l9rank_v (K := 3000) (T := 7600) d (f_bd rfl rfl ho) rfl rfl n1 n2 hln
    simp only [if_true, Int.toNat_natCast]
    clear ho hm hs hl hln
    generalize outB ds n (2 ^ n - 1) (2 ^ n - 1) = w at *
    generalize flat DyT.v ds = F at *
    rw [vrun_v Try.func26 rfl rfl rfl]; simp only [Try.f26]
    simp (disch := omega) [go_sem, tab26, h1, h2]
theorem FnExactMatRank_v (d : Nat) (_ : (Lit.int .i64 N).wf = true) (hl : ds.length ≤ 9223372036854775807) (hrow : ∀ x ∈ ds, x.row) : vrun Try.prog kn (d + 4 + 17) 5 [.agg [.int .i64 N, .cells 3 ds.length (flat DyT.v ds)]] [] = some (.bool true, []) := by
  have hs : ∀ x ∈ ds, x.l.length ≤ 9223372036854775807 := fun x hx => (hrow x hx).1
  obtain ⟨r, hr, h2, h3⟩ := szMat_v (N := N) (left := 1048576) (d := d + 4 + 10) hl hs (by omega) (by omega)
  by_cases h : r < 0
  · rw [vrun_v Try.func5 rfl rfl rfl]; simp only [Try.f5]
    simp (disch := omega) [go_sem, tab5, hr]
  · obtain ⟨h4, h5⟩ := h3 (by omega)
    have z1 : ∀ x ∈ ds, x.l.length < 1000000000 := fun x hx => by have := h5 x hx; omega
    have y1 : ∀ x ∈ ds, x.sz := fun x hx => by have := h5 x hx; unfold DyT.sz; omega
    have h1 := fun d => toMat_v (N := N) d (ds := ds) (by omega) z1
    have h6 := fun d => MatRank_v (N := N) d (ds := ds) (by omega) y1
    have h7 := fun d => sMatRank_v (N := N) d (ds := ds) (by omega) y1
    have h8 := fun d => eqMat_v (N := N) (M := N) d (ds := ds) (es := ds) (by omega) (by omega) z1 z1
    simp only [decide_true, Bool.and_true] at h8
    rw [vrun_v Try.func5 rfl rfl rfl]; simp only [Try.f5]
    simp (disch := omega) [go_sem, tab5, hr, h1, h6, h7, h8]
end
end
end Go.Eng
