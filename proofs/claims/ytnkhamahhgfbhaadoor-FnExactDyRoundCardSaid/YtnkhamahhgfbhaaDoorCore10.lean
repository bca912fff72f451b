/- natOf, wholeOf; all of some dyadic numbers are valid. No conditions. -/
import Derived.Test.YtnkhamahhgfbhaaDoorCore9
set_option linter.unusedVariables false
set_option linter.unusedSimpArgs false
namespace Go.Eng
open Go.Proofs
set_option maxRecDepth 100000
set_option linter.unusedSimpArgs false
attribute [local go_sem] r_seq r_skip r_retC r_exitC r_label r_block r_region r_regionW r_xWt r_xW r_cond r_Bt r_Bf r_Ncode r_Nret r_Nexit r_Nblk r_Nblkr r_Nblke r_Nnil r_Es r_Onil r_Oop r_Oif r_Xs r_Gt r_Gf r_wtt r_wtf r_wft r_wff r_wu r_gO r_putS r_putN r_get r_keepN r_keepC r_fr r_fn r_fi r_ff r_fo r_l1 r_l2t r_cun r_cul r_cub r_cui r_cus r_cuis r_cuc r_cusl r_cuti r_cutv r_ven r_vec r_l2f r_l3 r_t1 r_t2 r_t0 r_rt r_rc r_en r_ec r_cM r_oN r_oC r_end r_endt r_endf r_nob0 r_nobN r_nobC r_nobE r_nb0 r_nbi r_nbs r_nbsl r_nbin r_nbce r_nLn r_nLv r_nLc r_nAa r_nAn r_nAk_b r_nAk_i r_nAk_s r_nAk_n r_nAk_is r_nAk_ce r_nAk_fp r_nAk_sl r_nAk_pt r_nAk_fn r_nsn r_nsv r_nsc r_m0 r_mi r_ms r_msl r_min r_mce r_mLn r_mLv r_mLc r_mAa r_mAn r_mAk_b r_mAk_i r_mAk_s r_mAk_n r_mAk_is r_mAk_ce r_mAk_fp r_mAk_sl r_mAk_pt r_mAk_fn r_msn r_msv r_msc r_atb r_ati r_ats r_atn r_atis r_atc r_atf r_atl r_atp r_atfn r_gcn r_gcc r_gLn r_gLc r_gIt r_ndn r_ndc r_gcB r_gLB r_two r_rea r_rea0 r_re1n r_re1c r_ori r_orv r_ord r_orn r_adn r_adc r_ad1 r_ern r_ers r_er0 r_rsl r_rptr r_rb r_ri r_rs r_rn r_ris r_rce r_rfp r_ra4 r_ra3 r_rt4 r_rf4 r_rf3 r_idS r_idc r_nS r_nP r_nF r_nT r_vsl r_vptr r_vb r_vi r_vs r_vn r_vis r_vce r_vfp r_va4 r_va3 r_vt4 r_vf4 r_vf3 r_rV r_Oi r_Ov r_Od r_rE r_rE0 r_En r_Ec r_E0 r_pO r_pk r_agL r_cO r_fO r_fSi r_fSv r_fPv r_fsl r_fptr r_ffn r_fag r_fb r_fint r_fstr r_fnil r_fis r_fce r_ffp r_res r_move r_assign r_pick r_pickt r_pickf r_alloc r_box r_al r_build r_bslice r_load r_store r_nlc r_nl1 r_nl2 r_bin r_un r_conv r_mkf r_mks r_slc r_fad r_fld r_iad r_idx r_ext r_ex1 r_callf r_callt r_callen r_calapp r_calmax r_calmin r_vt r_vcb r_vci r_vcs r_vcn r_vca r_vcf r_vcg r_ofb r_ofi r_ofs r_ofn r_evs r_pn r_prt r_pc r_one_a r_one_b r_one_i r_one_s r_one_n r_one_is r_one_ce r_one_fp r_one_sl r_one_pt r_one_fn r_cs_a r_cs_b r_cs_i r_cs_s r_cs_n r_cs_is r_cs_ce r_cs_fp r_cs_sl r_cs_pt r_cs_fn r_tov r_tovA r_toc r_toa r_tb r_ti r_ts r_tn r_bd r_bd2 r_filn r_fp1 r_filc r_fsn r_fsc r_san r_sac r_bs2 r_bs1 r_newO r_mkq r_mkI r_mkOi r_mkOv r_tIn r_tIc r_repz r_repn r_ldp r_ldf r_l1t r_l1f r_lFt r_lFf r_aggO r_obj r_at r_ati' r_atv r_celli r_cellv r_subi r_subv r_sto r_sto1 r_sto2 r_sets r_setR r_setn r_setc r_s1i r_s1v r_bin1 r_bin2 r_tv1 r_cb r_ci r_cst r_cn r_csl r_cis r_cce r_uni r_unb r_cv r_cvi r_cvs r_cvb r_cvl r_sO r_rdn r_rdi r_rdl r_rdO r_vsub r_vfn r_mk r_mk1 r_mk2 r_zoi r_zov r_leni r_lenv r_bn r_bndV r_bo r_sl0 r_sl1 r_vsz r_ct1 r_cts r_cti r_ctc r_ctn r_lnl r_lni r_lnc r_lnn r_fa r_fap r_faf r_fi1 r_fit r_fif r_ixi r_ixs r_ixc r_ixf r_ixF r_ixF2 r_ix1 r_ixsl r_ixin r_ixce r_len1 r_lenA r_lTs r_lTn r_lTl r_lTi r_lTc r_app0 r_app r_app1 r_app2 r_app3 r_catO r_cati r_catv r_newt r_newf r_pair r_pairK r_trip r_kis r_kiv r_srn r_srl r_sri r_src r_srs r_oln r_oll r_vw r_wi r_wv r_mm r_max r_min' r_str r_cF r_c2t r_c3f r_c3t r_ab r_c2f r_cV r_p1 r_la r_la2t r_la2f r_la3 r_sh r_z_is r_z_ce r_z_fp r_z_b r_z_i r_z_s r_z_n r_z_l r_z_p r_z_a4 r_z_a3 r_z_t4 r_zoI r_zoV r_roN r_roC r_roi r_rod r_zod r_rov r_aR r_trOi r_trOv r_trPv r_trl r_trp r_trf r_tra r_trb r_tri r_trs r_trn r_tris r_trce r_trfp
attribute [local go_sem] b_add b_sub b_mul b_quo b_rem b_shl b_shr b_eql b_neq b_lss b_leq b_gtr b_geq eqB_s b_eqB b_neB u_neg u_not b_nn b_nn' eqS_s zerosT_s zerosT_n zt_i zt_sl zt_st dstOf_z dstOf_n iltT iltF ileT ileF ieqT ieqF nltT nltF nleT nleF neqT neqF tdiv_pos tmod_pos w64 idx0 List.take_of_length_le
open Num
def fitL (l : List Int) : List Int := if l.length ≤ 100 then l else []
theorem fitL_len (l : List Int) : (fitL l).length ≤ 100 := by unfold fitL; split <;> simp_all
theorem natOf_v (d : Nat) {l : List Int} (hl : l.length < 1000000000) : vrun Tryd.prog kn (d + 2) 105 [.ints .i64 l] [] = some (.tup [.agg [.sl 0 0 (fitL l).length 1], .bool (decide (l.length ≤ 100))], [.ints true .i64 (fitL l)]) := by
  have h1 := fun d => clone_v d hl
  unfold fitL
  by_cases h : l.length ≤ 100
  · rw [vrun_v Tryd.func105 rfl rfl rfl]; simp only [Tryd.f105]
    simp (disch := omega) [go_sem, tab105, h1, h]
  · rw [vrun_v Tryd.func105 rfl rfl rfl]; simp only [Tryd.f105]
    simp (disch := omega) [go_sem, tab105, h]
theorem wholeOf_v (d : Nat) (n : Bool) {l : List Int} (hl : l.length < 1000000000) : vrun Tryd.prog kn (d + 3) 68 [.bool n, .ints .i64 l] [] = some (.tup [.agg [.bool (n && !decide (l.length = 0) && decide (l.length ≤ 100)), .sl 0 0 (fitL l).length 1], .bool (decide (l.length ≤ 100))], [.ints true .i64 (fitL l)]) := by
  have h1 := fun d => natOf_v d hl
  by_cases h : l.length ≤ 100
  · have e : fitL l = l := by unfold fitL; rw [if_pos h]
    rw [e] at h1 ⊢
    by_cases h0 : l = []
    · subst h0
      rw [vrun_v Tryd.func68 rfl rfl rfl]; simp only [Tryd.f68]
      cases n <;> simp (disch := omega) [go_sem, tab68, h1]
    · have h2 : 0 < l.length := List.length_pos_iff.2 h0
      rw [vrun_v Tryd.func68 rfl rfl rfl]; simp only [Tryd.f68]
      cases n <;> simp (disch := omega) [go_sem, tab68, h1, h, h0]
  · have e : fitL l = [] := by unfold fitL; rw [if_neg h]
    rw [e] at h1 ⊢
    rw [vrun_v Tryd.func68 rfl rfl rfl]; simp only [Tryd.f68]
    cases n <;> simp (disch := omega) [go_sem, tab68, h1, h]
section
variable {ds : List DyT} {g : Nat} {caps : List V} {p : DyT → Bool} {call : CallV}
def ixDS (ds : List DyT) (g : Nat) (caps : List V) (j : Nat) : VE × VH := ([(0, some (.cells 3 ds.length (flat DyT.v ds))), (1, some (.fn (.func g) [] caps)), (7, some (.int .i64 ds.length)), (8, some (.int .i64 j))], [])
theorem ixfD_v (hl : ds.length < 100000000) {d : Nat} (hg : kn.cf.pure g = true) (hg2 : kn.ali g = false) (hc : ∀ h, omap (vfrz h 6) caps = some caps) (hp : ∀ x ∈ ds, vrun Tryd.prog kn d g (vnrmAs (kn.args g) (.agg x.v :: caps)) [] = some (.bool (p x), [])) :
    ∃ v : Int, vrun Tryd.prog kn (d + 1) 123 [.cells 3 ds.length (flat DyT.v ds), .fn (.func g) [] caps] [] = some (.int .i64 v, []) ∧ decide (0 ≤ v) = ds.any p := by
  rw [k_cf] at hg
  have key := vi_inv (n := kn.cf.rounds) (body := vCode Tryd.prog kn (vrun Tryd.prog kn d) 123 (loopAt Tryd.f123 0)) (fun j s => s = ixDS ds g caps j ∧ (ds.take j).any p = false)
    (fun r => (r = some (.exit 0, (ixDS ds g caps ds.length).1 ++ [(9, some (.bool false))], []) ∧ ds.any p = false) ∨ ∃ k : Nat, r = some (.ret, [(4, some (.int .i64 k))], []) ∧ ds.any p = true) ds.length (by rw [k_cf, c_rounds]; omega)
    (fun j s hj hI => by
      obtain ⟨rfl, hI⟩ := hI
      have hget : ds[j]? = some ds[j] := List.getElem?_eq_getElem hj
      have hmem : ds[j] ∈ ds := List.getElem_mem hj
      have hpp := hp _ hmem
      have hsub : ((flat DyT.v ds).drop (j * 3)).take 3 = [.bool ds[j].neg, .ints .i64 ds[j].l, .int .i64 ds[j].e] := flat_sub DyT.len ds j _ hget
      generalize ds[j] = x at *
      unfold DyT.v at hpp
      cases hq : p x with
      | true =>
        right; intro m; right
        refine ⟨j, vi_ret ?_, List.any_eq_true.2 ⟨_, hmem, hq⟩⟩
        rw [hq] at hpp
        rw [round_v]; simp only [loopAt, nthC, bodyC, loops, List.nil_append, List.cons_append, List.append_nil, Tryd.f123, ixDS]
        simp (disch := omega) [go_sem, tab123, hg, hg2, hc, hpp, hsub]
      | false =>
        left
        refine ⟨ixDS ds g caps (j + 1), ?_, rfl, ?_⟩
        · rw [hq] at hpp
          rw [round_v]; simp only [loopAt, nthC, bodyC, loops, List.nil_append, List.cons_append, List.append_nil, Tryd.f123, ixDS]
          simp (disch := omega) [go_sem, tab123, hg, hg2, hc, hpp, hsub]
        · rw [List.take_add_one, hget, List.any_append, hI]; simp [hq])
    (fun s hI m => by
      obtain ⟨rfl, hI⟩ := hI
      left
      refine ⟨vi_exit ?_, by rwa [List.take_length] at hI⟩
      rw [round_v]; simp only [loopAt, nthC, bodyC, loops, List.nil_append, List.cons_append, List.append_nil, Tryd.f123, ixDS]
      simp (disch := omega) [go_sem, tab123])
    (ixDS ds g caps 0) ⟨rfl, by simp⟩
  rcases key with ⟨hv, ha⟩ | ⟨k, hv, ha⟩
  · have hl0 := fun ks => loop_v (P := Tryd.prog) (K := kn) (ks := ks) hv
    simp only [loopAt, nthC, bodyC, loops, List.nil_append, List.cons_append, List.append_nil, Tryd.f123, ixDS, Int.natCast_zero, List.cons_append, List.nil_append] at hl0
    refine ⟨-1, ?_, by rw [ha]; rfl⟩
    rw [vrun_v Tryd.func123 rfl rfl rfl]; simp only [Tryd.f123]
    simp (disch := omega) [go_sem, tab123, hc, hl0]
  · have hl0 := fun ks => loop_v (P := Tryd.prog) (K := kn) (ks := ks) hv
    simp only [loopAt, nthC, bodyC, loops, List.nil_append, List.cons_append, List.append_nil, Tryd.f123, ixDS, Int.natCast_zero, List.cons_append, List.nil_append] at hl0
    refine ⟨k, ?_, by rw [ha]; simp⟩
    rw [vrun_v Tryd.func123 rfl rfl rfl]; simp only [Tryd.f123]
    simp (disch := omega) [go_sem, tab123, hc, hl0]
theorem allD_v (hl : ds.length < 100000000) {d : Nat} (hg : kn.cf.pure g = true) (hg2 : kn.ali g = false) (hp : ∀ x ∈ ds, vrun Tryd.prog kn d g (vnrmAs (kn.args g) [.agg x.v]) [] = some (.bool (p x), [])) :
    vrun Tryd.prog kn (d + 4) 64 [.cells 3 ds.length (flat DyT.v ds), .fn (.func g) [] []] [] = some (.bool (ds.all p), []) := by
  have hg' := hg
  rw [k_cf] at hg'
  have h1 : ∀ x ∈ ds, vrun Tryd.prog kn (d + 1) 98 (vnrmAs (kn.args 98) [.agg x.v, .fptr [.fn (.func g) [] []]]) [] = some (.bool (!p x), []) := fun x hx => by
    have := hp x hx
    unfold DyT.v at this ⊢
    simp only [go_sem, k_args98]
    rw [vrun_v Tryd.func98 rfl rfl rfl]; simp only [Tryd.f98]
    simp (disch := omega) [go_sem, tab98, hg', hg2, this]
  obtain ⟨v, hv, hany⟩ := ixfD_v (caps := [.fptr [.fn (.func g) [] []]]) hl (c_pure98) rfl (fun h => by simp [go_sem]) h1
  have e : ds.all p = !decide (0 ≤ v) := by
    rw [hany, List.not_any_eq_all_not]; simp
  rw [e]
  have h2 : vrun Tryd.prog kn (d + 3) 97 [.cells 3 ds.length (flat DyT.v ds), .fn (.func 98) [] [.fptr [.fn (.func g) [] []]]] [] = some (.bool (decide (0 ≤ v)), []) := by
    rw [vrun_v Tryd.func97 rfl rfl rfl]; simp only [Tryd.f97]
    simp (disch := omega) [go_sem, tab97, hv]
  rw [vrun_v Tryd.func64 rfl rfl rfl]; simp only [Tryd.f64]
  simp (disch := omega) [go_sem, tab64, h2]
theorem areDys_v (d : Nat) (hl : ds.length < 100000000) (hs : ∀ x ∈ ds, x.sz) : vrun Tryd.prog kn (d + 14) 31 [.cells 3 ds.length (flat DyT.v ds)] [] = some (.bool (ds.all dyOkB), []) := by
  have h1 := fun d => allD_v (g := 19) (ds := ds) (p := dyOkB) (d := d + 9) hl c_pure19 rfl (fun x hx => by
    have hx' := hs x hx
    unfold DyT.sz at hx'
    have := DyOk_v d x.neg (l := x.l) x.e (by omega)
    unfold DyT.v
    simp only [go_sem, k_args19]
    exact this)
  rw [vrun_v Tryd.func31 rfl rfl rfl]; simp only [Tryd.f31]
  simp (disch := omega) [go_sem, tab31, h1]
theorem areDys2_v (d : Nat) (n1 n2 : Bool) {l1 l2 : List Int} (e1 e2 : Int) (h1 : l1.length < 100000000) (h2 : l2.length < 100000000) : vrun Tryd.prog kn (d + 14) 31 [.cells 3 2 [.bool n1, .ints .i64 l1, .int .i64 e1, .bool n2, .ints .i64 l2, .int .i64 e2]] [] = some (.bool (dyOkB ⟨n1, l1, e1⟩ && dyOkB ⟨n2, l2, e2⟩), []) := by
  have := areDys_v d (ds := [⟨n1, l1, e1⟩, ⟨n2, l2, e2⟩]) (by simp) (by simp [DyT.sz, h1, h2])
  simpa [flat, DyT.v] using this
end
end Go.Eng
