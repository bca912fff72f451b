/- What the functions of this seat do, one after another, told by plain values. No conditions. -/
import Derived.Test.YteojcbmelbohlaaSeat
import Derived.Test.YteojcbmelbohlaaVb
import Derived.Test.YteojcbmelbohlaaMNatTexts
set_option linter.unusedVariables false
set_option linter.unusedSimpArgs false
namespace Go.Eng
open Go.Proofs
set_option maxRecDepth 100000
set_option linter.unusedSimpArgs false
attribute [local go_sem] r_seq r_skip r_retC r_exitC r_label r_block r_region r_regionW r_xWt r_xW r_cond r_Bt r_Bf r_Ncode r_Nret r_Nexit r_Nblk r_Nblkr r_Nblke r_Nnil r_Es r_Onil r_Oop r_Oif r_Xs r_Gt r_Gf r_wtt r_wtf r_wft r_wff r_wu r_gO r_putS r_putN r_get r_keepN r_keepC r_fr r_fn r_fi r_ff r_fo r_l1 r_l2t r_cun r_cul r_cub r_cui r_cus r_cuis r_cuc r_cusl r_cuti r_cutv r_ven r_vec r_l2f r_l3 r_t1 r_t2 r_t0 r_rt r_rc r_en r_ec r_cM r_oN r_oC r_end r_endt r_endf r_nob0 r_nobN r_nobC r_nobE r_nb0 r_nbi r_nbs r_nbsl r_nbin r_nbce r_nLn r_nLv r_nLc r_nAa r_nAn r_nAk_b r_nAk_i r_nAk_s r_nAk_n r_nAk_is r_nAk_ce r_nAk_fp r_nAk_sl r_nAk_pt r_nAk_fn r_nsn r_nsv r_nsc r_m0 r_mi r_ms r_msl r_min r_mce r_mLn r_mLv r_mLc r_mAa r_mAn r_mAk_b r_mAk_i r_mAk_s r_mAk_n r_mAk_is r_mAk_ce r_mAk_fp r_mAk_sl r_mAk_pt r_mAk_fn r_msn r_msv r_msc r_atb r_ati r_ats r_atn r_atis r_atc r_atf r_atl r_atp r_atfn r_gcn r_gcc r_gLn r_gLc r_gIt r_ndn r_ndc r_gcB r_gLB r_two r_rea r_rea0 r_re1n r_re1c r_ori r_orv r_ord r_orn r_adn r_adc r_ad1 r_ern r_ers r_er0 r_rsl r_rptr r_rb r_ri r_rs r_rn r_ris r_rce r_rfp r_ra4 r_ra3 r_rt4 r_rf4 r_rf3 r_idS r_idc r_nS r_nP r_nF r_nT r_vsl r_vptr r_vb r_vi r_vs r_vn r_vis r_vce r_vfp r_va4 r_va3 r_vt4 r_vf4 r_vf3 r_rV r_Oi r_Ov r_Od r_rE r_rE0 r_En r_Ec r_E0 r_pO r_pk r_agL r_cO r_fO r_fSi r_fSv r_fPv r_fsl r_fptr r_ffn r_fag r_fb r_fint r_fstr r_fnil r_fis r_fce r_ffp r_res r_move r_assign r_pick r_pickt r_pickf r_alloc r_box r_al r_build r_bslice r_load r_store r_nlc r_nl1 r_nl2 r_bin r_un r_conv r_mkf r_mks r_slc r_fad r_fld r_iad r_idx r_ext r_ex1 r_callf r_callt r_callen r_calapp r_calmax r_calmin r_vt r_vcb r_vci r_vcs r_vcnp r_vcn r_vca r_vcf r_vcg r_ofb r_ofi r_ofs r_ofn r_evs r_pn r_prt r_pc r_one_a r_one_b r_one_i r_one_s r_one_n r_one_is r_one_ce r_one_fp r_one_sl r_one_pt r_one_fn r_cs_a r_cs_b r_cs_i r_cs_s r_cs_n r_cs_is r_cs_ce r_cs_fp r_cs_sl r_cs_pt r_cs_fn r_tov r_tovA r_toc r_toa r_tb r_ti r_ts r_tn r_bd r_bd2 r_filn r_fp1 r_filc r_fsn r_fsc r_san r_sac r_bs2 r_bs1 r_newO r_mkq r_mkI r_mkOi r_mkOv r_tIn r_tIc r_repz r_repn r_ldp r_ldf r_l1t r_l1f r_lFt r_lFf r_aggO r_obj r_at r_ati' r_atv r_celli r_cellv r_subi r_subv r_sto r_sto1 r_sto2 r_sets r_setR r_setn r_setc r_s1i r_s1v r_bin1 r_bin2 r_tv1 r_cb r_ci r_cst r_cn r_csl r_cis r_cce r_uni r_unb r_cv r_cvO r_cvN r_cv0 r_cvS r_wB r_cvi r_cvs r_cvb r_cvl r_sO r_rdn r_rdi r_rdl r_rdO r_vsub r_vfn r_mk r_mk1 r_mk2 r_zoi r_zov r_leni r_lenv r_bn r_bndV r_bo r_sl0 r_sl1 r_vsz r_ct1 r_cts r_cti r_ctc r_ctn r_lnl r_lni r_lnc r_lnn r_fa r_fap r_faf r_fi1 r_fit r_fif r_ixi r_ixs r_ixc r_ixf r_ixF r_ixF2 r_ix1 r_ixsl r_ixin r_ixce r_len1 r_lenA r_lTs r_lTn r_lTl r_lTi r_lTc r_app0 r_app r_app1 r_app2 r_app3 r_catO r_cati r_catv r_newt r_newf r_pair r_pairK r_trip r_kis r_kiv r_srn r_srl r_sri r_src r_srs r_oln r_oll r_vw r_wi r_wv r_mm r_max r_min' r_str r_cF r_c2t r_c3f r_c3t r_ab r_c2f r_cV r_p1 r_la r_la2t r_la2f r_la3 r_sh r_z_is r_z_ce r_z_fp r_z_b r_z_i r_z_s r_z_n r_z_l r_z_p r_z_a4 r_z_a3 r_z_t4 r_zoI r_zoV r_roN r_roC r_roi r_rod r_zod r_rov r_aR r_trOi r_trOv r_trPv r_trl r_trp r_trf r_tra r_trb r_tri r_trs r_trn r_tris r_trce r_trfp r_vJ r_vJs r_vJn
attribute [local go_sem] b_add b_sub b_mul b_quo b_rem b_shl b_shr b_eql b_neq b_lss b_leq b_gtr b_geq eqB_s b_eqB b_neB u_neg u_not b_nn b_nn' eqS_s zerosT_s zerosT_n zt_i zt_sl zt_st dstOf_z dstOf_n iltT iltF ileT ileF ieqT ieqF nltT nltF nleT nleF neqT neqF tdiv_pos tmod_pos w64 idx0 List.take_of_length_le
/- FnNatTexts: a number comes back from its digits, and what is read as one is just its digits. No conditions. -/
section
open Num
section
variable {b : List Int}
theorem eq_str (P : Program) (t : TypeId) (s : ByteArray) : toV1 (binE P .eql t (.str s) (.str s)) = some (.bool true) := by
  show vbin P .eql t (some (.str s)) (some (.str s)) = some (.bool true)
  rw [r_str]; simp
theorem sameBytes_v (d : Nat) {x : List Int} (hx : x.length < 1000000) : vrun Try.prog kn (d + 1) 28 [.ints .u8 x, .ints .u8 x] [] = some (.bool true, []) := by
  rw [vrun_v Try.func28 rfl rfl rfl]; simp only [Try.f28]
  simp (implicitDefEqProofs := false) (disch := omega) [go_sem, tab28, eq_str]
theorem rd_text {n : Nat} (hn : (D n).length ≤ 100) (h4 : (text n).length ≤ 400) : rdOk (text n) = true ∧ rdR (text n) = D n := by
  have h1 : rdOk (text n) = true := by
    unfold rdOk areDigB
    have hd : (text n).all digB = true := List.all_eq_true.2 fun x hx => by have := text_bd n x hx; unfold digB; simp; omega
    have hp := text_pos n
    have hz : ¬ (1 < (text n).length ∧ gt (text n) 0 = 48) := fun ⟨h1, h2⟩ => by
      by_cases h0 : n = 0
      · subst h0; simp [text] at h1
      · have ht := nd_top h0
        have hnd := (nd_le h0).2
        unfold text at h2
        rw [if_neg h0] at h2
        have e : gt (lsd n (nd n)).reverse 0 = ((48 + n / 10 ^ (nd n - 1) % 10 : Nat) : Int) := by
          have := lsd_at n (i := nd n - 1) (m := nd n) (by omega)
          rw [← this]
          unfold gt
          rw [List.getD_eq_getElem?_getD, List.getElem?_reverse (by rw [lsd_len]; omega), lsd_len, List.getD_eq_getElem?_getD]; rfl
        rw [e] at h2; omega
    rw [decide_eq_true h4, decide_eq_true hp, hd]
    by_cases h1 : 1 < (text n).length
    · have h2 : ¬ gt (text n) 0 = 48 := fun h => hz ⟨h1, h⟩
      simp [h2]
    · simp [h1]
  refine ⟨h1, ?_⟩
  unfold rdR
  rw [if_pos h1, rdd_text]
theorem text_rd {l : List Int} (h : rdOk l = true) : natOkB (rdR l) = true ∧ txR (rdR l) = l := by
  have h0 := h
  unfold rdOk at h0
  rw [Bool.and_eq_true, Bool.and_eq_true, decide_eq_true_eq] at h0
  obtain ⟨hp, hl⟩ := digs_of h0.1.2
  have h1 := rdd_100 hl h0.1.1
  have hr : rdR l = D (rdd 0 l) := by unfold rdR; rw [if_pos h]
  have hn : natOkB (rdR l) = true := by rw [hr]; exact natOk_D h1
  refine ⟨hn, ?_⟩
  unfold txR
  rw [if_pos hn, hr, nN_D]
  cases l with
  | nil => simp at hp
  | cons c r =>
    have hc := hl c List.mem_cons_self
    have hrr : ∀ x ∈ r, 48 ≤ x ∧ x ≤ 57 := fun x hx => hl x (List.mem_cons_of_mem _ hx)
    by_cases hz : c = 48
    · subst hz
      have hr0 : r = [] := by
        have h2 := h0.2
        have hg : gt ((48 : Int) :: r) 0 = 48 := rfl
        have h3 : ¬ 1 < ((48 : Int) :: r).length := fun hh => by rw [decide_eq_true hh, hg] at h2; simp at h2
        rw [List.length_cons] at h3
        exact List.eq_nil_of_length_eq_zero (by omega)
      subst hr0
      rfl
    · exact text_rdd (by omega) hc.2 r hrr
set_option maxHeartbeats 4000000 in
theorem FnNatTexts_v (d : Nat) (hb : b.length ≤ 140737488351232) (hw : ∀ x ∈ b, (Lit.int .u8 x).wf = true) : vrun Try.prog kn (d + 9) 4 [.ints .u8 b] [] = some (.bool true, []) := by
  have hc := cod_of hb hw
  obtain ⟨l, d1, hl⟩ := DrawNatText_v (d + 1) hc
  obtain ⟨y, d2, hy⟩ := DrawNatRead_v (d + 2) hc
  have a1 := fun d => NatText_v (l := l) d (by omega)
  have a2 := fun d => sNatOk_v (l := l) d (by omega)
  have hx := txR_len l
  have a3 := fun d => NatRead_v (b := txR l) d (by omega)
  have a4 := fun d => sameNat_v (a := l) (b := l) d (by omega) (by omega)
  simp only [decide_true] at a4
  have a5 := fun d => NatRead_v (b := y) d (by omega)
  have hry := rdR_len y
  have a6 := fun d => NatText_v (l := rdR y) d (by omega)
  have a7 := fun d => nat_law (n := 0) d (by omega)
  simp only [D_zero, Int.natCast_zero] at a7
  have a8 := fun d => NatText_v (l := []) d (by simp)
  have e8 : txR [] = [48] := by
    have h : natOkB [] = true := rfl
    unfold txR; rw [if_pos h]; rfl
  rw [e8] at a8
  have a9 := fun d => sameBytes_v (x := y) d (by omega)
  have hfin : rdOk y = true → txR (rdR y) = y := fun h => (text_rd h).2
  have hno : rdOk y = false → rdR y = [] := fun h => by unfold rdR; rw [h]; rfl
  have key : natOkB l = true → (txR l).length ≤ 400 → rdOk (txR l) = true ∧ rdR (txR l) = l := fun h h4 => by
    obtain ⟨e1, l1⟩ := okN h
    unfold txR at h4 ⊢
    rw [if_pos h] at h4 ⊢
    obtain ⟨k1, k2⟩ := rd_text l1 h4
    exact ⟨k1, by rw [k2]; exact e1.symm⟩
  have hbad : natOkB l = false → txR l = [] := fun h => by unfold txR; rw [h]; rfl
  generalize txR l = t at *
  cases hk : natOkB l with
  | false =>
    rw [hk] at a2
    obtain rfl := hbad hk
    clear key hbad
    cases hr : rdOk y with
    | false =>
      have hr0 := hno hr
      rw [hr, hr0] at a5
      clear hfin hno
      rw [vrun_v Try.func4 rfl rfl rfl]; simp only [Try.f4]
      simp (implicitDefEqProofs := false) (disch := omega) [go_sem, tab4, d1, d2, a1, a2, a5, a7, a8]
    | true =>
      have hr0 := hfin hr
      rw [hr] at a5
      rw [hr0] at a6
      clear hfin hno hr0
      generalize rdR y = z at *
      rw [vrun_v Try.func4 rfl rfl rfl]; simp only [Try.f4]
      simp (implicitDefEqProofs := false) (disch := omega) [go_sem, tab4, d1, d2, a1, a2, a5, a6, a9]
  | true =>
    rw [hk] at a2
    have hlt := rdR_len t
    by_cases h4 : t.length ≤ 400
    · obtain ⟨k1, k2⟩ := key hk h4
      rw [k1, k2] at a3
      clear key hbad
      cases hr : rdOk y with
      | false =>
        have hr0 := hno hr
        rw [hr, hr0] at a5
        clear hfin hno
        rw [vrun_v Try.func4 rfl rfl rfl]; simp only [Try.f4]
        simp (implicitDefEqProofs := false) (disch := omega) [go_sem, tab4, d1, d2, a1, a2, a3, a4, a5, a7, a8]
      | true =>
        have hr0 := hfin hr
        rw [hr] at a5
        rw [hr0] at a6
        clear hfin hno hr0
        generalize rdR y = z at *
        rw [vrun_v Try.func4 rfl rfl rfl]; simp only [Try.f4]
        simp (implicitDefEqProofs := false) (disch := omega) [go_sem, tab4, d1, d2, a1, a2, a3, a4, a5, a6, a9]
    · clear key hbad
      generalize rdR t = rt at *
      generalize rdOk t = ot at *
      cases hr : rdOk y with
      | false =>
        have hr0 := hno hr
        rw [hr, hr0] at a5
        clear hfin hno
        rw [vrun_v Try.func4 rfl rfl rfl]; simp only [Try.f4]
        simp (implicitDefEqProofs := false) (disch := omega) [go_sem, tab4, d1, d2, a1, a2, a3, a5, a7, a8]
      | true =>
        have hr0 := hfin hr
        rw [hr] at a5
        rw [hr0] at a6
        clear hfin hno hr0
        generalize rdR y = z at *
        rw [vrun_v Try.func4 rfl rfl rfl]; simp only [Try.f4]
        simp (implicitDefEqProofs := false) (disch := omega) [go_sem, tab4, d1, d2, a1, a2, a3, a5, a6, a9]
end
end
end Go.Eng
