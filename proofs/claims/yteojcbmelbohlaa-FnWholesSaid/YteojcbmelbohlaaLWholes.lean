/- What the functions of this seat do, one after another, told by plain values. No conditions. -/
import Derived.Test.YteojcbmelbohlaaSeat
import Derived.Test.YteojcbmelbohlaaVb
import Derived.Test.YteojcbmelbohlaaMWholes
set_option linter.unusedVariables false
set_option linter.unusedSimpArgs false
namespace Go.Eng
open Go.Proofs
set_option maxRecDepth 100000
set_option linter.unusedSimpArgs false
attribute [local go_sem] r_seq r_skip r_retC r_exitC r_label r_block r_region r_regionW r_xWt r_xW r_cond r_Bt r_Bf r_Ncode r_Nret r_Nexit r_Nblk r_Nblkr r_Nblke r_Nnil r_Es r_Onil r_Oop r_Oif r_Xs r_Gt r_Gf r_wtt r_wtf r_wft r_wff r_wu r_gO r_putS r_putN r_get r_keepN r_keepC r_fr r_fn r_fi r_ff r_fo r_l1 r_l2t r_cun r_cul r_cub r_cui r_cus r_cuis r_cuc r_cusl r_cuti r_cutv r_ven r_vec r_l2f r_l3 r_t1 r_t2 r_t0 r_rt r_rc r_en r_ec r_cM r_oN r_oC r_end r_endt r_endf r_nob0 r_nobN r_nobC r_nobE r_nb0 r_nbi r_nbs r_nbsl r_nbin r_nbce r_nLn r_nLv r_nLc r_nAa r_nAn r_nAk_b r_nAk_i r_nAk_s r_nAk_n r_nAk_is r_nAk_ce r_nAk_fp r_nAk_sl r_nAk_pt r_nAk_fn r_nsn r_nsv r_nsc r_m0 r_mi r_ms r_msl r_min r_mce r_mLn r_mLv r_mLc r_mAa r_mAn r_mAk_b r_mAk_i r_mAk_s r_mAk_n r_mAk_is r_mAk_ce r_mAk_fp r_mAk_sl r_mAk_pt r_mAk_fn r_msn r_msv r_msc r_atb r_ati r_ats r_atn r_atis r_atc r_atf r_atl r_atp r_atfn r_gcn r_gcc r_gLn r_gLc r_gIt r_ndn r_ndc r_gcB r_gLB r_two r_rea r_rea0 r_re1n r_re1c r_ori r_orv r_ord r_orn r_adn r_adc r_ad1 r_ern r_ers r_er0 r_rsl r_rptr r_rb r_ri r_rs r_rn r_ris r_rce r_rfp r_ra4 r_ra3 r_rt4 r_rf4 r_rf3 r_idS r_idc r_nS r_nP r_nF r_nT r_vsl r_vptr r_vb r_vi r_vs r_vn r_vis r_vce r_vfp r_va4 r_va3 r_vt4 r_vf4 r_vf3 r_rV r_Oi r_Ov r_Od r_rE r_rE0 r_En r_Ec r_E0 r_pO r_pk r_agL r_cO r_fO r_fSi r_fSv r_fPv r_fsl r_fptr r_ffn r_fag r_fb r_fint r_fstr r_fnil r_fis r_fce r_ffp r_res r_move r_assign r_pick r_pickt r_pickf r_alloc r_box r_al r_build r_bslice r_load r_store r_nlc r_nl1 r_nl2 r_bin r_un r_conv r_mkf r_mks r_slc r_fad r_fld r_iad r_idx r_ext r_ex1 r_callf r_callt r_callen r_calapp r_calmax r_calmin r_vt r_vcb r_vci r_vcs r_vcnp r_vcn r_vca r_vcf r_vcg r_ofb r_ofi r_ofs r_ofn r_evs r_pn r_prt r_pc r_one_a r_one_b r_one_i r_one_s r_one_n r_one_is r_one_ce r_one_fp r_one_sl r_one_pt r_one_fn r_cs_a r_cs_b r_cs_i r_cs_s r_cs_n r_cs_is r_cs_ce r_cs_fp r_cs_sl r_cs_pt r_cs_fn r_tov r_tovA r_toc r_toa r_tb r_ti r_ts r_tn r_bd r_bd2 r_filn r_fp1 r_filc r_fsn r_fsc r_san r_sac r_bs2 r_bs1 r_newO r_mkq r_mkI r_mkOi r_mkOv r_tIn r_tIc r_repz r_repn r_ldp r_ldf r_l1t r_l1f r_lFt r_lFf r_aggO r_obj r_at r_ati' r_atv r_celli r_cellv r_subi r_subv r_sto r_sto1 r_sto2 r_sets r_setR r_setn r_setc r_s1i r_s1v r_bin1 r_bin2 r_tv1 r_cb r_ci r_cst r_cn r_csl r_cis r_cce r_uni r_unb r_cv r_cvO r_cvN r_cv0 r_cvS r_wB r_cvi r_cvs r_cvb r_cvl r_sO r_rdn r_rdi r_rdl r_rdO r_vsub r_vfn r_mk r_mk1 r_mk2 r_zoi r_zov r_leni r_lenv r_bn r_bndV r_bo r_sl0 r_sl1 r_vsz r_ct1 r_cts r_cti r_ctc r_ctn r_lnl r_lni r_lnc r_lnn r_fa r_fap r_faf r_fi1 r_fit r_fif r_ixi r_ixs r_ixc r_ixf r_ixF r_ixF2 r_ix1 r_ixsl r_ixin r_ixce r_len1 r_lenA r_lTs r_lTn r_lTl r_lTi r_lTc r_app0 r_app r_app1 r_app2 r_app3 r_catO r_cati r_catv r_newt r_newf r_pair r_pairK r_trip r_kis r_kiv r_srn r_srl r_sri r_src r_srs r_oln r_oll r_vw r_wi r_wv r_mm r_max r_min' r_str r_cF r_c2t r_c3f r_c3t r_ab r_c2f r_cV r_p1 r_la r_la2t r_la2f r_la3 r_sh r_z_is r_z_ce r_z_fp r_z_b r_z_i r_z_s r_z_n r_z_l r_z_p r_z_a4 r_z_a3 r_z_t4 r_zoI r_zoV r_roN r_roC r_roi r_rod r_zod r_rov r_aR r_trOi r_trOv r_trPv r_trl r_trp r_trf r_tra r_trb r_tri r_trs r_trn r_tris r_trce r_trfp r_vJ r_vJs r_vJn
attribute [local go_sem] b_add b_sub b_mul b_quo b_rem b_shl b_shr b_eql b_neq b_lss b_leq b_gtr b_geq eqB_s b_eqB b_neB u_neg u_not b_nn b_nn' eqS_s zerosT_s zerosT_n zt_i zt_sl zt_st dstOf_z dstOf_n iltT iltF ileT ileF ieqT ieqF nltT nltF nleT nleF neqT neqF tdiv_pos tmod_pos w64 idx0 List.take_of_length_le
/- FnWholes: the laws of a ring and of an order for whole numbers. No conditions. -/
section
open Num
section
variable {b : List Int}
theorem icmp_swap (x y : Int) : icmp y x = - icmp x y := by unfold icmp; (repeat' split) <;> omega
theorem icmp_neg (x y : Int) : icmp (-x) (-y) = - icmp x y := by unfold icmp; (repeat' split) <;> omega
theorem icmp_r (x y : Int) : -1 ≤ icmp x y ∧ icmp x y ≤ 1 := by unfold icmp; (repeat' split) <;> omega
theorem wz_zero : wz 0 = ⟨false, []⟩ := by unfold wz; rw [Int.natAbs_zero, D_zero]; rfl
theorem wfit_zero : wfitB 0 = true ∧ wfit 0 = ⟨false, []⟩ := by
  have h : wfitB 0 = true := by unfold wfitB; rw [Int.natAbs_zero, D_zero]; rfl
  exact ⟨h, by unfold wfit; rw [h, ← wz_zero]; rfl⟩
theorem wneg_zero : wneg ⟨false, []⟩ = ⟨false, []⟩ := by
  rw [← wz_zero]
  unfold wneg
  rw [if_pos (wz_ok (by rw [Int.natAbs_zero, D_zero]; simp)), wz_z, Int.neg_zero]
theorem wneg_t {w : WhT} (h : wOk w = true) : wneg w = wz (-w.z) ∧ wOk (wneg w) = true := by
  unfold wneg
  rw [if_pos h]
  exact ⟨rfl, wz_ok (by rw [Int.natAbs_neg]; exact (wOk_t h).2.1)⟩
set_option maxRecDepth 4000 in
theorem FnWholes_v (d : Nat) (hb : b.length ≤ 140737488351232) (hw : ∀ x ∈ b, (Lit.int .u8 x).wf = true) : vrun Try.prog kn (d + 11) 5 [.ints .u8 b] [] = some (.bool true, []) := by
  have hc1 := cod_of hb hw
  obtain ⟨n1, x, n2, y, d1, hx, hy⟩ := DrawWholeAdd_v (d + 1) hc1
  have hx' : (WhT.mk n1 x).l.length ≤ 5000 := hx
  have hy' : (WhT.mk n2 y).l.length ≤ 5000 := hy
  change _ = some (V.tup [.agg [.bool (WhT.mk n1 x).neg, .ints .i64 (WhT.mk n1 x).l], .agg [.bool (WhT.mk n2 y).neg, .ints .i64 (WhT.mk n2 y).l]], []) at d1
  generalize WhT.mk n1 x = x at *
  generalize WhT.mk n2 y = y at *
  clear hx hy
  have zr : ∀ {op : Int → Int → Int} {p q : WhT}, (wr2 op p q).l.length < 1000000000 := fun {op p q} => by have := wr2_len (op := op) (a := p) (b := q); omega
  have zn : ∀ {p : WhT}, (wneg p).l.length < 1000000000 := fun {p} => by have := wneg_len (a := p); omega
  have e2 := fun d => WholeAdd_v (a := y) (b := x) d (by omega) (by omega)
  rw [(wr2_comm Int.add_comm y x).1, (wr2_comm Int.add_comm y x).2] at e2
  have m2 := fun d => WholeMul_v (a := y) (b := x) d (by omega) (by omega)
  refine FnWholes_w (o := wf2 (· - ·) (wr2 (· + ·) x y) y) d hx' hy' wr2_len wneg_len wneg_len wr2_len wr2_len (t := wr2 (· - ·) (wr2 (· + ·) x y) y) wr2_len (icmp_r x.z y.z) d1 (fun d => WholeAdd_v d (by omega) (by omega)) e2 (fun d => WholeNeg_v d (by omega)) (fun d => WholeMul_v d (by omega) zn) m2 (fun d => WholeNeg_v d (by omega)) (fun h => ?_) (fun h => ?_)
  · unfold wf2; rw [h]; rfl
  · have hv := h
    rw [Bool.and_eq_true] at h
    obtain ⟨ux, ox⟩ := wneg_t h.1
    obtain ⟨uy, oy⟩ := wneg_t h.2
    have hm : x.z * -y.z = -(y.z * x.z) := by rw [Int.mul_neg, Int.mul_comm]
    have zx : (wneg x).z = -x.z := by rw [ux, wz_z]
    have zy : (wneg y).z = -y.z := by rw [uy, wz_z]
    refine ⟨?_, ?_, fun d => WholeSub_v d zr (by omega), ?_, ?_, ?_, fun hs => ?_, ?_⟩
    · have hp : wr2 (· * ·) x (wneg y) = wneg (wr2 (· * ·) y x) := by
        unfold wr2
        rw [h.1, h.2, oy, zy]
        simp only [Bool.and_true, if_true, hm]
        unfold wfit
        have hf : wfitB (-(y.z * x.z)) = wfitB (y.z * x.z) := by unfold wfitB; rw [Int.natAbs_neg]
        rw [hf]
        cases hc : wfitB (y.z * x.z) with
        | false => exact wneg_zero.symm
        | true =>
          simp only [if_true]
          rw [(wneg_t (wz_ok (of_decide_eq_true hc))).1, wz_z]
      rw [hp]
      exact fun d => WholeNeg_v d zr
    · have h1 := fun d => WholeSub_v (a := x) (b := x) d (by omega) (by omega)
      have h2 : wr2 (· - ·) x x = ⟨false, []⟩ := by
        unfold wr2; rw [h.1]
        simp only [Bool.and_true, if_true, Int.sub_self]; exact wfit_zero.2
      have h3 : wf2 (· - ·) x x = true := by
        unfold wf2; rw [h.1]
        simp only [Bool.and_true, Int.sub_self]; exact wfit_zero.1
      rw [h2, h3] at h1
      exact h1
    · have h1 := fun d => WholeCmp_v (a := x) (b := y) d (by omega) (by omega)
      unfold wcmp at h1; rw [hv] at h1; exact h1
    · have h1 := fun d => WholeCmp_v (a := y) (b := x) d (by omega) (by omega)
      unfold wcmp at h1; rw [h.1, h.2] at h1; rw [icmp_swap] at h1; exact h1
    · have h1 := fun d => WholeCmp_v (a := wneg x) (b := wneg y) d zn zn
      unfold wcmp at h1; rw [ox, oy, zx, zy] at h1; rw [icmp_neg] at h1; exact h1
    · obtain ⟨_, _, es, el⟩ := wf2_t hs
      obtain ⟨fx, lx, _⟩ := wOk_t h.1
      have k : wf2 (· - ·) (wr2 (· + ·) x y) y = true := by
        unfold wf2
        rw [es, wz_ok el, h.2, wz_z]
        unfold wfitB
        simp only [Int.add_sub_cancel]
        simpa using lx
      refine ⟨k, ?_⟩
      rw [(wf2_t k).2.2.1, es, wz_z]
      simp only [Int.add_sub_cancel]
      exact fx.symm
    · unfold wf2
      rw [h.1, h.2, oy, zy]
      simp only [Bool.and_true, Bool.true_and, hm]
      unfold wfitB; rw [Int.natAbs_neg]
end
end
end Go.Eng
