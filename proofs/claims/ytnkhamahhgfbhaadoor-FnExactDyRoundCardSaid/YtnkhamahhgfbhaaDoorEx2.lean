/- Numbers of any size: products, sums, differences. No conditions. -/
import Derived.Test.YtnkhamahhgfbhaaDoorEx1
import Derived.Test.YtnkhamahhgfbhaaDoorIv1
set_option linter.unusedVariables false
set_option linter.unusedSimpArgs false
namespace Go.Eng
open Go.Proofs
set_option maxRecDepth 100000
set_option linter.unusedSimpArgs false
attribute [local go_sem] r_seq r_skip r_retC r_exitC r_label r_block r_region r_regionW r_xWt r_xW r_cond r_Bt r_Bf r_Ncode r_Nret r_Nexit r_Nblk r_Nblkr r_Nblke r_Nnil r_Es r_Onil r_Oop r_Oif r_Xs r_Gt r_Gf r_wtt r_wtf r_wft r_wff r_wu r_gO r_putS r_putN r_get r_keepN r_keepC r_fr r_fn r_fi r_ff r_fo r_l1 r_l2t r_cun r_cul r_cub r_cui r_cus r_cuis r_cuc r_cusl r_cuti r_cutv r_ven r_vec r_l2f r_l3 r_t1 r_t2 r_t0 r_rt r_rc r_en r_ec r_cM r_oN r_oC r_end r_endt r_endf r_nob0 r_nobN r_nobC r_nobE r_nb0 r_nbi r_nbs r_nbsl r_nbin r_nbce r_nLn r_nLv r_nLc r_nAa r_nAn r_nAk_b r_nAk_i r_nAk_s r_nAk_n r_nAk_is r_nAk_ce r_nAk_fp r_nAk_sl r_nAk_pt r_nAk_fn r_nsn r_nsv r_nsc r_m0 r_mi r_ms r_msl r_min r_mce r_mLn r_mLv r_mLc r_mAa r_mAn r_mAk_b r_mAk_i r_mAk_s r_mAk_n r_mAk_is r_mAk_ce r_mAk_fp r_mAk_sl r_mAk_pt r_mAk_fn r_msn r_msv r_msc r_atb r_ati r_ats r_atn r_atis r_atc r_atf r_atl r_atp r_atfn r_gcn r_gcc r_gLn r_gLc r_gIt r_ndn r_ndc r_gcB r_gLB r_two r_rea r_rea0 r_re1n r_re1c r_ori r_orv r_ord r_orn r_adn r_adc r_ad1 r_ern r_ers r_er0 r_rsl r_rptr r_rb r_ri r_rs r_rn r_ris r_rce r_rfp r_ra4 r_ra3 r_rt4 r_rf4 r_rf3 r_idS r_idc r_nS r_nP r_nF r_nT r_vsl r_vptr r_vb r_vi r_vs r_vn r_vis r_vce r_vfp r_va4 r_va3 r_vt4 r_vf4 r_vf3 r_rV r_Oi r_Ov r_Od r_rE r_rE0 r_En r_Ec r_E0 r_pO r_pk r_agL r_cO r_fO r_fSi r_fSv r_fPv r_fsl r_fptr r_ffn r_fag r_fb r_fint r_fstr r_fnil r_fis r_fce r_ffp r_res r_move r_assign r_pick r_pickt r_pickf r_alloc r_box r_al r_build r_bslice r_load r_store r_nlc r_nl1 r_nl2 r_bin r_un r_conv r_mkf r_mks r_slc r_fad r_fld r_iad r_idx r_ext r_ex1 r_callf r_callt r_callen r_calapp r_calmax r_calmin r_vt r_vcb r_vci r_vcs r_vcn r_vca r_vcf r_vcg r_ofb r_ofi r_ofs r_ofn r_evs r_pn r_prt r_pc r_one_a r_one_b r_one_i r_one_s r_one_n r_one_is r_one_ce r_one_fp r_one_sl r_one_pt r_one_fn r_cs_a r_cs_b r_cs_i r_cs_s r_cs_n r_cs_is r_cs_ce r_cs_fp r_cs_sl r_cs_pt r_cs_fn r_tov r_tovA r_toc r_toa r_tb r_ti r_ts r_tn r_bd r_bd2 r_filn r_fp1 r_filc r_fsn r_fsc r_san r_sac r_bs2 r_bs1 r_newO r_mkq r_mkI r_mkOi r_mkOv r_tIn r_tIc r_repz r_repn r_ldp r_ldf r_l1t r_l1f r_lFt r_lFf r_aggO r_obj r_at r_ati' r_atv r_celli r_cellv r_subi r_subv r_sto r_sto1 r_sto2 r_sets r_setR r_setn r_setc r_s1i r_s1v r_bin1 r_bin2 r_tv1 r_cb r_ci r_cst r_cn r_csl r_cis r_cce r_uni r_unb r_cv r_cvi r_cvs r_cvb r_cvl r_sO r_rdn r_rdi r_rdl r_rdO r_vsub r_vfn r_mk r_mk1 r_mk2 r_zoi r_zov r_leni r_lenv r_bn r_bndV r_bo r_sl0 r_sl1 r_vsz r_ct1 r_cts r_cti r_ctc r_ctn r_lnl r_lni r_lnc r_lnn r_fa r_fap r_faf r_fi1 r_fit r_fif r_ixi r_ixs r_ixc r_ixf r_ixF r_ixF2 r_ix1 r_ixsl r_ixin r_ixce r_len1 r_lenA r_lTs r_lTn r_lTl r_lTi r_lTc r_app0 r_app r_app1 r_app2 r_app3 r_catO r_cati r_catv r_newt r_newf r_pair r_pairK r_trip r_kis r_kiv r_srn r_srl r_sri r_src r_srs r_oln r_oll r_vw r_wi r_wv r_mm r_max r_min' r_str r_cF r_c2t r_c3f r_c3t r_ab r_c2f r_cV r_p1 r_la r_la2t r_la2f r_la3 r_sh r_z_is r_z_ce r_z_fp r_z_b r_z_i r_z_s r_z_n r_z_l r_z_p r_z_a4 r_z_a3 r_z_t4 r_zoI r_zoV r_roN r_roC r_roi r_rod r_zod r_rov r_aR r_trOi r_trOv r_trPv r_trl r_trp r_trf r_tra r_trb r_tri r_trs r_trn r_tris r_trce r_trfp
attribute [local go_sem] b_add b_sub b_mul b_quo b_rem b_shl b_shr b_eql b_neq b_lss b_leq b_gtr b_geq eqB_s b_eqB b_neB u_neg u_not b_nn b_nn' eqS_s zerosT_s zerosT_n zt_i zt_sl zt_st dstOf_z dstOf_n iltT iltF ileT ileF ieqT ieqF nltT nltF nleT nleF neqT neqF tdiv_pos tmod_pos w64 idx0 List.take_of_length_le
open Num
def ssN (n : Bool) (a : Nat) (m : Bool) (b : Nat) : Bool := if n = m then n else if b ≤ a then n else m
def ssV (n : Bool) (a : Nat) (m : Bool) (b : Nat) : Nat := if n = m then a + b else if b ≤ a then a - b else b - a
section
variable {a b : Nat} {n m : Bool} {e ex ey : Int}
theorem cmpI_ge : (0 ≤ cmpI a b) = (b ≤ a) := by
  unfold cmpI
  by_cases h : a < b
  · rw [if_pos h]; simp; omega
  · rw [if_neg h]; split <;> (simp; omega)
theorem ssV_len {k : Nat} (ha : (D a).length < k) (hb : (D b).length < k) : (D (ssV n a m b)).length < k + 1 := by
  unfold ssV
  by_cases h : n = m
  · rw [if_pos h]; have := len_add (x := a) (y := b) (n := k - 1) (by omega) (by omega); omega
  · rw [if_neg h]
    split
    · have := len_D_mono (Nat.sub_le a b); omega
    · have := len_D_mono (Nat.sub_le b a); omega
theorem D_ne {x : Nat} : (D x = []) = (x = 0) := propext D_nil_iff
theorem times_e (d : Nat) (ha : (D a).length < 100000) (hb : (D b).length < 100000) (he : -100000 ≤ ex) (he' : ex ≤ 100000) (hf : -100000 ≤ ey) (hf' : ey ≤ 100000) : vrun Tryd.prog kn (d + 3) 35 [.agg [.bool n, .ints .i64 (D a), .int .i64 ex], .agg [.bool m, .ints .i64 (D b), .int .i64 ey]] [] = some (.agg [.bool ((n != m) && decide (a * b ≠ 0)), .ints .i64 (D (a * b)), .int .i64 (ex + ey)], []) := by
  have h1 := fun d => times_v (x := a) (y := b) d (by omega) (by omega)
  have hl := len_mul a b
  generalize a * b = p at *
  by_cases h0 : p = 0
  · subst h0
    rw [D_zero] at *
    rw [vrun_v Tryd.func35 rfl rfl rfl]; simp only [Tryd.f35]
    cases n <;> cases m <;> simp (disch := omega) [go_sem, tab35, h1]
  · have hn : ¬ D p = [] := fun h => h0 (D_nil_iff.1 h)
    have hp : 0 < (D p).length := List.length_pos_iff.2 hn
    rw [vrun_v Tryd.func35 rfl rfl rfl]; simp only [Tryd.f35]
    cases n <;> cases m <;> simp (disch := omega) [go_sem, tab35, h1, hn, h0]
theorem signedSum_v (d : Nat) (ha : (D a).length < 900000) (hb : (D b).length < 900000) : vrun Tryd.prog kn (d + 4) 66 [.bool n, .ints .i64 (D a), .bool m, .ints .i64 (D b)] [] = some (.tup [.bool (ssN n a m b), .ints .i64 (D (ssV n a m b))], []) := by
  have h1 := fun d => plus_v (x := a) (y := b) d (by omega) (by omega)
  have h2 := fun d => compare_v (x := a) (y := b) d (by omega) (by omega)
  unfold ssN ssV
  by_cases h : b ≤ a
  · have h3 := fun d => minus_v (x := a) (y := b) d h (by omega)
    have hc : (0 ≤ cmpI a b) = True := by rw [cmpI_ge]; simp [h]
    have hlp := len_add (x := a) (y := b) (n := 900000) (by omega) (by omega)
    have hlm := len_D_mono (Nat.sub_le a b)
    generalize cmpI a b = c at *
    rw [vrun_v Tryd.func66 rfl rfl rfl]; simp only [Tryd.f66]
    cases n <;> cases m <;> simp (disch := omega) [go_sem, tab66, nil66, h1, h2, h3, hc, h]
  · have h3 := fun d => minus_v (x := b) (y := a) d (by omega) (by omega)
    have hc : (0 ≤ cmpI a b) = False := by rw [cmpI_ge]; simp [h]
    have hlp := len_add (x := a) (y := b) (n := 900000) (by omega) (by omega)
    have hlm := len_D_mono (Nat.sub_le b a)
    generalize cmpI a b = c at *
    rw [vrun_v Tryd.func66 rfl rfl rfl]; simp only [Tryd.f66]
    cases n <;> cases m <;> simp (disch := omega) [go_sem, tab66, nil66, h1, h2, h3, hc, h]
theorem plus_e (d : Nat) (ha : (D a).length < 100000) (hb : (D b).length < 100000) (he : -100000 ≤ ex) (he' : ex ≤ 100000) (hf : -100000 ≤ ey) (hf' : ey ≤ 100000) : vrun Tryd.prog kn (d + 5) 33 [.agg [.bool n, .ints .i64 (D a), .int .i64 ex], .agg [.bool m, .ints .i64 (D b), .int .i64 ey]] [] = some (.agg [.bool (ssN n (alA a ex b ey) m (alB a ex b ey) && decide (ssV n (alA a ex b ey) m (alB a ex b ey) ≠ 0)), .ints .i64 (D (ssV n (alA a ex b ey) m (alB a ex b ey))), .int .i64 (alE a ex b ey)], []) := by
  have h1 := fun d => aligned_v (n := n) (m := m) d ha hb he he' hf hf'
  obtain ⟨l1, l2⟩ := al_len (ex := ex) (ey := ey) ha hb he he' hf hf'
  have h2 := fun d => signedSum_v (n := n) (m := m) (a := alA a ex b ey) (b := alB a ex b ey) d (by omega) (by omega)
  have hl := ssV_len (n := n) (m := m) l1 l2
  generalize ssN n (alA a ex b ey) m (alB a ex b ey) = s at *
  generalize ssV n (alA a ex b ey) m (alB a ex b ey) = v at *
  by_cases h0 : v = 0
  · subst h0
    rw [D_zero] at *
    rw [vrun_v Tryd.func33 rfl rfl rfl]; simp only [Tryd.f33]
    cases s <;> simp (disch := omega) [go_sem, tab33, h1, h2]
  · have hn : ¬ D v = [] := fun h => h0 (D_nil_iff.1 h)
    have hp : 0 < (D v).length := List.length_pos_iff.2 hn
    rw [vrun_v Tryd.func33 rfl rfl rfl]; simp only [Tryd.f33]
    cases s <;> simp (disch := omega) [go_sem, tab33, h1, h2, hn, h0]
theorem negated_e (d : Nat) (ha : (D a).length < 100000) : vrun Tryd.prog kn (d + 1) 77 [.agg [.bool n, .ints .i64 (D a), .int .i64 e]] [] = some (.agg [.bool (!n && decide (a ≠ 0)), .ints .i64 (D a), .int .i64 e], []) := by
  by_cases h0 : a = 0
  · subst h0
    rw [D_zero] at *
    rw [vrun_v Tryd.func77 rfl rfl rfl]; simp only [Tryd.f77]
    cases n <;> simp (disch := omega) [go_sem, tab77]
  · have hn : ¬ D a = [] := fun h => h0 (D_nil_iff.1 h)
    have hp : 0 < (D a).length := List.length_pos_iff.2 hn
    rw [vrun_v Tryd.func77 rfl rfl rfl]; simp only [Tryd.f77]
    cases n <;> simp (disch := omega) [go_sem, tab77, hn, h0]
theorem minus_e (d : Nat) (ha : (D a).length < 100000) (hb : (D b).length < 100000) (he : -100000 ≤ ex) (he' : ex ≤ 100000) (hf : -100000 ≤ ey) (hf' : ey ≤ 100000) : vrun Tryd.prog kn (d + 6) 43 [.agg [.bool n, .ints .i64 (D a), .int .i64 ex], .agg [.bool m, .ints .i64 (D b), .int .i64 ey]] [] = some (.agg [.bool (ssN n (alA a ex b ey) (!m && decide (b ≠ 0)) (alB a ex b ey) && decide (ssV n (alA a ex b ey) (!m && decide (b ≠ 0)) (alB a ex b ey) ≠ 0)), .ints .i64 (D (ssV n (alA a ex b ey) (!m && decide (b ≠ 0)) (alB a ex b ey))), .int .i64 (alE a ex b ey)], []) := by
  have h1 := fun d => negated_e (n := m) (e := ey) d hb
  have h2 := fun d => plus_e (n := n) (m := !m && decide (b ≠ 0)) d ha hb he he' hf hf'
  generalize (!m && decide (b ≠ 0)) = m' at *
  rw [vrun_v Tryd.func43 rfl rfl rfl]; simp only [Tryd.f43]
  simp (disch := omega) only [go_sem, tab43, h1, h2]
  simp (disch := omega) [go_sem, tab43, h1, h2]
theorem l3mul_v (d : Nat) (ha : (D a).length < 400000) (hb : (D b).length < 400000) : vrun Tryd.prog kn (d + 3) 89 [.agg [.bool n, .ints .i64 (D a)], .agg [.bool m, .ints .i64 (D b)]] [] = some (.agg [.bool ((n != m) && decide (a * b ≠ 0)), .ints .i64 (D (a * b))], []) := by
  have h1 := fun d => l2mul_v (x := a) (y := b) d (by omega) (by omega)
  have hl := len_mul a b
  generalize a * b = p at *
  have h2 := fun n d => l3make_v (n := n) (a := p) d (by omega)
  rw [vrun_v Tryd.func89 rfl rfl rfl]; simp only [Tryd.f89]
  cases n <;> cases m <;> simp (disch := omega) [go_sem, tab89, h1, h2]
theorem l4mul_v (d : Nat) (ha : (D a).length < 10000) (hb : (D b).length < 10000) (he : -100000 ≤ ex) (he' : ex ≤ 100000) (hf : -100000 ≤ ey) (hf' : ey ≤ 100000) : vrun Tryd.prog kn (d + 5) 57 [.agg [.bool n, .ints .i64 (D a), .int .i64 ex], .agg [.bool m, .ints .i64 (D b), .int .i64 ey]] [] = some (.agg (mkD (n != m) (a * b) (ex + ey)).v, []) := by
  have h1 := fun d => l3mul_v (n := n) (m := m) (a := a) (b := b) d (by omega) (by omega)
  have hl := len_mul a b
  have h2 := fun d => l4make_v (n := (n != m) && decide (a * b ≠ 0)) (a := a * b) (e := ex + ey) d (by omega) (by omega) (by omega)
  rw [mkD_and] at h2
  generalize ((n != m) && decide (a * b ≠ 0)) = s at *
  generalize mkD (n != m) (a * b) (ex + ey) = r at *
  unfold DyT.v at *
  rw [vrun_v Tryd.func57 rfl rfl rfl]; simp only [Tryd.f57]
  simp (disch := omega) [go_sem, tab57, h1, h2]
theorem l3add_v (d : Nat) (ha : (D a).length < 900000) (hb : (D b).length < 900000) : vrun Tryd.prog kn (d + 3) 91 [.agg [.bool n, .ints .i64 (D a)], .agg [.bool m, .ints .i64 (D b)]] [] = some (.agg [.bool (ssN n a m b && decide (ssV n a m b ≠ 0)), .ints .i64 (D (ssV n a m b))], []) := by
  have h1 := fun d => l2add_v (x := a) (y := b) d (by omega) (by omega)
  have h2 := fun d => l2cmp_v (x := a) (y := b) d (by omega) (by omega)
  have hlp := len_add (x := a) (y := b) (n := 900000) (by omega) (by omega)
  have h4 := fun n d => l3make_v (n := n) (a := a + b) d (by omega)
  by_cases h : b ≤ a
  · have h3 := fun d => l2sub_v (x := a) (y := b) d h (by omega)
    have hc : (0 ≤ cmpI a b) = True := by rw [cmpI_ge]; simp [h]
    have hlm := len_D_mono (Nat.sub_le a b)
    have h5 := fun n d => l3make_v (n := n) (a := a - b) d (by omega)
    have e1 : ∀ q, ssN q a (!q) b = q := fun q => by cases q <;> simp [ssN, h]
    have e2 : ∀ q, ssV q a (!q) b = a - b := fun q => by cases q <;> simp [ssV, h]
    have e3 : ∀ q, ssN q a q b = q := fun q => by simp [ssN]
    have e4 : ∀ q, ssV q a q b = a + b := fun q => by simp [ssV]
    have e1t := e1 true; have e2t := e2 true; have e1f := e1 false; have e2f := e2 false
    simp only [Bool.not_true, Bool.not_false] at e1t e2t e1f e2f
    generalize cmpI a b = c at *
    rw [vrun_v Tryd.func91 rfl rfl rfl]; simp only [Tryd.f91]
    cases n <;> cases m <;> simp only [e1t, e2t, e1f, e2f, e3, e4] <;> simp (disch := omega) [go_sem, tab91, h1, h2, h3, h4, h5, hc]
  · have h3 := fun d => l2sub_v (x := b) (y := a) d (by omega) (by omega)
    have hc : (0 ≤ cmpI a b) = False := by rw [cmpI_ge]; simp [h]
    have hlm := len_D_mono (Nat.sub_le b a)
    have h5 := fun n d => l3make_v (n := n) (a := b - a) d (by omega)
    have e1 : ∀ q, ssN q a (!q) b = !q := fun q => by cases q <;> simp [ssN, h]
    have e2 : ∀ q, ssV q a (!q) b = b - a := fun q => by cases q <;> simp [ssV, h]
    have e3 : ∀ q, ssN q a q b = q := fun q => by simp [ssN]
    have e4 : ∀ q, ssV q a q b = a + b := fun q => by simp [ssV]
    have e1t := e1 true; have e2t := e2 true; have e1f := e1 false; have e2f := e2 false
    simp only [Bool.not_true, Bool.not_false] at e1t e2t e1f e2f
    generalize cmpI a b = c at *
    rw [vrun_v Tryd.func91 rfl rfl rfl]; simp only [Tryd.f91]
    cases n <;> cases m <;> simp only [e1t, e2t, e1f, e2f, e3, e4] <;> simp (disch := omega) [go_sem, tab91, h1, h2, h3, h4, h5, hc]
theorem l3neg_v (d : Nat) (ha : (D a).length < 900000) : vrun Tryd.prog kn (d + 3) 92 [.agg [.bool n, .ints .i64 (D a)]] [] = some (.agg [.bool (!n && decide (a ≠ 0)), .ints .i64 (D a)], []) := by
  have h2 := fun n d => l3make_v (n := n) (a := a) d (by omega)
  rw [vrun_v Tryd.func92 rfl rfl rfl]; simp only [Tryd.f92]
  cases n <;> simp (disch := omega) [go_sem, tab92, h2]
theorem l4neg_v (d : Nat) (ha : (D a).length < 900000) : vrun Tryd.prog kn (d + 4) 59 [.agg [.bool n, .ints .i64 (D a), .int .i64 e]] [] = some (.agg [.bool (!n && decide (a ≠ 0)), .ints .i64 (D a), .int .i64 e], []) := by
  have h2 := fun d => l3neg_v (n := n) (a := a) d (by omega)
  generalize (!n && decide (a ≠ 0)) = s at *
  rw [vrun_v Tryd.func59 rfl rfl rfl]; simp only [Tryd.f59]
  simp (disch := omega) [go_sem, tab59, h2]
theorem l4add_v (d : Nat) (ha : (D a).length < 20000) (hb : (D b).length < 20000) (he : -20000 ≤ ex) (he' : ex ≤ 20000) (hf : -20000 ≤ ey) (hf' : ey ≤ 20000) (hn : a = 0 → n = false) (hm : b = 0 → m = false) : vrun Tryd.prog kn (d + 5) 58 [.agg [.bool n, .ints .i64 (D a), .int .i64 ex], .agg [.bool m, .ints .i64 (D b), .int .i64 ey]] [] = some (.agg (mkD (ssN n (alA a ex b ey) m (alB a ex b ey)) (ssV n (alA a ex b ey) m (alB a ex b ey)) (alE a ex b ey)).v, []) := by
  have h1 := fun d => l4align_v (n := n) (m := m) d (by omega : (D a).length < 100000) (by omega : (D b).length < 100000) (by omega : -100000 ≤ ex) (by omega) (by omega : -100000 ≤ ey) (by omega) hn hm
  have hl1 : (D (alA a ex b ey)).length < 50000 ∧ (D (alB a ex b ey)).length < 50000 ∧ -20000 ≤ alE a ex b ey ∧ alE a ex b ey ≤ 20000 ∧ -20000 ≤ alE2 a ex b ey ∧ alE2 a ex b ey ≤ 20000 := by
    have q1 : -20000 ≤ alE a ex b ey ∧ alE a ex b ey ≤ 20000 := by unfold alE; split <;> (try split) <;> (try split) <;> omega
    have q2 : -20000 ≤ alE2 a ex b ey ∧ alE2 a ex b ey ≤ 20000 := by unfold alE2; split <;> (try split) <;> (try split) <;> omega
    have h1 := len_shl a (ex - alE a ex b ey).toNat
    have h2 := len_shl b (ey - alE a ex b ey).toNat
    unfold alA alB
    omega
  obtain ⟨l1, l2, l3, l4, l5, l6⟩ := hl1
  have h2 := fun d => l3add_v (n := n) (m := m) (a := alA a ex b ey) (b := alB a ex b ey) d (by omega) (by omega)
  have hl := ssV_len (n := n) (m := m) l1 l2
  have hz : mkD (ssN n (alA a ex b ey) m (alB a ex b ey)) (ssV n (alA a ex b ey) m (alB a ex b ey)) (alE2 a ex b ey) = mkD (ssN n (alA a ex b ey) m (alB a ex b ey)) (ssV n (alA a ex b ey) m (alB a ex b ey)) (alE a ex b ey) := by
    by_cases h0 : a = 0 ∧ b = 0
    · have : ssV n (alA a ex b ey) m (alB a ex b ey) = 0 := by unfold ssV alA alB; rw [h0.1, h0.2]; simp
      rw [this]; simp [mkD]
    · have : alE2 a ex b ey = alE a ex b ey := by
        unfold alE2 alE
        by_cases q1 : a = 0 <;> by_cases q2 : b = 0 <;> simp [q1, q2] at h0 ⊢
      rw [this]
  have h3 := fun d => l4make_v (n := ssN n (alA a ex b ey) m (alB a ex b ey) && decide (ssV n (alA a ex b ey) m (alB a ex b ey) ≠ 0)) (a := ssV n (alA a ex b ey) m (alB a ex b ey)) (e := alE2 a ex b ey) d (by omega) (by omega) (by omega)
  rw [mkD_and, hz] at h3
  generalize (ssN n (alA a ex b ey) m (alB a ex b ey) && decide (ssV n (alA a ex b ey) m (alB a ex b ey) ≠ 0)) = s at *
  generalize mkD (ssN n (alA a ex b ey) m (alB a ex b ey)) (ssV n (alA a ex b ey) m (alB a ex b ey)) (alE a ex b ey) = r at *
  generalize ssV n (alA a ex b ey) m (alB a ex b ey) = v at *
  unfold DyT.v at *
  rw [vrun_v Tryd.func58 rfl rfl rfl]; simp only [Tryd.f58]
  simp (disch := omega) [go_sem, tab58, h1, h2, h3]
end
end Go.Eng
