/- What the functions of this seat do, one after another, told by plain values. No conditions. -/
import Derived.Test.YtnkhamahhgfbhaaSeat
import Derived.Test.YtnkhamahhgfbhaaVb
import Derived.Test.YtnkhamahhgfbhaaT1
set_option linter.unusedVariables false
set_option linter.unusedSimpArgs false
namespace Go.Eng
open Go.Proofs
set_option maxRecDepth 100000
set_option linter.unusedSimpArgs false
attribute [local go_sem] r_seq r_skip r_retC r_exitC r_label r_block r_region r_regionW r_xWt r_xW r_cond r_Bt r_Bf r_Ncode r_Nret r_Nexit r_Nblk r_Nblkr r_Nblke r_Nnil r_Es r_Onil r_Oop r_Oif r_Xs r_Gt r_Gf r_wtt r_wtf r_wft r_wff r_wu r_gO r_putS r_putN r_get r_keepN r_keepC r_fr r_fn r_fi r_ff r_fo r_l1 r_l2t r_cun r_cul r_cub r_cui r_cus r_cuis r_cuc r_cusl r_cuti r_cutv r_ven r_vec r_l2f r_l3 r_t1 r_t2 r_t0 r_rt r_rc r_en r_ec r_cM r_oN r_oC r_end r_endt r_endf r_nob0 r_nobN r_nobC r_nobE r_nb0 r_nbi r_nbs r_nbsl r_nbin r_nbce r_nLn r_nLv r_nLc r_nAa r_nAn r_nAk_b r_nAk_i r_nAk_s r_nAk_n r_nAk_is r_nAk_ce r_nAk_fp r_nAk_sl r_nAk_pt r_nAk_fn r_nsn r_nsv r_nsc r_m0 r_mi r_ms r_msl r_min r_mce r_mLn r_mLv r_mLc r_mAa r_mAn r_mAk_b r_mAk_i r_mAk_s r_mAk_n r_mAk_is r_mAk_ce r_mAk_fp r_mAk_sl r_mAk_pt r_mAk_fn r_msn r_msv r_msc r_atb r_ati r_ats r_atn r_atis r_atc r_atf r_atl r_atp r_atfn r_gcn r_gcc r_gLn r_gLc r_gIt r_ndn r_ndc r_gcB r_gLB r_two r_rea r_rea0 r_re1n r_re1c r_ori r_orv r_ord r_orn r_adn r_adc r_ad1 r_ern r_ers r_er0 r_rsl r_rptr r_rb r_ri r_rs r_rn r_ris r_rce r_rfp r_ra4 r_ra3 r_rt4 r_rf4 r_rf3 r_idS r_idc r_nS r_nP r_nF r_nT r_vsl r_vptr r_vb r_vi r_vs r_vn r_vis r_vce r_vfp r_va4 r_va3 r_vt4 r_vf4 r_vf3 r_rV r_Oi r_Ov r_Od r_rE r_rE0 r_En r_Ec r_E0 r_pO r_pk r_agL r_cO r_fO r_fSi r_fSv r_fPv r_fsl r_fptr r_ffn r_fag r_fb r_fint r_fstr r_fnil r_fis r_fce r_ffp r_res r_move r_assign r_pick r_pickt r_pickf r_alloc r_box r_al r_build r_bslice r_load r_store r_nlc r_nl1 r_nl2 r_bin r_un r_conv r_mkf r_mks r_slc r_fad r_fld r_iad r_idx r_ext r_ex1 r_callf r_callt r_callen r_calapp r_calmax r_calmin r_vt r_vcb r_vci r_vcs r_vcn r_vca r_vcf r_vcg r_ofb r_ofi r_ofs r_ofn r_evs r_pn r_prt r_pc r_one_a r_one_b r_one_i r_one_s r_one_n r_one_is r_one_ce r_one_fp r_one_sl r_one_pt r_one_fn r_cs_a r_cs_b r_cs_i r_cs_s r_cs_n r_cs_is r_cs_ce r_cs_fp r_cs_sl r_cs_pt r_cs_fn r_tov r_tovA r_toc r_toa r_tb r_ti r_ts r_tn r_bd r_bd2 r_filn r_fp1 r_filc r_fsn r_fsc r_san r_sac r_bs2 r_bs1 r_newO r_mkq r_mkI r_mkOi r_mkOv r_tIn r_tIc r_repz r_repn r_ldp r_ldf r_l1t r_l1f r_lFt r_lFf r_aggO r_obj r_at r_ati' r_atv r_celli r_cellv r_subi r_subv r_sto r_sto1 r_sto2 r_sets r_setR r_setn r_setc r_s1i r_s1v r_bin1 r_bin2 r_tv1 r_cb r_ci r_cst r_cn r_csl r_cis r_cce r_uni r_unb r_cv r_cvi r_cvs r_cvb r_cvl r_sO r_rdn r_rdi r_rdl r_rdO r_vsub r_vfn r_mk r_mk1 r_mk2 r_zoi r_zov r_leni r_lenv r_bn r_bndV r_bo r_sl0 r_sl1 r_vsz r_ct1 r_cts r_cti r_ctc r_ctn r_lnl r_lni r_lnc r_lnn r_fa r_fap r_faf r_fi1 r_fit r_fif r_ixi r_ixs r_ixc r_ixf r_ixF r_ixF2 r_ix1 r_ixsl r_ixin r_ixce r_len1 r_lenA r_lTs r_lTn r_lTl r_lTi r_lTc r_app0 r_app r_app1 r_app2 r_app3 r_catO r_cati r_catv r_newt r_newf r_pair r_pairK r_trip r_kis r_kiv r_srn r_srl r_sri r_src r_srs r_oln r_oll r_vw r_wi r_wv r_mm r_max r_min' r_str r_cF r_c2t r_c3f r_c3t r_ab r_c2f r_cV r_p1 r_la r_la2t r_la2f r_la3 r_sh r_z_is r_z_ce r_z_fp r_z_b r_z_i r_z_s r_z_n r_z_l r_z_p r_z_a4 r_z_a3 r_z_t4 r_zoI r_zoV r_roN r_roC r_roi r_rod r_zod r_rov r_aR r_trOi r_trOv r_trPv r_trl r_trp r_trf r_tra r_trb r_tri r_trs r_trn r_tris r_trce r_trfp
attribute [local go_sem] b_add b_sub b_mul b_quo b_rem b_shl b_shr b_eql b_neq b_lss b_leq b_gtr b_geq eqB_s b_eqB b_neB u_neg u_not b_nn b_nn' eqS_s zerosT_s zerosT_n zt_i zt_sl zt_st dstOf_z dstOf_n iltT iltF ileT ileF ieqT ieqF nltT nltF nleT nleF neqT neqF tdiv_pos tmod_pos w64 idx0 List.take_of_length_le
/- Dyadics: alignment and comparison, program and reference. No conditions. -/
section
open Num
def alE (a : Nat) (ex : Int) (b : Nat) (ey : Int) : Int := if b = 0 then ex else if a = 0 then ey else if ey < ex then ey else ex
def alA (a : Nat) (ex : Int) (b : Nat) (ey : Int) : Nat := a * 2 ^ (ex - alE a ex b ey).toNat
def alB (a : Nat) (ex : Int) (b : Nat) (ey : Int) : Nat := b * 2 ^ (ey - alE a ex b ey).toNat
def scmp (n : Bool) (a : Nat) (m : Bool) (b : Nat) : Int := if n && !m then -1 else if !n && m then 1 else if n then cmpI b a else cmpI a b
section
variable {a b : Nat} {ex ey : Int} {n m : Bool}
theorem alE_bd (he : -100000 ≤ ex) (he' : ex ≤ 100000) (hf : -100000 ≤ ey) (hf' : ey ≤ 100000) : -100000 ≤ alE a ex b ey ∧ alE a ex b ey ≤ 100000 := by
  unfold alE
  by_cases h1 : b = 0
  · rw [if_pos h1]; omega
  · rw [if_neg h1]
    by_cases h2 : a = 0
    · rw [if_pos h2]; omega
    · rw [if_neg h2]; split <;> omega
theorem al_len (ha : (D a).length < 100000) (hb : (D b).length < 100000) (he : -100000 ≤ ex) (he' : ex ≤ 100000) (hf : -100000 ≤ ey) (hf' : ey ≤ 100000) : (D (alA a ex b ey)).length < 200000 ∧ (D (alB a ex b ey)).length < 200000 := by
  have := alE_bd (a := a) (b := b) he he' hf hf'
  unfold alA alB
  have h1 := len_shl a (ex - alE a ex b ey).toNat
  have h2 := len_shl b (ey - alE a ex b ey).toNat
  omega
theorem exactOf_v (d : Nat) (l : List Int) : vrun Try.prog kn (d + 1) 42 [.agg [.bool n, .ints .i64 l, .int .i64 ex]] [] = some (.agg [.bool n, .ints .i64 l, .int .i64 ex], []) := by
  rw [vrun_v Try.func42 rfl rfl rfl]; simp only [Try.f42]
  simp (disch := omega) [go_sem, tab42]
theorem signedCompare_v (d : Nat) (ha : (D a).length < 1000000) (hb : (D b).length < 1000000) : vrun Try.prog kn (d + 4) 88 [.bool n, .ints .i64 (D a), .bool m, .ints .i64 (D b)] [] = some (.int .i64 (scmp n a m b), []) := by
  have h1 := fun d => compare_v d ha hb
  have h2 := fun d => compare_v d hb ha
  rw [vrun_v Try.func88 rfl rfl rfl]; simp only [Try.f88]
  cases n <;> cases m <;> simp (disch := omega) [go_sem, tab88, h1, h2, scmp]
theorem aligned_v (d : Nat) (ha : (D a).length < 100000) (hb : (D b).length < 100000) (he : -100000 ≤ ex) (he' : ex ≤ 100000) (hf : -100000 ≤ ey) (hf' : ey ≤ 100000) : vrun Try.prog kn (d + 3) 87 [.agg [.bool n, .ints .i64 (D a), .int .i64 ex], .agg [.bool m, .ints .i64 (D b), .int .i64 ey]] [] = some (.tup [.ints .i64 (D (alA a ex b ey)), .ints .i64 (D (alB a ex b ey)), .int .i64 (alE a ex b ey)], []) := by
  have ka : ∀ (x : Nat), (D x).length < 100000 → ∀ (k : Int), 0 ≤ k → k ≤ 200000 → ∀ d, vrun Try.prog kn (d + 2) 56 [.ints .i64 (D x), .int .i64 k] [] = some (.sl 0 0 (D (x * 2 ^ k.toNat)).length 1, [.ints true .i64 (D (x * 2 ^ k.toNat))]) := fun x hx k h0 h1 d => by
    have := up_v (x := x) (k := k.toNat) d (by omega) (by omega)
    rwa [show ((k.toNat : Nat) : Int) = k by omega] at this
  have za := ka a ha 0 (by omega) (by omega)
  have zb := ka b hb 0 (by omega) (by omega)
  have fz : ∀ d, vrun Try.prog kn (d + 2) 56 [.ints .i64 [], .int .i64 0] [] = some (.sl 0 0 0 1, [.ints true .i64 []]) := fun d => by
    have := ka 0 (by rw [D_zero]; simp) 0 (by omega) (by omega) d
    rwa [Nat.zero_mul, D_zero] at this
  have z0 : (0 : Int).toNat = 0 := rfl
  rw [z0, Nat.pow_zero, Nat.mul_one] at za zb
  have fq : ∀ (k : Int), 0 ≤ k → k ≤ 200000 → ∀ d, vrun Try.prog kn (d + 2) 56 [.ints .i64 [], .int .i64 k] [] = some (.sl 0 0 0 1, [.ints true .i64 []]) := fun k h0 h1 d => by
    have := ka 0 (by rw [D_zero]; simp) k h0 h1 d
    rwa [Nat.zero_mul, D_zero] at this
  by_cases hb0 : b = 0
  · have e1 : alE a ex b ey = ex := by unfold alE; rw [if_pos hb0]
    have e2 : alA a ex b ey = a := by unfold alA; rw [e1, Int.sub_self, z0, Nat.pow_zero, Nat.mul_one]
    have e3 : alB a ex b ey = 0 := by unfold alB; rw [hb0, Nat.zero_mul]
    rw [e1, e2, e3]
    subst hb0
    clear ka zb e1 e2 e3 hb
    rw [D_zero]
    by_cases ha0 : (D a).length = 0
    · have := List.eq_nil_of_length_eq_zero ha0
      rw [this] at za ⊢
      by_cases hq : ey < ex
      · rw [vrun_v Try.func87 rfl rfl rfl]; simp only [Try.f87]
        simp (disch := omega) [go_sem, tab87, nil87, fz, fq, hq]
      · rw [vrun_v Try.func87 rfl rfl rfl]; simp only [Try.f87]
        simp (disch := omega) [go_sem, tab87, nil87, fz, fq, hq]
    · have hn : ¬ D a = [] := fun h => ha0 (by rw [h]; rfl)
      by_cases hq : ey < ex
      · rw [vrun_v Try.func87 rfl rfl rfl]; simp only [Try.f87]
        simp (disch := omega) [go_sem, tab87, nil87, fz, fq, hq, za, hn]
      · rw [vrun_v Try.func87 rfl rfl rfl]; simp only [Try.f87]
        simp (disch := omega) [go_sem, tab87, nil87, fz, fq, hq, za, hn]
  · have hb1 : ¬ (D b).length = 0 := fun h => hb0 (D_nil_iff.1 (List.eq_nil_of_length_eq_zero h))
    have hn : ¬ D b = [] := fun h => hb1 (by rw [h]; rfl)
    by_cases ha0 : a = 0
    · have e1 : alE a ex b ey = ey := by unfold alE; rw [if_neg hb0, if_pos ha0]
      have e2 : alB a ex b ey = b := by unfold alB; rw [e1, Int.sub_self, z0, Nat.pow_zero, Nat.mul_one]
      have e3 : alA a ex b ey = 0 := by unfold alA; rw [ha0, Nat.zero_mul]
      rw [e1, e2, e3]
      subst ha0
      clear ka za e1 e2 e3 ha
      rw [D_zero]
      by_cases hq : ey < ex
      · rw [vrun_v Try.func87 rfl rfl rfl]; simp only [Try.f87]
        simp (disch := omega) [go_sem, tab87, nil87, fz, fq, hq, zb, hn]
      · rw [vrun_v Try.func87 rfl rfl rfl]; simp only [Try.f87]
        simp (disch := omega) [go_sem, tab87, nil87, fz, fq, hq, zb, hn]
    · have ha1 : ¬ (D a).length = 0 := fun h => ha0 (D_nil_iff.1 (List.eq_nil_of_length_eq_zero h))
      have hm : ¬ D a = [] := fun h => ha1 (by rw [h]; rfl)
      by_cases hq : ey < ex
      · have e1 : alE a ex b ey = ey := by unfold alE; rw [if_neg hb0, if_neg ha0, if_pos hq]
        have e2 : alB a ex b ey = b := by unfold alB; rw [e1, Int.sub_self, z0, Nat.pow_zero, Nat.mul_one]
        have e3 : alA a ex b ey = a * 2 ^ (ex - ey).toNat := by unfold alA; rw [e1]
        rw [e1, e2, e3]
        have k1 := ka a ha (ex - ey) (by omega) (by omega)
        generalize a * 2 ^ (ex - ey).toNat = X at *
        clear ka e1 e2 e3
        rw [vrun_v Try.func87 rfl rfl rfl]; simp only [Try.f87]
        simp (disch := omega) [go_sem, tab87, nil87, hq, k1, zb, hn, hm]
      · have e1 : alE a ex b ey = ex := by unfold alE; rw [if_neg hb0, if_neg ha0, if_neg hq]
        have e2 : alA a ex b ey = a := by unfold alA; rw [e1, Int.sub_self, z0, Nat.pow_zero, Nat.mul_one]
        have e3 : alB a ex b ey = b * 2 ^ (ey - ex).toNat := by unfold alB; rw [e1]
        rw [e1, e2, e3]
        have k1 := ka b hb (ey - ex) (by omega) (by omega)
        generalize b * 2 ^ (ey - ex).toNat = X at *
        clear ka e1 e2 e3
        rw [vrun_v Try.func87 rfl rfl rfl]; simp only [Try.f87]
        simp (disch := omega) [go_sem, tab87, nil87, hq, k1, za, hn, hm]
theorem cmp_v (d : Nat) (ha : (D a).length < 100000) (hb : (D b).length < 100000) (he : -100000 ≤ ex) (he' : ex ≤ 100000) (hf : -100000 ≤ ey) (hf' : ey ≤ 100000) : vrun Try.prog kn (d + 5) 41 [.agg [.bool n, .ints .i64 (D a), .int .i64 ex], .agg [.bool m, .ints .i64 (D b), .int .i64 ey]] [] = some (.int .i64 (scmp n (alA a ex b ey) m (alB a ex b ey)), []) := by
  have h1 := fun d => aligned_v (n := n) (m := m) d ha hb he he' hf hf'
  obtain ⟨l1, l2⟩ := al_len ha hb he he' hf hf'
  have h2 := fun d => signedCompare_v (n := n) (m := m) d (a := alA a ex b ey) (b := alB a ex b ey) (by omega) (by omega)
  rw [vrun_v Try.func41 rfl rfl rfl]; simp only [Try.f41]
  simp (disch := omega) [go_sem, tab41, h1, h2]
theorem l3make_v (d : Nat) (ha : (D a).length < 1000000) : vrun Try.prog kn (d + 2) 49 [.bool n, .agg [.ints .i64 (D a)]] [] = some (.agg [.bool (n && decide (a ≠ 0)), .ints .i64 (D a)], []) := by
  have h1 := fun d => l2norm_v d (l := D a) (v := a) (by omega) (good_D a) (val_D a)
  by_cases h0 : a = 0
  · subst h0
    rw [D_zero] at h1 ⊢
    rw [vrun_v Try.func49 rfl rfl rfl]; simp only [Try.f49]
    cases n <;> simp (disch := omega) [go_sem, tab49, h1]
  · have hn : ¬ D a = [] := fun h => h0 (D_nil_iff.1 h)
    have hp : 0 < (D a).length := List.length_pos_iff.2 hn
    rw [vrun_v Try.func49 rfl rfl rfl]; simp only [Try.f49]
    cases n <;> simp (disch := omega) [go_sem, tab49, h1, h0, hn]
theorem l3cmp_v (d : Nat) (ha : (D a).length < 1000000) (hb : (D b).length < 1000000) : vrun Try.prog kn (d + 2) 81 [.agg [.bool n, .ints .i64 (D a)], .agg [.bool m, .ints .i64 (D b)]] [] = some (.int .i64 (scmp n a m b), []) := by
  have h1 := fun d => l2cmp_v d ha hb
  have h2 := fun d => l2cmp_v d hb ha
  rw [vrun_v Try.func81 rfl rfl rfl]; simp only [Try.f81]
  cases n <;> cases m <;> simp (disch := omega) [go_sem, tab81, h1, h2, scmp]
def alE2 (a : Nat) (ex : Int) (b : Nat) (ey : Int) : Int := if a = 0 then ey else if b = 0 then ex else if ey < ex then ey else ex
theorem l4align_v (d : Nat) (ha : (D a).length < 100000) (hb : (D b).length < 100000) (he : -100000 ≤ ex) (he' : ex ≤ 100000) (hf : -100000 ≤ ey) (hf' : ey ≤ 100000) (hn : a = 0 → n = false) (hm : b = 0 → m = false) : vrun Try.prog kn (d + 4) 80 [.agg [.bool n, .ints .i64 (D a), .int .i64 ex], .agg [.bool m, .ints .i64 (D b), .int .i64 ey]] [] = some (.tup [.agg [.bool n, .ints .i64 (D (alA a ex b ey))], .agg [.bool m, .ints .i64 (D (alB a ex b ey))], .int .i64 (alE2 a ex b ey)], []) := by
  have ka : ∀ (x : Nat), (D x).length < 100000 → ∀ (k : Int), 0 ≤ k → k ≤ 200000 → ∀ d, vrun Try.prog kn (d + 3) 50 [.agg [.ints .i64 (D x)], .int .i64 k] [] = some (.agg [.ints .i64 (D (x * 2 ^ k.toNat))], []) := fun x hx k h0 h1 d => by
    have := l2shl_v (x := x) (k := k.toNat) d (by omega) (by omega)
    rwa [show ((k.toNat : Nat) : Int) = k by omega] at this
  have z0 : (0 : Int).toNat = 0 := rfl
  by_cases ha0 : a = 0
  · have e1 : alA a ex b ey = 0 := by unfold alA; rw [ha0, Nat.zero_mul]
    have e2 : alB a ex b ey = b := by
      unfold alB alE
      by_cases hb0 : b = 0
      · rw [hb0, Nat.zero_mul]
      · rw [if_neg hb0, if_pos ha0, Int.sub_self, z0, Nat.pow_zero, Nat.mul_one]
    have e3 : alE2 a ex b ey = ey := by unfold alE2; rw [if_pos ha0]
    rw [e1, e2, e3]
    subst ha0
    rw [D_zero]
    rw [vrun_v Try.func80 rfl rfl rfl]; simp only [Try.f80]
    simp (disch := omega) [go_sem, tab80, w_nil, w_op, w_if, w_Gt, w_Gf, w_Xs, w_V, r_xWt, vmodI, vldI, vmodS, vldS, vmodA, vmodB, vldOK, V.self]
  have hm' : ¬ D a = [] := fun h => ha0 (D_nil_iff.1 h)
  have ha1 : ¬ (D a).length = 0 := fun h => ha0 (D_nil_iff.1 (List.eq_nil_of_length_eq_zero h))
  by_cases hb0 : b = 0
  · have e1 : alB a ex b ey = 0 := by unfold alB; rw [hb0, Nat.zero_mul]
    have e2 : alA a ex b ey = a := by unfold alA alE; rw [if_pos hb0, Int.sub_self, z0, Nat.pow_zero, Nat.mul_one]
    have e3 : alE2 a ex b ey = ex := by unfold alE2; rw [if_neg ha0, if_pos hb0]
    rw [e1, e2, e3]
    subst hb0
    rw [D_zero]
    rw [vrun_v Try.func80 rfl rfl rfl]; simp only [Try.f80]
    simp (disch := omega) [go_sem, tab80, hm', w_nil, w_op, w_if, w_Gt, w_Gf, w_Xs, w_V, r_xWt, vmodI, vldI, vmodS, vldS, vmodA, vmodB, vldOK, V.self]
  have hn' : ¬ D b = [] := fun h => hb0 (D_nil_iff.1 h)
  have hb1 : ¬ (D b).length = 0 := fun h => hb0 (D_nil_iff.1 (List.eq_nil_of_length_eq_zero h))
  have hl := al_len (ex := ex) (ey := ey) ha hb he he' hf hf'
  by_cases hq : ex ≤ ey
  · have e0 : alE a ex b ey = ex := by unfold alE; rw [if_neg hb0, if_neg ha0, if_neg (by omega)]
    have e1 : alA a ex b ey = a := by unfold alA; rw [e0, Int.sub_self, z0, Nat.pow_zero, Nat.mul_one]
    have e2 : alB a ex b ey = b * 2 ^ (ey - ex).toNat := by unfold alB; rw [e0]
    have e3 : alE2 a ex b ey = ex := by unfold alE2; rw [if_neg ha0, if_neg hb0, if_neg (by omega)]
    have h1 := ka b hb (ey - ex) (by omega) (by omega)
    rw [e2] at hl
    have hX : b * 2 ^ (ey - ex).toNat ≠ 0 := Nat.mul_ne_zero hb0 (Nat.pos_iff_ne_zero.1 (Nat.two_pow_pos _))
    rw [e1, e2, e3]
    generalize b * 2 ^ (ey - ex).toNat = X at *
    have h2 := fun d => l3make_v (n := m) (a := X) d (by omega)
    simp only [ne_eq, hX, not_false_eq_true, decide_true, Bool.and_true] at h2
    clear ka e0 e1 e2 e3
    rw [vrun_v Try.func80 rfl rfl rfl]; simp only [Try.f80]
    simp (disch := omega) [go_sem, tab80, hm', hn', hq, h1, h2, w_nil, w_op, w_if, w_Gt, w_Gf, w_Xs, w_V, r_xWt, vmodI, vldI, vmodS, vldS, vmodA, vmodB, vldOK, V.self]
  · have e0 : alE a ex b ey = ey := by unfold alE; rw [if_neg hb0, if_neg ha0, if_pos (by omega)]
    have e1 : alB a ex b ey = b := by unfold alB; rw [e0, Int.sub_self, z0, Nat.pow_zero, Nat.mul_one]
    have e2 : alA a ex b ey = a * 2 ^ (ex - ey).toNat := by unfold alA; rw [e0]
    have e3 : alE2 a ex b ey = ey := by unfold alE2; rw [if_neg ha0, if_neg hb0, if_pos (by omega)]
    have h1 := ka a ha (ex - ey) (by omega) (by omega)
    rw [e2] at hl
    have hX : a * 2 ^ (ex - ey).toNat ≠ 0 := Nat.mul_ne_zero ha0 (Nat.pos_iff_ne_zero.1 (Nat.two_pow_pos _))
    rw [e1, e2, e3]
    generalize a * 2 ^ (ex - ey).toNat = X at *
    have h2 := fun d => l3make_v (n := n) (a := X) d (by omega)
    simp only [ne_eq, hX, not_false_eq_true, decide_true, Bool.and_true] at h2
    clear ka e0 e1 e2 e3
    rw [vrun_v Try.func80 rfl rfl rfl]; simp only [Try.f80]
    simp (disch := omega) [go_sem, tab80, hm', hn', hq, h1, h2, w_nil, w_op, w_if, w_Gt, w_Gf, w_Xs, w_V, r_xWt, vmodI, vldI, vmodS, vldS, vmodA, vmodB, vldOK, V.self]
theorem l4cmp_v (d : Nat) (ha : (D a).length < 100000) (hb : (D b).length < 100000) (he : -100000 ≤ ex) (he' : ex ≤ 100000) (hf : -100000 ≤ ey) (hf' : ey ≤ 100000) (hn : a = 0 → n = false) (hm : b = 0 → m = false) : vrun Try.prog kn (d + 5) 36 [.agg [.bool n, .ints .i64 (D a), .int .i64 ex], .agg [.bool m, .ints .i64 (D b), .int .i64 ey]] [] = some (.int .i64 (scmp n (alA a ex b ey) m (alB a ex b ey)), []) := by
  have h1 := fun d => l4align_v (n := n) (m := m) d ha hb he he' hf hf' hn hm
  obtain ⟨l1, l2⟩ := al_len ha hb he he' hf hf'
  have h2 := fun d => l3cmp_v (n := n) (m := m) d (a := alA a ex b ey) (b := alB a ex b ey) (by omega) (by omega)
  rw [vrun_v Try.func36 rfl rfl rfl]; simp only [Try.f36]
  simp (disch := omega) [go_sem, tab36, h1, h2]
end
end
/- What the exact laws do beside: sizes and equality of whole numbers' lists, naturals, wholes, dyadics. No conditions. -/
section
open Num
section
variable {l a b : List Int} {left e : Int} {n : Bool}
theorem szIntS_v (d : Nat) (hl : l.length ≤ 9223372036854775807) (h0 : 0 ≤ left) (h1 : left ≤ 1048576) : ∃ r : Int, vrun Try.prog kn (d + 1) 74 [.ints .i64 l, .int .i64 left] [] = some (.int .i64 r, []) ∧ r ≤ left ∧ (0 ≤ r → l.length ≤ 1048576) := by
  by_cases h : left < l.length
  · refine ⟨-1, ?_, by omega, fun h => by omega⟩
    rw [vrun_v Try.func74 rfl rfl rfl]; simp only [Try.f74]
    simp (disch := omega) [go_sem, tab74]
  · refine ⟨left - l.length, ?_, by omega, fun h => by omega⟩
    rw [vrun_v Try.func74 rfl rfl rfl]; simp only [Try.f74]
    simp (disch := omega) [go_sem, tab74]
theorem szNat_v (d : Nat) (hl : l.length ≤ 9223372036854775807) (h0 : 0 ≤ left) (h1 : left ≤ 1048576) : ∃ r : Int, vrun Try.prog kn (d + 2) 33 [.agg [.ints .i64 l], .int .i64 left] [] = some (.int .i64 r, []) ∧ r ≤ left ∧ (0 ≤ r → l.length ≤ 1048576) := by
  obtain ⟨r, hr, h2, h3⟩ := szIntS_v d hl h0 h1
  by_cases h : r < 0
  · refine ⟨-1, ?_, by omega, fun h => by omega⟩
    rw [vrun_v Try.func33 rfl rfl rfl]; simp only [Try.f33]
    simp (disch := omega) [go_sem, tab33, hr]
  · refine ⟨r, ?_, by omega, h3⟩
    rw [vrun_v Try.func33 rfl rfl rfl]; simp only [Try.f33]
    simp (disch := omega) [go_sem, tab33, hr]
theorem szWhole_v (d : Nat) (hl : l.length ≤ 9223372036854775807) (h0 : 0 ≤ left) (h1 : left ≤ 1048576) : ∃ r : Int, vrun Try.prog kn (d + 3) 26 [.agg [.bool n, .ints .i64 l], .int .i64 left] [] = some (.int .i64 r, []) ∧ r ≤ left ∧ (0 ≤ r → l.length ≤ 1048576) := by
  obtain ⟨r, hr, h2, h3⟩ := szNat_v d hl h0 h1
  by_cases h : r < 0
  · refine ⟨-1, ?_, by omega, fun h => by omega⟩
    rw [vrun_v Try.func26 rfl rfl rfl]; simp only [Try.f26]
    simp (disch := omega) [go_sem, tab26, hr]
  · refine ⟨r, ?_, by omega, h3⟩
    rw [vrun_v Try.func26 rfl rfl rfl]; simp only [Try.f26]
    simp (disch := omega) [go_sem, tab26, hr]
theorem szDy_v (d : Nat) (hl : l.length ≤ 9223372036854775807) (h0 : 0 ≤ left) (h1 : left ≤ 1048576) : ∃ r : Int, vrun Try.prog kn (d + 4) 6 [.agg [.bool n, .ints .i64 l, .int .i64 e], .int .i64 left] [] = some (.int .i64 r, []) ∧ r ≤ left ∧ (0 ≤ r → l.length ≤ 1048576) := by
  obtain ⟨r, hr, h2, h3⟩ := szWhole_v (n := n) d hl h0 h1
  by_cases h : r < 0
  · refine ⟨-1, ?_, by omega, fun h => by omega⟩
    rw [vrun_v Try.func6 rfl rfl rfl]; simp only [Try.f6]
    simp (disch := omega) [go_sem, tab6, hr]
  · refine ⟨r, ?_, by omega, h3⟩
    rw [vrun_v Try.func6 rfl rfl rfl]; simp only [Try.f6]
    simp (disch := omega) [go_sem, tab6, hr]
def eqIS (a b : List Int) (j : Nat) : VE × VH := ([(0, some (.ints .i64 a)), (1, some (.ints .i64 b)), (5, some (.int .i64 j))], [])
theorem eqIntS_v (d : Nat) (ha : a.length < 1000000000) (hb : b.length < 1000000000) : vrun Try.prog kn (d + 1) 89 [.ints .i64 a, .ints .i64 b] [] = some (.bool (decide (a = b)), []) := by
  by_cases hl : ¬ a.length = b.length
  · have : ¬ a = b := fun h => hl (by rw [h])
    have h' : ¬ (a.length : Int) = b.length := by omega
    rw [vrun_v Try.func89 rfl rfl rfl]; simp only [Try.f89]
    simp (disch := omega) [go_sem, tab89, h', this, hl]
  rw [Decidable.not_not] at hl
  have key := vi_inv (n := kn.cf.rounds) (body := vCode Try.prog kn (vrun Try.prog kn d) 89 (loopAt Try.f89 0)) (fun j s => s = eqIS a b j ∧ a.take j = b.take j)
    (fun r => (r = some (.exit 0, (eqIS a b a.length).1 ++ [(14, some (.bool false))], []) ∧ a = b) ∨ (r = some (.ret, [(4, some (.bool false))], []) ∧ ¬ a = b)) a.length (by rw [k_cf, c_rounds]; omega)
    (fun j s hj hI => by
      obtain ⟨rfl, hI⟩ := hI
      have hja : a[j]? = some (gt a j) := by rw [gt]; simp [hj]
      have hjb : b[j]? = some (gt b j) := by rw [gt]; simp [show j < b.length by omega]
      by_cases hq : gt a j = gt b j
      · left
        refine ⟨eqIS a b (j + 1), ?_, rfl, ?_⟩
        · rw [round_v]; simp only [loopAt, nthC, bodyC, loops, List.nil_append, List.cons_append, List.append_nil, Try.f89, eqIS]
          simp (disch := omega) [go_sem, tab89, hq]
        · rw [List.take_add_one, List.take_add_one, hI, hja, hjb, hq]
      · right; intro m; right
        refine ⟨vi_ret ?_, fun h => hq (by rw [h])⟩
        rw [round_v]; simp only [loopAt, nthC, bodyC, loops, List.nil_append, List.cons_append, List.append_nil, Try.f89, eqIS]
        simp (disch := omega) [go_sem, tab89, hq])
    (fun s hI m => by
      obtain ⟨rfl, hI⟩ := hI
      left
      refine ⟨vi_exit ?_, by rwa [List.take_length, hl, List.take_length] at hI⟩
      rw [round_v]; simp only [loopAt, nthC, bodyC, loops, List.nil_append, List.cons_append, List.append_nil, Try.f89, eqIS]
      simp (disch := omega) [go_sem, tab89])
    (eqIS a b 0) ⟨rfl, by simp⟩
  rcases key with ⟨hv, hq⟩ | ⟨hv, hq⟩
  · rw [decide_eq_true hq]
    have hl0 := fun ks => loop_v (P := Try.prog) (K := kn) (ks := ks) hv
    simp only [loopAt, nthC, bodyC, loops, List.nil_append, List.cons_append, List.append_nil, Try.f89, eqIS, Int.natCast_zero, List.cons_append, List.nil_append] at hl0
    rw [vrun_v Try.func89 rfl rfl rfl]; simp only [Try.f89]
    simp (disch := omega) [go_sem, tab89, hl, hl0]
  · rw [decide_eq_false hq]
    have hl0 := fun ks => loop_v (P := Try.prog) (K := kn) (ks := ks) hv
    simp only [loopAt, nthC, bodyC, loops, List.nil_append, List.cons_append, List.append_nil, Try.f89, eqIS, Int.natCast_zero, List.cons_append, List.nil_append] at hl0
    rw [vrun_v Try.func89 rfl rfl rfl]; simp only [Try.f89]
    simp (disch := omega) [go_sem, tab89, hl, hl0]
theorem eqNat_v (d : Nat) (ha : a.length < 1000000000) (hb : b.length < 1000000000) : vrun Try.prog kn (d + 2) 44 [.agg [.ints .i64 a], .agg [.ints .i64 b]] [] = some (.bool (decide (a = b)), []) := by
  have h1 := fun d => eqIntS_v d ha hb
  by_cases h : a = b <;> simp only [h, decide_true, decide_false] at h1 ⊢
  all_goals
    rw [vrun_v Try.func44 rfl rfl rfl]; simp only [Try.f44]
    simp (disch := omega) [go_sem, tab44, h1]
theorem eqWhole_v (d : Nat) {n1 n2 : Bool} (ha : a.length < 1000000000) (hb : b.length < 1000000000) : vrun Try.prog kn (d + 3) 23 [.agg [.bool n1, .ints .i64 a], .agg [.bool n2, .ints .i64 b]] [] = some (.bool (decide (n1 = n2) && decide (a = b)), []) := by
  have h1 := fun d => eqNat_v d ha hb
  by_cases h : a = b <;> simp only [h, decide_true, decide_false, Bool.and_true, Bool.and_false] at h1 ⊢
  all_goals
    rw [vrun_v Try.func23 rfl rfl rfl]; simp only [Try.f23]
    cases n1 <;> cases n2 <;> simp (disch := omega) [go_sem, tab23, h1]
theorem eqDy_v (d : Nat) {n1 n2 : Bool} {e1 e2 : Int} (ha : a.length < 1000000000) (hb : b.length < 1000000000) : vrun Try.prog kn (d + 4) 11 [.agg [.bool n1, .ints .i64 a, .int .i64 e1], .agg [.bool n2, .ints .i64 b, .int .i64 e2]] [] = some (.bool (decide (n1 = n2) && decide (a = b) && decide (e1 = e2)), []) := by
  have h1 := fun d => eqWhole_v (n1 := n1) (n2 := n2) d ha hb
  cases hc : (decide (n1 = n2) && decide (a = b)) <;> rw [hc] at h1 <;> by_cases he : e1 = e2
  all_goals
    rw [vrun_v Try.func11 rfl rfl rfl]; simp only [Try.f11]
    simp (disch := omega) [go_sem, tab11, h1, he]
end
end
/- The reference's trailing noughts, and its one form of a dyadic. No conditions. -/
section
open Num
section
variable {x : Nat}
def trS (x j : Nat) : VE × VH := ([(1, some (.ptr 0 0)), (3, some (.int .i64 j))], [.vals true [.ints .i64 (D x)]])
theorem tr_r (d : Nat) (hx : (D x).length < 1000000) {j : Nat} (hj : j < tz x) : vCode Try.prog kn (vrun Try.prog kn (d + 1)) 105 (loopAt Try.f105 0) (trS x j).1 (trS x j).2 = some (.norm, trS x (j + 1)) := by
  have h0 : x ≠ 0 := by rintro rfl; simp [tz] at hj
  have hlt := tz_lt h0
  have hb := tz_low hj
  have h1 := l2bit_v (x := x) (k := j) d hx (by omega)
  rw [hb] at h1
  rw [round_v]; simp only [loopAt, nthC, bodyC, loops, List.nil_append, List.cons_append, List.append_nil, Try.f105, trS]
  simp (disch := omega) [go_sem, tab105, h1]
theorem tr_x (d : Nat) (hx : (D x).length < 1000000) (h0 : x ≠ 0) : vCode Try.prog kn (vrun Try.prog kn (d + 1)) 105 (loopAt Try.f105 0) (trS x (tz x)).1 (trS x (tz x)).2 = some (.ret, [(2, some (.int .i64 (tz x)))], []) := by
  have hlt := tz_lt h0
  have hb := tz_bit h0
  have h1 := l2bit_v (x := x) (k := tz x) d hx (by omega)
  rw [hb] at h1
  rw [round_v]; simp only [loopAt, nthC, bodyC, loops, List.nil_append, List.cons_append, List.append_nil, Try.f105, trS]
  simp (disch := omega) [go_sem, tab105, h1]
theorem l2trail_v (d : Nat) (hx : (D x).length < 1000000) : vrun Try.prog kn (d + 2) 105 [.agg [.ints .i64 (D x)]] [] = some (.int .i64 (tz x), []) := by
  by_cases h0 : x = 0
  · subst h0
    have hv : vCode Try.prog kn (vrun Try.prog kn (d + 1)) 105 (loopAt Try.f105 0) (trS 0 0).1 (trS 0 0).2 = some (.exit 0, (trS 0 0).1 ++ [(9, some (.bool false))], (trS 0 0).2) := by
      rw [round_v]; simp only [loopAt, nthC, bodyC, loops, List.nil_append, List.cons_append, List.append_nil, Try.f105, trS, D_zero]
      simp (disch := omega) [go_sem, tab105]
    have hl0 := fun ks => loop_v (P := Try.prog) (K := kn) (ks := ks) (vi_for (fun _ => trS 0 0) 0 (n := kn.cf.rounds) (by rw [k_cf, c_rounds]; omega) (fun j hj => absurd hj (by omega)) fun m => vi_exit hv)
    simp only [loopAt, nthC, bodyC, loops, List.nil_append, List.cons_append, List.append_nil, Try.f105, trS, D_zero, Int.natCast_zero, List.cons_append, List.nil_append] at hl0
    have : tz 0 = 0 := by simp [tz]
    rw [D_zero, this]
    rw [vrun_v Try.func105 rfl rfl rfl]; simp only [Try.f105]
    simp (disch := omega) [go_sem, tab105, hl0]
  · have hlt := tz_lt h0
    have hl0 := fun ks => loop_v (P := Try.prog) (K := kn) (ks := ks) (vi_for (trS x) (tz x) (n := kn.cf.rounds) (by rw [k_cf, c_rounds]; omega) (fun j hj => tr_r d hx hj) fun m => vi_ret (tr_x _ hx h0))
    simp only [loopAt, nthC, bodyC, loops, List.nil_append, List.cons_append, List.append_nil, Try.f105, trS, Int.natCast_zero, List.cons_append, List.nil_append] at hl0
    rw [vrun_v Try.func105 rfl rfl rfl]; simp only [Try.f105]
    simp (disch := omega) [go_sem, tab105, hl0]
end
end
/- The reference's one form of a dyadic number. No conditions. -/
section
open Num
section
variable {a : Nat} {n : Bool} {e : Int}
/-- The one form. -/
def mkD (n : Bool) (a : Nat) (e : Int) : DyT := if a = 0 then ⟨false, [], 0⟩ else ⟨n, D (a / 2 ^ tz a), e + tz a⟩
theorem l4make_v (d : Nat) (ha : (D a).length < 60000) (he : -1000000000 ≤ e) (he' : e ≤ 1000000000) : vrun Try.prog kn (d + 4) 77 [.agg [.bool n, .ints .i64 (D a)], .int .i64 e] [] = some (.agg (mkD n a e).v, []) := by
  unfold mkD
  by_cases h0 : a = 0
  · subst h0
    rw [if_pos rfl, D_zero]
    unfold DyT.v
    rw [vrun_v Try.func77 rfl rfl rfl]; simp only [Try.f77]
    simp (disch := omega) [go_sem, tab77]
  · rw [if_neg h0]
    have hlt := tz_lt h0
    have hn : ¬ D a = [] := fun h => h0 (D_nil_iff.1 h)
    have hp : 0 < (D a).length := List.length_pos_iff.2 hn
    have hle : (D (a / 2 ^ tz a)).length ≤ (D a).length := len_D_mono (Nat.div_le_self _ _)
    have hb := tz_bit h0
    have hX : a / 2 ^ tz a ≠ 0 := fun h => by rw [h] at hb; simp at hb
    have h1 := fun d => l2trail_v (x := a) d (by omega)
    have h2 := fun d => l2shr_v (x := a) (k := tz a) d (by omega) (by omega)
    have h3 := fun d => l3make_v (n := n) (a := a / 2 ^ tz a) d (by omega)
    simp only [ne_eq, hX, not_false_eq_true, decide_true, Bool.and_true] at h3
    unfold DyT.v
    generalize a / 2 ^ tz a = X at *
    generalize tz a = t at *
    rw [vrun_v Try.func77 rfl rfl rfl]; simp only [Try.f77]
    simp (disch := omega) [go_sem, tab77, h1, h2, h3, hn]
end
end
/- How many bits a limb has, as the library counts them; division by a small number. No conditions. -/
section
open Num
theorem nb_shift : ∀ (k : Nat) {x : Nat}, x / 2 ^ k ≠ 0 → nb x = k + nb (x / 2 ^ k)
  | 0, x, _ => by simp
  | k + 1, x, h => by
    rw [Nat.pow_succ, ← Nat.div_div_eq_div_mul] at h
    have h1 : x / 2 ^ k ≠ 0 := fun e => h (by rw [e])
    rw [nb_shift k h1, nb_half h1, Nat.pow_succ, ← Nat.div_div_eq_div_mul]; omega
theorem nb_16 {x : Nat} (h : x < 65536) : nb x ≤ 16 := by
  by_cases h0 : x = 0
  · subst h0; simp [nb, nbG]
  · have h1 := (nb_le h0).1
    have : nb x - 1 < 16 := (Nat.pow_lt_pow_iff_right (a := 2) (by omega)).1 (Nat.lt_of_le_of_lt h1 (by omega : x < 2 ^ 16))
    omega
def len8 : ByteArray := { data := #[0, 1, 2, 2, 3, 3, 3, 3, 4, 4, 4, 4, 4, 4, 4, 4, 5, 5, 5, 5, 5, 5, 5, 5, 5, 5, 5, 5, 5, 5, 5, 5, 6, 6, 6, 6, 6, 6, 6, 6, 6, 6, 6, 6, 6, 6, 6, 6, 6, 6, 6, 6, 6, 6, 6, 6, 6, 6, 6, 6, 6, 6, 6, 6, 7, 7, 7, 7, 7, 7, 7, 7, 7, 7, 7, 7, 7, 7, 7, 7, 7, 7, 7, 7, 7, 7, 7, 7, 7, 7, 7, 7, 7, 7, 7, 7, 7, 7, 7, 7, 7, 7, 7, 7, 7, 7, 7, 7, 7, 7, 7, 7, 7, 7, 7, 7, 7, 7, 7, 7, 7, 7, 7, 7, 7, 7, 7, 7, 8, 8, 8, 8, 8, 8, 8, 8, 8, 8, 8, 8, 8, 8, 8, 8, 8, 8, 8, 8, 8, 8, 8, 8, 8, 8, 8, 8, 8, 8, 8, 8, 8, 8, 8, 8, 8, 8, 8, 8, 8, 8, 8, 8, 8, 8, 8, 8, 8, 8, 8, 8, 8, 8, 8, 8, 8, 8, 8, 8, 8, 8, 8, 8, 8, 8, 8, 8, 8, 8, 8, 8, 8, 8, 8, 8, 8, 8, 8, 8, 8, 8, 8, 8, 8, 8, 8, 8, 8, 8, 8, 8, 8, 8, 8, 8, 8, 8, 8, 8, 8, 8, 8, 8, 8, 8, 8, 8, 8, 8, 8, 8, 8, 8, 8, 8, 8, 8, 8, 8, 8, 8, 8, 8, 8, 8, 8, 8] }
theorem len8_all : ((List.range 256).all fun n => (len8.data.getD n 0).toNat == nb n) = true := by decide +kernel
theorem len8_at {n : Nat} (h : n < 256) : (len8.data.getD n 0).toNat = nb n := eq_of_beq (List.all_eq_true.1 len8_all n (List.mem_range.2 h))
theorem len8_idx (P : Program) {t : TypeId} (ht : P.underlying t = some .string) {n : Nat} (h : n < 256) : vindex P t (some (.str { data := #[0, 1, 2, 2, 3, 3, 3, 3, 4, 4, 4, 4, 4, 4, 4, 4, 5, 5, 5, 5, 5, 5, 5, 5, 5, 5, 5, 5, 5, 5, 5, 5, 6, 6, 6, 6, 6, 6, 6, 6, 6, 6, 6, 6, 6, 6, 6, 6, 6, 6, 6, 6, 6, 6, 6, 6, 6, 6, 6, 6, 6, 6, 6, 6, 7, 7, 7, 7, 7, 7, 7, 7, 7, 7, 7, 7, 7, 7, 7, 7, 7, 7, 7, 7, 7, 7, 7, 7, 7, 7, 7, 7, 7, 7, 7, 7, 7, 7, 7, 7, 7, 7, 7, 7, 7, 7, 7, 7, 7, 7, 7, 7, 7, 7, 7, 7, 7, 7, 7, 7, 7, 7, 7, 7, 7, 7, 7, 7, 8, 8, 8, 8, 8, 8, 8, 8, 8, 8, 8, 8, 8, 8, 8, 8, 8, 8, 8, 8, 8, 8, 8, 8, 8, 8, 8, 8, 8, 8, 8, 8, 8, 8, 8, 8, 8, 8, 8, 8, 8, 8, 8, 8, 8, 8, 8, 8, 8, 8, 8, 8, 8, 8, 8, 8, 8, 8, 8, 8, 8, 8, 8, 8, 8, 8, 8, 8, 8, 8, 8, 8, 8, 8, 8, 8, 8, 8, 8, 8, 8, 8, 8, 8, 8, 8, 8, 8, 8, 8, 8, 8, 8, 8, 8, 8, 8, 8, 8, 8, 8, 8, 8, 8, 8, 8, 8, 8, 8, 8, 8, 8, 8, 8, 8, 8, 8, 8, 8, 8, 8, 8, 8, 8, 8, 8, 8, 8] })) (some (.int .u8 (n : Int))) = some (.int .u8 (nb n : Nat)) := by
  show toV1 (indexA P t (.str len8) (.int .u8 (n : Int))) = _
  have h1 := len8_at h
  have h2 : len8.size = 256 := rfl
  unfold indexA
  have h3 : (0 : Int) ≤ n ∧ (n : Int) < ((256 : Nat) : Int) := ⟨by omega, by omega⟩
  simp only [ht, h2, if_true, if_pos h3, Int.toNat_natCast, h1]; rfl
theorem conv_u8 {n : Nat} (h : n < 256) : IntKind.wrap .u8 (n : Int) = n := by
  simp [IntKind.wrap, IntKind.bits, IntKind.signed]; omega
theorem Len64_v (d : Nat) {x : Nat} (hx : x < 65536) : vrun Try.prog kn (d + 1) 130 [.int .u64 (x : Int)] [] = some (.int .i64 (nb x), []) := by
  have hs := nb_16 hx
  by_cases h : 256 ≤ x
  · have e : nb x = 8 + nb (x / 2 ^ 8) := nb_shift 8 (by omega)
    have hq : x / 2 ^ 8 < 256 := by omega
    have h1 := len8_idx Try.prog Try.underlying9 hq
    have h2 := conv_u8 hq
    have h4 : ((x : Int)).fdiv 256 = ((x / 2 ^ 8 : Nat) : Int) := by rw [Int.fdiv_eq_ediv_of_nonneg _ (by omega)]; rfl
    have h5 : min (Int.toNat 8) (IntKind.bits .u64) = 8 := rfl
    have h6 : (8 : Int) + (nb (x / 2 ^ 8) : Nat) = (nb x : Nat) := by omega
    generalize x / 2 ^ 8 = q at *
    generalize nb q = a at *
    generalize nb x = b at *
    rw [vrun_v Try.func130 rfl rfl rfl]; simp only [Try.f130]
    simp (implicitDefEqProofs := false) (disch := omega) [go_sem, tab130, h1, h2, h4, h5, h6]
  · have h1 := len8_idx Try.prog Try.underlying9 (n := x) (by omega)
    have h2 := conv_u8 (n := x) (by omega)
    generalize nb x = b at *
    rw [vrun_v Try.func130 rfl rfl rfl]; simp only [Try.f130]
    simp (implicitDefEqProofs := false) (disch := omega) [go_sem, tab130, h1, h2]
theorem Len_v (d : Nat) {x : Nat} (hx : x < 65536) : vrun Try.prog kn (d + 2) 125 [.int .u64 (x : Int)] [] = some (.int .i64 (nb x), []) := by
  have h1 := fun d => Len64_v d hx
  rw [vrun_v Try.func125 rfl rfl rfl]; simp only [Try.f125]
  simp (disch := omega) [go_sem, tab125, h1]
section
variable {z m : Nat}
def dsS (z m : Nat) (i : Nat) : VE × VH := ([(0, some (.ints .i64 (D z))), (1, some (.int .i64 m)), (6, some (.sl 0 0 (D z).length 1)), (7, some (.int .i64 ((z / 65536 ^ i % m : Nat) : Int))), (8, some (.int .i64 ((i : Int) - 1)))], [.ints true .i64 (hi (z / m) (D z).length i)])
theorem ds_r (call : CallV) (hm : 0 < m) (hm2 : m ≤ 65536) (hx : (D z).length < 1000000) (i : Nat) (hi' : i < (D z).length) :
    vCode Try.prog kn call 85 (loopAt Try.f85 0) (dsS z m (i + 1)).1 (dsS z m (i + 1)).2 = some (.norm, dsS z m i) := by
  have b1 := dg_bd z i
  obtain ⟨e1, e2⟩ := divs_nat (x := z) (j := i) (d := m) hm
  have b3 := Nat.mod_lt (z / 65536 ^ (i + 1)) hm
  have b4 := divs_lt (d := m) b3 (Nat.mod_lt (z / 65536 ^ i) (by omega : 0 < 65536))
  have hd : dg (z / m) i = (((z / 65536 ^ (i + 1) % m * 65536 + z / 65536 ^ i % 65536) / m : Nat) : Int) := by
    unfold dg
    rw [Nat.div_div_eq_div_mul, Nat.mul_comm, ← Nat.div_div_eq_div_mul, e1, Nat.mul_add_mod, Nat.mod_eq_of_lt b4]
  have hq : (((z / 65536 ^ (i + 1) % m : Nat) : Int) * 65536 + dg z i) / (m : Int) = dg (z / m) i := by
    rw [hd, Int.natCast_ediv, Int.natCast_add, Int.natCast_mul]; rfl
  have hr : (((z / 65536 ^ (i + 1) % m : Nat) : Int) * 65536 + dg z i) % (m : Int) = ((z / 65536 ^ i % m : Nat) : Int) := by
    rw [e2]
    refine Eq.trans ?_ (Int.natCast_emod _ _).symm
    congr 1
  rw [round_v]; simp only [loopAt, nthC, bodyC, loops, List.nil_append, List.cons_append, List.append_nil, Try.f85, dsS, ← hi_set hi']
  have e0 : (((i + 1 : Nat) : Int) - 1) = i := by omega
  have hl := hi_len (q := z / m) (n := (D z).length) (i := i + 1) (by omega)
  have b5 := dg_bd (z / m) i
  generalize hr0 : ((z / 65536 ^ (i + 1) % m : Nat) : Int) = r at *
  have b6 : 0 ≤ r := by rw [← hr0]; exact Int.natCast_nonneg _
  have b7 : r < m := by rw [← hr0]; exact Int.ofNat_lt.2 b3
  rw [e0]
  generalize hi (z / m) (D z).length (i + 1) = H at *
  generalize dg (z / m) i = q at *
  simp (disch := omega) [go_sem, tab85, nil85, gt_D, hl, hq, hr]
theorem ds_x (call : CallV) :
    vCode Try.prog kn call 85 (loopAt Try.f85 0) (dsS z m 0).1 (dsS z m 0).2 = some (.exit 0, (dsS z m 0).1 ++ [(16, some (.bool false))], (dsS z m 0).2) := by
  rw [round_v]; simp only [loopAt, nthC, bodyC, loops, List.nil_append, List.cons_append, List.append_nil, Try.f85, dsS]
  simp (disch := omega) [go_sem, tab85, nil85]
theorem divideSmall_v (d : Nat) (hm : 0 < m) (hm2 : m ≤ 65536) (hx : (D z).length < 1000000) :
    vrun Try.prog kn (d + 2) 85 [.ints .i64 (D z), .int .i64 (m : Int)] [] = some (.tup [.sl 0 0 (D (z / m)).length 1, .int .i64 ((z % m : Nat) : Int)], [.ints true .i64 (D (z / m))]) := by
  have key : ∀ i n, i ≤ (D z).length → i < n → viter (vCode Try.prog kn (vrun Try.prog kn (d + 1)) 85 (loopAt Try.f85 0)) n (dsS z m i).1 (dsS z m i).2 = some (.exit 0, (dsS z m 0).1 ++ [(16, some (.bool false))], (dsS z m 0).2) := by
    intro i
    induction i with
    | zero => intro n _ hn; obtain ⟨n, rfl⟩ : ∃ q, n = q + 1 := ⟨n - 1, by omega⟩; exact vi_exit (ds_x _)
    | succ i ih => intro n h1 hn; obtain ⟨n, rfl⟩ : ∃ q, n = q + 1 := ⟨n - 1, by omega⟩; rw [vi_norm (ds_r _ hm hm2 hx i (by omega))]; exact ih n (by omega) (by omega)
  have hl0 := fun ks => loop_v (P := Try.prog) (K := kn) (ks := ks) (key (D z).length kn.cf.rounds (Nat.le_refl _) (by rw [k_cf, c_rounds]; omega))
  have h0 : hi (z / m) (D z).length (D z).length = List.replicate (D z).length 0 := by unfold hi; rw [List.drop_eq_nil_of_le (by rw [dgs_len]; omega), List.append_nil]
  have h1 : hi (z / m) (D z).length 0 = dgs (z / m) (D z).length := by unfold hi; rw [List.replicate_zero, List.nil_append, List.drop_zero]
  simp only [loopAt, nthC, bodyC, loops, List.nil_append, List.cons_append, List.append_nil, Try.f85, dsS, h0, h1, quo_end, Nat.zero_mod, Nat.pow_zero, Nat.div_one, Int.natCast_zero, List.cons_append, List.nil_append] at hl0
  have c2 : z / m < 65536 ^ (D z).length := Nat.lt_of_le_of_lt (Nat.div_le_self _ _) (lt_len_D z)
  have ht := trim0_v d (l := dgs (z / m) (D z).length) (n := (D z).length) (v := z / m) (by rw [dgs_len]; omega) (by rw [dgs_len]) (dgs_good _ _) (by rw [dgs_val, lo_len (lt_pow_len c2)])
  have ht2 := (dgs_tl c2).2
  rw [vrun_v Try.func85 rfl rfl rfl]; simp only [Try.f85]
  simp (disch := omega) [go_sem, tab85, nil85, hl0, dgs_len, ht, ht2]
end
end
/- Division, digit by digit: the guess of a digit; taking a multiple away; adding once. No conditions. -/
section
open Num
section
variable {u v : List Int} {j n : Nat} {P vr ur : Int}
def doS (u v : List Int) (j n : Nat) (q r : Int) (x : VE) : VE × VH := ((0, some (.ints .i64 u)) :: (1, some (.ints .i64 v)) :: (2, some (.int .i64 j)) :: (7, some (.int .i64 n)) :: (9, some (.int .i64 q)) :: (10, some (.int .i64 r)) :: x, [])
theorem mul_q {q b : Int} (q0 : 0 ≤ q) (q1 : q ≤ 65537) (b0 : 0 ≤ b) (b1 : b < 65536) : 0 ≤ q * b ∧ q * b ≤ 4295032832 := by
  refine ⟨Int.mul_nonneg q0 b0, ?_⟩
  have : q * b ≤ 65537 * 65536 := Int.mul_le_mul q1 (by omega) b0 (by omega)
  omega
theorem do_x (call : CallV) {x : VE} (hn : 2 ≤ n) (hv : v.length = n) (hu : j + n < u.length) (hul : u.length < 1000000) (hgu : GoodL u) (hgv : GoodL v) {q r : Int} (q0 : 0 ≤ q) (q1 : q < 65536) (r0 : 0 ≤ r) (r1 : r < 65536) (c : q * gt v (n - 2) ≤ r * 65536 + gt u (j + n - 2)) :
    vCode Try.prog kn call 126 (loopAt Try.f126 0) (doS u v j n q r x).1 (doS u v j n q r x).2 = some (.exit 0, (doS u v j n q r []).1 ++ [(63, some (.bool false))], []) := by
  have g1 := hgv.gtB (n - 2)
  have g2 := hgu.gtB (j + n - 2)
  have m := mul_q q0 (by omega) g1.1 g1.2
  have e1 : ((n : Int) - 2).toNat = n - 2 := by omega
  have e2 : ((j : Int) + n - 2).toNat = j + n - 2 := by omega
  rw [round_v]; simp only [loopAt, nthC, bodyC, loops, List.nil_append, List.cons_append, List.append_nil, Try.f126, doS]
  generalize k2 : gt v (n - 2) = v2 at *
  generalize k3 : gt u (j + n - 2) = u2 at *
  simp (implicitDefEqProofs := false) (disch := omega) [go_sem, tab126, e1, e2, k2, k3]
theorem do_b (call : CallV) {x : VE} (hn : 2 ≤ n) (hv : v.length = n) (hu : j + n < u.length) (hul : u.length < 1000000) (hgu : GoodL u) (hgv : GoodL v) {q r : Int} (q0 : 0 ≤ q) (q1 : q ≤ 65537) (r0 : 0 ≤ r) (r1 : r < 65536) (c : 65536 ≤ q ∨ r * 65536 + gt u (j + n - 2) < q * gt v (n - 2)) (b : 65536 ≤ r + gt v (n - 1)) :
    vCode Try.prog kn call 126 (loopAt Try.f126 0) (doS u v j n q r x).1 (doS u v j n q r x).2 = some (.exit 0, (doS u v j n (q - 1) (r + gt v (n - 1)) []).1 ++ [(74, some (.bool true))], []) := by
  have g1 := hgv.gtB (n - 2)
  have g2 := hgu.gtB (j + n - 2)
  have g3 := hgv.gtB (n - 1)
  have m := mul_q q0 q1 g1.1 g1.2
  have e1 : ((n : Int) - 2).toNat = n - 2 := by omega
  have e2 : ((j : Int) + n - 2).toNat = j + n - 2 := by omega
  have e3 : ((n : Int) - 1).toNat = n - 1 := by omega
  rw [round_v]; simp only [loopAt, nthC, bodyC, loops, List.nil_append, List.cons_append, List.append_nil, Try.f126, doS]
  generalize k2 : gt v (n - 2) = v2 at *
  generalize k1 : gt v (n - 1) = v1 at *
  generalize k3 : gt u (j + n - 2) = u2 at *
  by_cases h : 65536 ≤ q
  · simp (implicitDefEqProofs := false) (disch := omega) [go_sem, tab126, e1, e2, e3, k1, k2, k3]
  · have c2 : r * 65536 + u2 < q * v2 := c.resolve_left h
    generalize k6 : q * v2 = p at *
    simp (implicitDefEqProofs := false) (disch := omega) [go_sem, tab126, e1, e2, e3, k1, k2, k3, k6]
theorem do_n (call : CallV) {x : VE} (hn : 2 ≤ n) (hv : v.length = n) (hu : j + n < u.length) (hul : u.length < 1000000) (hgu : GoodL u) (hgv : GoodL v) {q r : Int} (q0 : 0 ≤ q) (q1 : q ≤ 65537) (r0 : 0 ≤ r) (r1 : r < 65536) (c : 65536 ≤ q ∨ r * 65536 + gt u (j + n - 2) < q * gt v (n - 2)) (b : r + gt v (n - 1) < 65536) :
    vCode Try.prog kn call 126 (loopAt Try.f126 0) (doS u v j n q r x).1 (doS u v j n q r x).2 = some (.norm, doS u v j n (q - 1) (r + gt v (n - 1)) [(74, some (.bool false))]) := by
  have g1 := hgv.gtB (n - 2)
  have g2 := hgu.gtB (j + n - 2)
  have g3 := hgv.gtB (n - 1)
  have m := mul_q q0 q1 g1.1 g1.2
  have e1 : ((n : Int) - 2).toNat = n - 2 := by omega
  have e2 : ((j : Int) + n - 2).toNat = j + n - 2 := by omega
  have e3 : ((n : Int) - 1).toNat = n - 1 := by omega
  rw [round_v]; simp only [loopAt, nthC, bodyC, loops, List.nil_append, List.cons_append, List.append_nil, Try.f126, doS]
  generalize k2 : gt v (n - 2) = v2 at *
  generalize k1 : gt v (n - 1) = v1 at *
  generalize k3 : gt u (j + n - 2) = u2 at *
  by_cases h : 65536 ≤ q
  · simp (implicitDefEqProofs := false) (disch := omega) [go_sem, tab126, e1, e2, e3, k1, k2, k3]
  · have c2 : r * 65536 + u2 < q * v2 := c.resolve_left h
    generalize k6 : q * v2 = p at *
    simp (implicitDefEqProofs := false) (disch := omega) [go_sem, tab126, e1, e2, e3, k1, k2, k3, k6]
theorem do_l (call : CallV) (hn : 2 ≤ n) (hv : v.length = n) (hu : j + n < u.length) (hul : u.length < 1000000) (hgu : GoodL u) (hgv : GoodL v)
    (K : Kt P (gt v (n - 1)) (gt v (n - 2)) vr (gt u (j + n) * 65536 + gt u (j + n - 1)) (gt u (j + n - 2)) ur) :
    ∀ (m N : Nat) (q r : Int) (x : VE), q * gt v (n - 1) + r = gt u (j + n) * 65536 + gt u (j + n - 1) → 0 ≤ q → 0 ≤ r → r < 65536 → ((gt u (j + n) * 65536 + gt u (j + n - 1)) * 65536 + gt u (j + n - 2)) * P + ur < (q + 1) * ((gt v (n - 1) * 65536 + gt v (n - 2)) * P + vr) → 65536 ≤ r + m * 32768 → m < N →
      ∃ q' r' k b, viter (vCode Try.prog kn call 126 (loopAt Try.f126 0)) N (doS u v j n q r x).1 (doS u v j n q r x).2 = some (.exit 0, (doS u v j n q' r' []).1 ++ [(k, some (.bool b))], []) ∧ 0 ≤ q' ∧ q' < 65536 ∧
        ((gt u (j + n) * 65536 + gt u (j + n - 1)) * 65536 + gt u (j + n - 2)) * P + ur < (q' + 1) * ((gt v (n - 1) * 65536 + gt v (n - 2)) * P + vr) ∧ (q' - 1) * ((gt v (n - 1) * 65536 + gt v (n - 2)) * P + vr) ≤ ((gt u (j + n) * 65536 + gt u (j + n - 1)) * 65536 + gt u (j + n - 2)) * P + ur := by
  intro m
  induction m with
  | zero => intro N q r x _ _ _ h1 _ h2 _; omega
  | succ m ih =>
    intro N q r x e q0 r0 r1 hU hm hN
    obtain ⟨N, rfl⟩ : ∃ z, N = z + 1 := ⟨N - 1, by omega⟩
    have q1 := K.q_le e r0
    by_cases c : 65536 ≤ q ∨ r * 65536 + gt u (j + n - 2) < q * gt v (n - 2)
    · have hd := K.dec e q0 c
      have qp : 1 ≤ q := by
        rcases c with c | c
        · omega
        · rcases Int.lt_or_le 0 q with h | h
          · omega
          · obtain rfl : q = 0 := by omega
            have := K.u20
            rw [Int.zero_mul] at c; omega
      have e' : (q - 1) * gt v (n - 1) + (r + gt v (n - 1)) = gt u (j + n) * 65536 + gt u (j + n - 1) := by rw [← e]; grind
      have hU' : ((gt u (j + n) * 65536 + gt u (j + n - 1)) * 65536 + gt u (j + n - 2)) * P + ur < (q - 1 + 1) * ((gt v (n - 1) * 65536 + gt v (n - 2)) * P + vr) := by rw [show q - 1 + 1 = q by omega]; exact hd
      have hvl := K.v1l
      by_cases b : 65536 ≤ r + gt v (n - 1)
      · have hb := K.brk e r0 b
        exact ⟨q - 1, r + gt v (n - 1), 74, true, vi_exit (do_b call hn hv hu hul hgu hgv q0 q1 r0 r1 c b), by omega, by omega, hU', K.fin e' (by omega) (by omega) (K.brk2 (by omega) (by omega) b)⟩
      · rw [vi_norm (do_n call hn hv hu hul hgu hgv q0 q1 r0 r1 c (by omega))]
        exact ih N (q - 1) (r + gt v (n - 1)) _ e' (by omega) (by omega) (by omega) hU' (by omega) (by omega)
    · have c1 : q < 65536 := by omega
      have c2 : q * gt v (n - 2) ≤ r * 65536 + gt u (j + n - 2) := by omega
      exact ⟨q, r, 63, false, vi_exit (do_x call hn hv hu hul hgu hgv q0 c1 r0 r1 c2), q0, c1, hU, K.fin e q0 c1 c2⟩
theorem digitOf_v (d : Nat) (hn : 2 ≤ n) (hv : v.length = n) (hu : j + n < u.length) (hul : u.length < 1000000) (hgu : GoodL u) (hgv : GoodL v)
    (K : Kt P (gt v (n - 1)) (gt v (n - 2)) vr (gt u (j + n) * 65536 + gt u (j + n - 1)) (gt u (j + n - 2)) ur) :
    ∃ q, vrun Try.prog kn (d + 1) 126 [.ints .i64 u, .ints .i64 v, .int .i64 j] [] = some (.int .i64 q, []) ∧ 0 ≤ q ∧ q < 65536 ∧
        ((gt u (j + n) * 65536 + gt u (j + n - 1)) * 65536 + gt u (j + n - 2)) * P + ur < (q + 1) * ((gt v (n - 1) * 65536 + gt v (n - 2)) * P + vr) ∧ (q - 1) * ((gt v (n - 1) * 65536 + gt v (n - 2)) * P + vr) ≤ ((gt u (j + n) * 65536 + gt u (j + n - 1)) * 65536 + gt u (j + n - 2)) * P + ur := by
  have hvl := K.v1l
  have hvu := K.v1u
  have ht0 := K.t0
  have htop : gt u (j + n) * 65536 + gt u (j + n - 1) < 4294967296 := by have := hgu.gtB (j + n); have := hgu.gtB (j + n - 1); omega
  have hq0 : 0 ≤ (gt u (j + n) * 65536 + gt u (j + n - 1)) / gt v (n - 1) := Int.ediv_nonneg ht0 (by omega)
  have hr0 := Int.emod_nonneg (gt u (j + n) * 65536 + gt u (j + n - 1)) (b := gt v (n - 1)) (by omega)
  have hr1 := Int.emod_lt_of_pos (gt u (j + n) * 65536 + gt u (j + n - 1)) (b := gt v (n - 1)) (by omega)
  have he := Int.mul_ediv_add_emod (gt u (j + n) * 65536 + gt u (j + n - 1)) (gt v (n - 1))
  rw [Int.mul_comm] at he
  have hU : ((gt u (j + n) * 65536 + gt u (j + n - 1)) * 65536 + gt u (j + n - 2)) * P + ur < ((gt u (j + n) * 65536 + gt u (j + n - 1)) / gt v (n - 1) + 1) * ((gt v (n - 1) * 65536 + gt v (n - 2)) * P + vr) := by
    have h1 : ((gt u (j + n) * 65536 + gt u (j + n - 1)) * 65536 + gt u (j + n - 2) + 1) * P ≤ (((gt u (j + n) * 65536 + gt u (j + n - 1)) / gt v (n - 1) + 1) * (gt v (n - 1) * 65536 + gt v (n - 2))) * P := by
      refine K.mulP ?_
      have h2 : ((gt u (j + n) * 65536 + gt u (j + n - 1)) / gt v (n - 1) + 1) * (gt v (n - 1) * 65536 + gt v (n - 2)) = ((gt u (j + n) * 65536 + gt u (j + n - 1)) / gt v (n - 1) * gt v (n - 1) + gt v (n - 1)) * 65536 + ((gt u (j + n) * 65536 + gt u (j + n - 1)) / gt v (n - 1) + 1) * gt v (n - 2) := by grind
      have h3 : 0 ≤ ((gt u (j + n) * 65536 + gt u (j + n - 1)) / gt v (n - 1) + 1) * gt v (n - 2) := Int.mul_nonneg (by omega) K.v20
      have := K.u2u
      rw [h2]; omega
    have h4 : 0 ≤ ((gt u (j + n) * 65536 + gt u (j + n - 1)) / gt v (n - 1) + 1) * vr := Int.mul_nonneg (by omega) K.vr0
    have := K.uru
    grind
  obtain ⟨q, r, k, b, hl, a1, a2, a3, a4⟩ := do_l (vrun Try.prog kn d) hn hv hu hul hgu hgv K 2 kn.cf.rounds _ _ [] he hq0 hr0 (by omega) hU (by omega) (by rw [k_cf, c_rounds]; omega)
  refine ⟨q, ?_, a1, a2, a3, a4⟩
  have hl0 := fun ks => loop_v (P := Try.prog) (K := kn) (ks := ks) hl
  have g1 := hgu.gtB (j + n)
  have g2 := hgu.gtB (j + n - 1)
  have e1 : ((j : Int) + n).toNat = j + n := by omega
  have e2 : ((j : Int) + n - 1).toNat = j + n - 1 := by omega
  have e3 : ((n : Int) - 1).toNat = n - 1 := by omega
  have hqle : (gt u (j + n) * 65536 + gt u (j + n - 1)) / gt v (n - 1) ≤ 65537 := K.q_le he hr0
  simp only [loopAt, nthC, bodyC, loops, List.nil_append, List.cons_append, List.append_nil, Try.f126, doS, List.cons_append, List.nil_append] at hl0
  clear a3 a4 hU K he
  rw [vrun_v Try.func126 rfl rfl rfl]; simp only [Try.f126]
  generalize k1 : gt v (n - 1) = v1 at *
  generalize k4 : gt u (j + n) = w1 at *
  generalize k5 : gt u (j + n - 1) = w2 at *
  simp (implicitDefEqProofs := false) (disch := omega) [go_sem, tab126, e1, e2, e3, hv, hl0, k1, k4, k5]
end
end
/- Division, digit by digit: taking a multiple away; adding once. No conditions. -/
section
open Num
/-- What a multiple's taking away leaves: the list, the borrow. -/
def tkS (u v : List Int) (j : Nat) (q : Int) : Nat → List Int × Int
  | 0 => (u, 0)
  | i + 1 => ((tkS u v j q i).1.set (j + i) ((gt (tkS u v j q i).1 (j + i) - q * gt v i - (tkS u v j q i).2) % 65536), -((gt (tkS u v j q i).1 (j + i) - q * gt v i - (tkS u v j q i).2) / 65536))
def adS (u v : List Int) (j : Nat) : Nat → List Int × Int
  | 0 => (u, 0)
  | i + 1 => ((adS u v j i).1.set (j + i) (((adS u v j i).2 + (gt (adS u v j i).1 (j + i) + gt v i)) % 65536), ((adS u v j i).2 + (gt (adS u v j i).1 (j + i) + gt v i)) / 65536)
theorem take_succ' {l : List Int} {i : Nat} (h : i < l.length) : l.take (i + 1) = l.take i ++ [gt l i] := by
  rw [List.take_add_one, gt_some h]; rfl
theorem val_take_succ {l : List Int} {i : Nat} (h : i < l.length) : val (l.take (i + 1)) = val (l.take i) + 65536 ^ i * gt l i := by
  rw [take_succ' h, val_snoc, List.length_take, Nat.min_eq_left (by omega)]
section
variable {u v : List Int} {j n : Nat} {q : Int}
theorem tk_len : ∀ i, (tkS u v j q i).1.length = u.length
  | 0 => rfl
  | i + 1 => by rw [tkS, List.length_set]; exact tk_len i
theorem tk_hi : ∀ i k, j + i ≤ k → gt (tkS u v j q i).1 k = gt u k
  | 0, _, _ => rfl
  | i + 1, k, h => by rw [tkS, gt_set_ne (by omega)]; exact tk_hi i k (by omega)
theorem tk_good (hu : GoodL u) : ∀ i, GoodL (tkS u v j q i).1
  | 0 => hu
  | i + 1 => by rw [tkS]; exact (tk_good hu i).set _ (by omega) (by omega)
theorem tk_bd (hu : GoodL u) (hv : GoodL v) (q0 : 0 ≤ q) (q1 : q < 65536) : ∀ i, 0 ≤ (tkS u v j q i).2 ∧ (tkS u v j q i).2 < 65536
  | 0 => by simp [tkS]
  | i + 1 => by
    have h1 := tk_bd hu hv q0 q1 i
    have h2 := (tk_good hu i (v := v) (j := j) (q := q)).gtB (j + i)
    have h3 := hv.gtB i
    have h4 : 0 ≤ q * gt v i ∧ q * gt v i ≤ 4294836225 := mul_bd ⟨q0, q1⟩ h3
    simp only [tkS]
    omega
theorem tk_val (hj : j + n ≤ u.length) (hn : n ≤ v.length) : ∀ i, i ≤ n → val (tkS u v j q i).1 - 65536 ^ j * 65536 ^ i * (tkS u v j q i).2 = val u - q * 65536 ^ j * val (v.take i)
  | 0, _ => by simp [tkS, val]
  | i + 1, h => by
    have h1 := tk_val hj hn i (by omega)
    rw [val_take_succ (by omega), Int.pow_succ]
    refine take_step h1 rfl ?_
    simp only [tkS]
    rw [val_setG (by rw [tk_len]; omega), Int.pow_add, tk_hi i (j + i) (Nat.le_refl _)]
theorem ad_len : ∀ i, (adS u v j i).1.length = u.length
  | 0 => rfl
  | i + 1 => by rw [adS, List.length_set]; exact ad_len i
theorem ad_hi : ∀ i k, j + i ≤ k → gt (adS u v j i).1 k = gt u k
  | 0, _, _ => rfl
  | i + 1, k, h => by rw [adS, gt_set_ne (by omega)]; exact ad_hi i k (by omega)
theorem ad_good (hu : GoodL (u.set (j + n) 0)) : ∀ i, i ≤ n → GoodL ((adS u v j i).1.set (j + n) 0)
  | 0, _ => hu
  | i + 1, h => by
    rw [adS]
    simp only
    rw [List.set_comm _ _ (by omega)]
    exact (ad_good hu i (by omega)).set _ (by omega) (by omega)
theorem ad_at (hu : GoodL (u.set (j + n) 0)) {i k : Nat} (hi : i ≤ n) (hk : k ≠ j + n) : 0 ≤ gt (adS u v j i).1 k ∧ gt (adS u v j i).1 k < 65536 := by
  have := (ad_good (v := v) hu i hi).gtB k
  rwa [gt_set_ne (Ne.symm hk)] at this
theorem ad_bd (hu : GoodL (u.set (j + n) 0)) (hv : GoodL v) : ∀ i, i ≤ n → 0 ≤ (adS u v j i).2 ∧ (adS u v j i).2 < 65536
  | 0, _ => by simp [adS]
  | i + 1, h => by
    have h1 := ad_bd hu hv i (by omega)
    have h2 := ad_at (v := v) hu (i := i) (k := j + i) (by omega) (by omega)
    have h3 := hv.gtB i
    simp only [adS]
    omega
theorem ad_val (hj : j + n ≤ u.length) (hn : n ≤ v.length) : ∀ i, i ≤ n → val (adS u v j i).1 + 65536 ^ j * 65536 ^ i * (adS u v j i).2 = val u + 65536 ^ j * val (v.take i)
  | 0, _ => by simp [adS, val]
  | i + 1, h => by
    have h1 := ad_val hj hn i (by omega)
    rw [val_take_succ (by omega), Int.pow_succ]
    refine add_step h1 rfl ?_
    simp only [adS]
    rw [val_setG (by rw [ad_len]; omega), Int.pow_add, ad_hi i (j + i) (Nat.le_refl _)]
end
section
variable {u v : List Int} {j n : Nat} {q : Int}
def takeT (v u o : List Int) (j : Nat) (q b : Int) (i : Nat) : VE × VH := ([(0, some (.sl 1 0 u.length 1)), (1, some (.sl 0 0 v.length 1)), (2, some (.int .i64 j)), (3, some (.int .i64 q)), (9, some (.int .i64 b)), (13, some (.sl 0 0 v.length 1)), (14, some (.int .i64 v.length)), (15, some (.int .i64 i))], [.ints true .i64 v, .ints true .i64 u, .ints true .i64 o])
theorem take_r (call : CallV) {o : List Int} (hu : GoodL u) (hv : GoodL v) (q0 : 0 ≤ q) (q1 : q < 65536) (hj : j + v.length < u.length) (hul : u.length < 1000000) {i : Nat} (hi : i < v.length) :
    vCode Try.prog kn call 127 (loopAt Try.f127 0) (takeT v (tkS u v j q i).1 o j q (tkS u v j q i).2 i).1 (takeT v (tkS u v j q i).1 o j q (tkS u v j q i).2 i).2 = some (.norm, takeT v (tkS u v j q (i + 1)).1 o j q (tkS u v j q (i + 1)).2 (i + 1)) := by
  have h1 := tk_bd hu hv q0 q1 i (j := j)
  have h2 := (tk_good hu i (v := v) (j := j) (q := q)).gtB (j + i)
  have h3 := hv.gtB i
  have h4 : 0 ≤ q * gt v i ∧ q * gt v i ≤ 4294836225 := mul_bd ⟨q0, q1⟩ h3
  have hl := tk_len (u := u) (v := v) (j := j) (q := q) i
  have e1 : ((j : Int) + i).toNat = j + i := by omega
  obtain ⟨t1, t2, t3⟩ := take_borrow (gt (tkS u v j q i).1 (j + i) - q * gt v i - (tkS u v j q i).2)
  rw [round_v]; simp only [loopAt, nthC, bodyC, loops, List.nil_append, List.cons_append, List.append_nil, Try.f127, tkS, takeT, List.length_set]
  generalize (tkS u v j q i).1 = U at *
  generalize (tkS u v j q i).2 = b at *
  generalize hxx : gt v i = x at *
  generalize hx : q * x = p at *
  generalize hw : gt U (j + i) = w at *
  by_cases h : w - p - b < 0
  · have t4 := t2 h
    have t5 : -(w - p - b) + 65536 - 1 = -(w - p - b) + 65535 := by omega
    generalize hd : w - p - b = d at *
    have t6 : 0 ≤ -(d / 65536) ∧ -(d / 65536) < 70000 := by omega
    have t7 : 0 ≤ d % 65536 ∧ d % 65536 < 65536 := by omega
    generalize -(d / 65536) = b' at *
    generalize d % 65536 = d' at *
    simp (implicitDefEqProofs := false) (disch := omega) [go_sem, tab127, e1, hw, hxx, hx, hd, hl, t1, t4, t5]
  · have t4 := t3 (by omega) (by omega)
    have t8 : (w - p - b) % 65536 = w - p - b := by omega
    rw [t4, t8]
    generalize hd : w - p - b = d at *
    simp (implicitDefEqProofs := false) (disch := omega) [go_sem, tab127, e1, hw, hxx, hx, hd, hl]
theorem take_x (call : CallV) {o u : List Int} {b : Int} (hul : u.length < 1000000) (hvl : v.length < 1000000) :
    vCode Try.prog kn call 127 (loopAt Try.f127 0) (takeT v u o j q b v.length).1 (takeT v u o j q b v.length).2 = some (.exit 0, (takeT v u o j q b v.length).1 ++ [(16, some (.bool false))], (takeT v u o j q b v.length).2) := by
  rw [round_v]; simp only [loopAt, nthC, bodyC, loops, List.nil_append, List.cons_append, List.append_nil, Try.f127, takeT]
  simp (implicitDefEqProofs := false) (disch := omega) [go_sem, tab127]
theorem takeAway_v (d : Nat) {o : List Int} (hu : GoodL u) (hv : GoodL v) (q0 : 0 ≤ q) (q1 : q < 65536) (hj : j + v.length < u.length) (hul : u.length < 1000000) :
    vrun Try.prog kn (d + 1) 127 [.sl 1 0 u.length 1, .sl 0 0 v.length 1, .int .i64 j, .int .i64 q] [.ints true .i64 v, .ints true .i64 u, .ints true .i64 o] = some (.bool (decide (gt u (j + v.length) - (tkS u v j q v.length).2 < 0)), [.ints true .i64 v, .ints true .i64 ((tkS u v j q v.length).1.set (j + v.length) (gt u (j + v.length) - (tkS u v j q v.length).2)), .ints true .i64 o]) := by
  have hl0 := fun ks => loop_v (P := Try.prog) (K := kn) (ks := ks) (vi_for (fun i => takeT v (tkS u v j q i).1 o j q (tkS u v j q i).2 i) v.length (n := kn.cf.rounds) (by rw [k_cf, c_rounds]; omega) (fun i hi => take_r (vrun Try.prog kn d) hu hv q0 q1 hj hul hi) fun m => vi_exit (take_x _ (by rw [tk_len]; exact hul) (by omega)))
  have h1 := tk_bd hu hv q0 q1 v.length (j := j)
  have h2 := hu.gtB (j + v.length)
  have h3 := tk_hi (u := u) (v := v) (q := q) v.length (j + v.length) (Nat.le_refl _)
  have hl := tk_len (u := u) (v := v) (j := j) (q := q) v.length
  have e1 : ((j : Int) + v.length).toNat = j + v.length := by omega
  simp only [loopAt, nthC, bodyC, loops, List.nil_append, List.cons_append, List.append_nil, Try.f127, takeT, tkS, Int.natCast_zero, List.cons_append, List.nil_append] at hl0
  generalize (tkS u v j q v.length).1 = U at *
  generalize (tkS u v j q v.length).2 = b at *
  rw [hl] at hl0
  generalize hw : gt u (j + v.length) = w at *
  generalize u.length = L at *
  have h4 : gt (U.set (j + v.length) (w - b)) (j + v.length) = w - b := gt_set_eq (by omega) _
  generalize hZ : U.set (j + v.length) (w - b) = Z at *
  have hlz : Z.length = L := by rw [← hZ, List.length_set, hl]
  rw [vrun_v Try.func127 rfl rfl rfl]; simp only [Try.f127]
  simp (implicitDefEqProofs := false) (disch := omega) [go_sem, tab127, e1, hl, hl0, h3, hZ, hlz, h4]
def addT (v u o : List Int) (j : Nat) (c : Int) (i : Nat) : VE × VH := ([(0, some (.sl 1 0 u.length 1)), (1, some (.sl 0 0 v.length 1)), (2, some (.int .i64 j)), (6, some (.int .i64 c)), (9, some (.sl 0 0 v.length 1)), (10, some (.int .i64 v.length)), (11, some (.int .i64 i))], [.ints true .i64 v, .ints true .i64 u, .ints true .i64 o])
theorem addb_r (call : CallV) {o : List Int} (hu : GoodL (u.set (j + v.length) 0)) (hv : GoodL v) (hj : j + v.length < u.length) (hul : u.length < 1000000) {i : Nat} (hi : i < v.length) :
    vCode Try.prog kn call 128 (loopAt Try.f128 0) (addT v (adS u v j i).1 o j (adS u v j i).2 i).1 (addT v (adS u v j i).1 o j (adS u v j i).2 i).2 = some (.norm, addT v (adS u v j (i + 1)).1 o j (adS u v j (i + 1)).2 (i + 1)) := by
  have h1 := ad_bd hu hv i (by omega)
  have h2 := ad_at (v := v) hu (i := i) (k := j + i) (by omega) (by omega)
  have h3 := hv.gtB i
  have hl := ad_len (u := u) (v := v) (j := j) i
  have e1 : ((j : Int) + i).toNat = j + i := by omega
  rw [round_v]; simp only [loopAt, nthC, bodyC, loops, List.nil_append, List.cons_append, List.append_nil, Try.f128, adS, addT, List.length_set]
  generalize (adS u v j i).1 = U at *
  generalize (adS u v j i).2 = c at *
  generalize hxx : gt v i = x at *
  generalize hw : gt U (j + i) = w at *
  generalize hs : c + (w + x) = s at *
  simp (implicitDefEqProofs := false) (disch := omega) [go_sem, tab128, e1, hw, hxx, hs, hl]
theorem addb_x (call : CallV) {o u : List Int} {c : Int} (hul : u.length < 1000000) (hvl : v.length < 1000000) :
    vCode Try.prog kn call 128 (loopAt Try.f128 0) (addT v u o j c v.length).1 (addT v u o j c v.length).2 = some (.exit 0, (addT v u o j c v.length).1 ++ [(12, some (.bool false))], (addT v u o j c v.length).2) := by
  rw [round_v]; simp only [loopAt, nthC, bodyC, loops, List.nil_append, List.cons_append, List.append_nil, Try.f128, addT]
  simp (implicitDefEqProofs := false) (disch := omega) [go_sem, tab128]
theorem addBack_v (d : Nat) {o : List Int} (hu : GoodL (u.set (j + v.length) 0)) (hv : GoodL v) (hj : j + v.length < u.length) (hul : u.length < 1000000) (hb : -100000 ≤ gt u (j + v.length)) (hb' : gt u (j + v.length) ≤ 100000) :
    vrun Try.prog kn (d + 1) 128 [.sl 1 0 u.length 1, .sl 0 0 v.length 1, .int .i64 j] [.ints true .i64 v, .ints true .i64 u, .ints true .i64 o] = some (.tup [], [.ints true .i64 v, .ints true .i64 ((adS u v j v.length).1.set (j + v.length) (gt u (j + v.length) + (adS u v j v.length).2)), .ints true .i64 o]) := by
  have hl0 := fun ks => loop_v (P := Try.prog) (K := kn) (ks := ks) (vi_for (fun i => addT v (adS u v j i).1 o j (adS u v j i).2 i) v.length (n := kn.cf.rounds) (by rw [k_cf, c_rounds]; omega) (fun i hi => addb_r (vrun Try.prog kn d) hu hv hj hul hi) fun m => vi_exit (addb_x _ (by rw [ad_len]; exact hul) (by omega)))
  have h1 := ad_bd hu hv v.length (Nat.le_refl _)
  have h3 := ad_hi (u := u) (v := v) v.length (j + v.length) (Nat.le_refl _)
  have hl := ad_len (u := u) (v := v) (j := j) v.length
  have e1 : ((j : Int) + v.length).toNat = j + v.length := by omega
  simp only [loopAt, nthC, bodyC, loops, List.nil_append, List.cons_append, List.append_nil, Try.f128, addT, adS, Int.natCast_zero, List.cons_append, List.nil_append] at hl0
  generalize (adS u v j v.length).1 = U at *
  generalize (adS u v j v.length).2 = c at *
  rw [hl] at hl0
  generalize hw : gt u (j + v.length) = w at *
  generalize u.length = L at *
  rw [vrun_v Try.func128 rfl rfl rfl]; simp only [Try.f128]
  simp (implicitDefEqProofs := false) (disch := omega) [go_sem, tab128, e1, hl, hl0, h3]
end
end
/- Division, digit by digit: one round, in numbers. No conditions. -/
section
open Num
/-- A list whose digits above one place are nought. -/
theorem val_top {l : List Int} {k : Nat} (hk : k < l.length) (hz : ∀ i, k < i → gt l i = 0) : val l = val (l.take k) + 65536 ^ k * gt l k := by
  have e : l = l.take k ++ (gt l k :: l.drop (k + 1)) := by
    conv => lhs; rw [← List.take_append_drop k l]
    rw [List.drop_eq_getElem_cons hk, gt_get]
  have hd : val (l.drop (k + 1)) = 0 := by
    have : ∀ (m : List Int), (∀ i, gt m i = 0) → val m = 0 := by
      intro m
      induction m with
      | nil => intro _; rfl
      | cons a r ih =>
        intro h
        have h0 : a = 0 := h 0
        rw [val_cons, h0, ih fun i => h (i + 1)]; rfl
    refine this _ fun i => ?_
    have := hz (k + 1 + i) (by omega)
    unfold gt at this ⊢
    rw [List.getD_eq_getElem?_getD] at this ⊢
    rw [List.getElem?_drop]; exact this
  conv => lhs; rw [e]
  rw [val_append, val_cons, hd, List.length_take, Nat.min_eq_left (by omega), Int.mul_zero, Int.add_zero]
theorem val_take_bd {l : List Int} {k : Nat} (hk : k ≤ l.length) (hg : GoodL (l.take k)) : 0 ≤ val (l.take k) ∧ val (l.take k) < 65536 ^ k := by
  refine ⟨val_nonneg hg, ?_⟩
  have := val_lt hg
  rwa [List.length_take, Nat.min_eq_left hk] at this
theorem take_set_ge {l : List Int} {k : Nat} (x : Int) : (l.set k x).take k = l.take k := List.take_set_of_le (Nat.le_refl k)
theorem good_of_set {l : List Int} {k : Nat} (hk : k < l.length) (h : GoodL (l.set k 0)) (h0 : 0 ≤ gt l k) (h1 : gt l k < 65536) : GoodL l := by
  have e : l = (l.set k 0).set k (gt l k) := by
    rw [List.set_set, ← gt_get l k hk]; exact (List.set_getElem_self hk).symm
  rw [e]; exact h.set _ h0 h1
theorem gt_dgs0 {q n i : Nat} (h : n ≤ i) : gt (dgs q n) i = 0 := by
  unfold gt; rw [List.getD_eq_getElem?_getD, List.getElem?_eq_none (by rw [dgs_len]; exact h)]; rfl
section
variable {X V n L j : Nat} {q : Int}
/-- How the numbers of a round lie. -/
structure Rdv (X V n L j : Nat) : Prop where
  n2 : 2 ≤ n
  Vl : (D V).length = n
  Vh : 32768 ≤ dg V (n - 1)
  jl : j + n < L
  Xl : X % (V * 65536 ^ (j + 1)) < 65536 ^ L
namespace Rdv
theorem Vp (h : Rdv X V n L j) : 0 < V := by
  rcases Nat.eq_zero_or_pos V with e | e
  · have := h.Vl; rw [e, D_zero] at this; have := h.n2; simp at *; omega
  · exact e
theorem Ul (h : Rdv X V n L j) : X % (V * 65536 ^ (j + 1)) < V * 65536 ^ (j + 1) := Nat.mod_lt _ (Nat.mul_pos h.Vp (powN_pos _))
theorem Wl (h : Rdv X V n L j) : X % (V * 65536 ^ (j + 1)) / 65536 ^ j < V * 65536 := by
  rw [Nat.div_lt_iff_lt_mul (powN_pos j), Nat.mul_assoc, Nat.mul_comm 65536, ← Nat.pow_succ]
  exact h.Ul
theorem Vlt (h : Rdv X V n L j) : V < 65536 ^ n := by have := lt_len_D V; rwa [h.Vl] at this
theorem digit (h : Rdv X V n L j) : dg (X / V) j = ((X % (V * 65536 ^ (j + 1)) / 65536 ^ j / V : Nat) : Int) := by
  unfold dg
  congr 1
  rw [Nat.div_div_eq_div_mul _ _ V, Nat.mul_comm (65536 ^ j) V, Nat.pow_succ, ← Nat.mul_assoc, Nat.mod_mul_right_div_self, Nat.div_div_eq_div_mul]
theorem three (h : Rdv X V n L j) {W : Nat} (hW : W < V * 65536) : (W : Int) = ((dg W n * 65536 + dg W (n - 1)) * 65536 + dg W (n - 2)) * ((65536 ^ (n - 2) : Nat) : Int) + ((W % 65536 ^ (n - 2) : Nat) : Int) := by
  have hlt : W < 65536 ^ (n + 1) := Nat.lt_of_lt_of_le hW (by rw [Nat.pow_succ]; exact Nat.mul_le_mul_right _ (Nat.le_of_lt h.Vlt))
  have hn := h.n2
  have e1 := Nat.div_add_mod W (65536 ^ (n - 2))
  have e2 : W / 65536 ^ (n - 2) / 65536 = W / 65536 ^ (n - 1) := by rw [Nat.div_div_eq_div_mul, ← Nat.pow_succ]; congr 2; omega
  have e3 : W / 65536 ^ (n - 1) / 65536 = W / 65536 ^ n := by rw [Nat.div_div_eq_div_mul, ← Nat.pow_succ]; congr 2; omega
  have e4 : W / 65536 ^ n / 65536 = 0 := by rw [Nat.div_div_eq_div_mul, ← Nat.pow_succ]; exact Nat.div_eq_of_lt hlt
  have e5 : W / 65536 ^ (n - 2) = (W / 65536 ^ n % 65536 * 65536 + W / 65536 ^ (n - 1) % 65536) * 65536 + W / 65536 ^ (n - 2) % 65536 := by omega
  unfold dg
  generalize W / 65536 ^ (n - 2) = a at *
  have : W = ((W / 65536 ^ n % 65536 * 65536 + W / 65536 ^ (n - 1) % 65536) * 65536 + a % 65536) * 65536 ^ (n - 2) + W % 65536 ^ (n - 2) := by
    rw [← e5, Nat.mul_comm]; exact e1.symm
  exact congrArg Int.ofNat this
theorem two (h : Rdv X V n L j) : (V : Int) = (dg V (n - 1) * 65536 + dg V (n - 2)) * ((65536 ^ (n - 2) : Nat) : Int) + ((V % 65536 ^ (n - 2) : Nat) : Int) := by
  have hn := h.n2
  have e1 := Nat.div_add_mod V (65536 ^ (n - 2))
  have e2 : V / 65536 ^ (n - 2) / 65536 = V / 65536 ^ (n - 1) := by rw [Nat.div_div_eq_div_mul, ← Nat.pow_succ]; congr 2; omega
  have e4 : V / 65536 ^ (n - 1) / 65536 = 0 := by
    rw [Nat.div_div_eq_div_mul, ← Nat.pow_succ, show (n - 1).succ = n by omega]; exact Nat.div_eq_of_lt h.Vlt
  have e5 : V / 65536 ^ (n - 2) = V / 65536 ^ (n - 1) % 65536 * 65536 + V / 65536 ^ (n - 2) % 65536 := by omega
  unfold dg
  generalize V / 65536 ^ (n - 2) = a at *
  have : V = (V / 65536 ^ (n - 1) % 65536 * 65536 + a % 65536) * 65536 ^ (n - 2) + V % 65536 ^ (n - 2) := by
    rw [← e5, Nat.mul_comm]; exact e1.symm
  exact congrArg Int.ofNat this
theorem at_u (h : Rdv X V n L j) {i : Nat} (hi : i ≤ n) : gt (dgs (X % (V * 65536 ^ (j + 1))) L) (j + i) = dg (X % (V * 65536 ^ (j + 1)) / 65536 ^ j) i := by
  have := h.jl
  rw [gt_dgs2 (by omega)]
  unfold dg
  rw [Nat.div_div_eq_div_mul, ← Nat.pow_add]
theorem kt (h : Rdv X V n L j) : Kt ((65536 ^ (n - 2) : Nat) : Int) (gt (D V) (n - 1)) (gt (D V) (n - 2)) ((V % 65536 ^ (n - 2) : Nat) : Int)
    (gt (dgs (X % (V * 65536 ^ (j + 1))) L) (j + n) * 65536 + gt (dgs (X % (V * 65536 ^ (j + 1))) L) (j + n - 1)) (gt (dgs (X % (V * 65536 ^ (j + 1))) L) (j + n - 2)) ((X % (V * 65536 ^ (j + 1)) / 65536 ^ j % 65536 ^ (n - 2) : Nat) : Int) := by
  have hn := h.n2
  have a0 := h.at_u (i := n) (Nat.le_refl _)
  have a1 := h.at_u (i := n - 1) (by omega)
  have a2 := h.at_u (i := n - 2) (by omega)
  rw [show j + (n - 1) = j + n - 1 by omega] at a1
  rw [show j + (n - 2) = j + n - 2 by omega] at a2
  have hW := h.Wl
  have t3 := h.three hW
  have t2 := h.two
  rw [a0, a1, a2, gt_D, gt_D]
  generalize X % (V * 65536 ^ (j + 1)) / 65536 ^ j = W at *
  have b0 := dg_bd W n
  have b1 := dg_bd W (n - 1)
  have b2 := dg_bd W (n - 2)
  have c1 := dg_bd V (n - 1)
  have c2 := dg_bd V (n - 2)
  refine ⟨by have := powN_pos (n - 2); omega, h.Vh, c1.2, c2.1, c2.2, Int.natCast_nonneg _, ?_, by omega, b2.1, b2.2, Int.natCast_nonneg _, ?_, ?_⟩
  · exact Int.ofNat_lt.2 (Nat.mod_lt _ (powN_pos _))
  · exact Int.ofNat_lt.2 (Nat.mod_lt _ (powN_pos _))
  · rw [← t3, ← t2]; omega
/-- What the guess says. -/
theorem gs (h : Rdv X V n L j) (h1 : ((gt (dgs (X % (V * 65536 ^ (j + 1))) L) (j + n) * 65536 + gt (dgs (X % (V * 65536 ^ (j + 1))) L) (j + n - 1)) * 65536 + gt (dgs (X % (V * 65536 ^ (j + 1))) L) (j + n - 2)) * ((65536 ^ (n - 2) : Nat) : Int) + ((X % (V * 65536 ^ (j + 1)) / 65536 ^ j % 65536 ^ (n - 2) : Nat) : Int) < (q + 1) * ((gt (D V) (n - 1) * 65536 + gt (D V) (n - 2)) * ((65536 ^ (n - 2) : Nat) : Int) + ((V % 65536 ^ (n - 2) : Nat) : Int)))
    (h2 : (q - 1) * ((gt (D V) (n - 1) * 65536 + gt (D V) (n - 2)) * ((65536 ^ (n - 2) : Nat) : Int) + ((V % 65536 ^ (n - 2) : Nat) : Int)) ≤ ((gt (dgs (X % (V * 65536 ^ (j + 1))) L) (j + n) * 65536 + gt (dgs (X % (V * 65536 ^ (j + 1))) L) (j + n - 1)) * 65536 + gt (dgs (X % (V * 65536 ^ (j + 1))) L) (j + n - 2)) * ((65536 ^ (n - 2) : Nat) : Int) + ((X % (V * 65536 ^ (j + 1)) / 65536 ^ j % 65536 ^ (n - 2) : Nat) : Int)) :
    q = dg (X / V) j ∨ q = dg (X / V) j + 1 := by
  have hn := h.n2
  have a0 := h.at_u (i := n) (Nat.le_refl _)
  have a1 := h.at_u (i := n - 1) (by omega)
  have a2 := h.at_u (i := n - 2) (by omega)
  rw [show j + (n - 1) = j + n - 1 by omega] at a1
  rw [show j + (n - 2) = j + n - 2 by omega] at a2
  have t3 := h.three h.Wl
  have t2 := h.two
  rw [a0, a1, a2, gt_D, gt_D, ← t3, ← t2] at h1 h2
  have hV := h.Vp
  have hd := h.digit
  generalize X % (V * 65536 ^ (j + 1)) / 65536 ^ j = W at *
  obtain ⟨g1, g2⟩ := guess (t := dg (X / V) j) (U := (W : Int)) (V := (V : Int)) (q := q) (by omega) (by rw [hd, Int.natCast_ediv]) h1 h2
  omega
theorem Uval (h : Rdv X V n L j) : val (dgs (X % (V * 65536 ^ (j + 1))) L) = ((X % (V * 65536 ^ (j + 1)) : Nat) : Int) := by
  rw [dgs_val, lo_len (lt_pow_len h.Xl)]
theorem Unext (h : Rdv X V n L j) : ((X % (V * 65536 ^ (j + 1)) : Nat) : Int) = ((X % (V * 65536 ^ j) : Nat) : Int) + dg (X / V) j * 65536 ^ j * V := by
  have e1 : X % (V * 65536 ^ (j + 1)) % (V * 65536 ^ j) = X % (V * 65536 ^ j) := by
    rw [Nat.pow_succ, ← Nat.mul_assoc]; exact Nat.mod_mul_right_mod _ _ _
  have e2 := Nat.div_add_mod (X % (V * 65536 ^ (j + 1))) (V * 65536 ^ j)
  rw [e1] at e2
  have e3 : X % (V * 65536 ^ (j + 1)) / (V * 65536 ^ j) = X % (V * 65536 ^ (j + 1)) / 65536 ^ j / V := by rw [Nat.div_div_eq_div_mul _ _ V, Nat.mul_comm (65536 ^ j) V]
  rw [e3] at e2
  have e4 := congrArg (fun z : Nat => (z : Int)) e2
  simp only [Int.natCast_add, Int.natCast_mul, pow_cast] at e4
  rw [h.digit, ← e4]
  generalize ((X % (V * 65536 ^ (j + 1)) / 65536 ^ j / V : Nat) : Int) = a
  generalize ((X % (V * 65536 ^ j) : Nat) : Int) = R
  generalize (65536 : Int) ^ j = b
  generalize (V : Int) = w
  clear e1 e2 e3 e4
  grind
theorem Uhi (h : Rdv X V n L j) {i : Nat} (hi : j + n < i) : gt (dgs (X % (V * 65536 ^ (j + 1))) L) i = 0 := by
  by_cases hl : i < L
  · rw [gt_dgs2 hl]
    refine dg_len ?_
    rw [len_D_le]
    refine Nat.lt_of_lt_of_le h.Ul ?_
    have h1 : V * 65536 ^ (j + 1) ≤ 65536 ^ n * 65536 ^ (j + 1) := Nat.mul_le_mul_right _ (Nat.le_of_lt h.Vlt)
    rw [← Nat.pow_add] at h1
    exact Nat.le_trans h1 (Nat.pow_le_pow_right (by omega) (by omega))
  · exact gt_dgs0 (by omega)
theorem Rl (h : Rdv X V n L j) : X % (V * 65536 ^ j) < 65536 ^ (j + n) := by
  have h1 := Nat.mod_lt X (Nat.mul_pos h.Vp (powN_pos j))
  refine Nat.lt_of_lt_of_le h1 ?_
  rw [Nat.pow_add, Nat.mul_comm]
  exact Nat.mul_le_mul_left _ (Nat.le_of_lt h.Vlt)
/-- What a round leaves. -/
theorem out (h : Rdv X V n L j) (q0 : 0 ≤ q) (q1 : q < 65536) (hq : q = dg (X / V) j ∨ q = dg (X / V) j + 1) {u Z : List Int} {z : Int} (hu : u = dgs (X % (V * 65536 ^ (j + 1))) L)
    (hz : z = gt u (j + n) - (tkS u (D V) j q n).2) (hZ : Z = (tkS u (D V) j q n).1.set (j + n) z) :
    Z.length = L ∧ GoodL (Z.set (j + n) 0) ∧ gt Z (j + n) = z ∧ -65536 ≤ z ∧ z < 65536 ∧
    ((q = dg (X / V) j ∧ ¬ z < 0 ∧ Z = dgs (X % (V * 65536 ^ j)) L) ∨
      (q - 1 = dg (X / V) j ∧ z < 0 ∧ (adS Z (D V) j n).1.set (j + n) (z + (adS Z (D V) j n).2) = dgs (X % (V * 65536 ^ j)) L)) := by
  have hjl := h.jl
  have hul : u.length = L := by rw [hu, dgs_len]
  have hgu : GoodL u := by rw [hu]; exact dgs_good _ _
  have hgv := good_D V
  have hvl := h.Vl
  have tl := tk_len (u := u) (v := D V) (j := j) (q := q) n
  have tg := tk_good hgu n (v := D V) (j := j) (q := q)
  have tb := tk_bd hgu hgv q0 q1 n (j := j)
  have tv := tk_val (u := u) (v := D V) (j := j) (q := q) (n := n) (by omega) (by omega) n (Nat.le_refl _)
  have th := fun k => tk_hi (u := u) (v := D V) (j := j) (q := q) n k
  have gu := hgu.gtB (j + n)
  have hV : val ((D V).take n) = V := by rw [List.take_of_length_le (by omega), val_D]
  have hUv : val u = ((X % (V * 65536 ^ (j + 1)) : Nat) : Int) := by rw [hu]; exact h.Uval
  rw [hV, hUv, h.Unext] at tv
  have hhi : ∀ i, j + n < i → gt u i = 0 := fun i hi => by rw [hu]; exact h.Uhi hi
  generalize (tkS u (D V) j q n).1 = T at *
  generalize (tkS u (D V) j q n).2 = b at *
  have hZl : Z.length = L := by rw [hZ, List.length_set, tl, hul]
  have hZg : GoodL (Z.set (j + n) 0) := by rw [hZ, List.set_set]; exact tg.set _ (by omega) (by omega)
  have hZz : gt Z (j + n) = z := by rw [hZ]; exact gt_set_eq (by omega) _
  have hZv : val Z = ((X % (V * 65536 ^ j) : Nat) : Int) + (dg (X / V) j - q) * 65536 ^ j * V := by
    rw [hZ, val_setG (by omega), th (j + n) (Nat.le_refl _), hz, Int.pow_add]
    generalize (65536 : Int) ^ j = p at *
    generalize (65536 : Int) ^ n = r at *
    generalize ((X % (V * 65536 ^ j) : Nat) : Int) = R at *
    generalize dg (X / V) j = t at *
    grind
  have hZhi : ∀ i, j + n < i → gt Z i = 0 := fun i hi => by rw [hZ, gt_set_ne (by omega), th i (by omega)]; exact hhi i hi
  have hZt := val_top (l := Z) (k := j + n) (by omega) hZhi
  have hZb := val_take_bd (l := Z) (k := j + n) (by omega) (by rw [← take_set_ge 0]; exact hZg.take _)
  have hp := pow_pos' (j + n)
  have hRl : ((X % (V * 65536 ^ j) : Nat) : Int) < 65536 ^ (j + n) := by rw [← pow_cast]; exact Int.ofNat_lt.2 h.Rl
  refine ⟨hZl, hZg, hZz, by omega, by omega, ?_⟩
  rw [hZz] at hZt
  rcases hq with hq | hq
  · left
    rw [← hq, Int.sub_self, Int.zero_mul, Int.zero_mul, Int.add_zero] at hZv
    have hz0 : ¬ z < 0 := fun hc => by
      have h5 : 65536 ^ (j + n) * z ≤ 65536 ^ (j + n) * (-1) := Int.mul_le_mul_of_nonneg_left (by omega) (by omega)
      have h6 : (0 : Int) ≤ ((X % (V * 65536 ^ j) : Nat) : Int) := Int.natCast_nonneg _
      omega
    exact ⟨hq, hz0, good_dgs (good_of_set (k := j + n) (by omega) hZg (by omega) (by omega)) hZl hZv⟩
  · right
    have hq' : q - 1 = dg (X / V) j := by omega
    rw [show dg (X / V) j - q = -1 by omega] at hZv
    have hVj : ((X % (V * 65536 ^ j) : Nat) : Int) < 65536 ^ j * V := by
      rw [← pow_cast, ← Int.natCast_mul]
      exact Int.ofNat_lt.2 (Nat.lt_of_lt_of_eq (Nat.mod_lt X (Nat.mul_pos h.Vp (powN_pos j))) (Nat.mul_comm _ _))
    have hzn : z < 0 := by
      rcases Int.lt_or_le z 0 with hc | hc
      · exact hc
      · have h5 : 0 ≤ 65536 ^ (j + n) * z := Int.mul_nonneg (by omega) hc
        have h6 : -1 * 65536 ^ j * (V : Int) = -(65536 ^ j * V) := by grind
        omega
    refine ⟨hq', hzn, ?_⟩
    have al := ad_len (u := Z) (v := D V) (j := j) n
    have ag := ad_good (v := D V) hZg n (Nat.le_refl _)
    have ab := ad_bd (v := D V) hZg hgv n (Nat.le_refl _)
    have av := ad_val (u := Z) (v := D V) (j := j) (n := n) (by omega) (by omega) n (Nat.le_refl _)
    have ah := fun k => ad_hi (u := Z) (v := D V) (j := j) n k
    rw [hV, hZv] at av
    generalize (adS Z (D V) j n).1 = A at *
    generalize (adS Z (D V) j n).2 = c at *
    have az : gt A (j + n) = z := by rw [ah _ (Nat.le_refl _), hZz]
    generalize hY : A.set (j + n) (z + c) = Y
    have hYl : Y.length = L := by rw [← hY, List.length_set, al, hZl]
    have hYg : GoodL (Y.set (j + n) 0) := by rw [← hY, List.set_set]; exact ag
    have hYz : gt Y (j + n) = z + c := by rw [← hY]; exact gt_set_eq (by omega) _
    have hYv : val Y = ((X % (V * 65536 ^ j) : Nat) : Int) := by
      rw [← hY, val_setG (by omega), az, Int.pow_add]
      generalize (65536 : Int) ^ j = p at *
      generalize (65536 : Int) ^ n = r at *
      generalize ((X % (V * 65536 ^ j) : Nat) : Int) = R at *
      grind
    have hYhi : ∀ i, j + n < i → gt Y i = 0 := fun i hi => by rw [← hY, gt_set_ne (by omega), ah i (by omega)]; exact hZhi i hi
    have hYt := val_top (l := Y) (k := j + n) (by omega) hYhi
    have hYb := val_take_bd (l := Y) (k := j + n) (by omega) (by rw [← take_set_ge 0]; exact hYg.take _)
    rw [hYz, hYv] at hYt
    have hzc : z + c = 0 := by
      have h6 : (0 : Int) ≤ ((X % (V * 65536 ^ j) : Nat) : Int) := Int.natCast_nonneg _
      rcases Int.lt_trichotomy (z + c) 0 with hc | hc | hc
      · have h5 : 65536 ^ (j + n) * (z + c) ≤ 65536 ^ (j + n) * (-1) := Int.mul_le_mul_of_nonneg_left (by omega) (by omega)
        omega
      · exact hc
      · have h5 : 65536 ^ (j + n) * 1 ≤ 65536 ^ (j + n) * (z + c) := Int.mul_le_mul_of_nonneg_left (by omega) (by omega)
        omega
    exact good_dgs (good_of_set (k := j + n) (by omega) hYg (by omega) (by omega)) hYl hYv
end Rdv
end
end
/- Division: the whole. No conditions. -/
section
open Num
section
variable {X V n L M j : Nat} {s : Int}
def divS (X V L M : Nat) (s : Int) (j : Nat) : VE × VH := ([(8, some (.int .i64 s)), (9, some (.sl 0 0 (D V).length 1)), (10, some (.sl 1 0 L 1)), (11, some (.sl 2 0 M 1)), (12, some (.int .i64 ((j : Int) - 1)))], [.ints true .i64 (D V), .ints true .i64 (dgs (X % (V * 65536 ^ j)) L), .ints true .i64 (hi (X / V) M j)])
theorem div_r (d : Nat) (h : Rdv X V n L j) (hL : L < 1000000) (hM : M < 1000000) (hj : j < M) :
    vCode Try.prog kn (vrun Try.prog kn (d + 2 + 1)) 120 (loopAt Try.f120 0) (divS X V L M s (j + 1)).1 (divS X V L M s (j + 1)).2 = some (.norm, divS X V L M s j) := by
  have hjl := h.jl
  have hvl := h.Vl
  have hn2 := h.n2
  have hul : (dgs (X % (V * 65536 ^ (j + 1))) L).length = L := dgs_len _ _
  have hgu : GoodL (dgs (X % (V * 65536 ^ (j + 1))) L) := dgs_good _ _
  obtain ⟨q, hq, q0, q1, g1, g2⟩ := digitOf_v (u := dgs (X % (V * 65536 ^ (j + 1))) L) (v := D V) (j := j) (n := n) (d + 2) hn2 hvl (by omega) (by omega) hgu (good_D V) h.kt
  have hg := h.gs g1 g2
  have ht := takeAway_v (u := dgs (X % (V * 65536 ^ (j + 1))) L) (v := D V) (j := j) (q := q) (d + 2) (o := hi (X / V) M (j + 1)) hgu (good_D V) q0 q1 (by omega) (by omega)
  obtain ⟨o1, o2, o3, o4, o5, o6⟩ := h.out q0 q1 hg rfl rfl rfl
  rw [← hvl] at o1 o2 o3 o4 o5 o6
  have hb := dg_bd (X / V) j
  have hol := hi_len (q := X / V) (n := M) (i := j + 1) (by omega)
  have hset := hi_set (q := X / V) (n := M) (i := j) hj
  clear g1 g2 hg
  generalize hz : gt (dgs (X % (V * 65536 ^ (j + 1))) L) (j + (D V).length) - (tkS (dgs (X % (V * 65536 ^ (j + 1))) L) (D V) j q (D V).length).2 = z at *
  generalize hZ : (tkS (dgs (X % (V * 65536 ^ (j + 1))) L) (D V) j q (D V).length).1.set (j + (D V).length) z = Z at *
  have e0 : (((j + 1 : Nat) : Int) - 1) = j := by omega
  rw [hul] at ht
  rw [round_v]; simp only [loopAt, nthC, bodyC, loops, List.nil_append, List.cons_append, List.append_nil, Try.f120, divS, e0]
  rcases o6 with ⟨r1, r2, r3⟩ | ⟨r1, r2, r3⟩
  · rw [← r3]
    rw [← r1] at hset
    generalize dgs (X % (V * 65536 ^ (j + 1))) L = u at *
    generalize hi (X / V) M (j + 1) = o at *
    generalize hi (X / V) M j = o' at *
    generalize D V = v at *
    rw [decide_eq_false r2] at ht
    clear r3 o2
    simp (implicitDefEqProofs := false) (disch := omega) [go_sem, tab120, nil120, hul, hq, ht, hol, hset]
  · rw [← r3]
    rw [← r1] at hset
    have ha := addBack_v (u := Z) (v := D V) (j := j) (d + 2) (o := hi (X / V) M (j + 1)) o2 (good_D V) (by omega) (by omega) (by omega) (by omega)
    rw [o3, o1] at ha
    generalize hY : (adS Z (D V) j (D V).length).1.set (j + (D V).length) (z + (adS Z (D V) j (D V).length).2) = Y at *
    generalize dgs (X % (V * 65536 ^ (j + 1))) L = u at *
    generalize hi (X / V) M (j + 1) = o at *
    generalize hi (X / V) M j = o' at *
    generalize D V = v at *
    rw [decide_eq_true r2] at ht
    clear r3 o2 hY
    simp (implicitDefEqProofs := false) (disch := omega) [go_sem, tab120, nil120, hul, hq, ht, ha, hol, hset]
theorem div_x (call : CallV) :
    vCode Try.prog kn call 120 (loopAt Try.f120 0) (divS X V L M s 0).1 (divS X V L M s 0).2 = some (.exit 0, (divS X V L M s 0).1 ++ [(68, some (.bool false))], (divS X V L M s 0).2) := by
  rw [round_v]; simp only [loopAt, nthC, bodyC, loops, List.nil_append, List.cons_append, List.append_nil, Try.f120, divS]
  simp (implicitDefEqProofs := false) (disch := omega) [go_sem, tab120, nil120]
end
theorem trim1_v (d : Nat) {l : List Int} {n v : Nat} (hl : l.length < 1000000000) (hn : n = l.length) (hg : GoodL l) (hv : val l = v) (a b : VO) :
    vrun Try.prog kn (d + 1) 100 [.sl 1 0 n 1] [a, .ints false .i64 l, b] = some (.sl 1 0 (D v).length 1, [a, .ints false .i64 l, b]) := by
  rw [trim_v d (h := [a, .ints false .i64 l, b]) (i := 1) (w := false) (l := l) rfl hl n hn, (tl_D hg hv).1]
section
variable {x y : Nat}
theorem dgs_pad {X L : Nat} (h : X < 65536 ^ L) : D X ++ List.replicate (L - (D X).length) 0 = dgs X L := by
  have hl : (D X).length ≤ L := len_D_le.2 h
  refine good_dgs ((good_D X).append (GoodL.zeros _)) (by simp; omega) ?_
  rw [val_append, val_zeros, val_D]; omega
set_option maxHeartbeats 4000000 in
theorem divide_v (d : Nat) (hx : (D x).length < 400000) (hy : (D y).length < 400000) (h0 : y ≠ 0) :
    vrun Try.prog kn (d + 4) 120 [.ints .i64 (D x), .ints .i64 (D y)] [] = some (.tup [.sl 0 0 (D (x / y)).length 1, .sl 1 0 (D (x % y)).length 1], [.ints true .i64 (D (x / y)), .ints true .i64 (D (x % y))]) := by
  have h1 := fun d => compare_v (x := x) (y := y) d (by omega) (by omega)
  have hc := fun d => clone_v d (l := D x) (by omega)
  have hyl : 0 < (D y).length := List.length_pos_iff.2 fun e => h0 (D_nil_iff.1 e)
  by_cases hlt : x < y
  · have e1 : cmpI x y = -1 := by unfold cmpI; rw [if_pos hlt]
    rw [Nat.div_eq_of_lt hlt, Nat.mod_eq_of_lt hlt, D_zero]
    rw [e1] at h1
    rw [vrun_v Try.func120 rfl rfl rfl]; simp only [Try.f120]
    simp (implicitDefEqProofs := false) (disch := omega) [go_sem, tab120, nil120, h1, hc]
  have hge : ¬ cmpI x y < 0 := by unfold cmpI; rw [if_neg hlt]; split <;> omega
  by_cases hn1 : (D y).length = 1
  · have hy1 : y < 65536 := by have := lt_len_D y; rw [hn1] at this; omega
    have hd : D y = [(y : Int)] := by
      rw [D_pos h0, Nat.mod_eq_of_lt hy1, Nat.div_eq_of_lt hy1, D_zero]
    have h2 := fun d => divideSmall_v (z := x) (m := y) d (by omega) (by omega) (by omega)
    have h3 := fun d => small_v (n := x % y) d (by have := Nat.mod_lt x (show 0 < y by omega); omega)
    have hl1 := len_D_mono (Nat.div_le_self x y)
    have hl2 := len_D_mono (Nat.mod_le x y)
    rw [hd] at h1 ⊢
    generalize D (x / y) = Q at *
    generalize D (x % y) = R at *
    generalize ((x % y : Nat) : Int) = r at *
    generalize cmpI x y = c at *
    generalize D x = l at *
    have hg0 : gt [(y : Int)] 0 = y := rfl
    rw [vrun_v Try.func120 rfl rfl rfl]; simp only [Try.f120]
    simp (implicitDefEqProofs := false) (disch := omega) [go_sem, tab120, nil120, h1, h2, h3, hg0]
  -- the long way
  have hn2 : 2 ≤ (D y).length := by omega
  generalize hn : (D y).length = n at *
  generalize htop : y / 65536 ^ (n - 1) = top
  have hyn : y < 65536 ^ n := by rw [← hn]; exact lt_len_D y
  have hpn : 65536 ^ n = 65536 ^ (n - 1) * 65536 := by rw [← Nat.pow_succ]; congr 1; omega
  have htl : top < 65536 := by rw [← htop, Nat.div_lt_iff_lt_mul (powN_pos _), Nat.mul_comm, ← hpn]; exact hyn
  have hyl1 : 65536 ^ (n - 1) ≤ y := by have := le_of_len_D h0; rwa [hn] at this
  have ht0 : top ≠ 0 := by rw [← htop]; have := Nat.div_pos hyl1 (powN_pos (n - 1)); omega
  obtain ⟨hb1, hb2⟩ := nb_le ht0
  have hb3 := nb_lt top
  have hb4 := nb_16 htl
  generalize hk : nb top = k at *
  generalize hs : 16 - k = s
  have hsk : 2 ^ k * 2 ^ s = 65536 := by rw [← Nat.pow_add, show k + s = 16 by omega]
  have hsk1 : 2 ^ (k - 1) * 2 ^ s = 32768 := by rw [← Nat.pow_add, show k - 1 + s = 15 by omega]
  have htm : top * 2 ^ s < 65536 := by rw [← hsk]; exact Nat.mul_lt_mul_of_pos_right hb3 (Nat.two_pow_pos _)
  have htm2 : 32768 ≤ top * 2 ^ s := by rw [← hsk1]; exact Nat.mul_le_mul_right _ hb1
  have hyd := Nat.div_add_mod y (65536 ^ (n - 1))
  rw [htop] at hyd
  have hym := Nat.mod_lt y (powN_pos (n - 1))
  have hVl : y * 2 ^ s < 65536 ^ n := by
    have h5 : (y + 1) * 2 ^ s ≤ (65536 ^ (n - 1) * (top + 1)) * 2 ^ s := Nat.mul_le_mul_right _ (by rw [Nat.mul_add, Nat.mul_one]; omega)
    have h6 : (65536 ^ (n - 1) * (top + 1)) * 2 ^ s ≤ 65536 ^ (n - 1) * 65536 := by
      rw [Nat.mul_assoc]; refine Nat.mul_le_mul_left _ ?_
      rw [← hsk]; exact Nat.mul_le_mul_right _ hb3
    have h7 := Nat.two_pow_pos s
    rw [Nat.add_mul, Nat.one_mul] at h5
    rw [hpn]; omega
  have hVy : y ≤ y * 2 ^ s := Nat.le_mul_of_pos_right _ (Nat.two_pow_pos _)
  have hVlen : (D (y * 2 ^ s)).length = n := by
    have a1 := len_D_le.2 hVl
    have a2 := len_D_mono hVy
    omega
  have hVtop : 32768 ≤ dg (y * 2 ^ s) (n - 1) := by
    have h5 : 32768 ≤ y * 2 ^ s / 65536 ^ (n - 1) := by
      rw [Nat.le_div_iff_mul_le (powN_pos _)]
      refine Nat.le_trans (Nat.mul_le_mul_right _ htm2) ?_
      rw [Nat.mul_right_comm]
      refine Nat.mul_le_mul_right _ ?_
      rw [Nat.mul_comm]; omega
    have h6 : y * 2 ^ s / 65536 ^ (n - 1) < 65536 := by rw [Nat.div_lt_iff_lt_mul (powN_pos _), Nat.mul_comm 65536, ← hpn]; exact hVl
    unfold dg; omega
  have hmn : n ≤ (D x).length := by have := len_D_mono (show y ≤ x by omega); omega
  generalize hm : (D x).length = m at *
  have hxm : x < 65536 ^ m := by rw [← hm]; exact lt_len_D x
  have hXl : x * 2 ^ s < 65536 ^ (m + 1) := by
    rw [Nat.pow_succ]
    refine Nat.mul_lt_mul_of_lt_of_le hxm ?_ (by omega)
    rw [← hsk]; exact Nat.le_mul_of_pos_left _ (Nat.two_pow_pos _)
  have hXV : x * 2 ^ s < y * 2 ^ s * 65536 ^ (m - n + 1) := by
    rw [Nat.mul_right_comm]
    refine Nat.mul_lt_mul_of_pos_right ?_ (Nat.two_pow_pos _)
    refine Nat.lt_of_lt_of_le hxm ?_
    refine Nat.le_trans ?_ (Nat.mul_le_mul_right _ hyl1)
    rw [← Nat.pow_add]; exact Nat.pow_le_pow_right (by omega) (by omega)
  have hQ : x * 2 ^ s / (y * 2 ^ s) = x / y := Nat.mul_div_mul_right _ _ (Nat.two_pow_pos _)
  have hR : x * 2 ^ s % (y * 2 ^ s) / 2 ^ s = x % y := by rw [Nat.mul_mod_mul_right, Nat.mul_div_cancel _ (Nat.two_pow_pos _)]
  have hRl : x * 2 ^ s % (y * 2 ^ s) < 65536 ^ (m + 1) := Nat.lt_of_le_of_lt (Nat.mod_le _ _) hXl
  have hQl : x / y < 65536 ^ (m - n + 1) := by
    rw [Nat.div_lt_iff_lt_mul (by omega)]
    refine Nat.lt_of_lt_of_le hxm ?_
    refine Nat.le_trans ?_ (Nat.mul_le_mul_left _ hyl1)
    rw [← Nat.pow_add]; exact Nat.pow_le_pow_right (by omega) (by omega)
  have u1 := fun d => up_v (x := y) (k := s) d (by omega) (by omega)
  have u2 := fun d => up_v (x := x) (k := s) d (by omega) (by omega)
  have hXlen : (D (x * 2 ^ s)).length ≤ m + 1 := len_D_le.2 hXl
  have hpad := dgs_pad hXl
  have hlen := fun d => Len_v (x := top) d htl
  rw [hk] at hlen
  have hdt : gt (D y) (n - 1) = (top : Int) := by rw [gt_D]; unfold dg; rw [htop, Nat.mod_eq_of_lt htl]
  have hwu : IntKind.wrap .u64 (top : Int) = top := by simp [IntKind.wrap, IntKind.bits, IntKind.signed]; omega
  have hl0 := fun ks => loop_v (P := Try.prog) (K := kn) (ks := ks) (e := (divS (x * 2 ^ s) (y * 2 ^ s) (m + 1) (m - n + 1) s (m - n + 1)).1) (h := (divS (x * 2 ^ s) (y * 2 ^ s) (m + 1) (m - n + 1) s (m - n + 1)).2) (c := loopAt Try.f120 0) (call := vrun Try.prog kn (d + 2 + 1)) (f := 120) (x := .exit 0) (e' := (divS (x * 2 ^ s) (y * 2 ^ s) (m + 1) (m - n + 1) s 0).1 ++ [(68, some (.bool false))]) (h' := (divS (x * 2 ^ s) (y * 2 ^ s) (m + 1) (m - n + 1) s 0).2) (by
    have key : ∀ i N, i ≤ m - n + 1 → i < N → viter (vCode Try.prog kn (vrun Try.prog kn (d + 2 + 1)) 120 (loopAt Try.f120 0)) N (divS (x * 2 ^ s) (y * 2 ^ s) (m + 1) (m - n + 1) s i).1 (divS (x * 2 ^ s) (y * 2 ^ s) (m + 1) (m - n + 1) s i).2 = some (.exit 0, (divS (x * 2 ^ s) (y * 2 ^ s) (m + 1) (m - n + 1) s 0).1 ++ [(68, some (.bool false))], (divS (x * 2 ^ s) (y * 2 ^ s) (m + 1) (m - n + 1) s 0).2) := by
      intro i
      induction i with
      | zero => intro N _ hN; obtain ⟨N, rfl⟩ : ∃ q, N = q + 1 := ⟨N - 1, by omega⟩; exact vi_exit (div_x _)
      | succ i ih =>
        intro N h1 hN
        obtain ⟨N, rfl⟩ : ∃ q, N = q + 1 := ⟨N - 1, by omega⟩
        rw [vi_norm (div_r (n := n) d ⟨hn2, hVlen, hVtop, by omega, Nat.lt_of_le_of_lt (Nat.mod_le _ _) hXl⟩ (by omega) (by omega) (by omega))]
        exact ih N (by omega) (by omega)
    exact key _ _ (Nat.le_refl _) (by rw [k_cf, c_rounds]; omega))
  have hM0 : hi (x * 2 ^ s / (y * 2 ^ s)) (m - n + 1) (m - n + 1) = List.replicate (m - n + 1) 0 := by unfold hi; rw [List.drop_eq_nil_of_le (by rw [dgs_len]; omega), List.append_nil]
  have hM1 : hi (x * 2 ^ s / (y * 2 ^ s)) (m - n + 1) 0 = dgs (x / y) (m - n + 1) := by unfold hi; rw [List.replicate_zero, List.nil_append, List.drop_zero, hQ]
  simp only [loopAt, nthC, bodyC, loops, List.nil_append, List.cons_append, List.append_nil, Try.f120, divS, hM0, hM1, Nat.mod_eq_of_lt hXV, Nat.pow_zero, Nat.mul_one, hVlen, List.cons_append, List.nil_append, Int.natCast_zero, Int.zero_sub] at hl0
  have t2 := fun a b => trim2_v (a := a) (b := b) (d + 2) (l := dgs (x / y) (m - n + 1)) (n := m - n + 1) (v := x / y) (by rw [dgs_len]; omega) (by rw [dgs_len]) (dgs_good _ _) (by rw [dgs_val, lo_len (lt_pow_len hQl)])
  have t1 := fun a b => trim1_v (a := a) (b := b) (d + 2) (l := dgs (x * 2 ^ s % (y * 2 ^ s)) (m + 1)) (n := m + 1) (v := x * 2 ^ s % (y * 2 ^ s)) (by rw [dgs_len]; omega) (by rw [dgs_len]) (dgs_good _ _) (by rw [dgs_val, lo_len (lt_pow_len hRl)])
  have k1 := (dgs_tl hRl).2
  have k2 := (dgs_tl hQl).2
  have u3 := fun d => down_v (x := x * 2 ^ s % (y * 2 ^ s)) (k := s) d (by have := k1.2; omega) (by omega)
  rw [hR] at u3
  have e1 : ((n : Int) - 1).toNat = n - 1 := by omega
  have e2 : (16 : Int) - (k : Nat) = (s : Nat) := by omega
  have e3 : ((m : Int) + 1 - ((D (x * 2 ^ s)).length : Nat)).toNat = m + 1 - (D (x * 2 ^ s)).length := by omega
  have e4 : ((m : Int) - (n : Nat) + 1).toNat = m - n + 1 := by omega
  have d1 : (dgs (x / y) (m - n + 1)).length = m - n + 1 := dgs_len _ _
  have d2 : (dgs (x * 2 ^ s % (y * 2 ^ s)) (m + 1)).length = m + 1 := dgs_len _ _
  have d3 := len_D_mono (Nat.mod_le x y)
  have d4 : (List.replicate (m + 1 - (D (x * 2 ^ s)).length) (0 : Int)).length = m + 1 - (D (x * 2 ^ s)).length := List.length_replicate
  have d5 : (List.replicate (m - n + 1) (0 : Int)).length = m - n + 1 := List.length_replicate
  clear hXV hXl hsk hsk1 htm htm2 hyd hym hVl hVy hVtop hyn hpn hyl1 hQl hRl hxm hb1 hb3 hM0 hM1 hQ hR
  generalize hMM : m - n + 1 = M at *
  generalize cmpI x y = c at *
  generalize x * 2 ^ s % (y * 2 ^ s) = R at *
  generalize x * 2 ^ s = X at *
  generalize y * 2 ^ s = V at *
  generalize x / y = Q at *
  generalize x % y = r at *
  rw [vrun_v Try.func120 rfl rfl rfl]; simp only [Try.f120]
  simp (implicitDefEqProofs := false) (disch := omega) [go_sem, tab120, nil120, h1, hm, hn, hdt, hwu, hlen, e1, e2, e3, e4, u1, u2, hpad, hl0, t1, t2, k1, k2, u3, hVlen, d1, d2, d4, d5]
end
end
/- The exact laws write marks into what they hold, and look whether the marks stand: lists, naturals, wholes, dyadics. No conditions. -/
section
open Num
def iota (k : Int) : Nat → List Int
  | 0 => []
  | n + 1 => iota k n ++ [k + n]
theorem iota_len (k : Int) : ∀ n, (iota k n).length = n
  | 0 => rfl
  | n + 1 => by rw [iota, List.length_append, iota_len k n]; rfl
theorem gt_iota {k : Int} : ∀ {n i : Nat}, i < n → gt (iota k n) i = k + i
  | n + 1, i, h => by
    rw [iota]
    by_cases h1 : i < n
    · rw [gt_app_lt (by rw [iota_len]; exact h1)]; exact gt_iota h1
    · obtain rfl : i = n := by omega
      have := gt_snoc (iota k i) (k + i)
      rwa [iota_len] at this
section
variable {h : VH} {i : Nat} {l : List Int} {k : Int}
def mkL (l : List Int) (k : Int) (j : Nat) : List Int := iota k j ++ l.drop j
theorem mkL_len {j : Nat} (hj : j ≤ l.length) : (mkL l k j).length = l.length := by unfold mkL; rw [List.length_append, iota_len, List.length_drop]; omega
theorem mkL_set {j : Nat} (hj : j < l.length) : (mkL l k j).set j (k + j) = mkL l k (j + 1) := by
  unfold mkL
  rw [List.set_append_right _ _ (by rw [iota_len]; omega), iota_len, Nat.sub_self, List.drop_eq_getElem_cons hj, iota, List.append_assoc]; rfl
theorem mkL_end : mkL l k l.length = iota k l.length := by unfold mkL; simp
theorem mkL_0 : mkL l k 0 = l := by unfold mkL; simp [iota]
theorem set_self (hi : h[i]? = some (.ints true .i64 l)) : h.set i (.ints true .i64 l) = h := by
  obtain ⟨h1, h2⟩ := List.getElem?_eq_some_iff.1 hi
  rw [← h2]; exact List.set_getElem_self _
def mkS (h : VH) (i : Nat) (l : List Int) (k : Int) (j : Nat) : VE × VH := ([(0, some (.sl i 0 l.length 1)), (1, some (.int .i64 (k + j))), (5, some (.int .i64 j))], h.set i (.ints true .i64 (mkL l k j)))
theorem mkI_r (call : CallV) (hi : i < h.length) (hl : l.length < 100000000) (hk : 0 ≤ k) (hk' : k < 1000000000) {j : Nat} (hj : j < l.length) :
    vCode Try.prog kn call 101 (loopAt Try.f101 0) (mkS h i l k j).1 (mkS h i l k j).2 = some (.norm, mkS h i l k (j + 1)) := by
  have h1 := mkL_len (k := k) (Nat.le_of_lt hj)
  have h2 := mkL_set (k := k) hj
  have h3 : k + j + 1 = k + ((j + 1 : Nat) : Int) := by omega
  have hs : ∀ a : VO, (h.set i a)[i]? = some a := fun a => by simp [hi]
  rw [round_v]; simp only [loopAt, nthC, bodyC, loops, List.nil_append, List.cons_append, List.append_nil, Try.f101, mkS, ← h3, ← h2]
  simp (disch := omega) [go_sem, tab101, h1, hs, List.set_set]
theorem mkI_x (call : CallV) (hl : l.length < 100000000) :
    vCode Try.prog kn call 101 (loopAt Try.f101 0) (mkS h i l k l.length).1 (mkS h i l k l.length).2 = some (.exit 0, (mkS h i l k l.length).1 ++ [(9, some (.bool false))], (mkS h i l k l.length).2) := by
  rw [round_v]; simp only [loopAt, nthC, bodyC, loops, List.nil_append, List.cons_append, List.append_nil, Try.f101, mkS]
  simp (disch := omega) [go_sem, tab101]
theorem markIntS_v (d : Nat) (hi : h[i]? = some (.ints true .i64 l)) (hl : l.length < 100000000) (hk : 0 ≤ k) (hk' : k < 1000000000) :
    vrun Try.prog kn (d + 1) 101 [.sl i 0 l.length 1, .int .i64 k] h = some (.int .i64 (k + l.length), h.set i (.ints true .i64 (iota k l.length))) := by
  have hi' : i < h.length := (List.getElem?_eq_some_iff.1 hi).1
  have hl0 := fun ks => loop_v (P := Try.prog) (K := kn) (ks := ks) (vi_for (mkS h i l k) l.length (n := kn.cf.rounds) (by rw [k_cf, c_rounds]; omega) (fun j hj => mkI_r (vrun Try.prog kn d) hi' hl hk hk' hj) fun m => vi_exit (mkI_x _ hl))
  simp only [loopAt, nthC, bodyC, loops, List.nil_append, List.cons_append, List.append_nil, Try.f101, mkS, Int.natCast_zero, Int.add_zero, List.cons_append, List.nil_append, mkL_0, mkL_end, set_self hi] at hl0
  rw [vrun_v Try.func101 rfl rfl rfl]; simp only [Try.f101]
  simp (disch := omega) [go_sem, tab101, hl0]
theorem ge_app {n : Nat} {o : VO} (a : List VO) (hn : h[n]? = some o) : (h ++ a)[n]? = some o := by
  rw [List.getElem?_append_left (List.getElem?_eq_some_iff.1 hn).1]; exact hn
theorem set_app {n : Nat} {o : VO} (a : List VO) (q : VO) (hn : h[n]? = some o) : (h ++ a).set n q = h.set n q ++ a := List.set_append_left _ _ (List.getElem?_eq_some_iff.1 hn).1
theorem markNat_v (d : Nat) (hi : h[i]? = some (.ints true .i64 l)) (hl : l.length < 100000000) (hk : 0 ≤ k) (hk' : k < 1000000000) :
    vrun Try.prog kn (d + 2) 57 [.agg [.sl i 0 l.length 1], .int .i64 k] h = some (.int .i64 (k + l.length), h.set i (.ints true .i64 (iota k l.length)) ++ [.vals true [.sl i 0 l.length 1]]) := by
  have h1 := markIntS_v (h := h ++ [.vals true [.sl i 0 l.length 1]]) d (ge_app _ hi) hl hk hk'
  rw [set_app _ _ hi] at h1
  rw [vrun_v Try.func57 rfl rfl rfl]; simp only [Try.f57]
  simp (disch := omega) [go_sem, tab57, h1, List.getElem?_concat_length]
theorem markWhole_v (d : Nat) {n : Bool} (hi : h[i]? = some (.ints true .i64 l)) (hl : l.length < 100000000) (hk : 0 ≤ k) (hk' : k < 1000000000) :
    vrun Try.prog kn (d + 3) 24 [.agg [.bool n, .sl i 0 l.length 1], .int .i64 k] h = some (.int .i64 (k + l.length), h.set i (.ints true .i64 (iota k l.length)) ++ [.vals true [.bool n, .sl i 0 l.length 1], .vals true [.sl i 0 l.length 1]]) := by
  have h1 := markNat_v (h := h ++ [.vals true [.bool n, .sl i 0 l.length 1]]) d (ge_app _ hi) hl hk hk'
  rw [set_app _ _ hi, List.append_assoc] at h1
  rw [vrun_v Try.func24 rfl rfl rfl]; simp only [Try.f24]
  simp (disch := omega) [go_sem, tab24, h1, List.getElem?_concat_length]
/-! ### as rules that read the heap -/
def mkStep (r : Option (V × VH)) (i m : Nat) (k : Int) (h : VH) (tail : List VO) : Option VO → Option (V × VH)
  | some (.ints true .i64 l) => if l.length = m ∧ l.length < 100000000 ∧ 0 ≤ k ∧ k < 1000000000 then some (.int .i64 (k + m), h.set i (.ints true .i64 (iota k m)) ++ tail) else r
  | _ => r
theorem mkStep_i (r : Option (V × VH)) (i m : Nat) (k : Int) (h : VH) (tail : List VO) (l : List Int) : mkStep r i m k h tail (some (.ints true .i64 l)) = if l.length = m ∧ l.length < 100000000 ∧ 0 ≤ k ∧ k < 1000000000 then some (.int .i64 (k + m), h.set i (.ints true .i64 (iota k m)) ++ tail) else r := rfl
theorem mkStep_of {r : Option (V × VH)} {i m : Nat} {k : Int} {h : VH} {tail : List VO} (hr : ∀ l, h[i]? = some (.ints true .i64 l) → l.length = m → l.length < 100000000 → 0 ≤ k → k < 1000000000 → r = some (.int .i64 (k + m), h.set i (.ints true .i64 (iota k m)) ++ tail)) : r = mkStep r i m k h tail h[i]? := by
  unfold mkStep
  split
  · rename_i l hl
    split
    · rename_i hc
      exact hr l hl hc.1 hc.2.1 hc.2.2.1 hc.2.2.2
    · rfl
  · rfl
noncomputable def xMarkIntS (d i m : Nat) (k : Int) (h : VH) := vrun Try.prog kn (d + 1) 101 [.sl i 0 m 1, .int .i64 k] h
noncomputable def xMarkNat (d i m : Nat) (k : Int) (h : VH) := vrun Try.prog kn (d + 2) 57 [.agg [.sl i 0 m 1], .int .i64 k] h
noncomputable def xMarkWhole (d : Nat) (n : Bool) (i m : Nat) (k : Int) (h : VH) := vrun Try.prog kn (d + 3) 24 [.agg [.bool n, .sl i 0 m 1], .int .i64 k] h
theorem markIntS_s (d i m : Nat) (k : Int) (h : VH) : vrun Try.prog kn (d + 1) 101 [.sl i 0 m 1, .int .i64 k] h = mkStep (xMarkIntS d i m k h) i m k h [] h[i]? :=
  mkStep_of (r := xMarkIntS d i m k h) fun l hi hm h1 h2 h3 => by subst hm; rw [List.append_nil]; exact markIntS_v d hi h1 h2 h3
theorem markNat_s (d i m : Nat) (k : Int) (h : VH) : vrun Try.prog kn (d + 2) 57 [.agg [.sl i 0 m 1], .int .i64 k] h = mkStep (xMarkNat d i m k h) i m k h [.vals true [.sl i 0 m 1]] h[i]? :=
  mkStep_of (r := xMarkNat d i m k h) fun l hi hm h1 h2 h3 => by subst hm; exact markNat_v d hi h1 h2 h3
theorem markWhole_s (d : Nat) (n : Bool) (i m : Nat) (k : Int) (h : VH) : vrun Try.prog kn (d + 3) 24 [.agg [.bool n, .sl i 0 m 1], .int .i64 k] h = mkStep (xMarkWhole d n i m k h) i m k h [.vals true [.bool n, .sl i 0 m 1], .vals true [.sl i 0 m 1]] h[i]? :=
  mkStep_of (r := xMarkWhole d n i m k h) fun l hi hm h1 h2 h3 => by subst hm; exact markWhole_v d hi h1 h2 h3
end
section
variable {k : Int} {n : Nat}
def heS (k : Int) (n j : Nat) : VE × VH := ([(0, some (.ints .i64 (iota k n))), (1, some (.int .i64 (k + j))), (5, some (.int .i64 j))], [])
theorem he_r (call : CallV) (hn : n < 100000000) (hk : 0 ≤ k) (hk' : k < 1000000000) {j : Nat} (hj : j < n) : vCode Try.prog kn call 102 (loopAt Try.f102 0) (heS k n j).1 (heS k n j).2 = some (.norm, heS k n (j + 1)) := by
  have h1 := gt_iota (k := k) hj
  have h2 := iota_len k n
  have h3 : k + j + 1 = k + ((j + 1 : Nat) : Int) := by omega
  rw [round_v]; simp only [loopAt, nthC, bodyC, loops, List.nil_append, List.cons_append, List.append_nil, Try.f102, heS, ← h3]
  simp (disch := omega) [go_sem, tab102, h1, h2]
theorem he_x (call : CallV) (hn : n < 100000000) : vCode Try.prog kn call 102 (loopAt Try.f102 0) (heS k n n).1 (heS k n n).2 = some (.exit 0, (heS k n n).1 ++ [(9, some (.bool false))], (heS k n n).2) := by
  have h2 := iota_len k n
  rw [round_v]; simp only [loopAt, nthC, bodyC, loops, List.nil_append, List.cons_append, List.append_nil, Try.f102, heS]
  simp (disch := omega) [go_sem, tab102, h2]
theorem heldIntS_v (d : Nat) (hn : n < 100000000) (hk : 0 ≤ k) (hk' : k < 1000000000) : vrun Try.prog kn (d + 1) 102 [.ints .i64 (iota k n), .int .i64 k] [] = some (.int .i64 (k + n), []) := by
  have hl0 := fun ks => loop_v (P := Try.prog) (K := kn) (ks := ks) (vi_for (heS k n) n (n := kn.cf.rounds) (by rw [k_cf, c_rounds]; omega) (fun j hj => he_r (vrun Try.prog kn d) hn hk hk' hj) fun m => vi_exit (he_x _ hn))
  simp only [loopAt, nthC, bodyC, loops, List.nil_append, List.cons_append, List.append_nil, Try.f102, heS, Int.natCast_zero, Int.add_zero, List.cons_append, List.nil_append] at hl0
  rw [vrun_v Try.func102 rfl rfl rfl]; simp only [Try.f102]
  simp (disch := omega) [go_sem, tab102, hl0]
theorem heldNat_v (d : Nat) (hn : n < 100000000) (hk : 0 ≤ k) (hk' : k < 1000000000) : vrun Try.prog kn (d + 2) 58 [.agg [.ints .i64 (iota k n)], .int .i64 k] [] = some (.int .i64 (k + n), []) := by
  have h1 := fun d => heldIntS_v d hn hk hk'
  rw [vrun_v Try.func58 rfl rfl rfl]; simp only [Try.f58]
  simp (disch := omega) [go_sem, tab58, h1]
theorem heldWhole_v (d : Nat) {b : Bool} (hn : n < 100000000) (hk : 0 ≤ k) (hk' : k < 1000000000) : vrun Try.prog kn (d + 3) 25 [.agg [.bool b, .ints .i64 (iota k n)], .int .i64 k] [] = some (.int .i64 (k + n), []) := by
  have h1 := fun d => heldNat_v d hn hk hk'
  rw [vrun_v Try.func25 rfl rfl rfl]; simp only [Try.f25]
  simp (disch := omega) [go_sem, tab25, h1]
end
end
/- The exact laws copy an argument (each in memory of its own): lists, naturals, wholes, dyadics. No conditions. -/
section
open Num
section
variable {l : List Int}
def cpL (l : List Int) (j : Nat) : List Int := l.take j ++ List.replicate (l.length - j) 0
theorem cpL_len {j : Nat} (h : j ≤ l.length) : (cpL l j).length = l.length := by unfold cpL; simp; omega
theorem cpL_set {j : Nat} (h : j < l.length) : (cpL l j).set j (gt l j) = cpL l (j + 1) := by
  have hj : l[j]? = some (gt l j) := by rw [gt]; simp [h]
  unfold cpL
  rw [List.set_append_right _ _ (by simp; omega), List.take_add_one, hj, show l.length - j = (l.length - (j + 1)) + 1 by omega, List.replicate_succ]
  simp [show j - min j l.length = 0 by omega]
theorem cpL_end : cpL l l.length = l := by unfold cpL; simp
theorem cpL_0 : cpL l 0 = List.replicate l.length 0 := by unfold cpL; simp
def toIS (l : List Int) (j : Nat) : VE × VH := ([(0, some (.ints .i64 l)), (3, some (.sl 0 0 l.length 1)), (4, some (.int .i64 j))], [.ints true .i64 (cpL l j)])
theorem toI_r (d : Nat) {j : Nat} (hl : l.length < 1000000000) (hj : j < l.length) : vCode Try.prog kn (vrun Try.prog kn d) 83 (loopAt Try.f83 0) (toIS l j).1 (toIS l j).2 = some (.norm, toIS l (j + 1)) := by
  have h1 := cpL_len (l := l) (Nat.le_of_lt hj)
  rw [round_v]; simp only [loopAt, nthC, bodyC, loops, List.nil_append, List.cons_append, List.append_nil, Try.f83, toIS]
  simp (disch := omega) [go_sem, tab83, nil83, h1, cpL_set hj]
theorem toI_x (d : Nat) (hl : l.length < 1000000000) : vCode Try.prog kn (vrun Try.prog kn d) 83 (loopAt Try.f83 0) (toIS l l.length).1 (toIS l l.length).2 = some (.exit 0, (toIS l l.length).1 ++ [(11, some (.bool false))], (toIS l l.length).2) := by
  rw [round_v]; simp only [loopAt, nthC, bodyC, loops, List.nil_append, List.cons_append, List.append_nil, Try.f83, toIS]
  simp (disch := omega) [go_sem, tab83, nil83]
theorem toIntS_v (d : Nat) (hl : l.length < 1000000000) : vrun Try.prog kn (d + 1) 83 [.ints .i64 l] [] = some (.sl 0 0 l.length 1, [.ints true .i64 l]) := by
  have hl0 := fun ks => loop_v (P := Try.prog) (K := kn) (ks := ks) (vi_for (toIS l) l.length (n := kn.cf.rounds) (by rw [k_cf, c_rounds]; omega) (fun j hj => toI_r d hl hj) fun m => vi_exit (toI_x d hl))
  simp only [loopAt, nthC, bodyC, loops, List.nil_append, List.cons_append, List.append_nil, Try.f83, toIS, Int.natCast_zero, List.cons_append, List.nil_append, cpL_0, cpL_end] at hl0
  rw [vrun_v Try.func83 rfl rfl rfl]; simp only [Try.f83]
  simp (disch := omega) [go_sem, tab83, nil83, hl0]
theorem toNat_v (d : Nat) (hl : l.length < 1000000000) : vrun Try.prog kn (d + 2) 38 [.agg [.ints .i64 l]] [] = some (.agg [.sl 0 0 l.length 1], [.ints true .i64 l]) := by
  have h1 := fun d => toIntS_v d hl
  rw [vrun_v Try.func38 rfl rfl rfl]; simp only [Try.f38]
  simp (disch := omega) [go_sem, tab38, h1]
theorem toWhole_v (d : Nat) {n : Bool} (hl : l.length < 1000000000) : vrun Try.prog kn (d + 3) 29 [.agg [.bool n, .ints .i64 l]] [] = some (.agg [.bool n, .sl 0 0 l.length 1], [.ints true .i64 l]) := by
  have h1 := fun d => toNat_v d hl
  rw [vrun_v Try.func29 rfl rfl rfl]; simp only [Try.f29]
  simp (disch := omega) [go_sem, tab29, h1]
theorem toDy_v (d : Nat) {n : Bool} {e : Int} (hl : l.length < 1000000000) : vrun Try.prog kn (d + 4) 8 [.agg [.bool n, .ints .i64 l, .int .i64 e]] [] = some (.agg [.bool n, .sl 0 0 l.length 1, .int .i64 e], [.ints true .i64 l]) := by
  have h1 := fun d => toWhole_v (n := n) d hl
  rw [vrun_v Try.func8 rfl rfl rfl]; simp only [Try.f8]
  simp (disch := omega) [go_sem, tab8, h1]
end
end
/- The laws' types as values. No conditions. -/
section
open Go.Proofs Num
def DyT.row (x : DyT) : Prop := x.l.length ≤ 9223372036854775807 ∧ (∀ y ∈ x.l, (Lit.int .i64 y).wf = true) ∧ (Lit.int .i64 x.e).wf = true
def TInt (vs : List V) : Prop := ∃ x : Int, vs = [.int .i64 x] ∧ (Lit.int .i64 x).wf = true
def TBool (vs : List V) : Prop := ∃ x : Bool, vs = [.bool x]
def TInts (vs : List V) : Prop := ∃ l : List Int, vs = [.ints .i64 l] ∧ l.length ≤ 9223372036854775807 ∧ ∀ x ∈ l, (Lit.int .i64 x).wf = true
def TDys (vs : List V) : Prop := ∃ ds : List DyT, vs = [.cells 3 ds.length (flat DyT.v ds)] ∧ ds.length ≤ 9223372036854775807 ∧ ∀ x ∈ ds, x.row
theorem opInt : OpV Try.prog 3 1 TInt := OpV.int Try.underlying3 (by kernel_rfl)
theorem opBool : OpV Try.prog 4 1 TBool := OpV.bool Try.underlying4 (by kernel_rfl)
theorem opInts : OpV Try.prog 22 1 TInts := OpV.ints Try.underlying22 (by kernel_rfl) Try.underlying3 (by kernel_rfl)
theorem opNat : OpV Try.prog 24 1 TInts := OpV.struct1 Try.underlying24 (by kernel_rfl) rfl opInts
theorem opWhole : OpV Try.prog 26 2 (fun vs => ∃ (n : Bool) (l : List Int), vs = [.bool n, .ints .i64 l] ∧ l.length ≤ 9223372036854775807 ∧ ∀ x ∈ l, (Lit.int .i64 x).wf = true) :=
  (OpV.struct2 Try.underlying26 (by kernel_rfl) rfl rfl opBool opNat).imp fun vs ⟨_, _, e, ⟨n, e1⟩, ⟨l, e2, h1, h2⟩⟩ => ⟨n, l, by rw [e, e1, e2]; rfl, h1, h2⟩
theorem opDy : OpV Try.prog 28 3 (fun vs => ∃ x : DyT, vs = x.v ∧ x.row) :=
  (OpV.struct2 Try.underlying28 (by kernel_rfl) rfl rfl opWhole opInt).imp fun vs ⟨_, _, e, ⟨n, l, e1, h1, h2⟩, ⟨x, e2, h3⟩⟩ => ⟨⟨n, l, x⟩, by rw [e, e1, e2]; rfl, h1, h2, h3⟩
end
/- Floats and decimal numbers of the laws as values. No conditions. -/
section
open Go.Proofs Num
theorem opFl : OpV Try.prog 54 4 (fun vs => ∃ (a : Int) (b : Bool) (c e : Int), vs = [.int .i64 a, .bool b, .int .i64 c, .int .i64 e] ∧ (Lit.int .i64 a).wf = true ∧ (Lit.int .i64 c).wf = true ∧ (Lit.int .i64 e).wf = true) :=
  (OpV.struct4 Try.underlying54 (by kernel_rfl) rfl rfl rfl rfl opInt opBool opInt opInt).imp fun vs ⟨_, _, _, _, e, ⟨a, e1, h1⟩, ⟨b, e2⟩, ⟨c, e3, h3⟩, ⟨x, e4, h4⟩⟩ => ⟨a, b, c, x, by rw [e, e1, e2, e3, e4]; rfl, h1, h3, h4⟩
theorem opDec : OpV Try.prog 45 3 (fun vs => ∃ (n : Bool) (l : List Int) (e : Int), vs = [.bool n, .ints .i64 l, .int .i64 e] ∧ l.length ≤ 9223372036854775807 ∧ (∀ x ∈ l, (Lit.int .i64 x).wf = true) ∧ (Lit.int .i64 e).wf = true) :=
  (OpV.struct3 Try.underlying45 (by kernel_rfl) rfl rfl rfl opBool opNat opInt).imp fun vs ⟨_, _, _, e, ⟨n, e1⟩, ⟨l, e2, h1, h2⟩, ⟨x, e3, h3⟩⟩ => ⟨n, l, x, by rw [e, e1, e2, e3]; rfl, h1, h2, h3⟩
end
end Go.Eng
