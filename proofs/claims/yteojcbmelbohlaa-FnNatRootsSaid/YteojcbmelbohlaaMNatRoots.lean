/- What the functions of this seat do, one after another, told by plain values. No conditions. -/
import Derived.Test.YteojcbmelbohlaaSeat
import Derived.Test.YteojcbmelbohlaaVb
import Derived.Test.YteojcbmelbohlaaT3
set_option linter.unusedVariables false
set_option linter.unusedSimpArgs false
namespace Go.Eng
open Go.Proofs
set_option maxRecDepth 100000
set_option linter.unusedSimpArgs false
attribute [local go_sem] r_seq r_skip r_retC r_exitC r_label r_block r_region r_regionW r_xWt r_xW r_cond r_Bt r_Bf r_Ncode r_Nret r_Nexit r_Nblk r_Nblkr r_Nblke r_Nnil r_Es r_Onil r_Oop r_Oif r_Xs r_Gt r_Gf r_wtt r_wtf r_wft r_wff r_wu r_gO r_putS r_putN r_get r_keepN r_keepC r_fr r_fn r_fi r_ff r_fo r_l1 r_l2t r_cun r_cul r_cub r_cui r_cus r_cuis r_cuc r_cusl r_cuti r_cutv r_ven r_vec r_l2f r_l3 r_t1 r_t2 r_t0 r_rt r_rc r_en r_ec r_cM r_oN r_oC r_end r_endt r_endf r_nob0 r_nobN r_nobC r_nobE r_nb0 r_nbi r_nbs r_nbsl r_nbin r_nbce r_nLn r_nLv r_nLc r_nAa r_nAn r_nAk_b r_nAk_i r_nAk_s r_nAk_n r_nAk_is r_nAk_ce r_nAk_fp r_nAk_sl r_nAk_pt r_nAk_fn r_nsn r_nsv r_nsc r_m0 r_mi r_ms r_msl r_min r_mce r_mLn r_mLv r_mLc r_mAa r_mAn r_mAk_b r_mAk_i r_mAk_s r_mAk_n r_mAk_is r_mAk_ce r_mAk_fp r_mAk_sl r_mAk_pt r_mAk_fn r_msn r_msv r_msc r_atb r_ati r_ats r_atn r_atis r_atc r_atf r_atl r_atp r_atfn r_gcn r_gcc r_gLn r_gLc r_gIt r_ndn r_ndc r_gcB r_gLB r_two r_rea r_rea0 r_re1n r_re1c r_ori r_orv r_ord r_orn r_adn r_adc r_ad1 r_ern r_ers r_er0 r_rsl r_rptr r_rb r_ri r_rs r_rn r_ris r_rce r_rfp r_ra4 r_ra3 r_rt4 r_rf4 r_rf3 r_idS r_idc r_nS r_nP r_nF r_nT r_vsl r_vptr r_vb r_vi r_vs r_vn r_vis r_vce r_vfp r_va4 r_va3 r_vt4 r_vf4 r_vf3 r_rV r_Oi r_Ov r_Od r_rE r_rE0 r_En r_Ec r_E0 r_pO r_pk r_agL r_cO r_fO r_fSi r_fSv r_fPv r_fsl r_fptr r_ffn r_fag r_fb r_fint r_fstr r_fnil r_fis r_fce r_ffp r_res r_move r_assign r_pick r_pickt r_pickf r_alloc r_box r_al r_build r_bslice r_load r_store r_nlc r_nl1 r_nl2 r_bin r_un r_conv r_mkf r_mks r_slc r_fad r_fld r_iad r_idx r_ext r_ex1 r_callf r_callt r_callen r_calapp r_calmax r_calmin r_vt r_vcb r_vci r_vcs r_vcnp r_vcn r_vca r_vcf r_vcg r_ofb r_ofi r_ofs r_ofn r_evs r_pn r_prt r_pc r_one_a r_one_b r_one_i r_one_s r_one_n r_one_is r_one_ce r_one_fp r_one_sl r_one_pt r_one_fn r_cs_a r_cs_b r_cs_i r_cs_s r_cs_n r_cs_is r_cs_ce r_cs_fp r_cs_sl r_cs_pt r_cs_fn r_tov r_tovA r_toc r_toa r_tb r_ti r_ts r_tn r_bd r_bd2 r_filn r_fp1 r_filc r_fsn r_fsc r_san r_sac r_bs2 r_bs1 r_newO r_mkq r_mkI r_mkOi r_mkOv r_tIn r_tIc r_repz r_repn r_ldp r_ldf r_l1t r_l1f r_lFt r_lFf r_aggO r_obj r_at r_ati' r_atv r_celli r_cellv r_subi r_subv r_sto r_sto1 r_sto2 r_sets r_setR r_setn r_setc r_s1i r_s1v r_bin1 r_bin2 r_tv1 r_cb r_ci r_cst r_cn r_csl r_cis r_cce r_uni r_unb r_cv r_cvO r_cvN r_cv0 r_cvS r_wB r_cvi r_cvs r_cvb r_cvl r_sO r_rdn r_rdi r_rdl r_rdO r_vsub r_vfn r_mk r_mk1 r_mk2 r_zoi r_zov r_leni r_lenv r_bn r_bndV r_bo r_sl0 r_sl1 r_vsz r_ct1 r_cts r_cti r_ctc r_ctn r_lnl r_lni r_lnc r_lnn r_fa r_fap r_faf r_fi1 r_fit r_fif r_ixi r_ixs r_ixc r_ixf r_ixF r_ixF2 r_ix1 r_ixsl r_ixin r_ixce r_len1 r_lenA r_lTs r_lTn r_lTl r_lTi r_lTc r_app0 r_app r_app1 r_app2 r_app3 r_catO r_cati r_catv r_newt r_newf r_pair r_pairK r_trip r_kis r_kiv r_srn r_srl r_sri r_src r_srs r_oln r_oll r_vw r_wi r_wv r_mm r_max r_min' r_str r_cF r_c2t r_c3f r_c3t r_ab r_c2f r_cV r_p1 r_la r_la2t r_la2f r_la3 r_sh r_z_is r_z_ce r_z_fp r_z_b r_z_i r_z_s r_z_n r_z_l r_z_p r_z_a4 r_z_a3 r_z_t4 r_zoI r_zoV r_roN r_roC r_roi r_rod r_zod r_rov r_aR r_trOi r_trOv r_trPv r_trl r_trp r_trf r_tra r_trb r_tri r_trs r_trn r_tris r_trce r_trfp r_vJ r_vJs r_vJn
attribute [local go_sem] b_add b_sub b_mul b_quo b_rem b_shl b_shr b_eql b_neq b_lss b_leq b_gtr b_geq eqB_s b_eqB b_neB u_neg u_not b_nn b_nn' eqS_s zerosT_s zerosT_n zt_i zt_sl zt_st dstOf_z dstOf_n iltT iltF ileT ileF ieqT ieqF nltT nltF nleT nleF neqT neqF tdiv_pos tmod_pos w64 idx0 List.take_of_length_le
/- Trailing noughts of a limb, as the library counts them. No conditions. -/
section
open Num
theorem wu64' {x : Int} (h1 : 0 ≤ x) (h2 : x ≤ 18446744073709551615) : IntKind.wrap .u64 x = x := by
  simp [IntKind.wrap, IntKind.bits, IntKind.signed]; omega
theorem negu {x : Nat} (h0 : x ≠ 0) (hx : x < 65536) : IntKind.wrap .u64 (-(x : Int)) = ((2 ^ 64 - x : Nat) : Int) := by
  simp [IntKind.wrap, IntKind.bits, IntKind.signed]; omega
theorem andneg (P : Program) (ty : TypeId) {x t o : Nat} (h0 : x ≠ 0) (hx : x < 65536) (h : x = 2 ^ t * (2 * o + 1)) : binE P .and ty (.int .u64 (x : Int)) (.int .u64 ((2 ^ 64 - x : Nat) : Int)) = some (.int .u64 ((2 ^ t : Nat) : Int)) := by
  rw [b_and]
  have e : (BitVec.ofInt (IntKind.bits .u64) (x : Int) &&& BitVec.ofInt (IntKind.bits .u64) ((2 ^ 64 - x : Nat) : Int)).toNat = 2 ^ t := by
    show (BitVec.ofInt 64 (x : Int) &&& BitVec.ofInt 64 ((2 ^ 64 - x : Nat) : Int)).toNat = 2 ^ t
    rw [BitVec.toNat_and, BitVec.ofInt_natCast, BitVec.ofInt_natCast, BitVec.toNat_ofNat, BitVec.toNat_ofNat, Nat.mod_eq_of_lt (by omega), Nat.mod_eq_of_lt (by omega)]
    exact land_neg h (by omega)
  rw [e]
  have hle : 2 ^ t ≤ x := by rw [h]; exact Nat.le_mul_of_pos_right _ (by omega)
  rw [wu64' (by omega) (by omega)]
theorem tz16 {x t o : Nat} (hx : x < 65536) (h : x = 2 ^ t * (2 * o + 1)) : t < 16 := by
  have hle : 2 ^ t ≤ x := by rw [h]; exact Nat.le_mul_of_pos_right _ (by omega)
  exact (Nat.pow_lt_pow_iff_right (a := 2) (by omega)).1 (by omega : 2 ^ t < 2 ^ 16)
end
/- Square roots, program. No conditions. -/
section
open Num
section
variable {a x : Nat}
theorem top_dg (h0 : x ≠ 0) : x / 65536 ^ ((D x).length - 1) % 65536 = x / 65536 ^ ((D x).length - 1) ∧ x / 65536 ^ ((D x).length - 1) ≠ 0 ∧ 0 < (D x).length := by
  have hp : 0 < (D x).length := List.length_pos_iff.2 fun e => h0 (D_nil_iff.1 e)
  have h1 := le_of_len_D h0
  have h2 := lt_len_D x
  have e : 65536 ^ (D x).length = 65536 ^ ((D x).length - 1) * 65536 := by rw [← Nat.pow_succ]; congr 1; omega
  have h3 : x / 65536 ^ ((D x).length - 1) < 65536 := Nat.div_lt_of_lt_mul (by rw [← e]; exact h2)
  exact ⟨Nat.mod_eq_of_lt h3, by have := Nat.div_pos h1 (powN_pos _); omega, hp⟩
theorem bitsOf_v (d : Nat) (hx : (D x).length < 1000000) : vrun Try.prog kn (d + 3) 149 [.ints .i64 (D x)] [] = some (.int .i64 (nb x), []) := by
  by_cases h0 : x = 0
  · subst h0
    rw [D_zero, nb_zero]
    rw [vrun_v Try.func149 rfl rfl rfl]; simp only [Try.f149]
    simp (implicitDefEqProofs := false) (disch := omega) [go_sem, tab149]
  · obtain ⟨t1, t2, t3⟩ := top_dg h0
    have hnb := nb_top t2
    have hlt : x / 65536 ^ ((D x).length - 1) < 65536 := by rw [← t1]; exact Nat.mod_lt _ (by omega)
    have a1 := fun d => Len_v (x := x / 65536 ^ ((D x).length - 1)) d hlt
    have hg : gt (D x) ((D x).length - 1) = ((x / 65536 ^ ((D x).length - 1) : Nat) : Int) := by rw [gt_D]; unfold dg; rw [t1]
    have hb := nb_16 hlt
    rw [hnb]
    have hne : D x ≠ [] := fun e => h0 (D_nil_iff.1 e)
    generalize x / 65536 ^ ((D x).length - 1) = q at *
    generalize D x = L at *
    have hw : IntKind.wrap .u64 (q : Int) = q := wu64' (by omega) (by omega)
    have e1 : ((L.length : Int) - 1).toNat = L.length - 1 := by omega
    have e2 : 16 * ((L.length : Int) - 1) + (nb q : Int) = ((16 * (L.length - 1) + nb q : Nat) : Int) := by omega
    rw [vrun_v Try.func149 rfl rfl rfl]; simp only [Try.f149]
    simp (implicitDefEqProofs := false) (disch := omega) [go_sem, tab149, a1, hg, hne, hw, e1, e2]
def rtS (a x : Nat) : VE × VH := ([(0, some (.ints .i64 (D a))), (3, some (.sl 0 0 (D x).length 1))], [.ints true .i64 (D x)])
theorem nst_len (hx : (D x).length < 100000) (ha : (D a).length < 100000) : (D (x + a / x)).length < 100002 := by
  have h1 := len_D_mono (Nat.div_le_self a x)
  have := len_add (x := x) (y := a / x) (n := 100000) (by omega) (by omega)
  omega
theorem rt_r (d : Nat) (ha : (D a).length < 100000) (hx : (D x).length < 100000) (h0 : x ≠ 0) (hs : nst a x < x) : vCode Try.prog kn (vrun Try.prog kn (d + 4)) 102 (loopAt Try.f102 0) (rtS a x).1 (rtS a x).2 = some (.norm, rtS a (nst a x)) := by
  have a1 := fun d => divide_v (x := a) (y := x) d (by omega) (by omega) h0
  have h1 := len_D_mono (Nat.div_le_self a x)
  have a2 := fun d => plus_v (x := x) (y := a / x) d (by omega) (by omega)
  have hl := nst_len hx ha
  have a3 := fun d => down_v (x := x + a / x) (k := 1) d (by omega) (by omega)
  rw [Nat.pow_one, show (x + a / x) / 2 = nst a x from rfl, show ((1 : Nat) : Int) = 1 from rfl] at a3
  have hl2 := len_D_mono (Nat.le_of_lt hs)
  have a4 := fun d => compare_v (x := nst a x) (y := x) d (by omega) (by omega)
  have hc : cmpI (nst a x) x = -1 := by unfold cmpI; rw [if_pos hs]
  rw [hc] at a4
  unfold rtS
  generalize D (a % x) = R at *
  generalize D (x + a / x) = P at *
  generalize D (a / x) = Q at *
  generalize D (nst a x) = Y at *
  generalize D x = X at *
  generalize D a = A at *
  rw [round_v]; simp only [loopAt, nthC, bodyC, loops, List.nil_append, List.cons_append, List.append_nil, Try.f102]
  simp (implicitDefEqProofs := false) (disch := omega) [go_sem, tab102, nil102, a1, a2, a3, a4]
theorem rt_x (d : Nat) (ha : (D a).length < 100000) (hx : (D x).length < 100000) (h0 : x ≠ 0) (hs : x ≤ nst a x) : vCode Try.prog kn (vrun Try.prog kn (d + 4)) 102 (loopAt Try.f102 0) (rtS a x).1 (rtS a x).2 = some (.ret, [(2, some (.sl 0 0 (D x).length 1))], [.ints true .i64 (D x)]) := by
  have a1 := fun d => divide_v (x := a) (y := x) d (by omega) (by omega) h0
  have h1 := len_D_mono (Nat.div_le_self a x)
  have a2 := fun d => plus_v (x := x) (y := a / x) d (by omega) (by omega)
  have hl := nst_len hx ha
  have a3 := fun d => down_v (x := x + a / x) (k := 1) d (by omega) (by omega)
  rw [Nat.pow_one, show (x + a / x) / 2 = nst a x from rfl, show ((1 : Nat) : Int) = 1 from rfl] at a3
  have hl2 : (D (nst a x)).length ≤ (D (x + a / x)).length := len_D_mono (Nat.div_le_self _ _)
  have a4 := fun d => compare_v (x := nst a x) (y := x) d (by omega) (by omega)
  have hc : ¬ cmpI (nst a x) x < 0 := by unfold cmpI; rw [if_neg (by omega)]; split <;> omega
  unfold rtS
  generalize cmpI (nst a x) x = c at *
  generalize D (a % x) = R at *
  generalize D (x + a / x) = P at *
  generalize D (a / x) = Q at *
  generalize D (nst a x) = Y at *
  generalize D x = X at *
  generalize D a = A at *
  rw [round_v]; simp only [loopAt, nthC, bodyC, loops, List.nil_append, List.cons_append, List.append_nil, Try.f102]
  simp (implicitDefEqProofs := false) (disch := omega) [go_sem, tab102, nil102, a1, a2, a3, a4, hc]
theorem rt_bd (a : Nat) : rt a ≤ 2 ^ ((nb a + 1) / 2) := by
  have h1 := nb_lt a
  have h2 := rt_le a
  rcases Nat.lt_or_ge (2 ^ ((nb a + 1) / 2)) (rt a) with h | h
  · have h3 : 2 ^ ((nb a + 1) / 2) * 2 ^ ((nb a + 1) / 2) ≤ rt a * rt a := Nat.mul_le_mul (Nat.le_of_lt h) (Nat.le_of_lt h)
    rw [← Nat.pow_add] at h3
    have h4 : 2 ^ nb a ≤ 2 ^ ((nb a + 1) / 2 + (nb a + 1) / 2) := Nat.pow_le_pow_right (by omega) (by omega)
    omega
  · exact h
theorem nb_len (a : Nat) : nb a ≤ 16 * (D a).length := by
  by_cases h0 : a = 0
  · subst h0; rw [nb_zero]; omega
  · obtain ⟨h1, h2⟩ := nb_le h0
    have h3 := lt_len_D a
    have e : 65536 ^ (D a).length = 2 ^ (16 * (D a).length) := by rw [Nat.pow_mul]
    rw [e] at h3
    have := (Nat.pow_lt_pow_iff_right (by omega : 1 < 2)).1 (Nat.lt_of_le_of_lt h1 h3)
    omega
theorem rootOf_v (d : Nat) (ha : (D a).length < 10000) : vrun Try.prog kn (d + 5) 102 [.ints .i64 (D a)] [] = some (.sl 0 0 (D (rt a)).length 1, [.ints true .i64 (D (rt a))]) := by
  by_cases h0 : a = 0
  · subst h0
    have : rt 0 = 0 := rfl
    rw [this, D_zero]
    rw [vrun_v Try.func102 rfl rfl rfl]; simp only [Try.f102]
    simp (implicitDefEqProofs := false) (disch := omega) [go_sem, tab102, nil102]
  · have hnb := nb_len a
    obtain ⟨K, hK⟩ : ∃ K, K = (nb a + 1) / 2 := ⟨_, rfl⟩
    have hb := rt_bd a
    rw [← hK] at hb
    have hp := rt_pos (a := a) (by omega)
    have hX : (D (1 * 2 ^ K)).length < 90000 := by
      have := len_shl 1 K
      have : (D 1).length ≤ 1 := len_small (by omega)
      omega
    have hlx : ∀ x, x ≤ 2 ^ K → (D x).length < 100000 := fun x hx => by
      have := len_D_mono hx
      rw [Nat.one_mul] at hX; omega
    have hrun := nst_run (a := a) (body := vCode Try.prog kn (vrun Try.prog kn (d + 0 + 4)) 102 (loopAt Try.f102 0)) (S := rtS a) (R := (.ret, [(2, some (.sl 0 0 (D (rt a)).length 1))], [.ints true .i64 (D (rt a))])) (X := 2 ^ K) (by omega)
      (fun x h1 h2 h3 => rt_r _ (by omega) (hlx x h2) (by omega) h3) (rt_x _ (by omega) (hlx _ hb) (by omega) (nst_ge (rt_le a) hp)) (by simp) K kn.cf.rounds (2 ^ K) hb (Nat.le_refl _) (by omega) (by rw [k_cf, c_rounds]; omega)
    have hl0 := fun ks => loop_v (P := Try.prog) (K := kn) (ks := ks) hrun
    simp only [loopAt, nthC, bodyC, loops, List.nil_append, List.cons_append, List.append_nil, Try.f102, rtS] at hl0
    have a1 := fun d => small_v (n := 1) d (by omega)
    have a2 := fun d => bitsOf_v (x := a) d (by omega)
    have a3 := fun d => up_v (x := 1) (k := K) d (by have : (D 1).length ≤ 1 := len_small (by omega); omega) (by omega)
    rw [show ((1 : Nat) : Int) = 1 from rfl] at a1
    rw [Nat.one_mul] at a3
    have hne : D a ≠ [] := fun e => h0 (D_nil_iff.1 e)
    have hlp : 0 < (D a).length := List.length_pos_iff.2 hne
    have eK : ((nb a : Int) + 1) / 2 = (K : Int) := by omega
    have l1 : (D 1).length ≤ 1 := len_small (by omega)
    clear hrun hlx hX hb
    generalize D (2 ^ K) = X at *
    generalize D (rt a) = R at *
    generalize D 1 = o at *
    generalize D a = A at *
    rw [vrun_v Try.func102 rfl rfl rfl]; simp only [Try.f102]
    simp (implicitDefEqProofs := false) (disch := omega) [go_sem, tab102, nil102, a1, a2, a3, hl0, hne, eK]
def nrR (l : List Int) : List Int := if natOkB l then D (rt (nN l)) else []
theorem rt_self (a : Nat) : rt a ≤ a := by
  have h := rt_le a
  rcases Nat.eq_zero_or_pos (rt a) with h0 | h0
  · omega
  · exact Nat.le_trans (Nat.le_mul_of_pos_left _ h0) h
theorem NatRoot_v (d : Nat) {l : List Int} (hl : l.length < 1000000000) : vrun Try.prog kn (d + 8) 42 [.agg [.ints .i64 l]] [] = some (.agg [.sl 0 0 (nrR l).length 1], [.ints true .i64 (nrR l)]) := by
  have a1 := fun d => NatOk_v d hl
  unfold nrR
  cases h : natOkB l with
  | false =>
    rw [h] at a1
    rw [vrun_v Try.func42 rfl rfl rfl]; simp only [Try.f42]
    simp (implicitDefEqProofs := false) (disch := omega) [go_sem, tab42, a1]
  | true =>
    rw [h] at a1
    obtain ⟨e1, l1⟩ := okN h
    have a2 := fun d => rootOf_v (a := nN l) d (by omega)
    have l2 := len_D_mono (rt_self (nN l))
    rw [← e1] at a2
    simp only [if_true]
    generalize D (rt (nN l)) = T at *
    rw [vrun_v Try.func42 rfl rfl rfl]; simp only [Try.f42]
    simp (implicitDefEqProofs := false) (disch := omega) [go_sem, tab42, a1, a2]
end
end
/- The laws' types as values. No conditions. -/
section
open Go.Proofs Num
def DyT.row (x : DyT) : Prop := x.l.length ≤ 9223372036854775807 ∧ (∀ y ∈ x.l, (Lit.int .i64 y).wf = true) ∧ (Lit.int .i64 x.e).wf = true
def TInt (vs : List V) : Prop := ∃ x : Int, vs = [.int .i64 x] ∧ (Lit.int .i64 x).wf = true
def TBool (vs : List V) : Prop := ∃ x : Bool, vs = [.bool x]
def TInts (vs : List V) : Prop := ∃ l : List Int, vs = [.ints .i64 l] ∧ l.length ≤ 9223372036854775807 ∧ ∀ x ∈ l, (Lit.int .i64 x).wf = true
def TDys (vs : List V) : Prop := ∃ ds : List DyT, vs = [.cells 3 ds.length (flat DyT.v ds)] ∧ ds.length ≤ 9223372036854775807 ∧ ∀ x ∈ ds, x.row
theorem opInt : OpV Try.prog 3 1 TInt := OpV.int Try.underlying3 (by kernel_rfl)
theorem opBool : OpV Try.prog 4 1 TBool := OpV.bool Try.underlying4 (by kernel_rfl)
theorem opInts : OpV Try.prog 24 1 TInts := OpV.ints Try.underlying24 (by kernel_rfl) Try.underlying3 (by kernel_rfl)
theorem opBytes : OpV Try.prog 22 1 (fun vs => ∃ l : List Int, vs = [.ints .u8 l] ∧ l.length ≤ 9223372036854775807 ∧ ∀ x ∈ l, (Lit.int .u8 x).wf = true) := OpV.ints Try.underlying22 (by kernel_rfl) Try.underlying5 (by kernel_rfl)
theorem opNat : OpV Try.prog 52 1 TInts := OpV.struct1 Try.underlying52 (by kernel_rfl) rfl opInts
theorem opWhole : OpV Try.prog 64 2 (fun vs => ∃ (n : Bool) (l : List Int), vs = [.bool n, .ints .i64 l] ∧ l.length ≤ 9223372036854775807 ∧ ∀ x ∈ l, (Lit.int .i64 x).wf = true) :=
  (OpV.struct2 Try.underlying64 (by kernel_rfl) rfl rfl opBool opNat).imp fun vs ⟨_, _, e, ⟨n, e1⟩, ⟨l, e2, h1, h2⟩⟩ => ⟨n, l, by rw [e, e1, e2]; rfl, h1, h2⟩
end
end Go.Eng
