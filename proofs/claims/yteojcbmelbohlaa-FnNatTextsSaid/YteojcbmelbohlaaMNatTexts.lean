/- What the functions of this seat do, one after another, told by plain values. No conditions. -/
import Derived.Test.YteojcbmelbohlaaSeat
import Derived.Test.YteojcbmelbohlaaVb
import Derived.Test.YteojcbmelbohlaaT3
set_option linter.unusedVariables false
set_option linter.unusedSimpArgs false
namespace Go.Eng
open Go.Proofs
set_option maxRecDepth 100000
set_option linter.unusedSimpArgs false
attribute [local go_sem] r_seq r_skip r_retC r_exitC r_label r_block r_region r_regionW r_xWt r_xW r_cond r_Bt r_Bf r_Ncode r_Nret r_Nexit r_Nblk r_Nblkr r_Nblke r_Nnil r_Es r_Onil r_Oop r_Oif r_Xs r_Gt r_Gf r_wtt r_wtf r_wft r_wff r_wu r_gO r_putS r_putN r_get r_keepN r_keepC r_fr r_fn r_fi r_ff r_fo r_l1 r_l2t r_cun r_cul r_cub r_cui r_cus r_cuis r_cuc r_cusl r_cuti r_cutv r_ven r_vec r_l2f r_l3 r_t1 r_t2 r_t0 r_rt r_rc r_en r_ec r_cM r_oN r_oC r_end r_endt r_endf r_nob0 r_nobN r_nobC r_nobE r_nb0 r_nbi r_nbs r_nbsl r_nbin r_nbce r_nLn r_nLv r_nLc r_nAa r_nAn r_nAk_b r_nAk_i r_nAk_s r_nAk_n r_nAk_is r_nAk_ce r_nAk_fp r_nAk_sl r_nAk_pt r_nAk_fn r_nsn r_nsv r_nsc r_m0 r_mi r_ms r_msl r_min r_mce r_mLn r_mLv r_mLc r_mAa r_mAn r_mAk_b r_mAk_i r_mAk_s r_mAk_n r_mAk_is r_mAk_ce r_mAk_fp r_mAk_sl r_mAk_pt r_mAk_fn r_msn r_msv r_msc r_atb r_ati r_ats r_atn r_atis r_atc r_atf r_atl r_atp r_atfn r_gcn r_gcc r_gLn r_gLc r_gIt r_ndn r_ndc r_gcB r_gLB r_two r_rea r_rea0 r_re1n r_re1c r_ori r_orv r_ord r_orn r_adn r_adc r_ad1 r_ern r_ers r_er0 r_rsl r_rptr r_rb r_ri r_rs r_rn r_ris r_rce r_rfp r_ra4 r_ra3 r_rt4 r_rf4 r_rf3 r_idS r_idc r_nS r_nP r_nF r_nT r_vsl r_vptr r_vb r_vi r_vs r_vn r_vis r_vce r_vfp r_va4 r_va3 r_vt4 r_vf4 r_vf3 r_rV r_Oi r_Ov r_Od r_rE r_rE0 r_En r_Ec r_E0 r_pO r_pk r_agL r_cO r_fO r_fSi r_fSv r_fPv r_fsl r_fptr r_ffn r_fag r_fb r_fint r_fstr r_fnil r_fis r_fce r_ffp r_res r_move r_assign r_pick r_pickt r_pickf r_alloc r_box r_al r_build r_bslice r_load r_store r_nlc r_nl1 r_nl2 r_bin r_un r_conv r_mkf r_mks r_slc r_fad r_fld r_iad r_idx r_ext r_ex1 r_callf r_callt r_callen r_calapp r_calmax r_calmin r_vt r_vcb r_vci r_vcs r_vcnp r_vcn r_vca r_vcf r_vcg r_ofb r_ofi r_ofs r_ofn r_evs r_pn r_prt r_pc r_one_a r_one_b r_one_i r_one_s r_one_n r_one_is r_one_ce r_one_fp r_one_sl r_one_pt r_one_fn r_cs_a r_cs_b r_cs_i r_cs_s r_cs_n r_cs_is r_cs_ce r_cs_fp r_cs_sl r_cs_pt r_cs_fn r_tov r_tovA r_toc r_toa r_tb r_ti r_ts r_tn r_bd r_bd2 r_filn r_fp1 r_filc r_fsn r_fsc r_san r_sac r_bs2 r_bs1 r_newO r_mkq r_mkI r_mkOi r_mkOv r_tIn r_tIc r_repz r_repn r_ldp r_ldf r_l1t r_l1f r_lFt r_lFf r_aggO r_obj r_at r_ati' r_atv r_celli r_cellv r_subi r_subv r_sto r_sto1 r_sto2 r_sets r_setR r_setn r_setc r_s1i r_s1v r_bin1 r_bin2 r_tv1 r_cb r_ci r_cst r_cn r_csl r_cis r_cce r_uni r_unb r_cv r_cvO r_cvN r_cv0 r_cvS r_wB r_cvi r_cvs r_cvb r_cvl r_sO r_rdn r_rdi r_rdl r_rdO r_vsub r_vfn r_mk r_mk1 r_mk2 r_zoi r_zov r_leni r_lenv r_bn r_bndV r_bo r_sl0 r_sl1 r_vsz r_ct1 r_cts r_cti r_ctc r_ctn r_lnl r_lni r_lnc r_lnn r_fa r_fap r_faf r_fi1 r_fit r_fif r_ixi r_ixs r_ixc r_ixf r_ixF r_ixF2 r_ix1 r_ixsl r_ixin r_ixce r_len1 r_lenA r_lTs r_lTn r_lTl r_lTi r_lTc r_app0 r_app r_app1 r_app2 r_app3 r_catO r_cati r_catv r_newt r_newf r_pair r_pairK r_trip r_kis r_kiv r_srn r_srl r_sri r_src r_srs r_oln r_oll r_vw r_wi r_wv r_mm r_max r_min' r_str r_cF r_c2t r_c3f r_c3t r_ab r_c2f r_cV r_p1 r_la r_la2t r_la2f r_la3 r_sh r_z_is r_z_ce r_z_fp r_z_b r_z_i r_z_s r_z_n r_z_l r_z_p r_z_a4 r_z_a3 r_z_t4 r_zoI r_zoV r_roN r_roC r_roi r_rod r_zod r_rov r_aR r_trOi r_trOv r_trPv r_trl r_trp r_trf r_tra r_trb r_tri r_trs r_trn r_tris r_trce r_trfp r_vJ r_vJs r_vJn
attribute [local go_sem] b_add b_sub b_mul b_quo b_rem b_shl b_shr b_eql b_neq b_lss b_leq b_gtr b_geq eqB_s b_eqB b_neB u_neg u_not b_nn b_nn' eqS_s zerosT_s zerosT_n zt_i zt_sl zt_st dstOf_z dstOf_n iltT iltF ileT ileF ieqT ieqF nltT nltF nleT nleF neqT neqF tdiv_pos tmod_pos w64 idx0 List.take_of_length_le
/- The decimal digits of a number, program. No conditions. -/
section
open Num
/-! ### a list turned round in place -/
theorem gt_ext {a b : List Int} (hl : a.length = b.length) (h : ∀ p, p < a.length → gt a p = gt b p) : a = b := by
  refine List.ext_getElem hl fun p h1 h2 => ?_
  have := h p h1
  unfold gt at this
  simpa [h1, h2] using this
theorem gt_st {l : List Int} {i j : Nat} (x : Int) : gt (l.set i x) j = if i = j ∧ i < l.length then x else gt l j := by
  unfold gt
  by_cases e : i = j
  · subst e
    by_cases h : i < l.length
    · simp [h]
    · simp [h]
  · simp [e]
def rvL (L : List Int) (k : Nat) : Nat → List Int
  | 0 => L
  | t + 1 => ((rvL L k t).set t (gt (rvL L k t) (k - 1 - t))).set (k - 1 - t) (gt (rvL L k t) t)
theorem rv_len (L : List Int) (k : Nat) : ∀ t, (rvL L k t).length = L.length
  | 0 => rfl
  | t + 1 => by rw [rvL]; simp [rv_len L k t]
theorem rv_gt {L : List Int} {k : Nat} (hk : k ≤ L.length) : ∀ t, 2 * t ≤ k → ∀ p, gt (rvL L k t) p = if p < k ∧ (p < t ∨ k - t ≤ p) then gt L (k - 1 - p) else gt L p
  | 0, _, p => by
    have : ¬ (p < k ∧ (p < 0 ∨ k - 0 ≤ p)) := by omega
    rw [if_neg this]; rfl
  | t + 1, h, p => by
    have ih := rv_gt hk t (by omega)
    have hl := rv_len L k t
    rw [rvL, gt_st, gt_st, List.length_set, hl]
    by_cases e1 : k - 1 - t = p
    · rw [if_pos ⟨e1, by omega⟩, if_pos (by omega), ih t, if_neg (by omega)]
      congr 1; omega
    · rw [if_neg (fun q => e1 q.1)]
      by_cases e2 : t = p
      · rw [if_pos ⟨e2, by omega⟩, if_pos (by omega), ih (k - 1 - t), if_neg (by omega)]
        congr 1; omega
      · rw [if_neg (fun q => e2 q.1), ih p]
        by_cases c : p < k ∧ (p < t ∨ k - t ≤ p)
        · rw [if_pos c, if_pos (by omega)]
        · rw [if_neg c, if_neg (by omega)]
theorem rv_end {L : List Int} {k : Nat} (hk : k ≤ L.length) : rvL L k (k / 2) = (L.take k).reverse ++ L.drop k := by
  have hl : (rvL L k (k / 2)).length = ((L.take k).reverse ++ L.drop k).length := by rw [rv_len]; simp; omega
  refine gt_ext hl fun p hp => ?_
  rw [rv_len] at hp
  rw [rv_gt hk _ (by omega)]
  unfold gt
  by_cases h : p < k
  · have e1 : ((L.take k).reverse ++ L.drop k)[p]? = L[k - 1 - p]? := by
      rw [List.getElem?_append_left (by simp; omega), List.getElem?_reverse (by simp; omega), List.length_take, Nat.min_eq_left hk, List.getElem?_take_of_lt (by omega)]
    rw [List.getD_eq_getElem?_getD, List.getD_eq_getElem?_getD, List.getD_eq_getElem?_getD, e1]
    by_cases c : p < k / 2 ∨ k - k / 2 ≤ p
    · rw [if_pos ⟨h, c⟩]
    · rw [if_neg (by omega)]
      have : k - 1 - p = p := by omega
      rw [this]
  · have e1 : ((L.take k).reverse ++ L.drop k)[p]? = L[p]? := by
      rw [List.getElem?_append_right (by simp; omega), List.getElem?_drop]
      congr 1; simp; omega
    rw [if_neg (by omega), List.getD_eq_getElem?_getD, List.getD_eq_getElem?_getD, e1]
section
variable {h : VH} {i k : Nat} {L : List Int}
def rvS (h : VH) (i k : Nat) (L : List Int) (t : Nat) : VE × VH := ([(0, some (.sl i 0 k 1)), (2, some (.int .i64 t)), (3, some (.int .i64 ((k : Int) - 1 - t)))], h.set i (.ints true .u8 (rvL L k t)))
theorem rv_r (call : CallV) (hi : i < h.length) (hk : k ≤ L.length) (hk2 : k < 1000000) {t : Nat} (ht : t < k / 2) : vCode Try.prog kn call 135 (loopAt Try.f135 0) (rvS h i k L t).1 (rvS h i k L t).2 = some (.norm, rvS h i k L (t + 1)) := by
  have hl := rv_len L k t
  have hs : ∀ a : VO, (h.set i a)[i]? = some a := fun a => by simp [hi]
  have e1 : ((k : Int) - 1 - t).toNat = k - 1 - t := by omega
  have e2 : ((k : Int) - 1 - ((t + 1 : Nat) : Int)) = (k : Int) - 1 - t - 1 := by omega
  have e3 : ((t + 1 : Nat) : Int) = t + 1 := by omega
  rw [round_v]; simp only [loopAt, nthC, bodyC, loops, List.nil_append, List.cons_append, List.append_nil, Try.f135, rvS, rvL, e2, e3]
  generalize rvL L k t = M at *
  clear hi
  simp (implicitDefEqProofs := false) (disch := omega) [go_sem, tab135, hs, hl, e1, List.set_set]
theorem rv_x (call : CallV) (hi : i < h.length) (hk2 : k < 1000000) : vCode Try.prog kn call 135 (loopAt Try.f135 0) (rvS h i k L (k / 2)).1 (rvS h i k L (k / 2)).2 = some (.exit 0, (rvS h i k L (k / 2)).1 ++ [(9, some (.bool false))], (rvS h i k L (k / 2)).2) := by
  rw [round_v]; simp only [loopAt, nthC, bodyC, loops, List.nil_append, List.cons_append, List.append_nil, Try.f135, rvS]
  clear hi
  simp (implicitDefEqProofs := false) (disch := omega) [go_sem, tab135]
theorem Reverse_v (d : Nat) (hi : h[i]? = some (.ints true .u8 L)) (hk : k ≤ L.length) (hk2 : k < 1000000) : vrun Try.prog kn (d + 1) 135 [.sl i 0 k 1] h = some (.tup [], h.set i (.ints true .u8 ((L.take k).reverse ++ L.drop k))) := by
  have hlt := (List.getElem?_eq_some_iff.1 hi).1
  have hself : h.set i (.ints true .u8 L) = h := by
    obtain ⟨h1, h2⟩ := List.getElem?_eq_some_iff.1 hi
    rw [← h2]; exact List.set_getElem_self _
  have hl0 := fun ks => loop_v (P := Try.prog) (K := kn) (ks := ks) (vi_for (rvS h i k L) (k / 2) (n := kn.cf.rounds) (by rw [k_cf, c_rounds]; omega) (fun t ht => rv_r (vrun Try.prog kn d) hlt hk hk2 ht) fun m => vi_exit (rv_x _ hlt hk2))
  have e0 : rvL L k 0 = L := rfl
  simp only [loopAt, nthC, bodyC, loops, List.nil_append, List.cons_append, List.append_nil, Try.f135, rvS, Int.natCast_zero, Int.sub_zero, List.cons_append, List.nil_append, e0, hself, rv_end hk] at hl0
  clear hlt e0
  rw [vrun_v Try.func135 rfl rfl rfl]; simp only [Try.f135]
  simp (implicitDefEqProofs := false) (disch := omega) [go_sem, tab135, hl0]
end
/-! ### digits -/
section
variable {n : Nat}
def dgI (n j q : Nat) : VE × VH := ([(3, some (.sl 0 0 (4 * j + q) 1)), (4, some (.sl 1 0 (D (n / 10 ^ (4 * (j + 1)))).length 1)), (5, some (.int .i64 ((n / 10 ^ (4 * j) % 10000 / 10 ^ q : Nat) : Int))), (19, some (.int .i64 q))], [.ints true .u8 (lsd n (4 * j + q)), .ints true .i64 (D (n / 10 ^ (4 * (j + 1))))])
theorem lsd_low (n j q : Nat) (hq : q < 4) : lsd n (4 * j + (q + 1)) = lsd n (4 * j + q) ++ [48 + ((n / 10 ^ (4 * j) % 10000 / 10 ^ q : Nat) : Int) % 10] := by
  have e : n / 10 ^ (4 * j + q) % 10 = n / 10 ^ (4 * j) % 10000 / 10 ^ q % 10 := by
    rw [Nat.pow_add, ← Nat.div_div_eq_div_mul]
    generalize n / 10 ^ (4 * j) = a
    rcases (by omega : q = 0 ∨ q = 1 ∨ q = 2 ∨ q = 3) with rfl | rfl | rfl | rfl <;> simp <;> omega
  rw [show 4 * j + (q + 1) = (4 * j + q) + 1 by omega, lsd, e]
  congr 2
theorem dgI_r (call : CallV) {j q : Nat} (hq : q < 4) (hj : j < 100000) : vCode Try.prog kn call 84 (loopAt Try.f84 1) (dgI n j q).1 (dgI n j q).2 = some (.norm, dgI n j (q + 1)) := by
  have e1 := lsd_low n j q hq
  have e2 : ((n / 10 ^ (4 * j) % 10000 / 10 ^ (q + 1) : Nat) : Int) = ((n / 10 ^ (4 * j) % 10000 / 10 ^ q : Nat) : Int) / 10 := by
    rw [Nat.pow_succ, ← Nat.div_div_eq_div_mul]; omega
  have hl := lsd_len n (4 * j + q)
  have hb : n / 10 ^ (4 * j) % 10000 / 10 ^ q < 10000 := Nat.lt_of_le_of_lt (Nat.div_le_self _ _) (Nat.mod_lt _ (by omega))
  rw [round_v]; simp only [loopAt, nthC, bodyC, loops, List.nil_append, List.cons_append, List.append_nil, Try.f84, dgI, e1, e2]
  generalize n / 10 ^ (4 * j) % 10000 / 10 ^ q = r at *
  generalize lsd n (4 * j + q) = L at *
  generalize D (n / 10 ^ (4 * (j + 1))) = Z at *
  have htk : L.take (4 * j + q) = L := List.take_of_length_le (by omega)
  have hw : IntKind.wrap .u8 (48 + (r : Int) % 10) = 48 + (r : Int) % 10 := by
    unfold IntKind.wrap; simp [IntKind.signed, IntKind.bits]; omega
  have e3 : ((4 * j + (q + 1) : Nat) : Int) = ((4 * j + q : Nat) : Int) + 1 := by omega
  simp (implicitDefEqProofs := false) (disch := omega) [go_sem, tab84, nil84, hl, htk, hw]
theorem dgI_x (call : CallV) {j : Nat} (hj : j < 100000) : vCode Try.prog kn call 84 (loopAt Try.f84 1) (dgI n j 4).1 (dgI n j 4).2 = some (.exit 2, (dgI n j 4).1 ++ [(20, some (.bool false))], (dgI n j 4).2) := by
  rw [round_v]; simp only [loopAt, nthC, bodyC, loops, List.nil_append, List.cons_append, List.append_nil, Try.f84, dgI]
  simp (implicitDefEqProofs := false) (disch := omega) [go_sem, tab84, nil84]
def dgO (n j : Nat) : VE × VH := if j = 0 then ([(0, some (.ints .i64 (D n))), (3, some (.sl 0 0 0 1))], [.ints true .u8 []]) else ([(0, some (.sl 0 0 (D (n / 10 ^ (4 * j))).length 1)), (3, some (.sl 1 0 (4 * j) 1))], [.ints true .i64 (D (n / 10 ^ (4 * j))), .ints true .u8 (lsd n (4 * j))])
theorem dgO_r (d : Nat) (hn : (D n).length < 1000000) {j : Nat} (hj : j < 100000) (h0 : 4 * j < nd n) : vCode Try.prog kn (vrun Try.prog kn (d + 2)) 84 (loopAt Try.f84 0) (dgO n j).1 (dgO n j).2 = some (.norm, dgO n (j + 1)) := by
  have hl0 := fun ks => loop_v (P := Try.prog) (K := kn) (ks := ks) (vi_for (dgI n j) 4 (n := kn.cf.rounds) (by rw [k_cf, c_rounds]; omega) (fun q hq => dgI_r (vrun Try.prog kn (d + 2)) hq hj) fun m => vi_exit (dgI_x _ hj))
  have hp := nd_pos h0
  have hpos : 0 < n / 10 ^ (4 * j) := Nat.div_pos hp (Nat.pow_pos (by omega))
  have hne : D (n / 10 ^ (4 * j)) ≠ [] := fun h => by have := D_nil_iff.1 h; omega
  have hlp : 0 < (D (n / 10 ^ (4 * j))).length := List.length_pos_iff.2 hne
  have hle : (D (n / 10 ^ (4 * j))).length ≤ (D n).length := len_D_mono (Nat.div_le_self _ _)
  have hds := divideSmall_v (z := n / 10 ^ (4 * j)) (m := 10000) d (by omega) (by omega) (by omega)
  have e1 : n / 10 ^ (4 * j) / 10000 = n / 10 ^ (4 * (j + 1)) := by
    rw [Nat.div_div_eq_div_mul, show (10000 : Nat) = 10 ^ 4 from rfl, ← Nat.pow_add, show 4 * j + 4 = 4 * (j + 1) by omega]
  rw [e1, show ((10000 : Nat) : Int) = 10000 from rfl] at hds
  have hj1 : dgO n (j + 1) = ([(0, some (.sl 0 0 (D (n / 10 ^ (4 * (j + 1)))).length 1)), (3, some (.sl 1 0 (4 * j + 4) 1))], [.ints true .i64 (D (n / 10 ^ (4 * (j + 1)))), .ints true .u8 (lsd n (4 * j + 4))]) := by
    unfold dgO; rw [if_neg (by omega), show 4 * (j + 1) = 4 * j + 4 by omega]
  rw [hj1]
  simp only [loopAt, nthC, bodyC, loops, List.nil_append, List.cons_append, List.append_nil, Try.f84, dgI, Int.natCast_zero, List.cons_append, List.nil_append, Nat.pow_zero, Nat.div_one, Nat.add_zero] at hl0
  have hl := lsd_len n (4 * j)
  have hl4 := lsd_len n (4 * j + 4)
  clear hj1 hp hpos e1
  generalize n / 10 ^ (4 * j) % 10000 / 10 ^ 4 = r4 at *
  generalize n / 10 ^ (4 * j) % 10000 = r at *
  generalize D (n / 10 ^ (4 * (j + 1))) = Z at *
  generalize lsd n (4 * j + 4) = L4 at *
  unfold dgO
  cases j with
  | zero =>
    rw [if_pos rfl]
    simp only [Nat.mul_zero, Nat.pow_zero, Nat.div_one, lsd, Nat.zero_add] at *
    rw [round_v]; simp only [loopAt, nthC, bodyC, loops, List.nil_append, List.cons_append, List.append_nil, Try.f84]
    simp (implicitDefEqProofs := false) (disch := omega) [go_sem, tab84, nil84, hl0, hds, hne]
  | succ j =>
    rw [if_neg (by omega)]
    generalize lsd n (4 * (j + 1)) = L at *
    generalize D (n / 10 ^ (4 * (j + 1))) = X at *
    rw [round_v]; simp only [loopAt, nthC, bodyC, loops, List.nil_append, List.cons_append, List.append_nil, Try.f84]
    simp (implicitDefEqProofs := false) (disch := omega) [go_sem, tab84, nil84, hl0, hds, hne]
theorem dgO_x (call : CallV) {m : Nat} (hm : n / 10 ^ (4 * m) = 0) : vCode Try.prog kn call 84 (loopAt Try.f84 0) (dgO n m).1 (dgO n m).2 = some (.exit 0, (dgO n m).1 ++ [(13, some (.bool false))], (dgO n m).2) := by
  unfold dgO
  by_cases h0 : m = 0
  · subst h0
    rw [Nat.mul_zero, Nat.pow_zero, Nat.div_one] at hm
    subst hm
    rw [if_pos rfl, D_zero]
    rw [round_v]; simp only [loopAt, nthC, bodyC, loops, List.nil_append, List.cons_append, List.append_nil, Try.f84]
    simp (implicitDefEqProofs := false) (disch := omega) [go_sem, tab84, nil84]
  · rw [if_neg h0, hm, D_zero]
    rw [round_v]; simp only [loopAt, nthC, bodyC, loops, List.nil_append, List.cons_append, List.append_nil, Try.f84]
    simp (implicitDefEqProofs := false) (disch := omega) [go_sem, tab84, nil84]
/-- Noughts at the high end are taken away. -/
def dgT (E : VE × VH) (L : List Int) (k j : Nat) : VE × VH := if j = 0 then E else ([(3, some (.sl 0 0 (k - j) 1))], [.ints true .u8 L])
theorem dgT_r (call : CallV) {L : List Int} {k j : Nat} {X : V} {Z : List Int} (hk : k = L.length) (hk2 : k < 1000000) (hj : j < k) (h0 : gt L (k - 1 - j) = 48) : vCode Try.prog kn call 84 (loopAt Try.f84 2) (dgT ([(0, some (.sl 0 0 0 1)), (3, some (.sl 1 0 k 1)), (13, some (.bool false))], [.ints true .i64 Z, .ints true .u8 L]) L k j).1 (dgT ([(0, some (.sl 0 0 0 1)), (3, some (.sl 1 0 k 1)), (13, some (.bool false))], [.ints true .i64 Z, .ints true .u8 L]) L k j).2 = some (.norm, dgT ([(0, some (.sl 0 0 0 1)), (3, some (.sl 1 0 k 1)), (13, some (.bool false))], [.ints true .i64 Z, .ints true .u8 L]) L k (j + 1)) := by
  unfold dgT
  rw [if_neg (show ¬ j + 1 = 0 by omega)]
  cases j with
  | zero =>
    rw [if_pos rfl]
    have e1 : ((k : Int) - 1).toNat = k - 1 := by omega
    rw [Nat.sub_zero] at h0
    rw [round_v]; simp only [loopAt, nthC, bodyC, loops, List.nil_append, List.cons_append, List.append_nil, Try.f84]
    simp (implicitDefEqProofs := false) (disch := omega) [go_sem, tab84, nil84, e1, h0]
  | succ j =>
    rw [if_neg (by omega)]
    obtain ⟨q, hq⟩ : ∃ q, q = k - (j + 1) := ⟨_, rfl⟩
    rw [← hq, show k - (j + 1 + 1) = q - 1 by omega]
    rw [show k - 1 - (j + 1) = q - 1 by omega] at h0
    have e1 : ((q : Int) - 1).toNat = q - 1 := by omega
    rw [round_v]; simp only [loopAt, nthC, bodyC, loops, List.nil_append, List.cons_append, List.append_nil, Try.f84]
    simp (implicitDefEqProofs := false) (disch := omega) [go_sem, tab84, nil84, e1, h0]
theorem dgT_x (call : CallV) {L : List Int} {k j : Nat} {Z : List Int} (hk : k = L.length) (hk2 : k < 1000000) (hj : j < k) (h0 : gt L (k - 1 - j) ≠ 48) : ∃ q, vCode Try.prog kn call 84 (loopAt Try.f84 2) (dgT ([(0, some (.sl 0 0 0 1)), (3, some (.sl 1 0 k 1)), (13, some (.bool false))], [.ints true .i64 Z, .ints true .u8 L]) L k j).1 (dgT ([(0, some (.sl 0 0 0 1)), (3, some (.sl 1 0 k 1)), (13, some (.bool false))], [.ints true .i64 Z, .ints true .u8 L]) L k j).2 = some (.exit 4, [(3, some (.sl 0 0 (k - j) 1)), (38, some (.bool false))], q) ∧ q = [.ints true .u8 L] := by
  refine ⟨_, ?_, rfl⟩
  unfold dgT
  cases j with
  | zero =>
    rw [if_pos rfl]
    have e1 : ((k : Int) - 1).toNat = k - 1 := by omega
    rw [Nat.sub_zero] at h0 ⊢
    rw [round_v]; simp only [loopAt, nthC, bodyC, loops, List.nil_append, List.cons_append, List.append_nil, Try.f84]
    simp (implicitDefEqProofs := false) (disch := omega) [go_sem, tab84, nil84, e1, h0]
  | succ j =>
    rw [if_neg (by omega)]
    obtain ⟨q, hq⟩ : ∃ q, q = k - (j + 1) := ⟨_, rfl⟩
    rw [← hq]
    rw [show k - 1 - (j + 1) = q - 1 by omega] at h0
    have e1 : ((q : Int) - 1).toNat = q - 1 := by omega
    rw [round_v]; simp only [loopAt, nthC, bodyC, loops, List.nil_append, List.cons_append, List.append_nil, Try.f84]
    simp (implicitDefEqProofs := false) (disch := omega) [go_sem, tab84, nil84, e1, h0]
theorem nd_len (h : (D n).length < 10000) : nd n < 100000 := by
  by_cases h0 : n = 0
  · subst h0; rw [nd_zero]; omega
  · obtain ⟨h1, h2⟩ := nd_le h0
    have h3 := lt_len_D n
    have h4 : 65536 ^ (D n).length ≤ 10 ^ (5 * (D n).length) := by
      rw [Nat.pow_mul]; exact Nat.pow_le_pow_left (by omega) _
    have h5 : nd n - 1 < 5 * (D n).length := (Nat.pow_lt_pow_iff_right (by omega : 1 < 10)).1 (Nat.lt_of_le_of_lt h1 (Nat.lt_of_lt_of_le h3 h4))
    omega
theorem digitsOf_v (d : Nat) (hn : (D n).length < 10000) : vrun Try.prog kn (d + 3) 84 [.ints .i64 (D n)] [] = some (.sl 0 0 (text n).length 1, [.ints true .u8 (text n)]) := by
  by_cases h0 : n = 0
  · subst h0
    rw [D_zero]
    unfold text
    rw [if_pos rfl]
    rw [vrun_v Try.func84 rfl rfl rfl]; simp only [Try.f84]
    simp (implicitDefEqProofs := false) (disch := omega) [go_sem, tab84, nil84]
  · have hnd := nd_len hn
    obtain ⟨hn1, hn2⟩ := nd_le h0
    obtain ⟨m, hm⟩ : ∃ m, m = (nd n + 3) / 4 := ⟨_, rfl⟩
    have hl0 := fun ks => loop_v (P := Try.prog) (K := kn) (ks := ks) (vi_for (dgO n) m (n := kn.cf.rounds) (by rw [k_cf, c_rounds]; omega) (fun j hj => dgO_r (d + 0) (by omega) (by omega) (by omega)) fun q => vi_exit (dgO_x _ (nd_div (by omega))))
    have e0 : dgO n 0 = ([(0, some (.ints .i64 (D n))), (3, some (.sl 0 0 0 1))], [.ints true .u8 []]) := rfl
    have em : dgO n m = ([(0, some (.sl 0 0 0 1)), (3, some (.sl 1 0 (4 * m) 1))], [.ints true .i64 [], .ints true .u8 (lsd n (4 * m))]) := by
      unfold dgO; rw [if_neg (by omega), nd_div (by omega : nd n ≤ 4 * m), D_zero]; rfl
    have hlen := lsd_len n (4 * m)
    have hz : ∀ j, j < 4 * m - nd n → gt (lsd n (4 * m)) (4 * m - 1 - j) = 48 := fun j hj => by
      have := lsd_at n (i := 4 * m - 1 - j) (m := 4 * m) (by omega)
      rw [nd_div (by omega : nd n ≤ 4 * m - 1 - j)] at this
      unfold gt; rw [this]; rfl
    have hx0 : gt (lsd n (4 * m)) (4 * m - 1 - (4 * m - nd n)) ≠ 48 := by
      have := lsd_at n (i := nd n - 1) (m := 4 * m) (by omega)
      have ht := nd_top h0
      rw [show 4 * m - 1 - (4 * m - nd n) = nd n - 1 by omega]
      unfold gt; rw [this]; omega
    obtain ⟨q, hq, rfl⟩ := dgT_x (Z := []) (vrun Try.prog kn (d + 0 + 2)) hlen.symm (by omega) (by omega : 4 * m - nd n < 4 * m) hx0
    have hl1 := fun ks => loop_v (P := Try.prog) (K := kn) (ks := ks) (vi_for (dgT ([(0, some (.sl 0 0 0 1)), (3, some (.sl 1 0 (4 * m) 1)), (13, some (.bool false))], [.ints true .i64 [], .ints true .u8 (lsd n (4 * m))]) (lsd n (4 * m)) (4 * m)) (4 * m - nd n) (n := kn.cf.rounds) (by rw [k_cf, c_rounds]; omega) (fun j hj => dgT_r (X := .nil) _ hlen.symm (by omega) (by omega) (hz j hj)) fun q => vi_exit hq)
    have et : dgT ([(0, some (.sl 0 0 0 1)), (3, some (.sl 1 0 (4 * m) 1)), (13, some (.bool false))], [.ints true .i64 [], .ints true .u8 (lsd n (4 * m))]) (lsd n (4 * m)) (4 * m) 0 = ([(0, some (.sl 0 0 0 1)), (3, some (.sl 1 0 (4 * m) 1)), (13, some (.bool false))], [.ints true .i64 [], .ints true .u8 (lsd n (4 * m))]) := rfl
    rw [show 4 * m - (4 * m - nd n) = nd n by omega] at hl1
    simp only [e0, em, List.cons_append, List.nil_append, loopAt, nthC, bodyC, loops, List.nil_append, List.cons_append, List.append_nil, Try.f84] at hl0
    simp only [et, loopAt, nthC, bodyC, loops, List.nil_append, List.cons_append, List.append_nil, Try.f84] at hl1
    have hr := fun d => Reverse_v (h := [.ints true .u8 (lsd n (4 * m))]) (i := 0) (k := nd n) (L := lsd n (4 * m)) d rfl (by omega) (by omega)
    have htx : text n = (lsd n (nd n)).reverse := by unfold text; rw [if_neg h0]
    have htk := lsd_take n (nd n) (4 * m) (by omega)
    rw [htk, ← htx] at hr
    have hne : D n ≠ [] := fun h => h0 (D_nil_iff.1 h)
    have hlp : 0 < (D n).length := List.length_pos_iff.2 hne
    have hlt := text_len h0
    have hfin : (text n ++ (lsd n (4 * m)).drop (nd n)).take (nd n) = text n := by
      rw [List.take_append_of_le_length (by omega), List.take_of_length_le (by omega)]
    rw [hlt]
    clear hq hz hx0 htk htx e0 em et hn1
    generalize lsd n (4 * m) = L at *
    generalize text n = T at *
    generalize D n = Z at *
    rw [vrun_v Try.func84 rfl rfl rfl]; simp only [Try.f84]
    simp (implicitDefEqProofs := false) (disch := omega) [go_sem, tab84, nil84, hl0, hl1, hr, hne, hfin]
end
end
/- Decimal texts: whether there are digits alone, the number that they stand for, program; the digits, reference. No conditions. -/
section
open Num
section
variable {l : List Int} {g : Nat} {caps : List V} {p : Int → Bool} {call : CallV}
def ixB (l : List Int) (g : Nat) (caps : List V) (j : Nat) : VE × VH := ([(0, some (.ints .u8 l)), (1, some (.fn (.func g) [] caps)), (7, some (.int .i64 l.length)), (8, some (.int .i64 j))], [])
theorem ixfB_v (hl : l.length < 1000000000) {d : Nat} (hg : kn.cf.pure g = true) (hg2 : kn.ali g = false) (hc : ∀ h, omap (vfrz h 6) caps = some caps) (hp : ∀ x ∈ l, vrun Try.prog kn d g (vnrmAs (kn.args g) (.int .u8 x :: caps)) [] = some (.bool (p x), [])) :
    ∃ v : Int, vrun Try.prog kn (d + 1) 177 [.ints .u8 l, .fn (.func g) [] caps] [] = some (.int .i64 v, []) ∧ decide (0 ≤ v) = l.any p := by
  rw [k_cf] at hg
  have key := vi_inv (n := kn.cf.rounds) (body := vCode Try.prog kn (vrun Try.prog kn d) 177 (loopAt Try.f177 0)) (fun j s => s = ixB l g caps j ∧ (l.take j).any p = false)
    (fun r => (r = some (.exit 0, (ixB l g caps l.length).1 ++ [(9, some (.bool false))], []) ∧ l.any p = false) ∨ ∃ k : Nat, r = some (.ret, [(4, some (.int .i64 k))], []) ∧ l.any p = true) l.length (by rw [k_cf, c_rounds]; omega)
    (fun j s hj hI => by
      obtain ⟨rfl, hI⟩ := hI
      have hpp := hp _ (gt_mem hj)
      cases hq : p (gt l j) with
      | true =>
        right; intro m; right
        refine ⟨j, vi_ret ?_, List.any_eq_true.2 ⟨_, gt_mem hj, hq⟩⟩
        rw [hq] at hpp
        rw [round_v]; simp only [loopAt, nthC, bodyC, loops, List.nil_append, List.cons_append, List.append_nil, Try.f177, ixB]
        simp (disch := omega) [go_sem, tab177, hg, hg2, hc, hpp]
      | false =>
        left
        refine ⟨ixB l g caps (j + 1), ?_, rfl, ?_⟩
        · rw [hq] at hpp
          rw [round_v]; simp only [loopAt, nthC, bodyC, loops, List.nil_append, List.cons_append, List.append_nil, Try.f177, ixB]
          simp (disch := omega) [go_sem, tab177, hg, hg2, hc, hpp]
        · rw [List.take_add_one, gt_some hj, List.any_append, hI]; simp [hq])
    (fun s hI m => by
      obtain ⟨rfl, hI⟩ := hI
      left
      refine ⟨vi_exit ?_, by rwa [List.take_length] at hI⟩
      rw [round_v]; simp only [loopAt, nthC, bodyC, loops, List.nil_append, List.cons_append, List.append_nil, Try.f177, ixB]
      simp (disch := omega) [go_sem, tab177])
    (ixB l g caps 0) ⟨rfl, by simp⟩
  rcases key with ⟨hv, ha⟩ | ⟨k, hv, ha⟩
  · have hl0 := fun ks => loop_v (P := Try.prog) (K := kn) (ks := ks) hv
    simp only [loopAt, nthC, bodyC, loops, List.nil_append, List.cons_append, List.append_nil, Try.f177, ixB, Int.natCast_zero, List.cons_append, List.nil_append] at hl0
    refine ⟨-1, ?_, by rw [ha]; rfl⟩
    rw [vrun_v Try.func177 rfl rfl rfl]; simp only [Try.f177]
    simp (disch := omega) [go_sem, tab177, hc, hl0]
  · have hl0 := fun ks => loop_v (P := Try.prog) (K := kn) (ks := ks) hv
    simp only [loopAt, nthC, bodyC, loops, List.nil_append, List.cons_append, List.append_nil, Try.f177, ixB, Int.natCast_zero, List.cons_append, List.nil_append] at hl0
    refine ⟨k, ?_, by rw [ha]; simp⟩
    rw [vrun_v Try.func177 rfl rfl rfl]; simp only [Try.f177]
    simp (disch := omega) [go_sem, tab177, hc, hl0]
theorem allB_v (hl : l.length < 1000000000) {d : Nat} (hg : kn.cf.pure g = true) (hg2 : kn.ali g = false) (ha : kn.args g = []) (hp : ∀ x ∈ l, vrun Try.prog kn d g [.int .u8 x] [] = some (.bool (p x), [])) :
    vrun Try.prog kn (d + 4) 136 [.ints .u8 l, .fn (.func g) [] []] [] = some (.bool (l.all p), []) := by
  have hg' := hg
  rw [k_cf] at hg'
  have h1 : ∀ x ∈ l, vrun Try.prog kn (d + 1) 170 (vnrmAs (kn.args 170) [.int .u8 x, .fptr [.fn (.func g) [] []]]) [] = some (.bool (!p x), []) := fun x hx => by
    have := hp x hx
    simp only [go_sem, k_args170]
    rw [vrun_v Try.func170 rfl rfl rfl]; simp only [Try.f170]
    simp (disch := omega) [go_sem, tab170, hg', hg2, ha, this]
  obtain ⟨v, hv, hany⟩ := ixfB_v (caps := [.fptr [.fn (.func g) [] []]]) hl (c_pure170) rfl (fun h => by simp [go_sem]) h1
  have e : l.all p = !decide (0 ≤ v) := by
    rw [hany, List.not_any_eq_all_not]; simp
  rw [e]
  have h2 : vrun Try.prog kn (d + 3) 169 [.ints .u8 l, .fn (.func 170) [] [.fptr [.fn (.func g) [] []]]] [] = some (.bool (decide (0 ≤ v)), []) := by
    rw [vrun_v Try.func169 rfl rfl rfl]; simp only [Try.f169]
    simp (disch := omega) [go_sem, tab169, hv]
  rw [vrun_v Try.func136 rfl rfl rfl]; simp only [Try.f136]
  simp (disch := omega) [go_sem, tab136, h2]
end

def digB (x : Int) : Bool := decide (48 ≤ x) && decide (x ≤ 57)
def areDigB (b : List Int) : Bool := decide (0 < b.length) && b.all digB
theorem dig_v (d : Nat) (x : Int) : vrun Try.prog kn (d + 1) 137 [.int .u8 x] [] = some (.bool (digB x), []) := by
  unfold digB
  by_cases h : 48 ≤ x
  all_goals
    rw [vrun_v Try.func137 rfl rfl rfl]; simp only [Try.f137]
    simp (disch := omega) [go_sem, tab137, h]
section
variable {b : List Int}
theorem areDigits_v (d : Nat) (hb : b.length < 1000000) : vrun Try.prog kn (d + 6) 85 [.ints .u8 b] [] = some (.bool (areDigB b), []) := by
  have h1 := fun d => allB_v (g := 137) (l := b) (p := digB) (d := d + 1) (by omega) c_pure137 rfl rfl (fun x _ => dig_v d x)
  unfold areDigB
  by_cases h : 0 < b.length
  · rw [vrun_v Try.func85 rfl rfl rfl]; simp only [Try.f85]
    simp (disch := omega) [go_sem, tab85, h1, h]
  · have : b = [] := List.eq_nil_of_length_eq_zero (by omega)
    subst this
    rw [vrun_v Try.func85 rfl rfl rfl]; simp only [Try.f85]
    simp (disch := omega) [go_sem, tab85]
theorem digs_of (h : areDigB b = true) : 0 < b.length ∧ ∀ x ∈ b, 48 ≤ x ∧ x ≤ 57 := by
  unfold areDigB at h
  rw [Bool.and_eq_true, decide_eq_true_eq, List.all_eq_true] at h
  refine ⟨h.1, fun x hx => ?_⟩
  have := h.2 x hx
  unfold digB at this
  simpa using this
theorem rdd_lt : ∀ {l : List Int}, (∀ x ∈ l, 48 ≤ x ∧ x ≤ 57) → ∀ v k : Nat, v < 10 ^ k → rdd v l < 10 ^ (k + l.length)
  | [], _, v, k, h => h
  | x :: r, hl, v, k, h => by
    have hx := hl x List.mem_cons_self
    have := rdd_lt (l := r) (fun y hy => hl y (List.mem_cons_of_mem _ hy)) (v * 10 + (x - 48).toNat) (k + 1) (by rw [Nat.pow_succ]; omega)
    rw [List.length_cons, show k + (r.length + 1) = k + 1 + r.length by omega]; exact this
theorem rdd_len {l : List Int} (hl : ∀ x ∈ l, 48 ≤ x ∧ x ≤ 57) : (D (rdd 0 l)).length ≤ l.length := by
  have h := rdd_lt hl 0 0 (by simp)
  rw [Nat.zero_add] at h
  exact len_D_le.2 (Nat.lt_of_lt_of_le h (Nat.pow_le_pow_left (by omega) _))
theorem rdd_100 {l : List Int} (hl : ∀ x ∈ l, 48 ≤ x ∧ x ≤ 57) (h4 : l.length ≤ 400) : (D (rdd 0 l)).length ≤ 100 := by
  have h := rdd_lt hl 0 0 (by simp)
  rw [Nat.zero_add] at h
  obtain ⟨k, hk⟩ : ∃ k : Nat, k = 100 := ⟨_, rfl⟩
  have h5 : (10 : Nat) ^ l.length ≤ 10 ^ (4 * k) := Nat.pow_le_pow_right (by omega) (by omega)
  have h6 : (10 : Nat) ^ (4 * k) ≤ 65536 ^ k := by rw [Nat.pow_mul]; exact Nat.pow_le_pow_left (by omega) k
  have h7 : (D (rdd 0 l)).length ≤ k := len_D_le.2 (Nat.lt_of_lt_of_le h (Nat.le_trans h5 h6))
  omega
def fdS (b : List Int) (j : Nat) : VE × VH := ([(3, some (.sl 0 0 (D (rdd 0 (b.take j))).length 1)), (6, some (.ints .u8 b)), (7, some (.int .i64 b.length)), (8, some (.int .i64 j))], [.ints true .i64 (D (rdd 0 (b.take j)))])
theorem fd_r (d : Nat) (hb : b.length ≤ 10000) (hl : ∀ x ∈ b, 48 ≤ x ∧ x ≤ 57) {j : Nat} (hj : j < b.length) : vCode Try.prog kn (vrun Try.prog kn (d + 2)) 86 (loopAt Try.f86 0) (fdS b j).1 (fdS b j).2 = some (.norm, fdS b (j + 1)) := by
  have hx := hl _ (gt_mem hj)
  have hlen := rdd_len (l := b.take j) (fun x hx => hl x (List.mem_of_mem_take hx))
  rw [List.length_take] at hlen
  have e1 : b.take (j + 1) = b.take j ++ [gt b j] := by rw [List.take_add_one, gt_some hj]; rfl
  have e2 : rdd 0 (b.take (j + 1)) = rdd 0 (b.take j) * 10 + (gt b j - 48).toNat := by rw [e1, rdd_snoc]
  unfold fdS
  rw [e2]
  generalize rdd 0 (b.take j) = v at *
  have hc : ((gt b j - 48).toNat : Int) = gt b j - 48 := by omega
  have l10 : (D 10).length ≤ 4 := len_small (by omega)
  have lc : (D (gt b j - 48).toNat).length ≤ 4 := len_small (by omega)
  have lm := len_mul v 10
  have a1 := fun d => small_v (n := 10) d (by omega)
  have a2 := fun d => times_v (x := v) (y := 10) d (by omega) (by omega)
  have a3 := fun d => small_v (n := (gt b j - 48).toNat) d (by omega)
  have a4 := fun d => plus_v (x := v * 10) (y := (gt b j - 48).toNat) d (by omega) (by omega)
  rw [hc] at a3
  rw [show ((10 : Nat) : Int) = 10 from rfl] at a1
  have hw : IntKind.wrap .u8 (gt b j - 48) = gt b j - 48 := by
    unfold IntKind.wrap; simp [IntKind.signed, IntKind.bits]; omega
  generalize D 10 = T at *
  generalize D (gt b j - 48).toNat = C at *
  generalize D (v * 10 + (gt b j - 48).toNat) = R at *
  generalize D (v * 10) = M at *
  generalize D v = V at *
  rw [round_v]; simp only [loopAt, nthC, bodyC, loops, List.nil_append, List.cons_append, List.append_nil, Try.f86]
  simp (implicitDefEqProofs := false) (disch := omega) [go_sem, tab86, nil86, a1, a2, a3, a4, hw]
theorem fd_x (call : CallV) (hb : b.length ≤ 10000) : vCode Try.prog kn call 86 (loopAt Try.f86 0) (fdS b b.length).1 (fdS b b.length).2 = some (.exit 0, (fdS b b.length).1 ++ [(9, some (.bool false))], (fdS b b.length).2) := by
  rw [round_v]; simp only [loopAt, nthC, bodyC, loops, List.nil_append, List.cons_append, List.append_nil, Try.f86, fdS]
  simp (implicitDefEqProofs := false) (disch := omega) [go_sem, tab86, nil86]
theorem fromDigits_v (d : Nat) (hb : b.length ≤ 10000) (hl : ∀ x ∈ b, 48 ≤ x ∧ x ≤ 57) : vrun Try.prog kn (d + 3) 86 [.ints .u8 b] [] = some (.sl 0 0 (D (rdd 0 b)).length 1, [.ints true .i64 (D (rdd 0 b))]) := by
  have hl0 := fun ks => loop_v (P := Try.prog) (K := kn) (ks := ks) (vi_for (fdS b) b.length (n := kn.cf.rounds) (by rw [k_cf, c_rounds]; omega) (fun j hj => fd_r (d + 0) hb hl hj) fun m => vi_exit (fd_x _ hb))
  have e0 : rdd 0 [] = 0 := rfl
  simp only [loopAt, nthC, bodyC, loops, List.nil_append, List.cons_append, List.append_nil, Try.f86, fdS, Int.natCast_zero, List.cons_append, List.nil_append, List.take_zero, List.take_length, e0, D_zero, List.length_nil] at hl0
  generalize D (rdd 0 b) = R at *
  rw [vrun_v Try.func86 rfl rfl rfl]; simp only [Try.f86]
  simp (implicitDefEqProofs := false) (disch := omega) [go_sem, tab86, nil86, hl0]
/-! ### NatRead, NatText -/
def rdOk (b : List Int) : Bool := decide (b.length ≤ 400) && areDigB b && !(decide (1 < b.length) && decide (gt b 0 = 48))
def rdR (b : List Int) : List Int := if rdOk b then D (rdd 0 b) else []
theorem rdR_len (b : List Int) : (rdR b).length ≤ 100 := by
  unfold rdR
  split
  · rename_i h
    unfold rdOk at h
    rw [Bool.and_eq_true, Bool.and_eq_true, decide_eq_true_eq] at h
    exact rdd_100 (digs_of h.1.2).2 h.1.1
  · simp
theorem NatRead_v (d : Nat) (hb : b.length < 1000000) : vrun Try.prog kn (d + 7) 25 [.ints .u8 b] [] = some (.tup [.agg [.sl 0 0 (rdR b).length 1], .bool (rdOk b)], [.ints true .i64 (rdR b)]) := by
  have a1 := fun d => areDigits_v d hb
  unfold rdR
  by_cases h4 : b.length ≤ 400
  · cases hd : areDigB b with
    | false =>
      rw [hd] at a1
      have hr : rdOk b = false := by unfold rdOk; rw [hd]; simp
      rw [hr]
      rw [vrun_v Try.func25 rfl rfl rfl]; simp only [Try.f25]
      simp (implicitDefEqProofs := false) (disch := omega) [go_sem, tab25, a1]
    | true =>
      rw [hd] at a1
      obtain ⟨h0, hl⟩ := digs_of hd
      by_cases hz : 1 < b.length ∧ gt b 0 = 48
      · have hr : rdOk b = false := by unfold rdOk; simp [hz.1, hz.2]
        have hz1 := hz.1
        have hz2 := hz.2
        rw [hr]
        rw [vrun_v Try.func25 rfl rfl rfl]; simp only [Try.f25]
        simp (implicitDefEqProofs := false) (disch := omega) [go_sem, tab25, a1, hz2]
      · have hr : rdOk b = true := by
          unfold rdOk
          rw [hd]
          by_cases h1 : 1 < b.length
          · have : ¬ gt b 0 = 48 := fun h => hz ⟨h1, h⟩
            simp [h4, this]
          · simp [h4, h1]
        have l1 := rdd_100 hl h4
        have a2 := fun d => fromDigits_v d (by omega) hl
        have a3 := fun d => natOf_v (l := D (rdd 0 b)) d (by omega)
        have e3 : fitL (D (rdd 0 b)) = D (rdd 0 b) := by unfold fitL; rw [if_pos l1]
        rw [e3, decide_eq_true l1] at a3
        rw [hr]
        generalize D (rdd 0 b) = R at *
        by_cases h1 : 1 < b.length
        · have h2 : ¬ gt b 0 = 48 := fun h => hz ⟨h1, h⟩
          rw [vrun_v Try.func25 rfl rfl rfl]; simp only [Try.f25]
          simp (implicitDefEqProofs := false) (disch := omega) [go_sem, tab25, a1, a2, a3, h2]
        · rw [vrun_v Try.func25 rfl rfl rfl]; simp only [Try.f25]
          simp (implicitDefEqProofs := false) (disch := omega) [go_sem, tab25, a1, a2, a3]
  · have hr : rdOk b = false := by unfold rdOk; simp [h4]
    rw [hr]
    rw [vrun_v Try.func25 rfl rfl rfl]; simp only [Try.f25]
    simp (implicitDefEqProofs := false) (disch := omega) [go_sem, tab25]
def txR (l : List Int) : List Int := if natOkB l then text (nN l) else []
theorem text_le {n : Nat} (h : (D n).length ≤ 100) : (text n).length ≤ 100000 := by
  by_cases h0 : n = 0
  · subst h0; simp [text]
  · rw [text_len h0]; have := nd_len (n := n) (by omega); omega
theorem txR_len (l : List Int) : (txR l).length ≤ 100000 := by
  unfold txR
  split
  · rename_i h; exact text_le (okN h).2
  · simp
theorem NatText_v (d : Nat) {l : List Int} (hl : l.length < 1000000000) : vrun Try.prog kn (d + 8) 24 [.agg [.ints .i64 l]] [] = some (.sl 0 0 (txR l).length 1, [.ints true .u8 (txR l)]) := by
  have a1 := fun d => NatOk_v d hl
  unfold txR
  cases h : natOkB l with
  | false =>
    rw [h] at a1
    rw [vrun_v Try.func24 rfl rfl rfl]; simp only [Try.f24]
    simp (implicitDefEqProofs := false) (disch := omega) [go_sem, tab24, nil24, a1]
  | true =>
    rw [h] at a1
    obtain ⟨e1, l1⟩ := okN h
    have a2 := fun d => digitsOf_v (n := nN l) d (by omega)
    have l2 := text_le l1
    rw [← e1] at a2
    simp only [if_true]
    generalize text (nN l) = T at *
    rw [vrun_v Try.func24 rfl rfl rfl]; simp only [Try.f24]
    simp (implicitDefEqProofs := false) (disch := omega) [go_sem, tab24, nil24, a1, a2]
/-! ### the reference's digits -/
def ltS (n j : Nat) : VE × VH := ([(1, some (.ptr 0 0)), (3, some (.sl 1 0 j 1))], [.vals true [.ints .i64 (D (n / 10 ^ j))], .ints true .u8 (lsd n j)])
theorem lt_r (d : Nat) {n j : Nat} (hn : (D n).length < 10000) (hj : j < nd n) : vCode Try.prog kn (vrun Try.prog kn (d + 2)) 87 (loopAt Try.f87 0) (ltS n j).1 (ltS n j).2 = some (.norm, ltS n (j + 1)) := by
  have hnd := nd_len hn
  have hp := nd_pos hj
  have hpos : 0 < n / 10 ^ j := Nat.div_pos hp (Nat.pow_pos (by omega))
  have hne : D (n / 10 ^ j) ≠ [] := fun h => by have := D_nil_iff.1 h; omega
  have hlp : 0 < (D (n / 10 ^ j)).length := List.length_pos_iff.2 hne
  have hle : (D (n / 10 ^ j)).length ≤ (D n).length := len_D_mono (Nat.div_le_self _ _)
  have a1 := l2small_v (z := n / 10 ^ j) (m := 10) d (by omega) (by omega) (by omega)
  rw [Nat.div_div_eq_div_mul, ← Nat.pow_succ, show ((10 : Nat) : Int) = 10 from rfl] at a1
  have hl := lsd_len n j
  have e1 : lsd n (j + 1) = lsd n j ++ [48 + ((n / 10 ^ j % 10 : Nat) : Int)] := by rw [lsd]; congr 2
  have hb : n / 10 ^ j % 10 < 10 := Nat.mod_lt _ (by omega)
  unfold ltS
  rw [e1]
  generalize n / 10 ^ j % 10 = r at *
  generalize D (n / 10 ^ (j + 1)) = Z at *
  generalize D (n / 10 ^ j) = X at *
  generalize lsd n j = L at *
  have htk : L.take j = L := List.take_of_length_le (by omega)
  have hw : IntKind.wrap .u8 (48 + (r : Int)) = 48 + (r : Int) := by
    unfold IntKind.wrap; simp [IntKind.signed, IntKind.bits]; omega
  clear hp hpos
  rw [round_v]; simp only [loopAt, nthC, bodyC, loops, List.nil_append, List.cons_append, List.append_nil, Try.f87]
  simp (implicitDefEqProofs := false) (disch := omega) [go_sem, tab87, nil87, a1, hne, hl, htk, hw]
theorem lt_x (call : CallV) {n : Nat} : vCode Try.prog kn call 87 (loopAt Try.f87 0) (ltS n (nd n)).1 (ltS n (nd n)).2 = some (.exit 0, (ltS n (nd n)).1 ++ [(17, some (.bool false))], (ltS n (nd n)).2) := by
  have e : D (n / 10 ^ nd n) = [] := by rw [nd_div (Nat.le_refl _), D_zero]
  unfold ltS
  rw [e]
  rw [round_v]; simp only [loopAt, nthC, bodyC, loops, List.nil_append, List.cons_append, List.append_nil, Try.f87]
  simp (implicitDefEqProofs := false) (disch := omega) [go_sem, tab87, nil87]
def lrS (L : List Int) (j : Nat) : VE × VH := ([(3, some (.sl 0 0 L.length 1)), (6, some (.sl 1 0 j 1)), (7, some (.int .i64 ((L.length : Int) - 1 - j)))], [.ints true .u8 L, .ints true .u8 (L.reverse.take j)])
theorem lr_r (call : CallV) {L : List Int} {j : Nat} (hL : L.length < 1000000) (hj : j < L.length) : vCode Try.prog kn call 87 (loopAt Try.f87 1) (lrS L j).1 (lrS L j).2 = some (.norm, lrS L (j + 1)) := by
  have e1 : L.reverse.take (j + 1) = L.reverse.take j ++ [gt L (L.length - 1 - j)] := by
    rw [List.take_add_one, List.getElem?_reverse hj, gt_some (by omega)]; rfl
  have hl : (L.reverse.take j).length = j := by simp; omega
  have e2 : ((L.length : Int) - 1 - j).toNat = L.length - 1 - j := by omega
  have e3 : (L.length : Int) - 1 - ((j + 1 : Nat) : Int) = (L.length : Int) - 1 - j - 1 := by omega
  unfold lrS
  rw [e1, e3]
  generalize L.reverse.take j = M at *
  have htk : M.take j = M := List.take_of_length_le (by omega)
  rw [round_v]; simp only [loopAt, nthC, bodyC, loops, List.nil_append, List.cons_append, List.append_nil, Try.f87]
  simp (implicitDefEqProofs := false) (disch := omega) [go_sem, tab87, nil87, hl, htk, e2]
theorem lr_x (call : CallV) {L : List Int} (hL : L.length < 1000000) : vCode Try.prog kn call 87 (loopAt Try.f87 1) (lrS L L.length).1 (lrS L L.length).2 = some (.exit 2, (lrS L L.length).1 ++ [(34, some (.bool false))], (lrS L L.length).2) := by
  rw [round_v]; simp only [loopAt, nthC, bodyC, loops, List.nil_append, List.cons_append, List.append_nil, Try.f87, lrS]
  simp (implicitDefEqProofs := false) (disch := omega) [go_sem, tab87, nil87]
theorem l2text_v (d : Nat) {n : Nat} (hn : (D n).length < 10000) : vrun Try.prog kn (d + 3) 87 [.agg [.ints .i64 (D n)]] [] = some (.sl 0 0 (text n).length 1, [.ints true .u8 (text n)]) := by
  by_cases h0 : n = 0
  · subst h0
    rw [D_zero]
    unfold text
    rw [if_pos rfl]
    rw [vrun_v Try.func87 rfl rfl rfl]; simp only [Try.f87]
    simp (implicitDefEqProofs := false) (disch := omega) [go_sem, tab87, nil87]
  · have hnd := nd_len hn
    have hl0 := fun ks => loop_v (P := Try.prog) (K := kn) (ks := ks) (vi_for (ltS n) (nd n) (n := kn.cf.rounds) (by rw [k_cf, c_rounds]; omega) (fun j hj => lt_r (d + 0) hn hj) fun m => vi_exit (lt_x _))
    have e0 : D (n / 10 ^ 0) = D n := by rw [Nat.pow_zero, Nat.div_one]
    have e1 : D (n / 10 ^ nd n) = [] := by rw [nd_div (Nat.le_refl _), D_zero]
    have hlen := lsd_len n (nd n)
    have htx : text n = (lsd n (nd n)).reverse := by unfold text; rw [if_neg h0]
    simp only [loopAt, nthC, bodyC, loops, List.nil_append, List.cons_append, List.append_nil, Try.f87, ltS, Int.natCast_zero, List.cons_append, List.nil_append, e0, e1, lsd] at hl0
    rw [htx]
    generalize lsd n (nd n) = L at *
    have hl1 := fun ks => loop_v (P := Try.prog) (K := kn) (ks := ks) (vi_for (lrS L) L.length (n := kn.cf.rounds) (by rw [k_cf, c_rounds]; omega) (fun j hj => lr_r (vrun Try.prog kn (d + 0 + 2)) (by omega) hj) fun m => vi_exit (lr_x _ (by omega)))
    have htk : L.reverse.take L.length = L.reverse := List.take_of_length_le (by simp)
    simp only [loopAt, nthC, bodyC, loops, List.nil_append, List.cons_append, List.append_nil, Try.f87, lrS, Int.natCast_zero, Int.sub_zero, List.cons_append, List.nil_append, List.take_zero, htk] at hl1
    have hne : D n ≠ [] := fun h => h0 (D_nil_iff.1 h)
    have hlp : 0 < (D n).length := List.length_pos_iff.2 hne
    clear e0 e1 htx
    rw [← hlen] at hl0
    generalize D n = Z at *
    rw [vrun_v Try.func87 rfl rfl rfl]; simp only [Try.f87]
    simp (implicitDefEqProofs := false) (disch := omega) [go_sem, tab87, nil87, hl0, hl1, hne, htk]
end
end
/- Texts drawn off a code; FnNatTexts. No conditions. -/
section
open Num
section
variable {b : List Int}
theorem DrawNatText_v (d : Nat) (hb : Cod b) : ∃ x : List Int, vrun Try.prog kn (d + 7) 23 [.ints .u8 b] [] = some (.agg [.ints .i64 x], []) ∧ x.length ≤ 101 := by
  obtain ⟨s, e0⟩ := l1New_v (h := [.vals true [.nil]]) (d + 5) hb
  simp only [List.length_cons, List.length_nil, List.cons_append, List.nil_append] at e0
  have c0 : Cu b 1 [.vals true [.nil], cur b 0 s] := ⟨0, s, rfl, by omega, by omega⟩
  obtain ⟨x, k, g0, eb, hl, q0, f0, hk, hk0, hB⟩ := l2bent_v (d + 0) hb c0
  simp only [List.length_cons, List.length_nil] at hk
  have z0 : g0[0]? = some (.vals true [.nil]) := f0.at rfl (by omega)
  have zs : ∀ A, (g0.set 0 A)[0]? = some A := fun A => by have := (List.getElem?_eq_some_iff.1 z0).1; simp [this]
  have zk : ∀ A, (g0.set 0 A)[k]? = some (.ints true .i64 x) := fun A => by rw [List.getElem?_set_ne (by omega)]; exact hk0
  refine ⟨x, ?_, hl⟩
  rw [vrun_v Try.func23 rfl rfl rfl]; simp only [Try.f23]
  simp (implicitDefEqProofs := false) (disch := omega) [go_sem, tab23, e0, eb, z0, zs, zk]
/-- The text so far. -/
def Tx (b : List Int) (g : VH) (q : Nat) (L : List Int) : Prop := Cu b 0 g ∧ g[q]? = some (.ints true .u8 L) ∧ 0 < q
structure TxR (g : VH) (q : Nat) (L : List Int) : Prop where
  r : g[q]? = some (.ints true .u8 L)
  ra : ∀ a : VH, (g ++ a)[q]? = some (.ints true .u8 L)
  s : ∀ (a : VH) (o : VO), (g ++ a).set q o = g.set q o ++ a
  h : ∀ (o a : VO), (g.set q o ++ [a])[g.length]? = some a
  h2 : ∀ (o a c : VO), (g.set q o ++ [a, c])[g.length + 1]? = some c
  l : L.take L.length = L
theorem Tx.rd {g : VH} {q : Nat} {L : List Int} (a : Tx b g q L) : TxR g q L := by
  have hl := (List.getElem?_eq_some_iff.1 a.2.1).1
  refine ⟨a.2.1, gap a.2.1, fun m o => List.set_append_left _ _ hl, fun o m => ?_, fun o m c => ?_, List.take_length ..⟩
  · rw [List.getElem?_append_right (by simp)]; simp
  · rw [List.getElem?_append_right (by simp)]; simp
theorem Tx.app {g : VH} {q : Nat} {L M : List Int} (a : Tx b g q L) (o : VO) : Tx b (g.set q .dead ++ [o, .ints true .u8 (L ++ M)]) (g.length + 1) (L ++ M) := by
  obtain ⟨c1, h1, h2⟩ := a
  refine ⟨(c1.setne (by omega) _).app _, ?_, by omega⟩
  rw [List.getElem?_append_right (by simp)]; simp
theorem Tx.step {g g' : VH} {q : Nat} {L : List Int} (a : Tx b g q L) (c : Cu b 0 g') (f : Frm 0 g g') : Tx b g' q L := ⟨c, f.at a.2.1 (by have := a.2.2; omega), a.2.2⟩
def dtS (q n : Nat) : VE := [(4, some (.sl q 0 n 1))]
theorem dt_l (call : CallV) {g : VH} {q : Nat} {L : List Int} {x : VE} (hL : L.length ≤ 200000) (a : Tx b g q L) : ∃ (L' : List Int) (q' : Nat) (g' : VH), viter (vCode Try.prog kn call 26 (loopAt Try.f26 0)) kn.cf.rounds ((4, some (.sl q 0 L.length 1)) :: [(25, some (.bool true))]) g = some (.exit 0, [(4, some (.sl q' 0 L'.length 1)), (28, some (.bool false))], g') ∧ L'.length ≤ 200000 ∧ Tx b g' q' L' := by
  have key := vi_inv (n := kn.cf.rounds) (body := vCode Try.prog kn call 26 (loopAt Try.f26 0))
    (fun j s => ∃ (L' : List Int) (q' : Nat) (g' : VH), s = ((4, some (.sl q' 0 L'.length 1)) :: (if j = 0 then [(25, some (.bool true))] else []), g') ∧ L'.length ≤ 200000 ∧ (j = 401 → 400 < L'.length) ∧ j ≤ L'.length ∧ Tx b g' q' L')
    (fun r => ∃ (L' : List Int) (q' : Nat) (g' : VH), r = some (.exit 0, [(4, some (.sl q' 0 L'.length 1)), (28, some (.bool false))], g') ∧ L'.length ≤ 200000 ∧ Tx b g' q' L') 401 (by rw [k_cf, c_rounds]; omega)
    (fun j s hj hI => by
      obtain ⟨L, q, g, rfl, h1, h2, h3, a⟩ := hI
      have r := a.rd
      have hX : ∀ X : VE, X = (if j = 0 then [(25, some (V.bool true))] else []) → (X = [] ∨ X = [(25, some (V.bool true))]) := fun X h => by split at h <;> simp [h]
      have hXX := hX _ rfl
      generalize (if j = 0 then [(25, some (V.bool true))] else ([] : VE)) = X at *
      by_cases hc : L.length ≤ 400
      · left
        refine ⟨([(4, some (.sl (g.length + 1) 0 (L.length + 1) 1))], g.set q .dead ++ [.ints true .u8 [55], .ints true .u8 (L ++ [55])]), ?_, L ++ [55], g.length + 1, _, by simp, by simp; omega, fun _ => by simp; omega, by simp; omega, a.app (M := [55]) (.ints true .u8 [55])⟩
        have r1 := r.r
        have r2 := r.ra
        have r3 := r.s
        have r4 := r.h
        have r5 := r.h2
        have r6 := r.l
        clear r a hX
        rcases hXX with rfl | rfl
        all_goals
          rw [round_v]; simp only [loopAt, nthC, bodyC, loops, List.nil_append, List.cons_append, List.append_nil, Try.f26]
          simp (implicitDefEqProofs := false) (disch := omega) [go_sem, tab26, nil26, r1, r2, r3, r4, r5, r6, last_at]
      · right; intro m
        refine ⟨L, q, g, vi_exit ?_, h1, a⟩
        clear r a hX
        rcases hXX with rfl | rfl
        all_goals
          rw [round_v]; simp only [loopAt, nthC, bodyC, loops, List.nil_append, List.cons_append, List.append_nil, Try.f26]
          simp (implicitDefEqProofs := false) (disch := omega) [go_sem, tab26, nil26])
    (fun s hI m => by
      obtain ⟨L, q, g, rfl, h1, h2, h3, a⟩ := hI
      refine ⟨L, q, g, vi_exit ?_, h1, a⟩
      have := h2 rfl
      clear a
      rw [if_neg (by omega)]
      rw [round_v]; simp only [loopAt, nthC, bodyC, loops, List.nil_append, List.cons_append, List.append_nil, Try.f26]
      simp (implicitDefEqProofs := false) (disch := omega) [go_sem, tab26, nil26])
    ((4, some (.sl q 0 L.length 1)) :: [(25, some (.bool true))], g) ⟨L, q, g, rfl, hL, fun h => by omega, by omega, a⟩
  exact key
theorem DrawNatRead_v (d : Nat) (hb : Cod b) : ∃ x : List Int, vrun Try.prog kn (d + 6) 26 [.ints .u8 b] [] = some (.ints .u8 x, []) ∧ x.length ≤ 200000 := by
  obtain ⟨s, e0⟩ := l1New_v (h := []) (d + 4) hb
  simp only [List.length_nil, List.nil_append] at e0
  have c0 : Cu b 0 [cur b 0 s] := ⟨0, s, rfl, by omega, by omega⟩
  obtain ⟨v, k, g0, e1, hv, q0, f0, hk, hk0⟩ := l2draw_v (d + 0) hb c0
  have e2 := fun d => l2text_v (n := v) d (by omega)
  have ht := text_le hv
  have a0 : Tx b (g0 ++ [.ints true .u8 (text v)]) g0.length (text v) := ⟨q0.app _, last_at _ _, by have := (List.getElem?_eq_some_iff.1 hk0).1; omega⟩
  generalize D v = R at *
  generalize text v = T at *
  have htk : T.take T.length = T := List.take_length ..
  obtain ⟨x1, g1, o1, q1, f1, l1⟩ := l1Once_v (d + 2) hb a0.1 (n := 4) (by omega) (by omega)
  have a1 := a0.step q1 f1
  have ra1 := a1.rd.r
  have ra2 := a1.rd.ra
  have ra3 := a1.rd.s
  have ra4 := a1.rd.h
  have ra5 := a1.rd.h2
  have ra6 := a1.rd.l
  cases x1
  · skip
    have a2 := a1
    obtain ⟨x2, g3, o3, q3, f3, l3⟩ := l1Once_v (d + 2) hb a2.1 (n := 8) (by omega) (by omega)
    have a3 := a2.step q3 f3
    have rc1 := a3.rd.r
    have rc2 := a3.rd.ra
    have rc3 := a3.rd.s
    have rc4 := a3.rd.h
    have rc5 := a3.rd.h2
    have rc6 := a3.rd.l
    cases x2
    · skip
      have b2 := a3
      obtain ⟨x3, g5, o5, q5, f5, l5⟩ := l1Once_v (d + 2) hb b2.1 (n := 30) (by omega) (by omega)
      have a5 := b2.step q5 f5
      have re1 := a5.rd.r
      have re2 := a5.rd.ra
      have re3 := a5.rd.s
      have re4 := a5.rd.h
      have re5 := a5.rd.h2
      have re6 := a5.rd.l
      cases x3
      · skip
        refine ⟨T, ?_, by first | omega | (simp; omega)⟩
        clear a0 a1 a2 a3 a5 b2
        rw [vrun_v Try.func26 rfl rfl rfl]; simp only [Try.f26]
        simp (implicitDefEqProofs := false) (disch := omega) [go_sem, tab26, nil26, e0, e1, e2, htk, hk0, last_at, o1, ra1, ra2, ra3, ra4, ra5, ra6, o3, rc1, rc2, rc3, rc4, rc5, rc6, o5, re1, re2, re3, re4, re5, re6]
      · skip
        obtain ⟨L', q', g', hv, hl', a'⟩ := dt_l (x := []) (vrun Try.prog kn (d + 2 + 3)) (L := T) (by first | omega | (simp; omega)) a5
        have hl0 := fun ks => loop_v (P := Try.prog) (K := kn) (ks := ks) hv
        simp only [loopAt, nthC, bodyC, loops, List.nil_append, List.cons_append, List.append_nil, Try.f26] at hl0
        have r' := a'.2.1
        have t' : L'.take L'.length = L' := List.take_length ..
        refine ⟨L', ?_, hl'⟩
        clear hv
        clear a0 a1 a2 a3 a5 b2
        rw [vrun_v Try.func26 rfl rfl rfl]; simp only [Try.f26]
        simp (implicitDefEqProofs := false) (disch := omega) [go_sem, tab26, nil26, e0, e1, e2, htk, hk0, last_at, o1, ra1, ra2, ra3, ra4, ra5, ra6, o3, rc1, rc2, rc3, rc4, rc5, rc6, o5, re1, re2, re3, re4, re5, re6, hl0, r', t']
    · skip
      have b2 : Tx b ((g3 ++ [.dead]) ++ [.ints true .u8 (48 :: (T))]) (g3.length + 1) (48 :: (T)) := ⟨(a3.1.app _).app _, by rw [List.getElem?_append_right (by simp)]; simp, by omega⟩
      rw [List.append_assoc, List.cons_append, List.nil_append] at b2
      have lb : (48 :: (T)).length = 1 + T.length := by simp; omega
      have ls : ∀ (X Y : VO), (g3 ++ [X]).set g3.length Y = g3 ++ [Y] := fun X Y => by rw [List.set_append_right _ _ (Nat.le_refl _)]; simp
      have lz : ∀ (X : VO), (g3 ++ [X])[g3.length]? = some X := fun X => last_at _ _
      obtain ⟨x3, g5, o5, q5, f5, l5⟩ := l1Once_v (d + 2) hb b2.1 (n := 30) (by omega) (by omega)
      have a5 := b2.step q5 f5
      have re1 := a5.rd.r
      have re2 := a5.rd.ra
      have re3 := a5.rd.s
      have re4 := a5.rd.h
      have re5 := a5.rd.h2
      have re6 := a5.rd.l
      cases x3
      · skip
        refine ⟨48 :: (T), ?_, by first | omega | (simp; omega)⟩
        clear a0 a1 a2 a3 a5 b2
        rw [vrun_v Try.func26 rfl rfl rfl]; simp only [Try.f26]
        simp (implicitDefEqProofs := false) (disch := omega) [go_sem, tab26, nil26, e0, e1, e2, htk, hk0, last_at, o1, ra1, ra2, ra3, ra4, ra5, ra6, o3, rc1, rc2, rc3, rc4, rc5, rc6, lb, ls, lz, o5, re1, re2, re3, re4, re5, re6]
      · skip
        obtain ⟨L', q', g', hv, hl', a'⟩ := dt_l (x := []) (vrun Try.prog kn (d + 2 + 3)) (L := 48 :: (T)) (by first | omega | (simp; omega)) a5
        have hl0 := fun ks => loop_v (P := Try.prog) (K := kn) (ks := ks) hv
        simp only [loopAt, nthC, bodyC, loops, List.nil_append, List.cons_append, List.append_nil, Try.f26] at hl0
        have r' := a'.2.1
        have t' : L'.take L'.length = L' := List.take_length ..
        refine ⟨L', ?_, hl'⟩
        rw [lb] at hl0
        clear hv
        clear a0 a1 a2 a3 a5 b2
        rw [vrun_v Try.func26 rfl rfl rfl]; simp only [Try.f26]
        simp (implicitDefEqProofs := false) (disch := omega) [go_sem, tab26, nil26, e0, e1, e2, htk, hk0, last_at, o1, ra1, ra2, ra3, ra4, ra5, ra6, o3, rc1, rc2, rc3, rc4, rc5, rc6, lb, ls, lz, o5, re1, re2, re3, re4, re5, re6, hl0, r', t']
  · skip
    obtain ⟨y, g2, o2, ym, q2, f2, l2⟩ := l1Pick_v (d + 2) hb (a1.1.app [.ints true .i64 [48, 120, 32, 45]]) (L := [48, 120, 32, 45]) (last_at _ _) (n := 4) rfl (by simp) (by simp)
    have b1 : Tx b g2 g0.length T := (show Tx b (g1 ++ [.ints true .i64 [48, 120, 32, 45]]) g0.length T from ⟨a1.1.app _, gap a1.2.1 _, a1.2.2⟩).step q2 f2
    have rb1 := b1.rd.r
    have rb2 := b1.rd.ra
    have rb3 := b1.rd.s
    have rb4 := b1.rd.h
    have rb5 := b1.rd.h2
    have rb6 := b1.rd.l
    have a2 := b1.app (M := [IntKind.wrap .u8 y]) (.ints true .u8 [IntKind.wrap .u8 y])
    have la : (T ++ [IntKind.wrap .u8 y]).length = T.length + 1 := by simp
    obtain ⟨x2, g3, o3, q3, f3, l3⟩ := l1Once_v (d + 2) hb a2.1 (n := 8) (by omega) (by omega)
    have a3 := a2.step q3 f3
    have rc1 := a3.rd.r
    have rc2 := a3.rd.ra
    have rc3 := a3.rd.s
    have rc4 := a3.rd.h
    have rc5 := a3.rd.h2
    have rc6 := a3.rd.l
    cases x2
    · skip
      have b2 := a3
      obtain ⟨x3, g5, o5, q5, f5, l5⟩ := l1Once_v (d + 2) hb b2.1 (n := 30) (by omega) (by omega)
      have a5 := b2.step q5 f5
      have re1 := a5.rd.r
      have re2 := a5.rd.ra
      have re3 := a5.rd.s
      have re4 := a5.rd.h
      have re5 := a5.rd.h2
      have re6 := a5.rd.l
      cases x3
      · skip
        refine ⟨T ++ [IntKind.wrap .u8 y], ?_, by first | omega | (simp; omega)⟩
        clear a0 a1 a2 a3 a5 b2 b1
        rw [vrun_v Try.func26 rfl rfl rfl]; simp only [Try.f26]
        simp (implicitDefEqProofs := false) (disch := omega) [go_sem, tab26, nil26, e0, e1, e2, htk, hk0, last_at, o1, ra1, ra2, ra3, ra4, ra5, ra6, o2, rb1, rb2, rb3, rb4, rb5, rb6, la, o3, rc1, rc2, rc3, rc4, rc5, rc6, o5, re1, re2, re3, re4, re5, re6]
      · skip
        obtain ⟨L', q', g', hv, hl', a'⟩ := dt_l (x := []) (vrun Try.prog kn (d + 2 + 3)) (L := T ++ [IntKind.wrap .u8 y]) (by first | omega | (simp; omega)) a5
        have hl0 := fun ks => loop_v (P := Try.prog) (K := kn) (ks := ks) hv
        simp only [loopAt, nthC, bodyC, loops, List.nil_append, List.cons_append, List.append_nil, Try.f26] at hl0
        have r' := a'.2.1
        have t' : L'.take L'.length = L' := List.take_length ..
        refine ⟨L', ?_, hl'⟩
        rw [la] at *
        clear hv
        clear a0 a1 a2 a3 a5 b2 b1
        rw [vrun_v Try.func26 rfl rfl rfl]; simp only [Try.f26]
        simp (implicitDefEqProofs := false) (disch := omega) [go_sem, tab26, nil26, e0, e1, e2, htk, hk0, last_at, o1, ra1, ra2, ra3, ra4, ra5, ra6, o2, rb1, rb2, rb3, rb4, rb5, rb6, la, o3, rc1, rc2, rc3, rc4, rc5, rc6, o5, re1, re2, re3, re4, re5, re6, hl0, r', t']
    · skip
      have b2 : Tx b ((g3 ++ [.dead]) ++ [.ints true .u8 (48 :: (T ++ [IntKind.wrap .u8 y]))]) (g3.length + 1) (48 :: (T ++ [IntKind.wrap .u8 y])) := ⟨(a3.1.app _).app _, by rw [List.getElem?_append_right (by simp)]; simp, by omega⟩
      rw [List.append_assoc, List.cons_append, List.nil_append] at b2
      have lb : (48 :: (T ++ [IntKind.wrap .u8 y])).length = 1 + (T.length + 1) := by simp; omega
      have ls : ∀ (X Y : VO), (g3 ++ [X]).set g3.length Y = g3 ++ [Y] := fun X Y => by rw [List.set_append_right _ _ (Nat.le_refl _)]; simp
      have lz : ∀ (X : VO), (g3 ++ [X])[g3.length]? = some X := fun X => last_at _ _
      obtain ⟨x3, g5, o5, q5, f5, l5⟩ := l1Once_v (d + 2) hb b2.1 (n := 30) (by omega) (by omega)
      have a5 := b2.step q5 f5
      have re1 := a5.rd.r
      have re2 := a5.rd.ra
      have re3 := a5.rd.s
      have re4 := a5.rd.h
      have re5 := a5.rd.h2
      have re6 := a5.rd.l
      cases x3
      · skip
        refine ⟨48 :: (T ++ [IntKind.wrap .u8 y]), ?_, by first | omega | (simp; omega)⟩
        clear a0 a1 a2 a3 a5 b2 b1
        rw [vrun_v Try.func26 rfl rfl rfl]; simp only [Try.f26]
        simp (implicitDefEqProofs := false) (disch := omega) [go_sem, tab26, nil26, e0, e1, e2, htk, hk0, last_at, o1, ra1, ra2, ra3, ra4, ra5, ra6, o2, rb1, rb2, rb3, rb4, rb5, rb6, la, o3, rc1, rc2, rc3, rc4, rc5, rc6, lb, ls, lz, o5, re1, re2, re3, re4, re5, re6]
      · skip
        obtain ⟨L', q', g', hv, hl', a'⟩ := dt_l (x := []) (vrun Try.prog kn (d + 2 + 3)) (L := 48 :: (T ++ [IntKind.wrap .u8 y])) (by first | omega | (simp; omega)) a5
        have hl0 := fun ks => loop_v (P := Try.prog) (K := kn) (ks := ks) hv
        simp only [loopAt, nthC, bodyC, loops, List.nil_append, List.cons_append, List.append_nil, Try.f26] at hl0
        have r' := a'.2.1
        have t' : L'.take L'.length = L' := List.take_length ..
        refine ⟨L', ?_, hl'⟩
        skip
        rw [lb] at hl0
        clear hv
        clear a0 a1 a2 a3 a5 b2 b1
        rw [vrun_v Try.func26 rfl rfl rfl]; simp only [Try.f26]
        simp (implicitDefEqProofs := false) (disch := omega) [go_sem, tab26, nil26, e0, e1, e2, htk, hk0, last_at, o1, ra1, ra2, ra3, ra4, ra5, ra6, o2, rb1, rb2, rb3, rb4, rb5, rb6, la, o3, rc1, rc2, rc3, rc4, rc5, rc6, lb, ls, lz, o5, re1, re2, re3, re4, re5, re6, hl0, r', t']
end
end
/- The laws' types as values. No conditions. -/
section
open Go.Proofs Num
def DyT.row (x : DyT) : Prop := x.l.length ≤ 9223372036854775807 ∧ (∀ y ∈ x.l, (Lit.int .i64 y).wf = true) ∧ (Lit.int .i64 x.e).wf = true
def TInt (vs : List V) : Prop := ∃ x : Int, vs = [.int .i64 x] ∧ (Lit.int .i64 x).wf = true
def TBool (vs : List V) : Prop := ∃ x : Bool, vs = [.bool x]
def TInts (vs : List V) : Prop := ∃ l : List Int, vs = [.ints .i64 l] ∧ l.length ≤ 9223372036854775807 ∧ ∀ x ∈ l, (Lit.int .i64 x).wf = true
def TDys (vs : List V) : Prop := ∃ ds : List DyT, vs = [.cells 3 ds.length (flat DyT.v ds)] ∧ ds.length ≤ 9223372036854775807 ∧ ∀ x ∈ ds, x.row
theorem opInt : OpV Try.prog 3 1 TInt := OpV.int Try.underlying3 (by kernel_rfl)
theorem opBool : OpV Try.prog 4 1 TBool := OpV.bool Try.underlying4 (by kernel_rfl)
theorem opInts : OpV Try.prog 24 1 TInts := OpV.ints Try.underlying24 (by kernel_rfl) Try.underlying3 (by kernel_rfl)
theorem opBytes : OpV Try.prog 22 1 (fun vs => ∃ l : List Int, vs = [.ints .u8 l] ∧ l.length ≤ 9223372036854775807 ∧ ∀ x ∈ l, (Lit.int .u8 x).wf = true) := OpV.ints Try.underlying22 (by kernel_rfl) Try.underlying5 (by kernel_rfl)
theorem opNat : OpV Try.prog 52 1 TInts := OpV.struct1 Try.underlying52 (by kernel_rfl) rfl opInts
theorem opWhole : OpV Try.prog 64 2 (fun vs => ∃ (n : Bool) (l : List Int), vs = [.bool n, .ints .i64 l] ∧ l.length ≤ 9223372036854775807 ∧ ∀ x ∈ l, (Lit.int .i64 x).wf = true) :=
  (OpV.struct2 Try.underlying64 (by kernel_rfl) rfl rfl opBool opNat).imp fun vs ⟨_, _, e, ⟨n, e1⟩, ⟨l, e2, h1, h2⟩⟩ => ⟨n, l, by rw [e, e1, e2]; rfl, h1, h2⟩
end
end Go.Eng
