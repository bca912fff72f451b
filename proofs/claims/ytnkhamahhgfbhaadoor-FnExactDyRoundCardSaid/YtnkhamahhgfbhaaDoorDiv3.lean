/- Division, digit by digit: taking a multiple away; adding once. No conditions. -/
import Derived.Test.YtnkhamahhgfbhaaDoorDiv2
set_option linter.unusedVariables false
set_option linter.unusedSimpArgs false
namespace Go.Eng
open Go.Proofs
set_option maxRecDepth 100000
set_option linter.unusedSimpArgs false
attribute [local go_sem] r_seq r_skip r_retC r_exitC r_label r_block r_region r_regionW r_xWt r_xW r_cond r_Bt r_Bf r_Ncode r_Nret r_Nexit r_Nblk r_Nblkr r_Nblke r_Nnil r_Es r_Onil r_Oop r_Oif r_Xs r_Gt r_Gf r_wtt r_wtf r_wft r_wff r_wu r_gO r_putS r_putN r_get r_keepN r_keepC r_fr r_fn r_fi r_ff r_fo r_l1 r_l2t r_cun r_cul r_cub r_cui r_cus r_cuis r_cuc r_cusl r_cuti r_cutv r_ven r_vec r_l2f r_l3 r_t1 r_t2 r_t0 r_rt r_rc r_en r_ec r_cM r_oN r_oC r_end r_endt r_endf r_nob0 r_nobN r_nobC r_nobE r_nb0 r_nbi r_nbs r_nbsl r_nbin r_nbce r_nLn r_nLv r_nLc r_nAa r_nAn r_nAk_b r_nAk_i r_nAk_s r_nAk_n r_nAk_is r_nAk_ce r_nAk_fp r_nAk_sl r_nAk_pt r_nAk_fn r_nsn r_nsv r_nsc r_m0 r_mi r_ms r_msl r_min r_mce r_mLn r_mLv r_mLc r_mAa r_mAn r_mAk_b r_mAk_i r_mAk_s r_mAk_n r_mAk_is r_mAk_ce r_mAk_fp r_mAk_sl r_mAk_pt r_mAk_fn r_msn r_msv r_msc r_atb r_ati r_ats r_atn r_atis r_atc r_atf r_atl r_atp r_atfn r_gcn r_gcc r_gLn r_gLc r_gIt r_ndn r_ndc r_gcB r_gLB r_two r_rea r_rea0 r_re1n r_re1c r_ori r_orv r_ord r_orn r_adn r_adc r_ad1 r_ern r_ers r_er0 r_rsl r_rptr r_rb r_ri r_rs r_rn r_ris r_rce r_rfp r_ra4 r_ra3 r_rt4 r_rf4 r_rf3 r_idS r_idc r_nS r_nP r_nF r_nT r_vsl r_vptr r_vb r_vi r_vs r_vn r_vis r_vce r_vfp r_va4 r_va3 r_vt4 r_vf4 r_vf3 r_rV r_Oi r_Ov r_Od r_rE r_rE0 r_En r_Ec r_E0 r_pO r_pk r_agL r_cO r_fO r_fSi r_fSv r_fPv r_fsl r_fptr r_ffn r_fag r_fb r_fint r_fstr r_fnil r_fis r_fce r_ffp r_res r_move r_assign r_pick r_pickt r_pickf r_alloc r_box r_al r_build r_bslice r_load r_store r_nlc r_nl1 r_nl2 r_bin r_un r_conv r_mkf r_mks r_slc r_fad r_fld r_iad r_idx r_ext r_ex1 r_callf r_callt r_callen r_calapp r_calmax r_calmin r_vt r_vcb r_vci r_vcs r_vcn r_vca r_vcf r_vcg r_ofb r_ofi r_ofs r_ofn r_evs r_pn r_prt r_pc r_one_a r_one_b r_one_i r_one_s r_one_n r_one_is r_one_ce r_one_fp r_one_sl r_one_pt r_one_fn r_cs_a r_cs_b r_cs_i r_cs_s r_cs_n r_cs_is r_cs_ce r_cs_fp r_cs_sl r_cs_pt r_cs_fn r_tov r_tovA r_toc r_toa r_tb r_ti r_ts r_tn r_bd r_bd2 r_filn r_fp1 r_filc r_fsn r_fsc r_san r_sac r_bs2 r_bs1 r_newO r_mkq r_mkI r_mkOi r_mkOv r_tIn r_tIc r_repz r_repn r_ldp r_ldf r_l1t r_l1f r_lFt r_lFf r_aggO r_obj r_at r_ati' r_atv r_celli r_cellv r_subi r_subv r_sto r_sto1 r_sto2 r_sets r_setR r_setn r_setc r_s1i r_s1v r_bin1 r_bin2 r_tv1 r_cb r_ci r_cst r_cn r_csl r_cis r_cce r_uni r_unb r_cv r_cvi r_cvs r_cvb r_cvl r_sO r_rdn r_rdi r_rdl r_rdO r_vsub r_vfn r_mk r_mk1 r_mk2 r_zoi r_zov r_leni r_lenv r_bn r_bndV r_bo r_sl0 r_sl1 r_vsz r_ct1 r_cts r_cti r_ctc r_ctn r_lnl r_lni r_lnc r_lnn r_fa r_fap r_faf r_fi1 r_fit r_fif r_ixi r_ixs r_ixc r_ixf r_ixF r_ixF2 r_ix1 r_ixsl r_ixin r_ixce r_len1 r_lenA r_lTs r_lTn r_lTl r_lTi r_lTc r_app0 r_app r_app1 r_app2 r_app3 r_catO r_cati r_catv r_newt r_newf r_pair r_pairK r_trip r_kis r_kiv r_srn r_srl r_sri r_src r_srs r_oln r_oll r_vw r_wi r_wv r_mm r_max r_min' r_str r_cF r_c2t r_c3f r_c3t r_ab r_c2f r_cV r_p1 r_la r_la2t r_la2f r_la3 r_sh r_z_is r_z_ce r_z_fp r_z_b r_z_i r_z_s r_z_n r_z_l r_z_p r_z_a4 r_z_a3 r_z_t4 r_zoI r_zoV r_roN r_roC r_roi r_rod r_zod r_rov r_aR r_trOi r_trOv r_trPv r_trl r_trp r_trf r_tra r_trb r_tri r_trs r_trn r_tris r_trce r_trfp
attribute [local go_sem] b_add b_sub b_mul b_quo b_rem b_shl b_shr b_eql b_neq b_lss b_leq b_gtr b_geq eqB_s b_eqB b_neB u_neg u_not b_nn b_nn' eqS_s zerosT_s zerosT_n zt_i zt_sl zt_st dstOf_z dstOf_n iltT iltF ileT ileF ieqT ieqF nltT nltF nleT nleF neqT neqF tdiv_pos tmod_pos w64 idx0 List.take_of_length_le
open Num
/-- What a multiple's taking away leaves: the list, the borrow. -/
def tkS (u v : List Int) (j : Nat) (q : Int) : Nat → List Int × Int
  | 0 => (u, 0)
  | i + 1 => ((tkS u v j q i).1.set (j + i) ((gt (tkS u v j q i).1 (j + i) - q * gt v i - (tkS u v j q i).2) % 65536), -((gt (tkS u v j q i).1 (j + i) - q * gt v i - (tkS u v j q i).2) / 65536))
def adS (u v : List Int) (j : Nat) : Nat → List Int × Int
  | 0 => (u, 0)
  | i + 1 => ((adS u v j i).1.set (j + i) (((adS u v j i).2 + (gt (adS u v j i).1 (j + i) + gt v i)) % 65536), ((adS u v j i).2 + (gt (adS u v j i).1 (j + i) + gt v i)) / 65536)
theorem take_succ' {l : List Int} {i : Nat} (h : i < l.length) : l.take (i + 1) = l.take i ++ [gt l i] := by
  rw [List.take_add_one, gt_some h]; rfl
theorem val_take_succ {l : List Int} {i : Nat} (h : i < l.length) : val (l.take (i + 1)) = val (l.take i) + 65536 ^ i * gt l i := by
  rw [take_succ' h, val_snoc, List.length_take, Nat.min_eq_left (by omega)]
section
variable {u v : List Int} {j n : Nat} {q : Int}
theorem tk_len : ∀ i, (tkS u v j q i).1.length = u.length
  | 0 => rfl
  | i + 1 => by rw [tkS, List.length_set]; exact tk_len i
theorem tk_hi : ∀ i k, j + i ≤ k → gt (tkS u v j q i).1 k = gt u k
  | 0, _, _ => rfl
  | i + 1, k, h => by rw [tkS, gt_set_ne (by omega)]; exact tk_hi i k (by omega)
theorem tk_good (hu : GoodL u) : ∀ i, GoodL (tkS u v j q i).1
  | 0 => hu
  | i + 1 => by rw [tkS]; exact (tk_good hu i).set _ (by omega) (by omega)
theorem tk_bd (hu : GoodL u) (hv : GoodL v) (q0 : 0 ≤ q) (q1 : q < 65536) : ∀ i, 0 ≤ (tkS u v j q i).2 ∧ (tkS u v j q i).2 < 65536
  | 0 => by simp [tkS]
  | i + 1 => by
    have h1 := tk_bd hu hv q0 q1 i
    have h2 := (tk_good hu i (v := v) (j := j) (q := q)).gtB (j + i)
    have h3 := hv.gtB i
    have h4 : 0 ≤ q * gt v i ∧ q * gt v i ≤ 4294836225 := mul_bd ⟨q0, q1⟩ h3
    simp only [tkS]
    omega
theorem tk_val (hj : j + n ≤ u.length) (hn : n ≤ v.length) : ∀ i, i ≤ n → val (tkS u v j q i).1 - 65536 ^ j * 65536 ^ i * (tkS u v j q i).2 = val u - q * 65536 ^ j * val (v.take i)
  | 0, _ => by simp [tkS, val]
  | i + 1, h => by
    have h1 := tk_val hj hn i (by omega)
    rw [val_take_succ (by omega), Int.pow_succ]
    refine take_step h1 rfl ?_
    simp only [tkS]
    rw [val_setG (by rw [tk_len]; omega), Int.pow_add, tk_hi i (j + i) (Nat.le_refl _)]
theorem ad_len : ∀ i, (adS u v j i).1.length = u.length
  | 0 => rfl
  | i + 1 => by rw [adS, List.length_set]; exact ad_len i
theorem ad_hi : ∀ i k, j + i ≤ k → gt (adS u v j i).1 k = gt u k
  | 0, _, _ => rfl
  | i + 1, k, h => by rw [adS, gt_set_ne (by omega)]; exact ad_hi i k (by omega)
theorem ad_good (hu : GoodL (u.set (j + n) 0)) : ∀ i, i ≤ n → GoodL ((adS u v j i).1.set (j + n) 0)
  | 0, _ => hu
  | i + 1, h => by
    rw [adS]
    simp only
    rw [List.set_comm _ _ (by omega)]
    exact (ad_good hu i (by omega)).set _ (by omega) (by omega)
theorem ad_at (hu : GoodL (u.set (j + n) 0)) {i k : Nat} (hi : i ≤ n) (hk : k ≠ j + n) : 0 ≤ gt (adS u v j i).1 k ∧ gt (adS u v j i).1 k < 65536 := by
  have := (ad_good (v := v) hu i hi).gtB k
  rwa [gt_set_ne (Ne.symm hk)] at this
theorem ad_bd (hu : GoodL (u.set (j + n) 0)) (hv : GoodL v) : ∀ i, i ≤ n → 0 ≤ (adS u v j i).2 ∧ (adS u v j i).2 < 65536
  | 0, _ => by simp [adS]
  | i + 1, h => by
    have h1 := ad_bd hu hv i (by omega)
    have h2 := ad_at (v := v) hu (i := i) (k := j + i) (by omega) (by omega)
    have h3 := hv.gtB i
    simp only [adS]
    omega
theorem ad_val (hj : j + n ≤ u.length) (hn : n ≤ v.length) : ∀ i, i ≤ n → val (adS u v j i).1 + 65536 ^ j * 65536 ^ i * (adS u v j i).2 = val u + 65536 ^ j * val (v.take i)
  | 0, _ => by simp [adS, val]
  | i + 1, h => by
    have h1 := ad_val hj hn i (by omega)
    rw [val_take_succ (by omega), Int.pow_succ]
    refine add_step h1 rfl ?_
    simp only [adS]
    rw [val_setG (by rw [ad_len]; omega), Int.pow_add, ad_hi i (j + i) (Nat.le_refl _)]
end
section
variable {u v : List Int} {j n : Nat} {q : Int}
def takeT (v u o : List Int) (j : Nat) (q b : Int) (i : Nat) : VE × VH := ([(0, some (.sl 1 0 u.length 1)), (1, some (.sl 0 0 v.length 1)), (2, some (.int .i64 j)), (3, some (.int .i64 q)), (9, some (.int .i64 b)), (13, some (.sl 0 0 v.length 1)), (14, some (.int .i64 v.length)), (15, some (.int .i64 i))], [.ints true .i64 v, .ints true .i64 u, .ints true .i64 o])
theorem take_r (call : CallV) {o : List Int} (hu : GoodL u) (hv : GoodL v) (q0 : 0 ≤ q) (q1 : q < 65536) (hj : j + v.length < u.length) (hul : u.length < 1000000) {i : Nat} (hi : i < v.length) :
    vCode Tryd.prog kn call 139 (loopAt Tryd.f139 0) (takeT v (tkS u v j q i).1 o j q (tkS u v j q i).2 i).1 (takeT v (tkS u v j q i).1 o j q (tkS u v j q i).2 i).2 = some (.norm, takeT v (tkS u v j q (i + 1)).1 o j q (tkS u v j q (i + 1)).2 (i + 1)) := by
  have h1 := tk_bd hu hv q0 q1 i (j := j)
  have h2 := (tk_good hu i (v := v) (j := j) (q := q)).gtB (j + i)
  have h3 := hv.gtB i
  have h4 : 0 ≤ q * gt v i ∧ q * gt v i ≤ 4294836225 := mul_bd ⟨q0, q1⟩ h3
  have hl := tk_len (u := u) (v := v) (j := j) (q := q) i
  have e1 : ((j : Int) + i).toNat = j + i := by omega
  obtain ⟨t1, t2, t3⟩ := take_borrow (gt (tkS u v j q i).1 (j + i) - q * gt v i - (tkS u v j q i).2)
  rw [round_v]; simp only [loopAt, nthC, bodyC, loops, List.nil_append, List.cons_append, List.append_nil, Tryd.f139, tkS, takeT, List.length_set]
  generalize (tkS u v j q i).1 = U at *
  generalize (tkS u v j q i).2 = b at *
  generalize hxx : gt v i = x at *
  generalize hx : q * x = p at *
  generalize hw : gt U (j + i) = w at *
  by_cases h : w - p - b < 0
  · have t4 := t2 h
    have t5 : -(w - p - b) + 65536 - 1 = -(w - p - b) + 65535 := by omega
    generalize hd : w - p - b = d at *
    have t6 : 0 ≤ -(d / 65536) ∧ -(d / 65536) < 70000 := by omega
    have t7 : 0 ≤ d % 65536 ∧ d % 65536 < 65536 := by omega
    generalize -(d / 65536) = b' at *
    generalize d % 65536 = d' at *
    simp (implicitDefEqProofs := false) (disch := omega) [go_sem, tab139, e1, hw, hxx, hx, hd, hl, t1, t4, t5]
  · have t4 := t3 (by omega) (by omega)
    have t8 : (w - p - b) % 65536 = w - p - b := by omega
    rw [t4, t8]
    generalize hd : w - p - b = d at *
    simp (implicitDefEqProofs := false) (disch := omega) [go_sem, tab139, e1, hw, hxx, hx, hd, hl]
theorem take_x (call : CallV) {o u : List Int} {b : Int} (hul : u.length < 1000000) (hvl : v.length < 1000000) :
    vCode Tryd.prog kn call 139 (loopAt Tryd.f139 0) (takeT v u o j q b v.length).1 (takeT v u o j q b v.length).2 = some (.exit 0, (takeT v u o j q b v.length).1 ++ [(16, some (.bool false))], (takeT v u o j q b v.length).2) := by
  rw [round_v]; simp only [loopAt, nthC, bodyC, loops, List.nil_append, List.cons_append, List.append_nil, Tryd.f139, takeT]
  simp (implicitDefEqProofs := false) (disch := omega) [go_sem, tab139]
theorem takeAway_v (d : Nat) {o : List Int} (hu : GoodL u) (hv : GoodL v) (q0 : 0 ≤ q) (q1 : q < 65536) (hj : j + v.length < u.length) (hul : u.length < 1000000) :
    vrun Tryd.prog kn (d + 1) 139 [.sl 1 0 u.length 1, .sl 0 0 v.length 1, .int .i64 j, .int .i64 q] [.ints true .i64 v, .ints true .i64 u, .ints true .i64 o] = some (.bool (decide (gt u (j + v.length) - (tkS u v j q v.length).2 < 0)), [.ints true .i64 v, .ints true .i64 ((tkS u v j q v.length).1.set (j + v.length) (gt u (j + v.length) - (tkS u v j q v.length).2)), .ints true .i64 o]) := by
  have hl0 := fun ks => loop_v (P := Tryd.prog) (K := kn) (ks := ks) (vi_for (fun i => takeT v (tkS u v j q i).1 o j q (tkS u v j q i).2 i) v.length (n := kn.cf.rounds) (by rw [k_cf, c_rounds]; omega) (fun i hi => take_r (vrun Tryd.prog kn d) hu hv q0 q1 hj hul hi) fun m => vi_exit (take_x _ (by rw [tk_len]; exact hul) (by omega)))
  have h1 := tk_bd hu hv q0 q1 v.length (j := j)
  have h2 := hu.gtB (j + v.length)
  have h3 := tk_hi (u := u) (v := v) (q := q) v.length (j + v.length) (Nat.le_refl _)
  have hl := tk_len (u := u) (v := v) (j := j) (q := q) v.length
  have e1 : ((j : Int) + v.length).toNat = j + v.length := by omega
  simp only [loopAt, nthC, bodyC, loops, List.nil_append, List.cons_append, List.append_nil, Tryd.f139, takeT, tkS, Int.natCast_zero, List.cons_append, List.nil_append] at hl0
  generalize (tkS u v j q v.length).1 = U at *
  generalize (tkS u v j q v.length).2 = b at *
  rw [hl] at hl0
  generalize hw : gt u (j + v.length) = w at *
  generalize u.length = L at *
  have h4 : gt (U.set (j + v.length) (w - b)) (j + v.length) = w - b := gt_set_eq (by omega) _
  generalize hZ : U.set (j + v.length) (w - b) = Z at *
  have hlz : Z.length = L := by rw [← hZ, List.length_set, hl]
  rw [vrun_v Tryd.func139 rfl rfl rfl]; simp only [Tryd.f139]
  simp (implicitDefEqProofs := false) (disch := omega) [go_sem, tab139, e1, hl, hl0, h3, hZ, hlz, h4]
def addT (v u o : List Int) (j : Nat) (c : Int) (i : Nat) : VE × VH := ([(0, some (.sl 1 0 u.length 1)), (1, some (.sl 0 0 v.length 1)), (2, some (.int .i64 j)), (6, some (.int .i64 c)), (9, some (.sl 0 0 v.length 1)), (10, some (.int .i64 v.length)), (11, some (.int .i64 i))], [.ints true .i64 v, .ints true .i64 u, .ints true .i64 o])
theorem addb_r (call : CallV) {o : List Int} (hu : GoodL (u.set (j + v.length) 0)) (hv : GoodL v) (hj : j + v.length < u.length) (hul : u.length < 1000000) {i : Nat} (hi : i < v.length) :
    vCode Tryd.prog kn call 140 (loopAt Tryd.f140 0) (addT v (adS u v j i).1 o j (adS u v j i).2 i).1 (addT v (adS u v j i).1 o j (adS u v j i).2 i).2 = some (.norm, addT v (adS u v j (i + 1)).1 o j (adS u v j (i + 1)).2 (i + 1)) := by
  have h1 := ad_bd hu hv i (by omega)
  have h2 := ad_at (v := v) hu (i := i) (k := j + i) (by omega) (by omega)
  have h3 := hv.gtB i
  have hl := ad_len (u := u) (v := v) (j := j) i
  have e1 : ((j : Int) + i).toNat = j + i := by omega
  rw [round_v]; simp only [loopAt, nthC, bodyC, loops, List.nil_append, List.cons_append, List.append_nil, Tryd.f140, adS, addT, List.length_set]
  generalize (adS u v j i).1 = U at *
  generalize (adS u v j i).2 = c at *
  generalize hxx : gt v i = x at *
  generalize hw : gt U (j + i) = w at *
  generalize hs : c + (w + x) = s at *
  simp (implicitDefEqProofs := false) (disch := omega) [go_sem, tab140, e1, hw, hxx, hs, hl]
theorem addb_x (call : CallV) {o u : List Int} {c : Int} (hul : u.length < 1000000) (hvl : v.length < 1000000) :
    vCode Tryd.prog kn call 140 (loopAt Tryd.f140 0) (addT v u o j c v.length).1 (addT v u o j c v.length).2 = some (.exit 0, (addT v u o j c v.length).1 ++ [(12, some (.bool false))], (addT v u o j c v.length).2) := by
  rw [round_v]; simp only [loopAt, nthC, bodyC, loops, List.nil_append, List.cons_append, List.append_nil, Tryd.f140, addT]
  simp (implicitDefEqProofs := false) (disch := omega) [go_sem, tab140]
theorem addBack_v (d : Nat) {o : List Int} (hu : GoodL (u.set (j + v.length) 0)) (hv : GoodL v) (hj : j + v.length < u.length) (hul : u.length < 1000000) (hb : -100000 ≤ gt u (j + v.length)) (hb' : gt u (j + v.length) ≤ 100000) :
    vrun Tryd.prog kn (d + 1) 140 [.sl 1 0 u.length 1, .sl 0 0 v.length 1, .int .i64 j] [.ints true .i64 v, .ints true .i64 u, .ints true .i64 o] = some (.tup [], [.ints true .i64 v, .ints true .i64 ((adS u v j v.length).1.set (j + v.length) (gt u (j + v.length) + (adS u v j v.length).2)), .ints true .i64 o]) := by
  have hl0 := fun ks => loop_v (P := Tryd.prog) (K := kn) (ks := ks) (vi_for (fun i => addT v (adS u v j i).1 o j (adS u v j i).2 i) v.length (n := kn.cf.rounds) (by rw [k_cf, c_rounds]; omega) (fun i hi => addb_r (vrun Tryd.prog kn d) hu hv hj hul hi) fun m => vi_exit (addb_x _ (by rw [ad_len]; exact hul) (by omega)))
  have h1 := ad_bd hu hv v.length (Nat.le_refl _)
  have h3 := ad_hi (u := u) (v := v) v.length (j + v.length) (Nat.le_refl _)
  have hl := ad_len (u := u) (v := v) (j := j) v.length
  have e1 : ((j : Int) + v.length).toNat = j + v.length := by omega
  simp only [loopAt, nthC, bodyC, loops, List.nil_append, List.cons_append, List.append_nil, Tryd.f140, addT, adS, Int.natCast_zero, List.cons_append, List.nil_append] at hl0
  generalize (adS u v j v.length).1 = U at *
  generalize (adS u v j v.length).2 = c at *
  rw [hl] at hl0
  generalize hw : gt u (j + v.length) = w at *
  generalize u.length = L at *
  rw [vrun_v Tryd.func140 rfl rfl rfl]; simp only [Tryd.f140]
  simp (implicitDefEqProofs := false) (disch := omega) [go_sem, tab140, e1, hl, hl0, h3]
end
end Go.Eng
