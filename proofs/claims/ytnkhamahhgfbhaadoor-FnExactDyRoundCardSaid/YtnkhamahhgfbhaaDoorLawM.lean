/- The exact laws write marks into what they hold, and look whether the marks stand: lists, naturals, wholes, dyadics. No conditions. -/
import Derived.Test.YtnkhamahhgfbhaaDoorLaw1
set_option linter.unusedVariables false
set_option linter.unusedSimpArgs false
namespace Go.Eng
open Go.Proofs
set_option maxRecDepth 100000
set_option linter.unusedSimpArgs false
attribute [local go_sem] r_seq r_skip r_retC r_exitC r_label r_block r_region r_regionW r_xWt r_xW r_cond r_Bt r_Bf r_Ncode r_Nret r_Nexit r_Nblk r_Nblkr r_Nblke r_Nnil r_Es r_Onil r_Oop r_Oif r_Xs r_Gt r_Gf r_wtt r_wtf r_wft r_wff r_wu r_gO r_putS r_putN r_get r_keepN r_keepC r_fr r_fn r_fi r_ff r_fo r_l1 r_l2t r_cun r_cul r_cub r_cui r_cus r_cuis r_cuc r_cusl r_cuti r_cutv r_ven r_vec r_l2f r_l3 r_t1 r_t2 r_t0 r_rt r_rc r_en r_ec r_cM r_oN r_oC r_end r_endt r_endf r_nob0 r_nobN r_nobC r_nobE r_nb0 r_nbi r_nbs r_nbsl r_nbin r_nbce r_nLn r_nLv r_nLc r_nAa r_nAn r_nAk_b r_nAk_i r_nAk_s r_nAk_n r_nAk_is r_nAk_ce r_nAk_fp r_nAk_sl r_nAk_pt r_nAk_fn r_nsn r_nsv r_nsc r_m0 r_mi r_ms r_msl r_min r_mce r_mLn r_mLv r_mLc r_mAa r_mAn r_mAk_b r_mAk_i r_mAk_s r_mAk_n r_mAk_is r_mAk_ce r_mAk_fp r_mAk_sl r_mAk_pt r_mAk_fn r_msn r_msv r_msc r_atb r_ati r_ats r_atn r_atis r_atc r_atf r_atl r_atp r_atfn r_gcn r_gcc r_gLn r_gLc r_gIt r_ndn r_ndc r_gcB r_gLB r_two r_rea r_rea0 r_re1n r_re1c r_ori r_orv r_ord r_orn r_adn r_adc r_ad1 r_ern r_ers r_er0 r_rsl r_rptr r_rb r_ri r_rs r_rn r_ris r_rce r_rfp r_ra4 r_ra3 r_rt4 r_rf4 r_rf3 r_idS r_idc r_nS r_nP r_nF r_nT r_vsl r_vptr r_vb r_vi r_vs r_vn r_vis r_vce r_vfp r_va4 r_va3 r_vt4 r_vf4 r_vf3 r_rV r_Oi r_Ov r_Od r_rE r_rE0 r_En r_Ec r_E0 r_pO r_pk r_agL r_cO r_fO r_fSi r_fSv r_fPv r_fsl r_fptr r_ffn r_fag r_fb r_fint r_fstr r_fnil r_fis r_fce r_ffp r_res r_move r_assign r_pick r_pickt r_pickf r_alloc r_box r_al r_build r_bslice r_load r_store r_nlc r_nl1 r_nl2 r_bin r_un r_conv r_mkf r_mks r_slc r_fad r_fld r_iad r_idx r_ext r_ex1 r_callf r_callt r_callen r_calapp r_calmax r_calmin r_vt r_vcb r_vci r_vcs r_vcn r_vca r_vcf r_vcg r_ofb r_ofi r_ofs r_ofn r_evs r_pn r_prt r_pc r_one_a r_one_b r_one_i r_one_s r_one_n r_one_is r_one_ce r_one_fp r_one_sl r_one_pt r_one_fn r_cs_a r_cs_b r_cs_i r_cs_s r_cs_n r_cs_is r_cs_ce r_cs_fp r_cs_sl r_cs_pt r_cs_fn r_tov r_tovA r_toc r_toa r_tb r_ti r_ts r_tn r_bd r_bd2 r_filn r_fp1 r_filc r_fsn r_fsc r_san r_sac r_bs2 r_bs1 r_newO r_mkq r_mkI r_mkOi r_mkOv r_tIn r_tIc r_repz r_repn r_ldp r_ldf r_l1t r_l1f r_lFt r_lFf r_aggO r_obj r_at r_ati' r_atv r_celli r_cellv r_subi r_subv r_sto r_sto1 r_sto2 r_sets r_setR r_setn r_setc r_s1i r_s1v r_bin1 r_bin2 r_tv1 r_cb r_ci r_cst r_cn r_csl r_cis r_cce r_uni r_unb r_cv r_cvi r_cvs r_cvb r_cvl r_sO r_rdn r_rdi r_rdl r_rdO r_vsub r_vfn r_mk r_mk1 r_mk2 r_zoi r_zov r_leni r_lenv r_bn r_bndV r_bo r_sl0 r_sl1 r_vsz r_ct1 r_cts r_cti r_ctc r_ctn r_lnl r_lni r_lnc r_lnn r_fa r_fap r_faf r_fi1 r_fit r_fif r_ixi r_ixs r_ixc r_ixf r_ixF r_ixF2 r_ix1 r_ixsl r_ixin r_ixce r_len1 r_lenA r_lTs r_lTn r_lTl r_lTi r_lTc r_app0 r_app r_app1 r_app2 r_app3 r_catO r_cati r_catv r_newt r_newf r_pair r_pairK r_trip r_kis r_kiv r_srn r_srl r_sri r_src r_srs r_oln r_oll r_vw r_wi r_wv r_mm r_max r_min' r_str r_cF r_c2t r_c3f r_c3t r_ab r_c2f r_cV r_p1 r_la r_la2t r_la2f r_la3 r_sh r_z_is r_z_ce r_z_fp r_z_b r_z_i r_z_s r_z_n r_z_l r_z_p r_z_a4 r_z_a3 r_z_t4 r_zoI r_zoV r_roN r_roC r_roi r_rod r_zod r_rov r_aR r_trOi r_trOv r_trPv r_trl r_trp r_trf r_tra r_trb r_tri r_trs r_trn r_tris r_trce r_trfp
attribute [local go_sem] b_add b_sub b_mul b_quo b_rem b_shl b_shr b_eql b_neq b_lss b_leq b_gtr b_geq eqB_s b_eqB b_neB u_neg u_not b_nn b_nn' eqS_s zerosT_s zerosT_n zt_i zt_sl zt_st dstOf_z dstOf_n iltT iltF ileT ileF ieqT ieqF nltT nltF nleT nleF neqT neqF tdiv_pos tmod_pos w64 idx0 List.take_of_length_le
open Num
def iota (k : Int) : Nat → List Int
  | 0 => []
  | n + 1 => iota k n ++ [k + n]
theorem iota_len (k : Int) : ∀ n, (iota k n).length = n
  | 0 => rfl
  | n + 1 => by rw [iota, List.length_append, iota_len k n]; rfl
theorem gt_iota {k : Int} : ∀ {n i : Nat}, i < n → gt (iota k n) i = k + i
  | n + 1, i, h => by
    rw [iota]
    by_cases h1 : i < n
    · rw [gt_app_lt (by rw [iota_len]; exact h1)]; exact gt_iota h1
    · obtain rfl : i = n := by omega
      have := gt_snoc (iota k i) (k + i)
      rwa [iota_len] at this
section
variable {h : VH} {i : Nat} {l : List Int} {k : Int}
def mkL (l : List Int) (k : Int) (j : Nat) : List Int := iota k j ++ l.drop j
theorem mkL_len {j : Nat} (hj : j ≤ l.length) : (mkL l k j).length = l.length := by unfold mkL; rw [List.length_append, iota_len, List.length_drop]; omega
theorem mkL_set {j : Nat} (hj : j < l.length) : (mkL l k j).set j (k + j) = mkL l k (j + 1) := by
  unfold mkL
  rw [List.set_append_right _ _ (by rw [iota_len]; omega), iota_len, Nat.sub_self, List.drop_eq_getElem_cons hj, iota, List.append_assoc]; rfl
theorem mkL_end : mkL l k l.length = iota k l.length := by unfold mkL; simp
theorem mkL_0 : mkL l k 0 = l := by unfold mkL; simp [iota]
theorem set_self (hi : h[i]? = some (.ints true .i64 l)) : h.set i (.ints true .i64 l) = h := by
  obtain ⟨h1, h2⟩ := List.getElem?_eq_some_iff.1 hi
  rw [← h2]; exact List.set_getElem_self _
def mkS (h : VH) (i : Nat) (l : List Int) (k : Int) (j : Nat) : VE × VH := ([(0, some (.sl i 0 l.length 1)), (1, some (.int .i64 (k + j))), (5, some (.int .i64 j))], h.set i (.ints true .i64 (mkL l k j)))
theorem mkI_r (call : CallV) (hi : i < h.length) (hl : l.length < 100000000) (hk : 0 ≤ k) (hk' : k < 1000000000) {j : Nat} (hj : j < l.length) :
    vCode Tryd.prog kn call 115 (loopAt Tryd.f115 0) (mkS h i l k j).1 (mkS h i l k j).2 = some (.norm, mkS h i l k (j + 1)) := by
  have h1 := mkL_len (k := k) (Nat.le_of_lt hj)
  have h2 := mkL_set (k := k) hj
  have h3 : k + j + 1 = k + ((j + 1 : Nat) : Int) := by omega
  have hs : ∀ a : VO, (h.set i a)[i]? = some a := fun a => by simp [hi]
  rw [round_v]; simp only [loopAt, nthC, bodyC, loops, List.nil_append, List.cons_append, List.append_nil, Tryd.f115, mkS, ← h3, ← h2]
  simp (disch := omega) [go_sem, tab115, h1, hs, List.set_set]
theorem mkI_x (call : CallV) (hl : l.length < 100000000) :
    vCode Tryd.prog kn call 115 (loopAt Tryd.f115 0) (mkS h i l k l.length).1 (mkS h i l k l.length).2 = some (.exit 0, (mkS h i l k l.length).1 ++ [(9, some (.bool false))], (mkS h i l k l.length).2) := by
  rw [round_v]; simp only [loopAt, nthC, bodyC, loops, List.nil_append, List.cons_append, List.append_nil, Tryd.f115, mkS]
  simp (disch := omega) [go_sem, tab115]
theorem markIntS_v (d : Nat) (hi : h[i]? = some (.ints true .i64 l)) (hl : l.length < 100000000) (hk : 0 ≤ k) (hk' : k < 1000000000) :
    vrun Tryd.prog kn (d + 1) 115 [.sl i 0 l.length 1, .int .i64 k] h = some (.int .i64 (k + l.length), h.set i (.ints true .i64 (iota k l.length))) := by
  have hi' : i < h.length := (List.getElem?_eq_some_iff.1 hi).1
  have hl0 := fun ks => loop_v (P := Tryd.prog) (K := kn) (ks := ks) (vi_for (mkS h i l k) l.length (n := kn.cf.rounds) (by rw [k_cf, c_rounds]; omega) (fun j hj => mkI_r (vrun Tryd.prog kn d) hi' hl hk hk' hj) fun m => vi_exit (mkI_x _ hl))
  simp only [loopAt, nthC, bodyC, loops, List.nil_append, List.cons_append, List.append_nil, Tryd.f115, mkS, Int.natCast_zero, Int.add_zero, List.cons_append, List.nil_append, mkL_0, mkL_end, set_self hi] at hl0
  rw [vrun_v Tryd.func115 rfl rfl rfl]; simp only [Tryd.f115]
  simp (disch := omega) [go_sem, tab115, hl0]
theorem ge_app {n : Nat} {o : VO} (a : List VO) (hn : h[n]? = some o) : (h ++ a)[n]? = some o := by
  rw [List.getElem?_append_left (List.getElem?_eq_some_iff.1 hn).1]; exact hn
theorem set_app {n : Nat} {o : VO} (a : List VO) (q : VO) (hn : h[n]? = some o) : (h ++ a).set n q = h.set n q ++ a := List.set_append_left _ _ (List.getElem?_eq_some_iff.1 hn).1
theorem markNat_v (d : Nat) (hi : h[i]? = some (.ints true .i64 l)) (hl : l.length < 100000000) (hk : 0 ≤ k) (hk' : k < 1000000000) :
    vrun Tryd.prog kn (d + 2) 87 [.agg [.sl i 0 l.length 1], .int .i64 k] h = some (.int .i64 (k + l.length), h.set i (.ints true .i64 (iota k l.length)) ++ [.vals true [.sl i 0 l.length 1]]) := by
  have h1 := markIntS_v (h := h ++ [.vals true [.sl i 0 l.length 1]]) d (ge_app _ hi) hl hk hk'
  rw [set_app _ _ hi] at h1
  rw [vrun_v Tryd.func87 rfl rfl rfl]; simp only [Tryd.f87]
  simp (disch := omega) [go_sem, tab87, h1, List.getElem?_concat_length]
theorem markWhole_v (d : Nat) {n : Bool} (hi : h[i]? = some (.ints true .i64 l)) (hl : l.length < 100000000) (hk : 0 ≤ k) (hk' : k < 1000000000) :
    vrun Tryd.prog kn (d + 3) 55 [.agg [.bool n, .sl i 0 l.length 1], .int .i64 k] h = some (.int .i64 (k + l.length), h.set i (.ints true .i64 (iota k l.length)) ++ [.vals true [.bool n, .sl i 0 l.length 1], .vals true [.sl i 0 l.length 1]]) := by
  have h1 := markNat_v (h := h ++ [.vals true [.bool n, .sl i 0 l.length 1]]) d (ge_app _ hi) hl hk hk'
  rw [set_app _ _ hi, List.append_assoc] at h1
  rw [vrun_v Tryd.func55 rfl rfl rfl]; simp only [Tryd.f55]
  simp (disch := omega) [go_sem, tab55, h1, List.getElem?_concat_length]
theorem markDy_v (d : Nat) {n : Bool} {e : Int} (hi : h[i]? = some (.ints true .i64 l)) (hl : l.length < 100000000) (hk : 0 ≤ k) (hk' : k < 1000000000) :
    vrun Tryd.prog kn (d + 4) 25 [.agg [.bool n, .sl i 0 l.length 1, .int .i64 e], .int .i64 k] h = some (.int .i64 (k + l.length), h.set i (.ints true .i64 (iota k l.length)) ++ [.vals true [.bool n, .sl i 0 l.length 1, .int .i64 e], .vals true [.bool n, .sl i 0 l.length 1], .vals true [.sl i 0 l.length 1]]) := by
  have h1 := markWhole_v (n := n) (h := h ++ [.vals true [.bool n, .sl i 0 l.length 1, .int .i64 e]]) d (ge_app _ hi) hl hk hk'
  rw [set_app _ _ hi, List.append_assoc] at h1
  rw [vrun_v Tryd.func25 rfl rfl rfl]; simp only [Tryd.f25]
  simp (disch := omega) [go_sem, tab25, h1, List.getElem?_concat_length]
/-! ### as rules that read the heap -/
def mkStep (r : Option (V × VH)) (i m : Nat) (k : Int) (h : VH) (tail : List VO) : Option VO → Option (V × VH)
  | some (.ints true .i64 l) => if l.length = m ∧ l.length < 100000000 ∧ 0 ≤ k ∧ k < 1000000000 then some (.int .i64 (k + m), h.set i (.ints true .i64 (iota k m)) ++ tail) else r
  | _ => r
theorem mkStep_i (r : Option (V × VH)) (i m : Nat) (k : Int) (h : VH) (tail : List VO) (l : List Int) : mkStep r i m k h tail (some (.ints true .i64 l)) = if l.length = m ∧ l.length < 100000000 ∧ 0 ≤ k ∧ k < 1000000000 then some (.int .i64 (k + m), h.set i (.ints true .i64 (iota k m)) ++ tail) else r := rfl
theorem mkStep_of {r : Option (V × VH)} {i m : Nat} {k : Int} {h : VH} {tail : List VO} (hr : ∀ l, h[i]? = some (.ints true .i64 l) → l.length = m → l.length < 100000000 → 0 ≤ k → k < 1000000000 → r = some (.int .i64 (k + m), h.set i (.ints true .i64 (iota k m)) ++ tail)) : r = mkStep r i m k h tail h[i]? := by
  unfold mkStep
  split
  · rename_i l hl
    split
    · rename_i hc
      exact hr l hl hc.1 hc.2.1 hc.2.2.1 hc.2.2.2
    · rfl
  · rfl
noncomputable def xMarkIntS (d i m : Nat) (k : Int) (h : VH) := vrun Tryd.prog kn (d + 1) 115 [.sl i 0 m 1, .int .i64 k] h
noncomputable def xMarkNat (d i m : Nat) (k : Int) (h : VH) := vrun Tryd.prog kn (d + 2) 87 [.agg [.sl i 0 m 1], .int .i64 k] h
noncomputable def xMarkWhole (d : Nat) (n : Bool) (i m : Nat) (k : Int) (h : VH) := vrun Tryd.prog kn (d + 3) 55 [.agg [.bool n, .sl i 0 m 1], .int .i64 k] h
noncomputable def xMarkDy (d : Nat) (n : Bool) (i m : Nat) (e k : Int) (h : VH) := vrun Tryd.prog kn (d + 4) 25 [.agg [.bool n, .sl i 0 m 1, .int .i64 e], .int .i64 k] h
theorem markIntS_s (d i m : Nat) (k : Int) (h : VH) : vrun Tryd.prog kn (d + 1) 115 [.sl i 0 m 1, .int .i64 k] h = mkStep (xMarkIntS d i m k h) i m k h [] h[i]? :=
  mkStep_of (r := xMarkIntS d i m k h) fun l hi hm h1 h2 h3 => by subst hm; rw [List.append_nil]; exact markIntS_v d hi h1 h2 h3
theorem markNat_s (d i m : Nat) (k : Int) (h : VH) : vrun Tryd.prog kn (d + 2) 87 [.agg [.sl i 0 m 1], .int .i64 k] h = mkStep (xMarkNat d i m k h) i m k h [.vals true [.sl i 0 m 1]] h[i]? :=
  mkStep_of (r := xMarkNat d i m k h) fun l hi hm h1 h2 h3 => by subst hm; exact markNat_v d hi h1 h2 h3
theorem markWhole_s (d : Nat) (n : Bool) (i m : Nat) (k : Int) (h : VH) : vrun Tryd.prog kn (d + 3) 55 [.agg [.bool n, .sl i 0 m 1], .int .i64 k] h = mkStep (xMarkWhole d n i m k h) i m k h [.vals true [.bool n, .sl i 0 m 1], .vals true [.sl i 0 m 1]] h[i]? :=
  mkStep_of (r := xMarkWhole d n i m k h) fun l hi hm h1 h2 h3 => by subst hm; exact markWhole_v d hi h1 h2 h3
theorem markDy_s (d : Nat) (n : Bool) (i m : Nat) (e k : Int) (h : VH) : vrun Tryd.prog kn (d + 4) 25 [.agg [.bool n, .sl i 0 m 1, .int .i64 e], .int .i64 k] h = mkStep (xMarkDy d n i m e k h) i m k h [.vals true [.bool n, .sl i 0 m 1, .int .i64 e], .vals true [.bool n, .sl i 0 m 1], .vals true [.sl i 0 m 1]] h[i]? :=
  mkStep_of (r := xMarkDy d n i m e k h) fun l hi hm h1 h2 h3 => by subst hm; exact markDy_v d hi h1 h2 h3
end
section
variable {k : Int} {n : Nat}
def heS (k : Int) (n j : Nat) : VE × VH := ([(0, some (.ints .i64 (iota k n))), (1, some (.int .i64 (k + j))), (5, some (.int .i64 j))], [])
theorem he_r (call : CallV) (hn : n < 100000000) (hk : 0 ≤ k) (hk' : k < 1000000000) {j : Nat} (hj : j < n) : vCode Tryd.prog kn call 116 (loopAt Tryd.f116 0) (heS k n j).1 (heS k n j).2 = some (.norm, heS k n (j + 1)) := by
  have h1 := gt_iota (k := k) hj
  have h2 := iota_len k n
  have h3 : k + j + 1 = k + ((j + 1 : Nat) : Int) := by omega
  rw [round_v]; simp only [loopAt, nthC, bodyC, loops, List.nil_append, List.cons_append, List.append_nil, Tryd.f116, heS, ← h3]
  simp (disch := omega) [go_sem, tab116, h1, h2]
theorem he_x (call : CallV) (hn : n < 100000000) : vCode Tryd.prog kn call 116 (loopAt Tryd.f116 0) (heS k n n).1 (heS k n n).2 = some (.exit 0, (heS k n n).1 ++ [(9, some (.bool false))], (heS k n n).2) := by
  have h2 := iota_len k n
  rw [round_v]; simp only [loopAt, nthC, bodyC, loops, List.nil_append, List.cons_append, List.append_nil, Tryd.f116, heS]
  simp (disch := omega) [go_sem, tab116, h2]
theorem heldIntS_v (d : Nat) (hn : n < 100000000) (hk : 0 ≤ k) (hk' : k < 1000000000) : vrun Tryd.prog kn (d + 1) 116 [.ints .i64 (iota k n), .int .i64 k] [] = some (.int .i64 (k + n), []) := by
  have hl0 := fun ks => loop_v (P := Tryd.prog) (K := kn) (ks := ks) (vi_for (heS k n) n (n := kn.cf.rounds) (by rw [k_cf, c_rounds]; omega) (fun j hj => he_r (vrun Tryd.prog kn d) hn hk hk' hj) fun m => vi_exit (he_x _ hn))
  simp only [loopAt, nthC, bodyC, loops, List.nil_append, List.cons_append, List.append_nil, Tryd.f116, heS, Int.natCast_zero, Int.add_zero, List.cons_append, List.nil_append] at hl0
  rw [vrun_v Tryd.func116 rfl rfl rfl]; simp only [Tryd.f116]
  simp (disch := omega) [go_sem, tab116, hl0]
theorem heldNat_v (d : Nat) (hn : n < 100000000) (hk : 0 ≤ k) (hk' : k < 1000000000) : vrun Tryd.prog kn (d + 2) 88 [.agg [.ints .i64 (iota k n)], .int .i64 k] [] = some (.int .i64 (k + n), []) := by
  have h1 := fun d => heldIntS_v d hn hk hk'
  rw [vrun_v Tryd.func88 rfl rfl rfl]; simp only [Tryd.f88]
  simp (disch := omega) [go_sem, tab88, h1]
theorem heldWhole_v (d : Nat) {b : Bool} (hn : n < 100000000) (hk : 0 ≤ k) (hk' : k < 1000000000) : vrun Tryd.prog kn (d + 3) 56 [.agg [.bool b, .ints .i64 (iota k n)], .int .i64 k] [] = some (.int .i64 (k + n), []) := by
  have h1 := fun d => heldNat_v d hn hk hk'
  rw [vrun_v Tryd.func56 rfl rfl rfl]; simp only [Tryd.f56]
  simp (disch := omega) [go_sem, tab56, h1]
theorem heldDy_v (d : Nat) {b : Bool} {e : Int} (hn : n < 100000000) (hk : 0 ≤ k) (hk' : k < 1000000000) : vrun Tryd.prog kn (d + 4) 26 [.agg [.bool b, .ints .i64 (iota k n), .int .i64 e], .int .i64 k] [] = some (.int .i64 (k + n), []) := by
  have h1 := fun d => heldWhole_v (b := b) d hn hk hk'
  rw [vrun_v Tryd.func26 rfl rfl rfl]; simp only [Tryd.f26]
  simp (disch := omega) [go_sem, tab26, h1]
end
end Go.Eng
