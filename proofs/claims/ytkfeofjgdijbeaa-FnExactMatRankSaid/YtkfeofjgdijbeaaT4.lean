/- What the functions of this seat do, one after another, told by plain values. No conditions. -/
import Derived.Test.YtkfeofjgdijbeaaSeat
import Derived.Test.YtkfeofjgdijbeaaVb
import Derived.Test.YtkfeofjgdijbeaaVc
import Derived.Test.YtkfeofjgdijbeaaT3
set_option linter.unusedVariables false
set_option linter.unusedSimpArgs false
namespace Go.Eng
open Go.Proofs
set_option maxRecDepth 100000
set_option linter.unusedSimpArgs false
attribute [local go_sem] r_seq r_skip r_retC r_exitC r_label r_block r_region r_regionW r_xWt r_xW r_cond r_Bt r_Bf r_Ncode r_Nret r_Nexit r_Nblk r_Nblkr r_Nblke r_Nnil r_Es r_Onil r_Oop r_Oif r_Xs r_Gt r_Gf r_wtt r_wtf r_wft r_wff r_wu r_gO r_putS r_putN r_get r_keepN r_keepC r_fr r_fn r_fi r_ff r_fo r_l1 r_l2t r_cun r_cul r_cub r_cui r_cus r_cuis r_cuc r_cusl r_cuti r_cutv r_ven r_vec r_l2f r_l3 r_t1 r_t2 r_t0 r_rt r_rc r_en r_ec r_cM r_oN r_oC r_end r_endt r_endf r_nob0 r_nobN r_nobC r_nobE r_nb0 r_nbi r_nbs r_nbsl r_nbin r_nbce r_nLn r_nLv r_nLc r_nAa r_nAn r_nAk_b r_nAk_i r_nAk_s r_nAk_n r_nAk_is r_nAk_ce r_nAk_fp r_nAk_sl r_nAk_pt r_nAk_fn r_nsn r_nsv r_nsc r_m0 r_mi r_ms r_msl r_min r_mce r_mLn r_mLv r_mLc r_mAa r_mAn r_mAk_b r_mAk_i r_mAk_s r_mAk_n r_mAk_is r_mAk_ce r_mAk_fp r_mAk_sl r_mAk_pt r_mAk_fn r_msn r_msv r_msc r_atb r_ati r_ats r_atn r_atis r_atc r_atf r_atl r_atp r_atfn r_gcn r_gcc r_gLn r_gLc r_gIt r_ndn r_ndc r_gcB r_gLB r_two r_rea r_rea0 r_re1n r_re1c r_ori r_orv r_ord r_orn r_adn r_adc r_ad1 r_ern r_ers r_er0 r_rsl r_rptr r_rb r_ri r_rs r_rn r_ris r_rce r_rfp r_ra4 r_ra3 r_rt4 r_rf4 r_rf3 r_idS r_idc r_nS r_nP r_nF r_nT r_vsl r_vptr r_vb r_vi r_vs r_vn r_vis r_vce r_vfp r_va4 r_va3 r_vt4 r_vf4 r_vf3 r_rV r_Oi r_Ov r_Od r_rE r_rE0 r_En r_Ec r_E0 r_pO r_pk r_agL r_cO r_fO r_fSi r_fSv r_fPv r_fsl r_fptr r_ffn r_fag r_fb r_fint r_fstr r_fnil r_fis r_fce r_ffp r_res r_move r_assign r_pick r_pickt r_pickf r_alloc r_box r_al r_build r_bslice r_load r_store r_nlc r_nl1 r_nl2 r_bin r_un r_conv r_mkf r_mks r_slc r_fad r_fld r_iad r_idx r_ext r_ex1 r_callf r_callt r_callen r_calapp r_calmax r_calmin r_vt r_vcb r_vci r_vcs r_vcnp r_vcn r_vca r_vcf r_vcg r_ofb r_ofi r_ofs r_ofn r_evs r_pn r_prt r_pc r_one_a r_one_b r_one_i r_one_s r_one_n r_one_is r_one_ce r_one_fp r_one_sl r_one_pt r_one_fn r_cs_a r_cs_b r_cs_i r_cs_s r_cs_n r_cs_is r_cs_ce r_cs_fp r_cs_sl r_cs_pt r_cs_fn r_tov r_tovA r_toc r_toa r_tb r_ti r_ts r_tn r_bd r_bd2 r_filn r_fp1 r_filc r_fsn r_fsc r_san r_sac r_bs2 r_bs1 r_nE r_newO r_mkq r_mkI r_mkOi r_mkOv r_tIn r_tIc r_repz r_repn r_ldp r_ldf r_l1t r_l1f r_lFt r_lFf r_aggO r_obj r_at r_ati' r_atv r_celli r_cellv r_subi r_subv r_sto r_sto1 r_sto2 r_sets r_setR r_setn r_setc r_s1i r_s1v r_bin1 r_bin2 r_tv1 r_cb r_ci r_cst r_cn r_csl r_cis r_cce r_uni r_unb r_cv r_cvO r_cvN r_cv0 r_cvS r_wB r_cvi r_cvs r_cvb r_cvl r_sO r_rdn r_rdi r_rdl r_rdO r_vsub r_vfn r_mk r_mk1 r_mk2 r_zoi r_zov r_leni r_lenv r_bn r_bndV r_bo r_sl0 r_sl1 r_vsz r_ct1 r_cts r_cti r_ctc r_ctn r_lnl r_lni r_lnc r_lnn r_fa r_fap r_faf r_fi1 r_fit r_fif r_ixi r_ixs r_ixc r_ixf r_ixF r_ixF2 r_ix1 r_ixsl r_ixin r_ixce r_len1 r_lenA r_lTs r_lTn r_lTl r_lTi r_lTc r_app0 r_app9 r_paf r_pat r_frn r_fre r_tt1 r_tt2 r_tt3 r_app r_app1 r_app2 r_app3 r_catO r_cati r_catv r_newt r_newf r_pair r_pairK r_trip r_kis r_kiv r_srn r_srl r_sri r_src r_srs r_oln r_ole r_oll r_vw r_wi r_wv r_mm r_max r_min' r_str r_cF r_c2t r_c3f r_c3t r_ab r_c2f r_cV r_p1 r_la r_la2t r_la2f r_la3 r_sh r_z_is r_z_ce r_z_fp r_z_b r_z_i r_z_s r_z_n r_z_l r_z_p r_z_a4 r_z_a3 r_z_t4 r_zoI r_zoV r_roN r_roC r_roi r_rod r_zod r_rov r_aR r_trOi r_trOv r_trPv r_trl r_trp r_trf r_tra r_trb r_tri r_trs r_trn r_tris r_trce r_trfp r_vJ r_vJs r_vJn
attribute [local go_sem] b_add b_sub b_mul b_quo b_rem b_shl b_shr b_eql b_neq b_lss b_leq b_gtr b_geq eqB_s b_eqB b_neB u_neg u_not b_nn b_nn' eqS_s zerosT_s zerosT_n zt_i zt_sl zt_st dstOf_z dstOf_n iltT iltF ileT ileF ieqT ieqF nltT nltF nleT nleF neqT neqF tdiv_pos tmod_pos w64 idx0 List.take_of_length_le
/- Rounding, program and reference. No conditions. -/
section
open Num
/-- Is a magnitude rounded away from nought? -/
def rUp (n odd : Bool) (half mode : Int) : Bool := if mode = 2 then !n else if mode = 3 then n else if mode = 0 then decide (0 < half) || (decide (half = 0) && odd) else if mode = 4 then decide (0 ≤ half) else false
section
variable {a b k : Nat} {n : Bool} {ex low mode half : Int}
/-- A quotient of magnitudes, rounded. -/
def qR (n : Bool) (a b : Nat) (mode : Int) : Nat := if a % b = 0 then a / b else if rUp n (decide (a / b % 2 = 1)) (cmpI (a % b * 2) b) mode then a / b + 1 else a / b
theorem qR_le : qR n a b mode ≤ a / b + 1 := by unfold qR; split <;> (try split) <;> omega
set_option maxHeartbeats 4000000 in
theorem isZero_v (d : Nat) (ha : (D a).length < 1000000) : vrun Try.prog kn (d + 1) 103 [.agg [.bool n, .ints .i64 (D a), .int .i64 ex]] [] = some (.bool (decide (a = 0)), []) := by
  by_cases h0 : a = 0
  · subst h0
    rw [D_zero]
    rw [vrun_v Try.func103 rfl rfl rfl]; simp only [Try.f103]
    simp (implicitDefEqProofs := false) (disch := omega) [go_sem, tab103]
  · have hn : ¬ D a = [] := fun h => h0 (D_nil_iff.1 h)
    rw [vrun_v Try.func103 rfl rfl rfl]; simp only [Try.f103]
    simp (implicitDefEqProofs := false) (disch := omega) [go_sem, tab103, hn, h0]
/-! ### the reference -/
theorem half_nat {a k : Nat} (hk : 0 < k) : a % 2 ^ k = a / 2 ^ (k - 1) % 2 * 2 ^ (k - 1) + a % 2 ^ (k - 1) ∧ 2 ^ k = 2 ^ (k - 1) * 2 := by
  have e : 2 ^ k = 2 ^ (k - 1) * 2 := by rw [← Nat.pow_succ]; congr 1; omega
  refine ⟨?_, e⟩
  rw [e, Nat.mod_mul, Nat.add_comm, Nat.mul_comm (2 ^ (k - 1))]
theorem tz_low_iff {a j : Nat} (h0 : a ≠ 0) : tz a < j ↔ a % 2 ^ j ≠ 0 := by
  obtain ⟨o, ho⟩ := tz_spec h0
  constructor
  · intro h hz
    have hb := tz_bit h0
    have e : 2 ^ j = 2 ^ tz a * (2 * 2 ^ (j - tz a - 1)) := by rw [← Nat.pow_succ', ← Nat.pow_add]; congr 1; omega
    have hd := Nat.div_add_mod a (2 ^ j)
    rw [hz, Nat.add_zero, e, Nat.mul_assoc] at hd
    generalize tz a = t at *
    rw [← hd, Nat.mul_div_cancel_left _ (Nat.two_pow_pos _), Nat.mul_assoc] at hb
    omega
  · intro h
    rcases Nat.lt_or_ge (tz a) j with h1 | h1
    · exact h1
    · exfalso; apply h
      have e : 2 ^ tz a = 2 ^ j * 2 ^ (tz a - j) := by rw [← Nat.pow_add]; congr 1; omega
      conv => lhs; lhs; rw [ho, e, Nat.mul_assoc]
      exact Nat.mul_mod_right _ _
theorem half_cmp {a k : Nat} (hk : 0 < k) : (0 < cmpI (a % 2 ^ k * 2) (2 ^ k) ↔ a / 2 ^ (k - 1) % 2 = 1 ∧ a % 2 ^ (k - 1) ≠ 0) ∧ (cmpI (a % 2 ^ k * 2) (2 ^ k) = 0 ↔ a / 2 ^ (k - 1) % 2 = 1 ∧ a % 2 ^ (k - 1) = 0) ∧ (0 ≤ cmpI (a % 2 ^ k * 2) (2 ^ k) ↔ a / 2 ^ (k - 1) % 2 = 1) := by
  obtain ⟨e1, e2⟩ := half_nat (a := a) hk
  have hr := Nat.mod_lt a (Nat.two_pow_pos (k - 1))
  rw [e1, e2]
  generalize a % 2 ^ (k - 1) = r at *
  generalize 2 ^ (k - 1) = p at *
  have hb : a / p % 2 = 0 ∨ a / p % 2 = 1 := by omega
  unfold cmpI
  rcases hb with hb | hb <;> rw [hb]
  · rw [if_pos (by omega)]; simp
  · rw [if_neg (by omega)]
    by_cases h : r = 0
    · rw [if_pos (by omega)]; simp [h]
    · rw [if_neg (by omega)]; simp [h]
set_option maxHeartbeats 4000000 in
/-- To a multiple of a power of two, as the reference does it: what is left is not nought. -/
def qS (n : Bool) (a k : Nat) (mode : Int) : Nat := if rUp n (decide (a / 2 ^ k % 2 = 1)) (cmpI (a % 2 ^ k * 2) (2 ^ k)) mode then a / 2 ^ k + 1 else a / 2 ^ k
set_option maxHeartbeats 4000000 in
end
end
/- The elimination: what its loops call. No conditions. -/
section
open Num
section
variable {x y : DyT} {B E : Nat}
theorem eMul_v (d : Nat) (hx : EF B E x) (hy : EF B E y) (hB : B < 100000) (hE : E ≤ 100000) : vrun Try.prog kn (d + 3) 104 [.agg x.v, .agg y.v] [] = some (.agg (eMul x y).v, []) := by
  have := times_e (n := x.neg) (m := y.neg) (a := x.n) (b := y.n) (ex := x.e) (ey := y.e) d (by have := hx.b; omega) (by have := hy.b; omega) (by have := hx.e0; omega) (by have := hx.e1; omega) (by have := hy.e0; omega) (by have := hy.e1; omega)
  rw [← hx.l, ← hy.l] at this
  exact this
theorem eSub_v (d : Nat) (hx : EF B E x) (hy : EF B E y) (hB : B < 100000) (hE : E ≤ 100000) : vrun Try.prog kn (d + 6) 105 [.agg x.v, .agg y.v] [] = some (.agg (eSub x y).v, []) := by
  have := minus_e (n := x.neg) (m := y.neg) (a := x.n) (b := y.n) (ex := x.e) (ey := y.e) d (by have := hx.b; omega) (by have := hy.b; omega) (by have := hx.e0; omega) (by have := hx.e1; omega) (by have := hy.e0; omega) (by have := hy.e1; omega)
  rw [← hx.l, ← hy.l] at this
  exact this
theorem eZero_v (d : Nat) (hx : EF B E x) (hB : B < 100000) : vrun Try.prog kn (d + 1) 103 [.agg x.v] [] = some (.bool (decide (x.n = 0)), []) := by
  have := isZero_v (n := x.neg) (a := x.n) (ex := x.e) d (by have := hx.b; omega)
  rw [← hx.l] at this
  exact this
end
section
variable {row : List DyT} {rs : List (List DyT)} {n j B E : Nat}
def rowV (row : List DyT) : V := .cells 3 row.length (flat DyT.v row)
/-- Is it not nought in a column? -/
def nzAt (j : Nat) (row : List DyT) : Bool := match row[j]? with
  | some x => decide (x.n ≠ 0)
  | none => false
theorem rk1_v (d : Nat) (hn : row.length ≤ 4) (hj : j < row.length) (hx : ∀ x ∈ row, EF B E x) (hB : B < 100000) : vrun Try.prog kn (d + 2) 102 [rowV row, .fptr [.int .i64 j]] [] = some (.bool (nzAt j row), []) := by
  have hget : row[j]? = some row[j] := List.getElem?_eq_getElem hj
  have h1 := fun d => eZero_v d (hx _ (List.getElem_mem hj)) hB
  have hsub : ((flat DyT.v row).drop (j * 3)).take 3 = [.bool row[j].neg, .ints .i64 row[j].l, .int .i64 row[j].e] := flat_sub DyT.len row j _ hget
  unfold nzAt rowV
  rw [hget]
  have hln := flat_len3 row
  simp only [DyT.v] at h1
  clear hget hx
  generalize row[j] = x at *
  generalize flat DyT.v row = F at *
  generalize row.length = N at *
  rw [vrun_v Try.func102 rfl rfl rfl]; simp only [Try.f102]
  simp (implicitDefEqProofs := false) (disch := omega) [go_sem, tab102, h1, hsub, hln]
def ixRS (rs : List (List DyT)) (j k : Nat) : VE × VH := ([(0, some (.cells 1 rs.length (rs.map rowV))), (1, some (.fn (.func 102) [] [.fptr [.int .i64 j]])), (7, some (.int .i64 rs.length)), (8, some (.int .i64 k))], [])
theorem ixR_v (d : Nat) (hl : rs.length ≤ 4) (hr : ∀ r ∈ rs, r.length ≤ 4 ∧ j < r.length ∧ ∀ x ∈ r, EF B E x) (hB : B < 100000) :
    (vrun Try.prog kn (d + 2 + 1) 101 [.cells 1 rs.length (rs.map rowV), .fn (.func 102) [] [.fptr [.int .i64 j]]] [] = some (.int .i64 (-1), []) ∧ ∀ r ∈ rs, nzAt j r = false) ∨
    ∃ k : Nat, vrun Try.prog kn (d + 2 + 1) 101 [.cells 1 rs.length (rs.map rowV), .fn (.func 102) [] [.fptr [.int .i64 j]]] [] = some (.int .i64 k, []) ∧ ∃ r, rs[k]? = some r ∧ nzAt j r = true := by
  have key := vi_inv (n := kn.cf.rounds) (body := vCode Try.prog kn (vrun Try.prog kn (d + 2)) 101 (loopAt Try.f101 0)) (fun k s => s = ixRS rs j k ∧ ∀ r ∈ rs.take k, nzAt j r = false)
    (fun r => (r = some (.exit 0, (ixRS rs j rs.length).1 ++ [(9, some (.bool false))], []) ∧ ∀ r ∈ rs, nzAt j r = false) ∨ ∃ k : Nat, r = some (.ret, [(4, some (.int .i64 k))], []) ∧ ∃ r, rs[k]? = some r ∧ nzAt j r = true) rs.length (by rw [k_cf, c_rounds]; omega)
    (fun k s hk hI => by
      obtain ⟨rfl, hI⟩ := hI
      have hget : rs[k]? = some rs[k] := List.getElem?_eq_getElem hk
      have hmap : (rs.map rowV)[k]? = some (rowV rs[k]) := by rw [List.getElem?_map, hget]; rfl
      obtain ⟨r1, r2, r3⟩ := hr _ (List.getElem_mem hk)
      have h1 := fun d => rk1_v d r1 r2 r3 hB
      have hml : (rs.map rowV).length = rs.length := List.length_map _
      have hzero : ((rs.map rowV).drop k)[0]? = some (rowV rs[k]) := by rw [List.getElem?_drop, Nat.add_zero]; exact hmap
      cases hq : nzAt j rs[k] with
      | true =>
        right; intro m; right
        refine ⟨k, vi_ret ?_, _, hget, hq⟩
        rw [hq] at h1
        rw [round_v]; simp only [loopAt, nthC, bodyC, loops, List.nil_append, List.cons_append, List.append_nil, Try.f101, ixRS]
        clear hr hI hget r1 r2 r3
        unfold rowV at *
        generalize rs[k] = r at *
        generalize flat DyT.v r = F at *
        generalize rs.map _ = G at *
        generalize rs.length = N at *
        simp (disch := omega) [go_sem, tab101, h1, hml, hmap, hzero]
      | false =>
        left
        refine ⟨ixRS rs j (k + 1), ?_, rfl, ?_⟩
        · rw [hq] at h1
          rw [round_v]; simp only [loopAt, nthC, bodyC, loops, List.nil_append, List.cons_append, List.append_nil, Try.f101, ixRS]
          clear hr hI hget r1 r2 r3
          unfold rowV at *
          generalize rs[k] = r at *
          generalize flat DyT.v r = F at *
          generalize rs.map _ = G at *
          generalize rs.length = N at *
          simp (disch := omega) [go_sem, tab101, h1, hml, hmap, hzero]
        · intro r hrm
          rw [List.take_add_one, hget, List.mem_append] at hrm
          rcases hrm with h | h
          · exact hI r h
          · simp at h; rw [h]; exact hq)
    (fun s hI m => by
      obtain ⟨rfl, hI⟩ := hI
      left
      refine ⟨vi_exit ?_, by rwa [List.take_length] at hI⟩
      rw [round_v]; simp only [loopAt, nthC, bodyC, loops, List.nil_append, List.cons_append, List.append_nil, Try.f101, ixRS]
      simp (disch := omega) [go_sem, tab101])
    (ixRS rs j 0) ⟨rfl, by simp⟩
  rcases key with ⟨hv, ha⟩ | ⟨k, hv, ha⟩
  · have hl0 := fun ks => loop_v (P := Try.prog) (K := kn) (ks := ks) hv
    simp only [loopAt, nthC, bodyC, loops, List.nil_append, List.cons_append, List.append_nil, Try.f101, ixRS, Int.natCast_zero, List.cons_append, List.nil_append] at hl0
    refine .inl ⟨?_, ha⟩
    rw [vrun_v Try.func101 rfl rfl rfl]; simp only [Try.f101]
    simp (disch := omega) [go_sem, tab101, hl0]
  · have hl0 := fun ks => loop_v (P := Try.prog) (K := kn) (ks := ks) hv
    simp only [loopAt, nthC, bodyC, loops, List.nil_append, List.cons_append, List.append_nil, Try.f101, ixRS, Int.natCast_zero, List.cons_append, List.nil_append] at hl0
    refine .inr ⟨k, ?_, ha⟩
    rw [vrun_v Try.func101 rfl rfl rfl]; simp only [Try.f101]
    simp (disch := omega) [go_sem, tab101, hl0]
theorem b_sln (P : Program) (t : TypeId) (i off n sz : Nat) (hn : 0 < n) : binE P .eql t (.sl i off n sz) .nil = eqS false (P.underlying t) := by
  unfold binE; simp only; unfold eqA eqS; cases P.underlying t with
  | none => rfl
  | some u => cases u <;> simp [hn]
/-- A row is copied. -/
theorem cloneR_v (d : Nat) (h0 : 0 < row.length) (hn : row.length ≤ 4) : vrun Try.prog kn (d + 1) 100 [rowV row] [] = some (.sl 0 0 row.length 3, [.vals true (flat DyT.v row)]) := by
  unfold rowV
  have hln := flat_len3 row
  have hG1 := fun m => fl_refs m row
  have hG2 := fun ρ m => fl_ren ρ m row
  have ht : (flat DyT.v row).take (row.length * 3) = flat DyT.v row := List.take_of_length_le (by omega)
  generalize flat DyT.v row = F at *
  generalize row.length = N at *
  rw [vrun_v Try.func100 rfl rfl rfl]; simp only [Try.f100]
  simp (implicitDefEqProofs := false) (disch := omega) [go_sem, tab100, nil100, b_sln, hln, hG1, hG2, ht]
end
end
/- The elimination: its rows in memory of their own, its calls, its innermost loop. No conditions. -/
section
open Num
def slR (n : Nat) (q : Nat) : V := .sl q 0 n 3
/-- The rows of a matrix, each in memory of its own; the list of them lies in 1. -/
structure RM (h : VH) (n : Nat) (L : List Nat) (R : List (List DyT)) : Prop where
  o : h[1]? = some (.vals true (L.map (slR n)))
  ll : L.length = n
  rl : R.length = n
  row : ∀ (i q : Nat) (row : List DyT), L[i]? = some q → R[i]? = some row → h[q]? = some (.vals true (flat DyT.v row)) ∧ row.length = n
  nd : ∀ (i k q : Nat), L[i]? = some q → L[k]? = some q → i = k
  n1 : ∀ q ∈ L, q ≠ 1
section
variable {h : VH} {n : Nat} {L : List Nat} {R : List (List DyT)}
theorem keepA {h : VH} {q : Nat} {o : VO} (hq : h[q]? = some o) (t : VH) : (h ++ t)[q]? = some o := by
  rw [List.getElem?_append_left (List.getElem?_eq_some_iff.1 hq).1]; exact hq
theorem setE {h : VH} {q : Nat} {o : VO} (hq : h[q]? = some o) (x : VO) : (h.set q x)[q]? = some x := by
  rw [List.getElem?_set_self (List.getElem?_eq_some_iff.1 hq).1]
theorem setN {h : VH} {q p : Nat} {o : VO} (hne : q ≠ p) (hq : h[p]? = some o) (x : VO) : (h.set q x)[p]? = some o := by
  rw [List.getElem?_set_ne hne]; exact hq
theorem setS {h : VH} {q : Nat} {o : VO} (hq : h[q]? = some o) : h.set q o = h := by
  obtain ⟨hlt, e⟩ := List.getElem?_eq_some_iff.1 hq
  rw [← e]; exact List.set_getElem_self hlt
theorem RM.app (a : RM h n L R) (t : VH) : RM (h ++ t) n L R :=
  ⟨keepA a.o t, a.ll, a.rl, fun i q row h1 h2 => ⟨keepA (a.row i q row h1 h2).1 t, (a.row i q row h1 h2).2⟩, a.nd, a.n1⟩
theorem RM.put (a : RM h n L R) {i q : Nat} (hi : L[i]? = some q) {r : List DyT} (hr : r.length = n) : RM (h.set q (.vals true (flat DyT.v r))) n L (R.set i r) := by
  have hin : i < n := by have := (List.getElem?_eq_some_iff.1 hi).1; have := a.ll; omega
  have hq1 : q ≠ 1 := a.n1 q (List.mem_of_getElem? hi)
  have hiR : i < R.length := by have := a.rl; omega
  obtain ⟨hq, _⟩ := a.row i q R[i] hi (List.getElem?_eq_getElem hiR)
  refine ⟨setN hq1 a.o _, a.ll, by rw [List.length_set]; exact a.rl, fun k p row h1 h2 => ?_, a.nd, a.n1⟩
  by_cases hk : k = i
  · subst hk
    rw [hi] at h1; cases h1
    rw [List.getElem?_set_self hiR] at h2; cases h2
    exact ⟨setE hq _, hr⟩
  · rw [List.getElem?_set_ne (fun e => hk e.symm)] at h2
    obtain ⟨g1, g2⟩ := a.row k p row h1 h2
    refine ⟨setN (fun e => hk (a.nd k i p h1 (by rw [← e]; exact hi))) g1 _, g2⟩
def swp {α : Type} (l : List α) (i k : Nat) (x y : α) : List α := (l.set i y).set k x
theorem swp_get {α : Type} {l : List α} {i k : Nat} {x y : α} (hi : l[i]? = some x) (hk : l[k]? = some y) (m : Nat) : (swp l i k x y)[m]? = if m = k then some x else if m = i then some y else l[m]? := by
  unfold swp
  have h1 := (List.getElem?_eq_some_iff.1 hi).1
  have h2 := (List.getElem?_eq_some_iff.1 hk).1
  by_cases e1 : m = k
  · subst e1; rw [if_pos rfl, List.getElem?_set_self (by simpa using h2)]
  · rw [if_neg e1, List.getElem?_set_ne (fun e => e1 e.symm)]
    by_cases e2 : m = i
    · subst e2; rw [if_pos rfl, List.getElem?_set_self h1]
    · rw [if_neg e2, List.getElem?_set_ne (fun e => e2 e.symm)]
theorem RM.swap (a : RM h n L R) {i k q p : Nat} {x y : List DyT} (hi : L[i]? = some q) (hk : L[k]? = some p) (hx : R[i]? = some x) (hy : R[k]? = some y) :
    RM (h.set 1 (.vals true (((L.map (slR n)).set i (slR n p)).set k (slR n q)))) n (swp L i k q p) (swp R i k x y) := by
  have h1 := a.o
  refine ⟨?_, by unfold swp; simp [a.ll], by unfold swp; simp [a.rl], fun m c row g1 g2 => ?_, fun m m' c g1 g2 => ?_, fun c hc => ?_⟩
  · rw [setE h1]; unfold swp; rw [List.map_set, List.map_set]
  · rw [swp_get hi hk] at g1
    rw [swp_get hx hy] at g2
    have key : ∃ m' : Nat, L[m']? = some c ∧ R[m']? = some row := by
      by_cases e1 : m = k
      · rw [if_pos e1] at g1 g2; exact ⟨i, by rw [hi, g1], by rw [hx, g2]⟩
      · rw [if_neg e1] at g1 g2
        by_cases e2 : m = i
        · rw [if_pos e2] at g1 g2; exact ⟨k, by rw [hk, g1], by rw [hy, g2]⟩
        · rw [if_neg e2] at g1 g2; exact ⟨m, g1, g2⟩
    obtain ⟨m', k1, k2⟩ := key
    obtain ⟨k3, k4⟩ := a.row m' c row k1 k2
    exact ⟨setN (fun e => a.n1 c (List.mem_of_getElem? k1) e.symm) k3 _, k4⟩
  · rw [swp_get hi hk] at g1 g2
    by_cases e1 : m = k <;> by_cases e2 : m' = k
    · omega
    · rw [if_pos e1] at g1; rw [if_neg e2] at g2; cases g1
      by_cases e3 : m' = i
      · rw [if_pos e3] at g2; cases g2; have := a.nd i k _ hi hk; omega
      · rw [if_neg e3] at g2; have := a.nd m' i _ g2 hi; omega
    · rw [if_neg e1] at g1; rw [if_pos e2] at g2; cases g2
      by_cases e3 : m = i
      · rw [if_pos e3] at g1; cases g1; have := a.nd i k _ hi hk; omega
      · rw [if_neg e3] at g1; have := a.nd m i _ g1 hi; omega
    · rw [if_neg e1] at g1; rw [if_neg e2] at g2
      by_cases e3 : m = i <;> by_cases e4 : m' = i
      · omega
      · rw [if_pos e3] at g1; rw [if_neg e4] at g2; cases g1; have := a.nd m' k _ g2 hk; omega
      · rw [if_neg e3] at g1; rw [if_pos e4] at g2; cases g2; have := a.nd m k _ g1 hk; omega
      · rw [if_neg e3] at g1; rw [if_neg e4] at g2; exact a.nd m m' c g1 g2
  · obtain ⟨m, hm⟩ : ∃ m : Nat, (swp L i k q p)[m]? = some c := List.mem_iff_getElem?.1 hc
    rw [swp_get hi hk] at hm
    split at hm
    · cases hm; exact a.n1 _ (List.mem_of_getElem? hi)
    · split at hm
      · cases hm; exact a.n1 _ (List.mem_of_getElem? hk)
      · exact a.n1 _ (List.mem_of_getElem? hm)
/-- What lies elsewhere. -/
theorem RM.other (a : RM h n L R) {i q c : Nat} (hi : L[i]? = some q) {o : VO} (hc : h[c]? = some o) (ho : ∀ l : List V, o ≠ .vals true l ∨ l.length ≠ n * 3) : c ≠ q := by
  intro e; subst e
  have hin : i < R.length := by have := (List.getElem?_eq_some_iff.1 hi).1; have := a.ll; have := a.rl; omega
  obtain ⟨h1, h2⟩ := a.row i c R[i] hi (List.getElem?_eq_getElem hin)
  rw [hc] at h1; cases h1
  rcases ho (flat DyT.v R[i]) with h | h
  · exact h rfl
  · exact h (by rw [flat_len3, h2])
theorem frz_rows (m : Nat) : ∀ (L : List Nat) (R : List (List DyT)), L.length = R.length → (∀ (i q : Nat) (row : List DyT), L[i]? = some q → R[i]? = some row → h[q]? = some (.vals true (flat DyT.v row)) ∧ row.length = n) → omap (vfrz h (m + 2)) (L.map (slR n)) = some (R.map rowV)
  | [], [], _, _ => rfl
  | [], _ :: _, hl, _ => by simp at hl
  | _ :: _, [], hl, _ => by simp at hl
  | q :: L, row :: R, hl, H => by
    obtain ⟨h1, h2⟩ := H 0 q row rfl rfl
    have h3 := frz_rows m L R (by simpa using hl) fun i q row a b => H (i + 1) q row (by simpa using a) (by simpa using b)
    have hln := flat_len3 row
    have ht : (flat DyT.v row).take (row.length * 3) = flat DyT.v row := List.take_of_length_le (by omega)
    have h4 : vfrz h (m + 2) (slR n q) = some (rowV row) := by
      unfold slR rowV
      rw [r_fsl, h1]
      simp only [frzS, ← h2, List.drop_zero, ht, fl_frz]
      rw [if_pos (by omega)]
    rw [List.map_cons, List.map_cons, r_oC, h4, h3]; rfl
theorem RM.frz (a : RM h n L R) (r : Nat) (hr : r ≤ n) : vfrz h 6 (.sl 1 r (n - r) 1) = some (.cells 1 (R.drop r).length ((R.drop r).map rowV)) := by
  have h1 := frz_rows (h := h) (n := n) 3 (L.drop r) (R.drop r) (by simp [a.ll, a.rl]) fun i q row g1 g2 => a.row (r + i) q row (by rw [List.getElem?_drop] at g1; exact g1) (by rw [List.getElem?_drop] at g2; exact g2)
  have h2 : ((L.map (slR n)).drop r).take ((n - r) * 1) = (L.drop r).map (slR n) := by
    rw [List.map_drop, List.take_of_length_le]; simp [a.ll]
  rw [r_fsl, a.o]
  simp only [frzS, h2, h1]
  rw [if_pos (by simp [a.ll]; omega)]
  simp [a.rl]
end
/-! ### calls -/
section
variable {x y : DyT} {B E n j r c : Nat} {row : List DyT} {h : VH} {L : List Nat} {R : List (List DyT)}
theorem eMul_c (d : Nat) (h : VH) (hx : EF B E x) (hy : EF B E y) (hB : B < 100000) (hE : E ≤ 100000) : vcallF kn (vrun Try.prog kn (d + 3)) h 104 (some [.agg [.bool x.neg, .ints .i64 x.l, .int .i64 x.e], .agg [.bool y.neg, .ints .i64 y.l, .int .i64 y.e]]) = some (.agg [.bool (eMul x y).neg, .ints .i64 (eMul x y).l, .int .i64 (eMul x y).e], h) := by
  have h1 := eMul_v d hx hy hB hE
  simp only [DyT.v] at h1
  simp (disch := omega) [go_sem, h1]
theorem eSub_c (d : Nat) (h : VH) (hx : EF B E x) (hy : EF B E y) (hB : B < 100000) (hE : E ≤ 100000) : vcallF kn (vrun Try.prog kn (d + 6)) h 105 (some [.agg [.bool x.neg, .ints .i64 x.l, .int .i64 x.e], .agg [.bool y.neg, .ints .i64 y.l, .int .i64 y.e]]) = some (.agg [.bool (eSub x y).neg, .ints .i64 (eSub x y).l, .int .i64 (eSub x y).e], h) := by
  have h1 := eSub_v d hx hy hB hE
  simp only [DyT.v] at h1
  simp (disch := omega) [go_sem, h1]
theorem cloneR_c (d : Nat) (h : VH) (h0 : 0 < row.length) (hn : row.length ≤ 4) : vcallF kn (vrun Try.prog kn (d + 1)) h 100 (some [rowV row]) = some (.sl h.length 0 row.length 3, h ++ [.vals true (flat DyT.v row)]) := by
  have h1 := cloneR_v d h0 hn
  have h2 := fl_ren (fun i => some (h.length + i)) 4 row
  unfold rowV at *
  generalize flat DyT.v row = F at *
  simp (disch := omega) [go_sem, h1, h2]
  cases F.all (V.noFz 4) <;> simp (disch := omega) [go_sem, h2]
theorem ixR_c (d : Nat) (a : RM h n L R) (hn : n ≤ 4) (hr : r ≤ n) {w : Bool} (hc : h[c]? = some (.vals w [.int .i64 j])) (hj : j < n) (hx : ∀ row ∈ R.drop r, ∀ x ∈ row, EF B E x) (hB : B < 100000) :
    (vcallF kn (vrun Try.prog kn (d + 2 + 1)) h 101 (some [.sl 1 r (n - r) 1, .fn (.func 102) [] [.ptr c 0]]) = some (.int .i64 (-1), h) ∧ ∀ row ∈ R.drop r, nzAt j row = false) ∨
    ∃ (k : Nat) (row : List DyT), vcallF kn (vrun Try.prog kn (d + 2 + 1)) h 101 (some [.sl 1 r (n - r) 1, .fn (.func 102) [] [.ptr c 0]]) = some (.int .i64 k, h) ∧ R[r + k]? = some row ∧ nzAt j row = true := by
  have hf := a.frz r hr
  have hlen : ∀ row ∈ R.drop r, row.length = n := fun row hm => by
    obtain ⟨i, hi⟩ := List.mem_iff_getElem?.1 hm
    rw [List.getElem?_drop] at hi
    have hlt := (List.getElem?_eq_some_iff.1 hi).1
    have hL : r + i < L.length := by have := a.ll; have := a.rl; omega
    exact (a.row (r + i) L[r + i] row (List.getElem?_eq_getElem hL) hi).2
  have hfa : omap (vfrz h 6) [V.sl 1 r (n - r) 1, .fn (.func 102) [] [.ptr c 0]] = some [.cells 1 (R.drop r).length ((R.drop r).map rowV), .fn (.func 102) [] [.fptr [.int .i64 j]]] := by
    simp only [r_oC, r_oN, hf, r_ffn, r_fptr, hc]
    simp [frzP, r_oC, r_oN, r_fint, consM, renF]
  rcases ixR_v d (rs := R.drop r) (j := j) (B := B) (E := E) (by simp [a.rl]; omega) (fun row hm => ⟨by rw [hlen row hm]; exact hn, by rw [hlen row hm]; exact hj, hx row hm⟩) hB with ⟨h1, h2⟩ | ⟨k, h1, row, h2, h3⟩
  · exact .inl ⟨callF_frz rfl rfl hfa h1 rfl rfl, h2⟩
  · rw [List.getElem?_drop] at h2
    exact .inr ⟨k, row, callF_frz rfl rfl hfa h1 rfl rfl, h2, h3⟩
end
end
/- The reference's rank: some rows and columns of a matrix. No conditions. -/
section
open Num
def bitR (r i : Nat) : Nat := r / 2 ^ i % 2
theorem bitR_lt (r i : Nat) : bitR r i < 2 := Nat.mod_lt _ (by omega)
def cntB (r : Nat) : Nat → Nat
  | 0 => 0
  | i + 1 => cntB r i + bitR r i
theorem cntB_le (r : Nat) : ∀ i, cntB r i ≤ i
  | 0 => Nat.le_refl _
  | i + 1 => by have := cntB_le r i; have := bitR_lt r i; rw [cntB]; omega
theorem b_shrN (P : Program) (t : TypeId) (r i : Nat) (hi : i < 64) : binE P .shr t (.int .i64 r) (.int .i64 i) = some (.int .i64 ((r / 2 ^ i : Nat) : Int)) := by
  rw [b_shr, if_neg (by omega), Int.toNat_natCast, Nat.min_eq_left (by show i ≤ 64; omega), Int.fdiv_eq_ediv_of_nonneg _ (Int.le_of_lt (Int.pow_pos (by omega)))]
  simp
theorem b_bit (P : Program) (t : TypeId) (r i : Nat) (hr : r < 1000000) : binE P .and t (.int .i64 ((r / 2 ^ i : Nat) : Int)) (.int .i64 1) = some (.int .i64 (bitR r i)) := by
  have h := Nat.div_le_self r (2 ^ i)
  unfold bitR
  generalize r / 2 ^ i = q at *
  rw [b_and1 P t _ (by omega) (by omega)]; rfl
/-- What is taken of the numbers so far. -/
def rwP (ds : List DyT) (n r s c : Nat) : List DyT := (List.range c).filterMap fun k => if bitR r (k / n) = 1 ∧ bitR s (k % n) = 1 then ds[k]? else none
section
variable {ds T : List DyT} {n r s i j : Nat} {x : DyT}
theorem placeR (i j n : Nat) (hj : j < n) : (i * n + j) % n = j ∧ (i * n + j) / n = i := by
  constructor
  · rw [Nat.mul_comm, Nat.mul_add_mod, Nat.mod_eq_of_lt hj]
  · rw [Nat.mul_comm, Nat.mul_add_div (by omega), Nat.div_eq_of_lt hj]; omega
theorem placeR_lt {i j n : Nat} (hi : i < n) (hj : j < n) : i * n + j < n * n := by
  have : i * n + n ≤ n * n := by rw [← Nat.succ_mul]; exact Nat.mul_le_mul_right _ (by omega)
  omega
theorem rwP_no (hj : j < n) (h : ¬ (bitR r i = 1 ∧ bitR s j = 1)) : rwP ds n r s (i * n + j + 1) = rwP ds n r s (i * n + j) := by
  obtain ⟨p1, p2⟩ := placeR i j n hj
  unfold rwP
  rw [List.range_succ, List.filterMap_append]
  simp [p1, p2, h]
theorem rwP_yes (hj : j < n) (ha : bitR r i = 1) (hb : bitR s j = 1) (hx : ds[i * n + j]? = some x) : rwP ds n r s (i * n + j + 1) = rwP ds n r s (i * n + j) ++ [x] := by
  obtain ⟨p1, p2⟩ := placeR i j n hj
  unfold rwP
  rw [List.range_succ, List.filterMap_append]
  simp [p1, p2, ha, hb, hx]
theorem rwP_len {c : Nat} : (rwP ds n r s c).length ≤ c := by
  unfold rwP
  exact Nat.le_trans (List.length_filterMap_le _ _) (by simp)
theorem rwP_all {P : DyT → Prop} {c : Nat} (h : ∀ x ∈ ds, P x) : ∀ x ∈ rwP ds n r s c, P x := by
  intro x hx
  unfold rwP at hx
  obtain ⟨k, hk, e⟩ := List.mem_filterMap.1 hx
  split at e
  · exact h x (List.mem_of_getElem? e)
  · cases e
def rwH (n m : Nat) (ds T : List DyT) : VH := if T = [] then [.vals true [.int .i64 n, .cells 3 ds.length (flat DyT.v ds)], .vals true [.int .i64 0, .nil], .vals true [.int .i64 m, .nil]] else [.vals true [.int .i64 n, .cells 3 ds.length (flat DyT.v ds)], .vals true [.int .i64 0, .nil], .vals true [.int .i64 m, .sl 3 0 T.length 3], .vals true (flat DyT.v T)]
theorem flat_apR : ∀ a b : List DyT, flat DyT.v (a ++ b) = flat DyT.v a ++ flat DyT.v b
  | [], _ => rfl
  | x :: a, b => by rw [List.cons_append, flat, flat, flat_apR a b, List.append_assoc]
theorem flat_snR : flat DyT.v (T ++ [x]) = flat DyT.v T ++ [.bool x.neg, .ints .i64 x.l, .int .i64 x.e] := by
  rw [flat_apR]; simp [flat, DyT.v]
theorem fin_R (T : List DyT) : (flat DyT.v T).length = T.length * 3 ∧ (∀ m, (flat DyT.v T).flatMap (vrefs m) = []) ∧ ∀ ρ m, omap (vren ρ m) (flat DyT.v T) = some (flat DyT.v T) := ⟨flat_len3 T, fun m => fl_refs m T, fun ρ m => fl_ren ρ m T⟩
/-! ### how many rows and columns -/
def rwA (ds : List DyT) (n r s i : Nat) : VE × VH := ([(1, some (.int .i64 r)), (2, some (.int .i64 s)), (3, some (.ptr 0 0)), (6, some (.ptr 1 0)), (8, some (.ptr 2 0)), (9, some (.int .i64 (cntB r i))), (10, some (.int .i64 (cntB s i))), (11, some (.int .i64 i))], rwH n 0 ds [])
theorem rwA_r (call : CallV) (hn : n ≤ 4) (hr : r < 1000000) (hs : s < 1000000) (hi : i < n) : vCode Try.prog kn call 96 (loopAt Try.f96 0) (rwA ds n r s i).1 (rwA ds n r s i).2 = some (.norm, rwA ds n r s (i + 1)) := by
  have s1 := fun t => b_shrN Try.prog t r i (by omega)
  have s2 := fun t => b_shrN Try.prog t s i (by omega)
  have s3 := fun t => b_bit Try.prog t r i hr
  have s4 := fun t => b_bit Try.prog t s i hs
  have c1 := cntB_le r i
  have c2 := cntB_le s i
  have d1 := bitR_lt r i
  have d2 := bitR_lt s i
  rw [round_v]; simp only [loopAt, nthC, bodyC, loops, List.nil_append, List.cons_append, List.append_nil, Try.f96, rwA, rwH, cntB, if_true]
  generalize bitR r i = x at *
  generalize bitR s i = y at *
  generalize cntB r i = u at *
  generalize cntB s i = v at *
  generalize flat DyT.v ds = F at *
  generalize r / 2 ^ i = z at *
  generalize s / 2 ^ i = w at *
  simp (implicitDefEqProofs := false) (disch := omega) [go_sem, tab96, s1, s2, s3, s4]
theorem rwA_x (call : CallV) : vCode Try.prog kn call 96 (loopAt Try.f96 0) (rwA ds n r s n).1 (rwA ds n r s n).2 = some (.exit 0, (rwA ds n r s n).1 ++ [(17, some (.bool false))], (rwA ds n r s n).2) := by
  rw [round_v]; simp only [loopAt, nthC, bodyC, loops, List.nil_append, List.cons_append, List.append_nil, Try.f96, rwA, rwH, if_true]
  simp (implicitDefEqProofs := false) (disch := omega) [go_sem, tab96]
end
end
/- The reference's rank: some rows and columns of a matrix, walked. No conditions. -/
section
open Num
section
variable {ds T : List DyT} {n r s i j m : Nat} {x : DyT}
def rwO (ds : List DyT) (n m r s i : Nat) : VE × VH := ([(1, some (.int .i64 r)), (2, some (.int .i64 s)), (3, some (.ptr 0 0)), (6, some (.ptr 1 0)), (8, some (.ptr 2 0)), (12, some (.int .i64 i))], rwH n m ds (rwP ds n r s (i * n)))
def rwI (ds : List DyT) (n m r s i j : Nat) : VE × VH := ([(1, some (.int .i64 r)), (2, some (.int .i64 s)), (3, some (.ptr 0 0)), (6, some (.ptr 1 0)), (8, some (.ptr 2 0)), (12, some (.int .i64 i)), (13, some (.int .i64 j))], rwH n m ds (rwP ds n r s (i * n + j)))
theorem rwI_r (call : CallV) (hn1 : 1 ≤ n) (hn : n ≤ 4) (hr : r < 1000000) (hs : s < 1000000) (hl : ds.length = n * n) (hi : i < n) (hj : j < n) : vCode Try.prog kn call 96 (loopAt Try.f96 2) (rwI ds n m r s i j).1 (rwI ds n m r s i j).2 = some (.norm, rwI ds n m r s i (j + 1)) := by
  have s1 := fun t => b_shrN Try.prog t r i (by omega)
  have s2 := fun t => b_shrN Try.prog t s j (by omega)
  have s3 := fun t => b_bit Try.prog t r i hr
  have s4 := fun t => b_bit Try.prog t s j hs
  have d1 := bitR_lt r i
  have d2 := bitR_lt s j
  have hlt := placeR_lt hi hj
  have hnn : n * n ≤ 16 := Nat.mul_le_mul hn hn
  obtain ⟨x, hget⟩ : ∃ x, ds[i * n + j]? = some x := ⟨_, List.getElem?_eq_getElem (by omega)⟩
  have hsub : ((flat DyT.v ds).drop ((i * n + j) * 3)).take 3 = [.bool x.neg, .ints .i64 x.l, .int .i64 x.e] := flat_sub DyT.len ds _ _ hget
  have hI : (i : Int) * n = ((i * n : Nat) : Int) := by simp
  have hml := rwP_len (ds := ds) (n := n) (r := r) (s := s) (c := i * n + j)
  obtain ⟨hln, hG1, hG2⟩ := fin_R (rwP ds n r s (i * n + j))
  rw [round_v]; simp only [loopAt, nthC, bodyC, loops, List.nil_append, List.cons_append, List.append_nil, Try.f96, rwI, rwH]
  rw [show i * n + (j + 1) = i * n + j + 1 by omega]
  by_cases ha : bitR r i = 1 ∧ bitR s j = 1
  · obtain ⟨ha, hb⟩ := ha
    have hA1 := fun k => fl_refs k (rwP ds n r s (i * n + j) ++ [x])
    have hA2 := fun ρ k => fl_ren ρ k (rwP ds n r s (i * n + j) ++ [x])
    rw [flat_snR] at hA1 hA2
    rw [rwP_yes hj ha hb hget, flat_snR]
    rw [ha] at s3
    rw [hb] at s4
    generalize rwP ds n r s (i * n + j) = T at *
    generalize flat DyT.v ds = F at *
    generalize r / 2 ^ i = z at *
    generalize s / 2 ^ j = w at *
    clear hget ha hb d1 d2
    have hq2 : i * n + j < 20 := by omega
    generalize i * n = q at *
    have e2 : ((q : Int) + j).toNat = q + j := by omega
    rw [if_neg (show ¬ T ++ [x] = [] by simp)]
    by_cases h0 : T = []
    · rw [if_pos h0]
      subst h0
      simp only [flat, List.nil_append]
      simp (implicitDefEqProofs := false) (disch := omega) [go_sem, tab96, s1, s2, s3, s4, hsub, hI, e2]
    · rw [if_neg h0]
      have ht : (flat DyT.v T).take (T.length * 3) = flat DyT.v T := List.take_of_length_le (by omega)
      have hlp : 0 < T.length := List.length_pos_iff.2 h0
      generalize flat DyT.v T = G at *
      simp (implicitDefEqProofs := false) (disch := omega) [go_sem, tab96, s1, s2, s3, s4, hsub, hI, e2, hln, ht, hG1, hG2, hA1, hA2]
  · rw [rwP_no hj ha]
    generalize rwP ds n r s (i * n + j) = T at *
    generalize flat DyT.v ds = F at *
    generalize r / 2 ^ i = z at *
    generalize s / 2 ^ j = w at *
    clear hget hsub
    have hc : bitR r i = 0 ∨ (bitR r i = 1 ∧ bitR s j = 0) := by omega
    clear ha
    by_cases h0 : T = []
    · rw [if_pos h0]
      rcases hc with hc | ⟨hc, hc'⟩
      · rw [hc] at s3
        simp (implicitDefEqProofs := false) (disch := omega) [go_sem, tab96, s1, s2, s3, s4]
      · rw [hc] at s3
        rw [hc'] at s4
        simp (implicitDefEqProofs := false) (disch := omega) [go_sem, tab96, s1, s2, s3, s4]
    · rw [if_neg h0]
      have ht : (flat DyT.v T).take (T.length * 3) = flat DyT.v T := List.take_of_length_le (by omega)
      generalize flat DyT.v T = G at *
      rcases hc with hc | ⟨hc, hc'⟩
      · rw [hc] at s3
        simp (implicitDefEqProofs := false) (disch := omega) [go_sem, tab96, s1, s2, s3, s4, hln, ht, hG1, hG2]
      · rw [hc] at s3
        rw [hc'] at s4
        simp (implicitDefEqProofs := false) (disch := omega) [go_sem, tab96, s1, s2, s3, s4, hln, ht, hG1, hG2]
theorem rwI_x (call : CallV) (hn : n ≤ 4) (hi : i < n) : vCode Try.prog kn call 96 (loopAt Try.f96 2) (rwI ds n m r s i n).1 (rwI ds n m r s i n).2 = some (.exit 4, (rwI ds n m r s i n).1 ++ [(51, some (.bool false))], (rwI ds n m r s i n).2) := by
  have hml := rwP_len (ds := ds) (n := n) (r := r) (s := s) (c := i * n + n)
  have hle : i * n + n ≤ n * n := by rw [← Nat.succ_mul]; exact Nat.mul_le_mul_right _ (by omega)
  have hnn : n * n ≤ 16 := Nat.mul_le_mul hn hn
  rw [round_v]; simp only [loopAt, nthC, bodyC, loops, List.nil_append, List.cons_append, List.append_nil, Try.f96, rwI, rwH]
  generalize rwP ds n r s (i * n + n) = T at *
  obtain ⟨hln, hG1, hG2⟩ := fin_R T
  generalize flat DyT.v ds = F at *
  by_cases h0 : T = []
  · rw [if_pos h0]
    simp (implicitDefEqProofs := false) (disch := omega) [go_sem, tab96]
  · rw [if_neg h0]
    have ht : (flat DyT.v T).take (T.length * 3) = flat DyT.v T := List.take_of_length_le (by omega)
    generalize flat DyT.v T = G at *
    simp (implicitDefEqProofs := false) (disch := omega) [go_sem, tab96, hln, ht, hG1, hG2]
theorem rwO_r (call : CallV) (hn1 : 1 ≤ n) (hn : n ≤ 4) (hr : r < 1000000) (hs : s < 1000000) (hl : ds.length = n * n) (hi : i < n) : vCode Try.prog kn call 96 (loopAt Try.f96 1) (rwO ds n m r s i).1 (rwO ds n m r s i).2 = some (.norm, rwO ds n m r s (i + 1)) := by
  have hl0 := fun ks => loop_v (P := Try.prog) (K := kn) (ks := ks) (vi_for (rwI ds n m r s i) n (n := kn.cf.rounds) (by rw [k_cf, c_rounds]; omega) (fun j hj => rwI_r call hn1 hn hr hs hl hi hj) fun k => vi_exit (rwI_x _ hn hi))
  simp only [loopAt, nthC, bodyC, loops, List.nil_append, List.cons_append, List.append_nil, Try.f96, rwI, rwH, Int.natCast_zero, Nat.add_zero, List.cons_append, List.nil_append] at hl0
  have hml := rwP_len (ds := ds) (n := n) (r := r) (s := s) (c := i * n)
  have hml' := rwP_len (ds := ds) (n := n) (r := r) (s := s) (c := i * n + n)
  have hle : i * n + n ≤ n * n := by rw [← Nat.succ_mul]; exact Nat.mul_le_mul_right _ (by omega)
  have hnn : n * n ≤ 16 := Nat.mul_le_mul hn hn
  rw [round_v]; simp only [loopAt, nthC, bodyC, loops, List.nil_append, List.cons_append, List.append_nil, Try.f96, rwO, rwH]
  rw [show (i + 1) * n = i * n + n by rw [Nat.succ_mul]]
  generalize rwP ds n r s (i * n + n) = T' at *
  generalize rwP ds n r s (i * n) = T at *
  obtain ⟨hln, hG1, hG2⟩ := fin_R T
  obtain ⟨hln', hG1', hG2'⟩ := fin_R T'
  generalize flat DyT.v ds = F at *
  have ht : (flat DyT.v T).take (T.length * 3) = flat DyT.v T := List.take_of_length_le (by omega)
  have ht' : (flat DyT.v T').take (T'.length * 3) = flat DyT.v T' := List.take_of_length_le (by omega)
  generalize flat DyT.v T = G at *
  generalize flat DyT.v T' = G' at *
  by_cases h0 : T = [] <;> by_cases h1 : T' = []
  all_goals
    simp only [h0, h1, if_true, if_false] at hl0 ⊢
    simp (implicitDefEqProofs := false) (disch := omega) [go_sem, tab96, hl0, hln, ht, hG1, hG2, hln', ht', hG1', hG2']
theorem rwO_x (call : CallV) (hn : n ≤ 4) : vCode Try.prog kn call 96 (loopAt Try.f96 1) (rwO ds n m r s n).1 (rwO ds n m r s n).2 = some (.exit 2, (rwO ds n m r s n).1 ++ [(45, some (.bool false))], (rwO ds n m r s n).2) := by
  have hml := rwP_len (ds := ds) (n := n) (r := r) (s := s) (c := n * n)
  have hnn : n * n ≤ 16 := Nat.mul_le_mul hn hn
  rw [round_v]; simp only [loopAt, nthC, bodyC, loops, List.nil_append, List.cons_append, List.append_nil, Try.f96, rwO, rwH]
  generalize rwP ds n r s (n * n) = T at *
  obtain ⟨hln, hG1, hG2⟩ := fin_R T
  generalize flat DyT.v ds = F at *
  by_cases h0 : T = []
  · rw [if_pos h0]
    simp (implicitDefEqProofs := false) (disch := omega) [go_sem, tab96]
  · rw [if_neg h0]
    have ht : (flat DyT.v T).take (T.length * 3) = flat DyT.v T := List.take_of_length_le (by omega)
    generalize flat DyT.v T = G at *
    simp (implicitDefEqProofs := false) (disch := omega) [go_sem, tab96, hln, ht, hG1, hG2]
/-- Is it a part? -/
def rwB (n r s : Nat) : Bool := decide (cntB r n = cntB s n ∧ 0 < cntB r n)
def rwN (n r s : Nat) : Nat := if rwB n r s then cntB r n else 0
def rwT (ds : List DyT) (n r s : Nat) : List DyT := if rwB n r s then rwP ds n r s (n * n) else []
theorem l9rows_v (d : Nat) (hn1 : 1 ≤ n) (hn : n ≤ 4) (hr : r < 1000000) (hs : s < 1000000) (hl : ds.length = n * n) : vrun Try.prog kn (d + 1) 96 [.agg [.int .i64 n, .cells 3 ds.length (flat DyT.v ds)], .int .i64 r, .int .i64 s] [] = some (.tup [.agg [.int .i64 (rwN n r s), .cells 3 (rwT ds n r s).length (flat DyT.v (rwT ds n r s))], .bool (rwB n r s)], []) := by
  have hl1 := fun ks => loop_v (P := Try.prog) (K := kn) (ks := ks) (vi_for (rwA ds n r s) n (n := kn.cf.rounds) (by rw [k_cf, c_rounds]; omega) (fun i hi => rwA_r (vrun Try.prog kn d) hn hr hs hi) fun k => vi_exit (rwA_x _))
  have c1 := cntB_le r n
  have c2 := cntB_le s n
  simp only [loopAt, nthC, bodyC, loops, List.nil_append, List.cons_append, List.append_nil, Try.f96, rwA, rwH, cntB, if_true, Int.natCast_zero, List.cons_append, List.nil_append] at hl1
  unfold rwN rwT
  by_cases hb : cntB r n = cntB s n ∧ 0 < cntB r n
  · have hb' : rwB n r s = true := decide_eq_true hb
    obtain ⟨hb1, hb2⟩ := hb
    have hl0 := fun ks => loop_v (P := Try.prog) (K := kn) (ks := ks) (vi_for (rwO ds n (cntB r n) r s) n (n := kn.cf.rounds) (by rw [k_cf, c_rounds]; omega) (fun i hi => rwO_r (vrun Try.prog kn d) hn1 hn hr hs hl hi) fun k => vi_exit (rwO_x _ hn))
    have e0 : rwP ds n r s 0 = [] := rfl
    have hml := rwP_len (ds := ds) (n := n) (r := r) (s := s) (c := n * n)
    have hnn : n * n ≤ 16 := Nat.mul_le_mul hn hn
    simp only [loopAt, nthC, bodyC, loops, List.nil_append, List.cons_append, List.append_nil, Try.f96, rwO, rwH, Nat.zero_mul, e0, if_true, Int.natCast_zero, List.cons_append, List.nil_append] at hl0
    simp only [hb', if_true]
    generalize rwP ds n r s (n * n) = T at *
    obtain ⟨hln, hG1, hG2⟩ := fin_R T
    have hfz := fun h m => fl_frz h m T
    have ht : (flat DyT.v T).take (T.length * 3) = flat DyT.v T := List.take_of_length_le (by omega)
    generalize flat DyT.v ds = F at *
    rw [← hb1] at hl1
    generalize cntB r n = m at *
    clear hl hb1
    by_cases h0 : T = []
    · subst h0
      simp only [if_true] at hl0
      rw [vrun_v Try.func96 rfl rfl rfl]; simp only [Try.f96]
      simp (implicitDefEqProofs := false) (disch := omega) [go_sem, tab96, hl0, hl1, flat]
    · simp only [h0, if_false] at hl0
      generalize flat DyT.v T = G at *
      rw [vrun_v Try.func96 rfl rfl rfl]; simp only [Try.f96]
      simp (implicitDefEqProofs := false) (disch := omega) [go_sem, tab96, hl0, hl1, hln, ht, hfz, hG1, hG2]
  · have hb' : rwB n r s = false := decide_eq_false hb
    have ef : flat DyT.v ([] : List DyT) = [] := rfl
    simp only [hb', List.length_nil]
    generalize flat DyT.v ds = F at *
    generalize cntB r n = u at *
    generalize cntB s n = v at *
    clear hl
    by_cases he : u = v
    · have : u = 0 := by omega
      subst he
      subst this
      rw [vrun_v Try.func96 rfl rfl rfl]; simp only [Try.f96]
      simp (implicitDefEqProofs := false) (disch := omega) [go_sem, tab96, hl1, ef]
    · have he' : ¬ (u : Int) = v := by omega
      rw [vrun_v Try.func96 rfl rfl rfl]; simp only [Try.f96]
      simp (implicitDefEqProofs := false) (disch := omega) [go_sem, tab96, hl1, he, he', ef]
end
end
/- The reference's rank: a matrix without a row and a column. No conditions. -/
section
open Num
/-- What is kept of the numbers so far. -/
def mnR (ds : List DyT) (n a b c : Nat) : List DyT := (List.range c).filterMap fun k => if k / n = a ∨ k % n = b then none else ds[k]?
section
variable {ds T : List DyT} {n a b i j : Nat} {x : DyT}
theorem mnR_no (hj : j < n) (h : i = a ∨ j = b) : mnR ds n a b (i * n + j + 1) = mnR ds n a b (i * n + j) := by
  obtain ⟨p1, p2⟩ := placeR i j n hj
  unfold mnR
  rw [List.range_succ, List.filterMap_append]
  simp [p1, p2, h]
theorem mnR_yes (hj : j < n) (ha : ¬ i = a) (hb : ¬ j = b) (hx : ds[i * n + j]? = some x) : mnR ds n a b (i * n + j + 1) = mnR ds n a b (i * n + j) ++ [x] := by
  obtain ⟨p1, p2⟩ := placeR i j n hj
  unfold mnR
  rw [List.range_succ, List.filterMap_append]
  simp [p1, p2, ha, hb, hx]
theorem mnR_all {P : DyT → Prop} {c : Nat} (h : ∀ x ∈ ds, P x) : ∀ x ∈ mnR ds n a b c, P x := by
  intro x hx
  unfold mnR at hx
  obtain ⟨k, hk, e⟩ := List.mem_filterMap.1 hx
  split at e
  · cases e
  · exact h x (List.mem_of_getElem? e)
theorem mnR_len {c : Nat} : (mnR ds n a b c).length ≤ c := by
  unfold mnR
  exact Nat.le_trans (List.length_filterMap_le _ _) (by simp)
theorem mnR_pos (hl : ds.length = n * n) (hn : 2 ≤ n) : 0 < (mnR ds n a b (n * n)).length := by
  obtain ⟨a', ha', ha⟩ : ∃ a', a' < n ∧ ¬ a' = a := by
    by_cases h : a = 0
    · exact ⟨1, by omega, by omega⟩
    · exact ⟨0, by omega, by omega⟩
  obtain ⟨b', hb', hb⟩ : ∃ b', b' < n ∧ ¬ b' = b := by
    by_cases h : b = 0
    · exact ⟨1, by omega, by omega⟩
    · exact ⟨0, by omega, by omega⟩
  have hlt := placeR_lt ha' hb'
  obtain ⟨p1, p2⟩ := placeR a' b' n hb'
  have hget : ds[a' * n + b']? = some ds[a' * n + b'] := List.getElem?_eq_getElem (by omega)
  refine List.length_pos_iff.2 fun e => ?_
  have : ds[a' * n + b'] ∈ mnR ds n a b (n * n) := by
    unfold mnR
    refine List.mem_filterMap.2 ⟨a' * n + b', List.mem_range.2 hlt, ?_⟩
    rw [p1, p2, if_neg (by omega)]; exact hget
  rw [e] at this; cases this
def mnHR (n : Nat) (ds T : List DyT) : VH := if T = [] then [.vals true [.int .i64 n, .cells 3 ds.length (flat DyT.v ds)], .vals true [.int .i64 0, .nil], .vals true [.int .i64 (n - 1), .nil]] else [.vals true [.int .i64 n, .cells 3 ds.length (flat DyT.v ds)], .vals true [.int .i64 0, .nil], .vals true [.int .i64 (n - 1), .sl 3 0 T.length 3], .vals true (flat DyT.v T)]
/-! ### reference -/
def smOR (ds : List DyT) (n a b i : Nat) : VE × VH := ([(1, some (.int .i64 a)), (2, some (.int .i64 b)), (3, some (.ptr 0 0)), (6, some (.ptr 1 0)), (7, some (.ptr 2 0)), (8, some (.int .i64 i))], mnHR n ds (mnR ds n a b (i * n)))
def smIR (ds : List DyT) (n a b i j : Nat) : VE × VH := ([(1, some (.int .i64 a)), (2, some (.int .i64 b)), (3, some (.ptr 0 0)), (6, some (.ptr 1 0)), (7, some (.ptr 2 0)), (8, some (.int .i64 i)), (9, some (.int .i64 j))], mnHR n ds (mnR ds n a b (i * n + j)))
theorem smn_r (call : CallV) (hn1 : 1 ≤ n) (hn : n ≤ 4) (hl : ds.length = n * n) (hi : i < n) (hj : j < n) : vCode Try.prog kn call 126 (loopAt Try.f126 1) (smIR ds n a b i j).1 (smIR ds n a b i j).2 = some (.norm, smIR ds n a b i (j + 1)) := by
  have hlt := placeR_lt hi hj
  have hnn : n * n ≤ 16 := Nat.mul_le_mul hn hn
  have hget : ds[i * n + j]? = some ds[i * n + j] := List.getElem?_eq_getElem (by omega)
  have hsub : ((flat DyT.v ds).drop ((i * n + j) * 3)).take 3 = [.bool ds[i * n + j].neg, .ints .i64 ds[i * n + j].l, .int .i64 ds[i * n + j].e] := flat_sub DyT.len ds _ _ hget
  have hI : (i : Int) * n = ((i * n : Nat) : Int) := by simp
  have hml := mnR_len (ds := ds) (n := n) (a := a) (b := b) (c := i * n + j)
  have hln := flat_len3 (mnR ds n a b (i * n + j))
  have hG1 := fun m => fl_refs m (mnR ds n a b (i * n + j))
  have hG2 := fun ρ m => fl_ren ρ m (mnR ds n a b (i * n + j))
  rw [round_v]; simp only [loopAt, nthC, bodyC, loops, List.nil_append, List.cons_append, List.append_nil, Try.f126, smIR, mnHR]
  rw [show i * n + (j + 1) = i * n + j + 1 by omega]
  by_cases ha : i = a ∨ j = b
  · rw [mnR_no hj ha]
    generalize mnR ds n a b (i * n + j) = T at *
    generalize flat DyT.v ds = F at *
    have hc : (i : Int) = a ∨ (¬ (i : Int) = a ∧ (j : Int) = b) := by omega
    clear hget hsub
    by_cases h0 : T = []
    · rw [if_pos h0]
      rcases hc with hc | ⟨hc, hc'⟩
      · have hk : i = a := by omega
        simp (implicitDefEqProofs := false) (disch := omega) [go_sem, tab126, hc, hk]
      · have hk : ¬ i = a := by omega
        have hk' : j = b := by omega
        simp (implicitDefEqProofs := false) (disch := omega) [go_sem, tab126, hc, hc', hk, hk']
    · rw [if_neg h0]
      have ht : (flat DyT.v T).take (T.length * 3) = flat DyT.v T := List.take_of_length_le (by omega)
      generalize flat DyT.v T = G at *
      rcases hc with hc | ⟨hc, hc'⟩
      · have hk : i = a := by omega
        simp (implicitDefEqProofs := false) (disch := omega) [go_sem, tab126, hc, hk, hln, ht, hG1, hG2]
      · have hk : ¬ i = a := by omega
        have hk' : j = b := by omega
        simp (implicitDefEqProofs := false) (disch := omega) [go_sem, tab126, hc, hc', hk, hk', hln, ht, hG1, hG2]
  · have hk : ¬ i = a := by omega
    have hk' : ¬ j = b := by omega
    have hc : ¬ (i : Int) = a := by omega
    have hc' : ¬ (j : Int) = b := by omega
    have hA1 := fun m => fl_refs m (mnR ds n a b (i * n + j) ++ [ds[i * n + j]])
    have hA2 := fun ρ m => fl_ren ρ m (mnR ds n a b (i * n + j) ++ [ds[i * n + j]])
    rw [flat_snR] at hA1 hA2
    rw [mnR_yes hj hk hk' hget, flat_snR]
    generalize mnR ds n a b (i * n + j) = T at *
    generalize ds[i * n + j] = x at *
    generalize flat DyT.v ds = F at *
    clear hget
    have hq2 : i * n + j < 20 := by omega
    generalize i * n = q at *
    have e2 : ((q : Int) + j).toNat = q + j := by omega
    rw [if_neg (show ¬ T ++ [x] = [] by simp)]
    by_cases h0 : T = []
    · rw [if_pos h0]
      subst h0
      simp only [flat, List.nil_append]
      simp (implicitDefEqProofs := false) (disch := omega) [go_sem, tab126, hc, hc', hk, hk', hsub, hI, e2]
    · rw [if_neg h0]
      have ht : (flat DyT.v T).take (T.length * 3) = flat DyT.v T := List.take_of_length_le (by omega)
      have hlp : 0 < T.length := List.length_pos_iff.2 h0
      generalize flat DyT.v T = G at *
      simp (implicitDefEqProofs := false) (disch := omega) [go_sem, tab126, hc, hc', hk, hk', hsub, hI, e2, hln, ht, hG1, hG2, hA1, hA2]
theorem smn_x (call : CallV) (hn : n ≤ 4) (hi : i < n) : vCode Try.prog kn call 126 (loopAt Try.f126 1) (smIR ds n a b i n).1 (smIR ds n a b i n).2 = some (.exit 2, (smIR ds n a b i n).1 ++ [(23, some (.bool false))], (smIR ds n a b i n).2) := by
  have hml := mnR_len (ds := ds) (n := n) (a := a) (b := b) (c := i * n + n)
  have hle : i * n + n ≤ n * n := by rw [← Nat.succ_mul]; exact Nat.mul_le_mul_right _ (by omega)
  have hnn : n * n ≤ 16 := Nat.mul_le_mul hn hn
  rw [round_v]; simp only [loopAt, nthC, bodyC, loops, List.nil_append, List.cons_append, List.append_nil, Try.f126, smIR, mnHR]
  generalize mnR ds n a b (i * n + n) = T at *
  obtain ⟨hln, hG1, hG2⟩ := fin_R T
  generalize flat DyT.v ds = F at *
  by_cases h0 : T = []
  · rw [if_pos h0]
    simp (implicitDefEqProofs := false) (disch := omega) [go_sem, tab126]
  · rw [if_neg h0]
    have ht : (flat DyT.v T).take (T.length * 3) = flat DyT.v T := List.take_of_length_le (by omega)
    generalize flat DyT.v T = G at *
    simp (implicitDefEqProofs := false) (disch := omega) [go_sem, tab126, hln, ht, hG1, hG2]
theorem smn_o (call : CallV) (hn1 : 1 ≤ n) (hn : n ≤ 4) (hl : ds.length = n * n) (hi : i < n) : vCode Try.prog kn call 126 (loopAt Try.f126 0) (smOR ds n a b i).1 (smOR ds n a b i).2 = some (.norm, smOR ds n a b (i + 1)) := by
  have hl0 := fun ks => loop_v (P := Try.prog) (K := kn) (ks := ks) (vi_for (smIR ds n a b i) n (n := kn.cf.rounds) (by rw [k_cf, c_rounds]; omega) (fun j hj => smn_r call hn1 hn hl hi hj) fun m => vi_exit (smn_x _ hn hi))
  simp only [loopAt, nthC, bodyC, loops, List.nil_append, List.cons_append, List.append_nil, Try.f126, smIR, mnHR, Int.natCast_zero, Nat.add_zero, List.cons_append, List.nil_append] at hl0
  have hml := mnR_len (ds := ds) (n := n) (a := a) (b := b) (c := i * n)
  have hml' := mnR_len (ds := ds) (n := n) (a := a) (b := b) (c := i * n + n)
  have hle : i * n + n ≤ n * n := by rw [← Nat.succ_mul]; exact Nat.mul_le_mul_right _ (by omega)
  have hnn : n * n ≤ 16 := Nat.mul_le_mul hn hn
  rw [round_v]; simp only [loopAt, nthC, bodyC, loops, List.nil_append, List.cons_append, List.append_nil, Try.f126, smOR, mnHR]
  rw [show (i + 1) * n = i * n + n by rw [Nat.succ_mul]]
  generalize mnR ds n a b (i * n + n) = T' at *
  generalize mnR ds n a b (i * n) = T at *
  obtain ⟨hln, hG1, hG2⟩ := fin_R T
  obtain ⟨hln', hG1', hG2'⟩ := fin_R T'
  generalize flat DyT.v ds = F at *
  have ht : (flat DyT.v T).take (T.length * 3) = flat DyT.v T := List.take_of_length_le (by omega)
  have ht' : (flat DyT.v T').take (T'.length * 3) = flat DyT.v T' := List.take_of_length_le (by omega)
  generalize flat DyT.v T = G at *
  generalize flat DyT.v T' = G' at *
  by_cases h0 : T = [] <;> by_cases h1 : T' = []
  all_goals
    simp only [h0, h1, if_true, if_false] at hl0 ⊢
    simp (implicitDefEqProofs := false) (disch := omega) [go_sem, tab126, hl0, hln, ht, hG1, hG2, hln', ht', hG1', hG2']
theorem smn_ox (call : CallV) (hn : n ≤ 4) : vCode Try.prog kn call 126 (loopAt Try.f126 0) (smOR ds n a b n).1 (smOR ds n a b n).2 = some (.exit 0, (smOR ds n a b n).1 ++ [(17, some (.bool false))], (smOR ds n a b n).2) := by
  have hml := mnR_len (ds := ds) (n := n) (a := a) (b := b) (c := n * n)
  have hnn : n * n ≤ 16 := Nat.mul_le_mul hn hn
  rw [round_v]; simp only [loopAt, nthC, bodyC, loops, List.nil_append, List.cons_append, List.append_nil, Try.f126, smOR, mnHR]
  generalize mnR ds n a b (n * n) = T at *
  obtain ⟨hln, hG1, hG2⟩ := fin_R T
  generalize flat DyT.v ds = F at *
  by_cases h0 : T = []
  · rw [if_pos h0]
    simp (implicitDefEqProofs := false) (disch := omega) [go_sem, tab126]
  · rw [if_neg h0]
    have ht : (flat DyT.v T).take (T.length * 3) = flat DyT.v T := List.take_of_length_le (by omega)
    generalize flat DyT.v T = G at *
    simp (implicitDefEqProofs := false) (disch := omega) [go_sem, tab126, hln, ht, hG1, hG2]
theorem l9minorR_v (d : Nat) (hn1 : 2 ≤ n) (hn : n ≤ 4) (hl : ds.length = n * n) : vrun Try.prog kn (d + 1) 126 [.agg [.int .i64 n, .cells 3 ds.length (flat DyT.v ds)], .int .i64 a, .int .i64 b] [] = some (.agg [.int .i64 (n - 1), .cells 3 (mnR ds n a b (n * n)).length (flat DyT.v (mnR ds n a b (n * n)))], []) := by
  have hl0 := fun ks => loop_v (P := Try.prog) (K := kn) (ks := ks) (vi_for (smOR ds n a b) n (n := kn.cf.rounds) (by rw [k_cf, c_rounds]; omega) (fun i hi => smn_o (vrun Try.prog kn d) (by omega) hn hl hi) fun m => vi_exit (smn_ox _ hn))
  have e0 : mnR ds n a b 0 = [] := rfl
  have hp := mnR_pos (a := a) (b := b) hl hn1
  have hml := mnR_len (ds := ds) (n := n) (a := a) (b := b) (c := n * n)
  have hnn : n * n ≤ 16 := Nat.mul_le_mul hn hn
  simp only [loopAt, nthC, bodyC, loops, List.nil_append, List.cons_append, List.append_nil, Try.f126, smOR, mnHR, Nat.zero_mul, e0, if_true, Int.natCast_zero, List.cons_append, List.nil_append] at hl0
  generalize mnR ds n a b (n * n) = T at *
  have h0 : ¬ T = [] := fun e => by rw [e] at hp; simp at hp
  simp only [h0, if_false] at hl0
  obtain ⟨hln, hG1, hG2⟩ := fin_R T
  have hfz := fun h m => fl_frz h m T
  have ht : (flat DyT.v T).take (T.length * 3) = flat DyT.v T := List.take_of_length_le (by omega)
  generalize flat DyT.v ds = F at *
  generalize flat DyT.v T = G at *
  clear hl
  rw [vrun_v Try.func126 rfl rfl rfl]; simp only [Try.f126]
  simp (implicitDefEqProofs := false) (disch := omega) [go_sem, tab126, hl0, hln, ht, hfz, hG1, hG2]
end
end
/- The reference's determinants: the numbers. No program in sight. No conditions. -/
section
open Num
/-- A number whose multiples of 2^-K stay below 2^T. -/
structure BD (K T : Nat) (x : DyT) : Prop where
  l : x.l = D x.n
  z : x.n = 0 → x.neg = false
  z0 : x.n = 0 → x.e = 0
  e : -(K : Int) ≤ x.e
  b : x.n * 2 ^ (x.e + K).toNat < 2 ^ T
theorem BD.len {K T : Nat} {x : DyT} (h : BD K T x) : (D x.n).length ≤ T / 16 + 1 := by
  have h1 := h.b
  have h2 : x.n ≤ x.n * 2 ^ (x.e + K).toNat := Nat.le_mul_of_pos_right _ (Nat.pow_pos (by omega))
  refine len_D_le.2 (Nat.lt_of_le_of_lt h2 (Nat.lt_of_lt_of_le h1 ?_))
  rw [show (65536 : Nat) = 2 ^ 16 from rfl, ← Nat.pow_mul]
  exact Nat.pow_le_pow_right (by omega) (by omega)
theorem BD.ehi {K T : Nat} {x : DyT} (h : BD K T x) : x.e ≤ T := by
  by_cases h0 : x.n = 0
  · have := h.z0 h0; omega
  · have h1 := h.b
    have h2 : 2 ^ (x.e + K).toNat ≤ x.n * 2 ^ (x.e + K).toNat := Nat.le_mul_of_pos_left _ (by omega)
    have h3 := (Nat.pow_lt_pow_iff_right (a := 2) (by omega)).1 (Nat.lt_of_le_of_lt h2 h1)
    omega
theorem BD.ehiK {K T : Nat} {x : DyT} (h : BD K T x) (hKT : K ≤ T) : x.e ≤ T - K := by
  by_cases h0 : x.n = 0
  · have := h.z0 h0; omega
  · have h1 := h.b
    have h2 : 2 ^ (x.e + K).toNat ≤ x.n * 2 ^ (x.e + K).toNat := Nat.le_mul_of_pos_left _ (by omega)
    have h3 := (Nat.pow_lt_pow_iff_right (a := 2) (by omega)).1 (Nat.lt_of_le_of_lt h2 h1)
    omega
theorem zz_n : (⟨false, [], 0⟩ : DyT).n = 0 := by decide
theorem BD.zero (K T : Nat) : BD K T ⟨false, [], 0⟩ where
  l := by rw [zz_n]; exact (D_nil_iff.2 rfl).symm
  z := fun _ => rfl
  z0 := fun _ => rfl
  e := by show -(K : Int) ≤ 0; omega
  b := by rw [zz_n, Nat.zero_mul]; exact Nat.pow_pos (by omega)
theorem BD.mono {K T T' : Nat} {x : DyT} (h : BD K T x) (hT : T ≤ T') : BD K T' x := ⟨h.l, h.z, h.z0, h.e, Nat.lt_of_lt_of_le h.b (Nat.pow_le_pow_right (by omega) hT)⟩
theorem BD.neg {K T : Nat} {x : DyT} (h : BD K T x) : BD K T (negT x) := ⟨h.l, fun h0 => by
  show (!x.neg && decide (x.n ≠ 0)) = false
  have h0 : x.n = 0 := h0
  rw [h0]; simp, h.z0, h.e, h.b⟩
theorem neg_sv (K : Int) (x : DyT) : (negT x).sv K = -(x.sv K) := by
  show sg (!x.neg && decide (x.n ≠ 0)) x.n * _ = _
  rw [sg_notn]; unfold DyT.sv; rw [Int.neg_mul]; rfl
theorem sg_abs (n : Bool) (a : Nat) : (sg n a).natAbs = a := by unfold sg; cases n <;> simp
theorem sv_abs {K : Nat} (x : DyT) : (x.sv (-(K : Int))).natAbs = x.n * 2 ^ (x.e + K).toNat := by
  unfold DyT.sv
  rw [Int.natAbs_mul, sg_abs, Int.natAbs_natCast, show x.e - -(K : Int) = x.e + K by omega]
theorem mkD_nR (n : Bool) (a : Nat) (e : Int) : (mkD n a e).l = D (mkD n a e).n ∧ ((mkD n a e).n = 0 → (mkD n a e).neg = false) := by
  unfold mkD DyT.n
  by_cases h0 : a = 0
  · rw [if_pos h0]; exact ⟨D_zero.symm, fun _ => rfl⟩
  · rw [if_neg h0]
    have hb := tz_bit h0
    simp only
    rw [val_D]
    refine ⟨rfl, fun h => ?_⟩
    have : a / 2 ^ tz a = 0 := (Int.toNat_natCast _).symm.trans h
    rw [this] at hb; simp at hb
theorem mkD_bd {K T : Nat} {n : Bool} {a : Nat} {e : Int} (he : -(K : Int) ≤ e) (hb : a * 2 ^ (e + K).toNat < 2 ^ T) : BD K T (mkD n a e) := by
  have h1 := mkD_nR n a e
  have h2 := mkD_sv (n := n) (a := a) (e := e) (K := -(K : Int)) he
  have h3 := sv_abs (K := K) (mkD n a e)
  rw [h2, Int.natAbs_mul, sg_abs, Int.natAbs_natCast, show e - -(K : Int) = e + K by omega] at h3
  refine ⟨h1.1, h1.2, fun h0 => ?_, ?_, by rw [← h3]; exact hb⟩
  · by_cases ha : a = 0
    · unfold mkD; rw [if_pos ha]
    · exfalso
      rw [h0, Nat.zero_mul] at h3
      have : 0 < a * 2 ^ (e + K).toNat := Nat.mul_pos (by omega) (Nat.pow_pos (by omega))
      omega
  · unfold mkD
    split
    · show -(K : Int) ≤ 0; omega
    · show -(K : Int) ≤ e + _; omega
theorem BD.mul {K1 K2 T1 T2 : Nat} {x y : DyT} (hx : BD K1 T1 x) (hy : BD K2 T2 y) : BD (K1 + K2) (T1 + T2) (mulR x y) ∧ (mulR x y).sv (-((K1 + K2 : Nat) : Int)) = x.sv (-(K1 : Int)) * y.sv (-(K2 : Int)) := by
  have h1 := hx.e
  have h2 := hy.e
  have h3 : x.n * y.n * 2 ^ (x.e + y.e + (K1 + K2 : Nat)).toNat = (x.n * 2 ^ (x.e + K1).toNat) * (y.n * 2 ^ (y.e + K2).toNat) := by
    rw [show (x.e + y.e + (K1 + K2 : Nat)).toNat = (x.e + K1).toNat + (y.e + K2).toNat by omega, Nat.pow_add]
    generalize 2 ^ (x.e + K1).toNat = a
    generalize 2 ^ (y.e + K2).toNat = b
    grind
  refine ⟨mkD_bd (by omega) ?_, ?_⟩
  · rw [h3, Nat.pow_add]
    exact Nat.mul_lt_mul_of_lt_of_lt hx.b hy.b
  · unfold mulR
    rw [mkD_sv (by omega), sg_mul2]
    unfold DyT.sv
    rw [show (x.e + y.e - -((K1 + K2 : Nat) : Int)).toNat = (x.e - -(K1 : Int)).toNat + (y.e - -(K2 : Int)).toNat by omega, Nat.pow_add, Int.natCast_mul]
    generalize sg x.neg x.n = a
    generalize sg y.neg y.n = b
    generalize ((2 ^ (x.e - -(K1 : Int)).toNat : Nat) : Int) = c
    generalize ((2 ^ (y.e - -(K2 : Int)).toNat : Nat) : Int) = d
    grind
theorem BD.add {K T : Nat} {x y : DyT} (hx : BD K T x) (hy : BD K T y) : BD K (T + 1) (addR x y) ∧ (addR x y).sv (-(K : Int)) = x.sv (-(K : Int)) + y.sv (-(K : Int)) := by
  have h0 := al_ge (a := x.n) (b := y.n) hx.e hy.e
  have h1 := sum_sv x.neg y.neg (a := x.n) (b := y.n) hx.e hy.e
  have h2 : (addR x y).sv (-(K : Int)) = x.sv (-(K : Int)) + y.sv (-(K : Int)) := by
    unfold addR
    rw [mkD_sv h0, h1]; rfl
  refine ⟨mkD_bd h0 ?_, h2⟩
  have h3 : (sg (ssN x.neg (alA x.n x.e y.n y.e) y.neg (alB x.n x.e y.n y.e)) (ssV x.neg (alA x.n x.e y.n y.e) y.neg (alB x.n x.e y.n y.e)) * ((2 ^ (alE x.n x.e y.n y.e - -(K : Int)).toNat : Nat) : Int)).natAbs = (x.sv (-(K : Int)) + y.sv (-(K : Int))).natAbs := by rw [h1]; rfl
  rw [Int.natAbs_mul, sg_abs, Int.natAbs_natCast, show alE x.n x.e y.n y.e - -(K : Int) = alE x.n x.e y.n y.e + K by omega] at h3
  rw [h3, Nat.pow_succ]
  have h4 := Int.natAbs_add_le (x.sv (-(K : Int))) (y.sv (-(K : Int)))
  rw [sv_abs, sv_abs] at h4
  have := hx.b
  have := hy.b
  omega
theorem len_pow2 {n B A : Nat} (h : (D n).length ≤ B) (hA : A = 16 * B) : n < 2 ^ A := by
  subst hA
  rw [Nat.pow_mul]; exact len_D_le.1 h
theorem bd_gen {A E K T : Nat} {x : DyT} (h1 : x.n < 2 ^ A) (h2 : x.e ≤ E) (hT : T = A + (E + K)) : x.n * 2 ^ (x.e + K).toNat < 2 ^ T := by
  subst hT
  have g2 : 2 ^ (x.e + K).toNat ≤ 2 ^ (E + K) := Nat.pow_le_pow_right (by omega) (by omega)
  rw [Nat.pow_add]
  exact Nat.lt_of_lt_of_le (Nat.mul_lt_mul_of_pos_right h1 (Nat.pow_pos (by omega))) (Nat.mul_le_mul_left _ g2)
theorem ok_bdg {x : DyT} (h : dyOkB x = true) {K B E A T : Nat} (hK : K = 3000) (hB : B = 100) (hE : E = 3000) (hA : A = 16 * B) (hT : T = A + (E + K)) : BD K T x := by
  obtain ⟨h1, h2, h3, h4, h5⟩ := okD h
  obtain ⟨a, ha, _, _, _, h6⟩ := (dyOkB_iff x).1 h
  refine ⟨h1, h5, fun h0 => ?_, by omega, bd_gen (len_pow2 (B := B) (by omega) hA) (by omega) hT⟩
  rcases h6 with ⟨_, _, h7⟩ | h7
  · exact h7
  · have : x.n = a := by unfold DyT.n; rw [ha, val_D]; rfl
    omega
end
/- The reference's determinants by the first row: what they come to. No program in sight. No conditions. -/
section
open Num
def zD3 : DyT := ⟨false, [], 0⟩
def dSum (t : Nat → DyT) : Nat → DyT
  | 0 => zD3
  | j + 1 => addR (dSum t j) (if j % 2 = 1 then negT (t j) else t j)
def detX : Nat → List DyT → DyT
  | 0, _ => zD3
  | m + 1, ds => if m = 0 then ds.getD 0 zD3 else dSum (fun j => mulR (ds.getD j zD3) (detX m (mnR ds (m + 1) 0 j ((m + 1) * (m + 1))))) (m + 1)
def gridL (f : Nat → Nat → DyT) (rows cols : List Nat) : List DyT := rows.flatMap fun i => cols.map (f i)
def altS (g : Nat → Int) : Nat → Int
  | 0 => 0
  | j + 1 => altS g j + (if j % 2 = 1 then -(g j) else g j)
theorem lap_alt (r : Row) (G : List Nat → Int) : ∀ cols : List Nat, cols.length ≤ 4 → lapS r G cols = altS (fun j => r (cols.getD j 0) * G (cols.eraseIdx j)) cols.length
  | [], _ => rfl
  | [a], _ => by simp [lapS, altS]
  | [a, b], _ => by simp [lapS, altS]; omega
  | [a, b, c], _ => by simp [lapS, altS]; omega
  | [a, b, c, d], _ => by simp [lapS, altS]; omega
  | _ :: _ :: _ :: _ :: _ :: _, h => by simp at h
theorem mn_grid (f : Nat → Nat → DyT) (a : Nat) : ∀ (rs cols : List Nat) (j : Nat), rs.length + 1 = cols.length → 2 ≤ cols.length → cols.length ≤ 4 → j < cols.length → mnR (gridL f (a :: rs) cols) cols.length 0 j (cols.length * cols.length) = gridL f rs (cols.eraseIdx j)
  | [], _, _, h, h', _, _ => by simp at h; omega
  | [x], [c0, c1], 0, _, _, _, _ => by simp [mnR, gridL, List.range_succ]
  | [x], [c0, c1], 1, _, _, _, _ => by simp [mnR, gridL, List.range_succ]
  | [x], [c0, c1], j + 2, _, _, _, h => by simp at h; omega
  | [x, y], [c0, c1, c2], 0, _, _, _, _ => by simp [mnR, gridL, List.range_succ]
  | [x, y], [c0, c1, c2], 1, _, _, _, _ => by simp [mnR, gridL, List.range_succ]
  | [x, y], [c0, c1, c2], 2, _, _, _, _ => by simp [mnR, gridL, List.range_succ]
  | [x, y], [c0, c1, c2], j + 3, _, _, _, h => by simp at h; omega
  | [x, y, z], [c0, c1, c2, c3], 0, _, _, _, _ => by simp [mnR, gridL, List.range_succ]
  | [x, y, z], [c0, c1, c2, c3], 1, _, _, _, _ => by simp [mnR, gridL, List.range_succ]
  | [x, y, z], [c0, c1, c2, c3], 2, _, _, _, _ => by simp [mnR, gridL, List.range_succ]
  | [x, y, z], [c0, c1, c2, c3], 3, _, _, _, _ => by simp [mnR, gridL, List.range_succ]
  | [x, y, z], [c0, c1, c2, c3], j + 4, _, _, _, h => by simp at h; omega
  | [x], [], _, h, _, _, _ => by simp at h
  | [x], [_], _, h, _, _, _ => by simp at h
  | [x], _ :: _ :: _ :: _, _, h, _, _, _ => by simp at h
  | [x, y], [], _, h, _, _, _ => by simp at h
  | [x, y], [_], _, h, _, _, _ => by simp at h
  | [x, y], [_, _], _, h, _, _, _ => by simp at h
  | [x, y], _ :: _ :: _ :: _ :: _, _, h, _, _, _ => by simp at h
  | [x, y, z], [], _, h, _, _, _ => by simp at h
  | [x, y, z], [_], _, h, _, _, _ => by simp at h
  | [x, y, z], [_, _], _, h, _, _, _ => by simp at h
  | [x, y, z], [_, _, _], _, h, _, _, _ => by simp at h
  | [x, y, z], _ :: _ :: _ :: _ :: _ :: _, _, h, _, _, _ => by simp at h
  | _ :: _ :: _ :: _ :: _, _, _, h, _, h', _ => by simp at h; omega
theorem dSum_bd {K T : Nat} {t : Nat → DyT} {n : Nat} (h : ∀ j, j < n → BD K T (t j)) : ∀ m, m ≤ n → BD K (T + m) (dSum t m) ∧ (dSum t m).sv (-(K : Int)) = altS (fun j => (t j).sv (-(K : Int))) m
  | 0, _ => ⟨.zero K _, sv_zero.2 zz_n⟩
  | m + 1, hm => by
    obtain ⟨h1, h2⟩ := dSum_bd h m (by omega)
    have h3 := (h m (by omega)).mono (show T ≤ T + m by omega)
    rw [dSum, altS, ← h2]
    by_cases hp : m % 2 = 1
    · rw [if_pos hp, if_pos hp]
      have := h1.add h3.neg
      rw [neg_sv] at this
      exact ⟨this.1, this.2⟩
    · rw [if_neg hp, if_neg hp]
      have := h1.add h3
      exact ⟨this.1, this.2⟩
theorem grid_get {f : Nat → Nat → DyT} {a : Nat} {rs cols : List Nat} {j : Nat} (hj : j < cols.length) : (gridL f (a :: rs) cols).getD j zD3 = f a (cols.getD j 0) := by
  unfold gridL
  rw [List.flatMap_cons, List.getD_eq_getElem?_getD, List.getElem?_append_left (by simpa using hj), List.getElem?_map, List.getD_eq_getElem?_getD, List.getElem?_eq_getElem hj]; rfl
theorem altS_congr {g g' : Nat → Int} : ∀ n, (∀ j, j < n → g j = g' j) → altS g n = altS g' n
  | 0, _ => rfl
  | n + 1, h => by rw [altS, altS, altS_congr n fun j hj => h j (by omega), h n (by omega)]
/-- A determinant by the first row. -/
theorem detX_v {f : Nat → Nat → DyT} {K T : Nat} (hf : ∀ i c, BD K T (f i c)) : ∀ (n : Nat) (rows cols : List Nat), 1 ≤ n → n ≤ 4 → rows.length = n → cols.length = n → BD (K * n) ((T + 4) * n) (detX n (gridL f rows cols)) ∧ (detX n (gridL f rows cols)).sv (-((K * n : Nat) : Int)) = detL (rows.map fun i c => (f i c).sv (-(K : Int))) cols
  | 0, _, _, h, _, _, _ => by omega
  | 1, [a], [c], _, _, _, _ => by
    have e : detX 1 (gridL f [a] [c]) = f a c := rfl
    rw [e, Nat.mul_one, Nat.mul_one]
    refine ⟨(hf a c).mono (by omega), ?_⟩
    simp [detL, lapS]
  | m + 2, a :: rs, cols, _, h4, hr, hc => by
    have hr' : rs.length = m + 1 := by simpa using hr
    have ih := fun j (hj : j < m + 2) => detX_v hf (m + 1) rs (cols.eraseIdx j) (by omega) (by omega) hr' (by rw [List.length_eraseIdx, if_pos (by omega)]; omega)
    have ht : ∀ j, j < m + 2 → mulR ((gridL f (a :: rs) cols).getD j zD3) (detX (m + 1) (mnR (gridL f (a :: rs) cols) (m + 2) 0 j ((m + 2) * (m + 2)))) = mulR (f a (cols.getD j 0)) (detX (m + 1) (gridL f rs (cols.eraseIdx j))) := fun j hj => by
      have := mn_grid f a rs cols j (by omega) (by omega) (by omega) (by omega)
      rw [hc] at this
      rw [grid_get (by omega), this]
    have hb : ∀ j, j < m + 2 → BD (K * (m + 2)) (T + (T + 4) * (m + 1)) (mulR (f a (cols.getD j 0)) (detX (m + 1) (gridL f rs (cols.eraseIdx j)))) ∧ (mulR (f a (cols.getD j 0)) (detX (m + 1) (gridL f rs (cols.eraseIdx j)))).sv (-((K * (m + 2) : Nat) : Int)) = (f a (cols.getD j 0)).sv (-(K : Int)) * detL (rs.map fun i c => (f i c).sv (-(K : Int))) (cols.eraseIdx j) := fun j hj => by
      have := (hf a (cols.getD j 0)).mul (ih j hj).1
      rw [(ih j hj).2] at this
      rw [show K * (m + 2) = K + K * (m + 1) by rw [Nat.mul_succ]; omega]
      exact this
    have e : detX (m + 2) (gridL f (a :: rs) cols) = dSum (fun j => mulR ((gridL f (a :: rs) cols).getD j zD3) (detX (m + 1) (mnR (gridL f (a :: rs) cols) (m + 2) 0 j ((m + 2) * (m + 2))))) (m + 2) := by
      rw [detX, if_neg (by omega)]
    obtain ⟨h1, h2⟩ := dSum_bd (K := K * (m + 2)) (T := T + (T + 4) * (m + 1)) (t := fun j => mulR ((gridL f (a :: rs) cols).getD j zD3) (detX (m + 1) (mnR (gridL f (a :: rs) cols) (m + 2) 0 j ((m + 2) * (m + 2))))) (n := m + 2) (fun j hj => by rw [ht j hj]; exact (hb j hj).1) (m + 2) (Nat.le_refl _)
    rw [e]
    refine ⟨h1.mono (by rw [show (T + 4) * (m + 2) = (T + 4) * (m + 1) + (T + 4) from Nat.mul_succ _ _]; omega), ?_⟩
    rw [h2, List.map_cons]
    show _ = lapS _ (detL _) cols
    rw [lap_alt _ _ _ (by omega), hc]
    exact altS_congr _ fun j hj => by rw [ht j hj, (hb j hj).2]
end
/- The reference's determinants, walked. No conditions. -/
section
open Num
theorem dSum_congr {t t' : Nat → DyT} : ∀ n, (∀ j, j < n → t j = t' j) → dSum t n = dSum t' n
  | 0, _ => rfl
  | n + 1, h => by rw [dSum, dSum, dSum_congr n fun j hj => h j (by omega), h n (by omega)]
def dTerm (f : Nat → Nat → DyT) (a : Nat) (rs cols : List Nat) (m j : Nat) : DyT := mulR (f a (cols.getD j 0)) (detX (m + 1) (gridL f rs (cols.eraseIdx j)))
theorem detX_s {f : Nat → Nat → DyT} {a m : Nat} {rs cols : List Nat} (h4 : m + 2 ≤ 4) (hr : rs.length = m + 1) (hc : cols.length = m + 2) : detX (m + 2) (gridL f (a :: rs) cols) = dSum (dTerm f a rs cols m) (m + 2) := by
  rw [detX, if_neg (by omega)]
  refine dSum_congr _ fun j hj => ?_
  have := mn_grid f a rs cols j (by omega) (by omega) (by omega) (by omega)
  rw [hc] at this
  rw [grid_get (by omega), this]; rfl
theorem gridL_len {f : Nat → Nat → DyT} {cols : List Nat} : ∀ rows : List Nat, (gridL f rows cols).length = rows.length * cols.length
  | [] => by simp [gridL]
  | a :: rs => by
    have := gridL_len (f := f) (cols := cols) rs
    unfold gridL at this ⊢
    rw [List.flatMap_cons, List.length_append, this, List.length_map, List.length_cons, Nat.succ_mul]; omega
section
variable {f : Nat → Nat → DyT} {K T : Nat}
def dtV (t : Nat → DyT) (j : Nat) : List V := if j = 0 then [.bool false, .nil, .int .i64 0] else [.bool (dSum t j).neg, .ints .i64 (dSum t j).l, .int .i64 (dSum t j).e]
def dtS (ds : List DyT) (n : Nat) (t : Nat → DyT) (j : Nat) : VE × VH := ([(1, some (.ptr 0 0)), (2, some (.ptr 1 0)), (3, some (.ptr 2 0)), (4, some (.int .i64 j))], [.vals true [.int .i64 n, .cells 3 ds.length (flat DyT.v ds)], .vals true [.bool false, .nil, .int .i64 0], .vals true (dtV t j)])
theorem l9det_v (hf : ∀ i c, BD K T (f i c)) (hK : K = 3000) (hT : T = 7600) : ∀ (n d : Nat) (rows cols : List Nat), 1 ≤ n → n ≤ 4 → rows.length = n → cols.length = n →
    vrun Try.prog kn (d + n + 5) 97 [.agg [.int .i64 n, .cells 3 (gridL f rows cols).length (flat DyT.v (gridL f rows cols))]] [] = some (.agg [.bool (detX n (gridL f rows cols)).neg, .ints .i64 (detX n (gridL f rows cols)).l, .int .i64 (detX n (gridL f rows cols)).e], [])
  | 0, _, _, _, h, _, _, _ => by omega
  | 1, d, [a], [c], _, _, _, _ => by
    have e : detX 1 (gridL f [a] [c]) = f a c := rfl
    have e2 : gridL f [a] [c] = [f a c] := rfl
    rw [e, e2]
    generalize f a c = x
    simp only [flat, DyT.v, List.append_nil, List.length_cons, List.length_nil]
    rw [show d + 1 + 5 = d + 5 + 1 by omega]
    rw [vrun_v Try.func97 rfl rfl rfl]; simp only [Try.f97]
    simp (implicitDefEqProofs := false) (disch := omega) [go_sem, tab97]
  | m + 2, d, a :: rs, cols, _, h4, hr, hc => by
    have hr' : rs.length = m + 1 := by simpa using hr
    have ih := fun j (hj : j < m + 2) => l9det_v hf hK hT (m + 1) d rs (cols.eraseIdx j) (by omega) (by omega) hr' (by rw [List.length_eraseIdx, if_pos (by omega)]; omega)
    have ib := fun j (hj : j < m + 2) => (detX_v hf (m + 1) rs (cols.eraseIdx j) (by omega) (by omega) hr' (by rw [List.length_eraseIdx, if_pos (by omega)]; omega)).1
    rw [detX_s h4 hr' hc]
    have hm : m = 0 ∨ m = 1 ∨ m = 2 := by omega
    obtain ⟨K1, hK1⟩ : ∃ K1, K * (m + 1) = K1 := ⟨_, rfl⟩
    obtain ⟨T1, hT1⟩ : ∃ T1, (T + 4) * (m + 1) = T1 := ⟨_, rfl⟩
    have hk1 : K1 ≤ 9000 ∧ T1 ≤ 22812 := by subst hK; subst hT; rcases hm with rfl | rfl | rfl <;> omega
    have hkt : T + T1 + 4 ≤ K + K1 + 20000 := by subst hK; subst hT; rcases hm with rfl | rfl | rfl <;> omega
    rw [hK1, hT1] at ib
    have tb : ∀ j, j < m + 2 → BD (K + K1) (T + T1) (dTerm f a rs cols m j) := fun j hj => ((hf a (cols.getD j 0)).mul (ib j hj)).1
    have sb := fun j hj => (dSum_bd tb j hj).1
    have hln := gridL_len (f := f) (cols := cols) (a :: rs)
    rw [hr, hc] at hln
    have hmn := fun j (hj : j < m + 2) => mn_grid f a rs cols j (by omega) (by omega) (by omega) (by omega)
    rw [hc] at hmn
    have hat := fun j (hj : j < m + 2) => grid_get (f := f) (a := a) (rs := rs) (cols := cols) (j := j) (by omega)
    obtain ⟨t, ht⟩ : ∃ t, dTerm f a rs cols m = t := ⟨_, rfl⟩
    have step : ∀ j, j < m + 2 → vCode Try.prog kn (vrun Try.prog kn (d + (m + 1) + 5)) 97 (loopAt Try.f97 0) (dtS (gridL f (a :: rs) cols) (m + 2) t j).1 (dtS (gridL f (a :: rs) cols) (m + 2) t j).2 = some (.norm, dtS (gridL f (a :: rs) cols) (m + 2) t (j + 1)) := by
      intro j hj
      have hlt : j < (gridL f (a :: rs) cols).length := by rw [hln]; have := Nat.mul_le_mul (show 1 ≤ m + 2 by omega) (Nat.le_refl (m + 2)); omega
      have hx : (gridL f (a :: rs) cols)[j]? = some (f a (cols.getD j 0)) := by
        have := hat j hj
        rw [List.getD_eq_getElem?_getD, List.getElem?_eq_getElem hlt] at this
        rw [List.getElem?_eq_getElem hlt]; exact congrArg some this
      have hsub : ((flat DyT.v (gridL f (a :: rs) cols)).drop (j * 3)).take 3 = [.bool (f a (cols.getD j 0)).neg, .ints .i64 (f a (cols.getD j 0)).l, .int .i64 (f a (cols.getD j 0)).e] := flat_sub DyT.len _ _ _ hx
      have hl3 := flat_len3 (gridL f (a :: rs) cols)
      have h2 := fun d => l9minorR_v (ds := gridL f (a :: rs) cols) (n := m + 2) (a := 0) (b := j) d (by omega) h4 hln
      rw [hmn j hj] at h2
      have h3 := ih j hj
      have e4 : mulR (f a (cols.getD j 0)) (detX (m + 1) (gridL f rs (cols.eraseIdx j))) = t j := by rw [← ht]; rfl
      have x1 := hf a (cols.getD j 0)
      have x2 := ib j hj
      have x3 := tb j hj
      rw [ht] at x3 sb
      have x4 := sb j (by omega)
      have l1 := x1.len; have l2 := x2.len; have l3 := x3.len; have l4 := x4.len
      have u1 := x1.ehi; have u2 := x2.ehi; have u3 := x3.ehiK (by subst hK hT; omega); have u4 := x4.ehiK (by subst hK hT; omega)
      have v1 := x1.e; have v2 := x2.e; have v3 := x3.e; have v4 := x4.e
      have h5 := fun d => l4mul_v (n := (f a (cols.getD j 0)).neg) (a := (f a (cols.getD j 0)).n) (ex := (f a (cols.getD j 0)).e) (m := (detX (m + 1) (gridL f rs (cols.eraseIdx j))).neg) (b := (detX (m + 1) (gridL f rs (cols.eraseIdx j))).n) (ey := (detX (m + 1) (gridL f rs (cols.eraseIdx j))).e) d (by omega) (by omega) (by omega) (by omega) (by omega) (by omega)
      rw [show mkD ((f a (cols.getD j 0)).neg != (detX (m + 1) (gridL f rs (cols.eraseIdx j))).neg) ((f a (cols.getD j 0)).n * (detX (m + 1) (gridL f rs (cols.eraseIdx j))).n) ((f a (cols.getD j 0)).e + (detX (m + 1) (gridL f rs (cols.eraseIdx j))).e) = t j from e4, ← x1.l, ← x2.l] at h5
      have h6 := fun d => l4neg_v (n := (t j).neg) (a := (t j).n) (e := (t j).e) d (by omega)
      rw [← x3.l] at h6
      have h7 := fun d => l4add_v (n := (dSum t j).neg) (a := (dSum t j).n) (ex := (dSum t j).e) (m := (t j).neg) (b := (t j).n) (ey := (t j).e) d (by omega) (by omega) (by omega) (by omega) (by omega) (by omega) x4.z x3.z
      have h8 := fun d => l4add_v (n := (dSum t j).neg) (a := (dSum t j).n) (ex := (dSum t j).e) (m := (negT (t j)).neg) (b := (negT (t j)).n) (ey := (negT (t j)).e) d (by omega) (by show (D (t j).n).length < _; omega) (by omega) (by omega) (by show _ ≤ (t j).e; omega) (by show (t j).e ≤ _; omega) x4.z x3.neg.z
      rw [← x4.l, ← x3.l] at h7
      rw [← x4.l, ← x3.neg.l] at h8
      have e7 : mkD (ssN (dSum t j).neg (alA (dSum t j).n (dSum t j).e (t j).n (t j).e) (t j).neg (alB (dSum t j).n (dSum t j).e (t j).n (t j).e)) (ssV (dSum t j).neg (alA (dSum t j).n (dSum t j).e (t j).n (t j).e) (t j).neg (alB (dSum t j).n (dSum t j).e (t j).n (t j).e)) (alE (dSum t j).n (dSum t j).e (t j).n (t j).e) = addR (dSum t j) (t j) := rfl
      have e8 : mkD (ssN (dSum t j).neg (alA (dSum t j).n (dSum t j).e (negT (t j)).n (negT (t j)).e) (negT (t j)).neg (alB (dSum t j).n (dSum t j).e (negT (t j)).n (negT (t j)).e)) (ssV (dSum t j).neg (alA (dSum t j).n (dSum t j).e (negT (t j)).n (negT (t j)).e) (negT (t j)).neg (alB (dSum t j).n (dSum t j).e (negT (t j)).n (negT (t j)).e)) (alE (dSum t j).n (dSum t j).e (negT (t j)).n (negT (t j)).e) = addR (dSum t j) (negT (t j)) := rfl
      rw [e7] at h7
      rw [e8] at h8
      have n1 : (negT (t j)).l = (t j).l := rfl
      have n2 : (negT (t j)).e = (t j).e := rfl
      have n3 : (!(t j).neg && decide ((t j).n ≠ 0)) = (negT (t j)).neg := rfl
      rw [n1, n2] at h8
      rw [n3] at h6
      simp only [DyT.v] at h5 h7 h8
      have e9 : dSum t (j + 1) = addR (dSum t j) (if j % 2 = 1 then negT (t j) else t j) := rfl
      have hs0 : (dSum t 0) = ⟨false, [], 0⟩ := rfl
      rw [round_v]; simp only [loopAt, nthC, bodyC, loops, List.nil_append, List.cons_append, List.append_nil, Try.f97, dtS, dtV]
      rw [if_neg (show ¬ j + 1 = 0 by omega), e9]
      clear hf ih ib tb sb hmn hat ht e4 x1 x2 x3 x4 l1 l2 l3 l4 u1 u2 u3 u4 v1 v2 v3 v4 e7 e8 e9 n1 n2 n3 hx hK hT hK1 hT1 hk1 hkt
      generalize detX (m + 1) (gridL f rs (cols.eraseIdx j)) = dx at *
      generalize gridL f rs (cols.eraseIdx j) = M at *
      generalize flat DyT.v M = MF at *
      generalize M.length = ML at *
      generalize gridL f (a :: rs) cols = G at *
      generalize flat DyT.v G = GF at *
      generalize G.length = GL at *
      generalize f a (cols.getD j 0) = x at *
      have hnn := Nat.mul_le_mul h4 h4
      generalize (m + 2) * (m + 2) = Q at *
      obtain ⟨N, hN⟩ : ∃ N : Int, ((m + 2 : Nat) : Int) = N := ⟨_, rfl⟩
      have hN1 : ((m + 1 : Nat) : Int) = N - 1 := by omega
      have hN2 : ¬ N = 1 := by omega
      have hN3 : (j : Int) < N := by omega
      rw [hN] at h2 ⊢
      rw [hN1] at h3
      generalize d + (m + 1) = d' at *
      have hj4 : j < 4 := by omega
      have hg : j * 3 + 3 ≤ GL * 3 := by omega
      clear hN hN1 hr hc hr' hm h4 hln hnn
      have z0 : ((0 : Nat) : Int) = 0 := rfl
      rw [z0] at h2
      by_cases hj0 : j = 0
      · subst hj0
        rw [if_pos rfl, if_neg (by omega)]
        rw [hs0] at h7 ⊢
        simp only at h7
        generalize addR ⟨false, [], 0⟩ (t 0) = w at *
        generalize t 0 = u at *
        simp only [Nat.zero_mul, List.drop_zero, Int.natCast_zero] at hsub h2 ⊢
        simp (implicitDefEqProofs := false) (disch := omega) [go_sem, tab97, h2, h3, h5, h7, hsub, hl3, hN2]
      · rw [if_neg hj0]
        by_cases hp : j % 2 = 1
        · rw [if_pos hp]
          have hp' : (j : Int) % 2 = 1 := by omega
          generalize addR (dSum t j) (negT (t j)) = w at *
          generalize dSum t j = z at *
          generalize (negT (t j)).neg = nb at *
          generalize t j = u at *
          simp (implicitDefEqProofs := false) (disch := omega) [go_sem, tab97, h2, h3, h5, h6, h8, hsub, hl3, hN2, hp']
        · rw [if_neg hp]
          have hp' : (j : Int) % 2 = 0 := by omega
          generalize addR (dSum t j) (t j) = w at *
          generalize dSum t j = z at *
          generalize t j = u at *
          simp (implicitDefEqProofs := false) (disch := omega) [go_sem, tab97, h2, h3, h5, h7, hsub, hl3, hN2, hp']
    have hl0 := fun ks => loop_v (P := Try.prog) (K := kn) (ks := ks) (vi_for (dtS (gridL f (a :: rs) cols) (m + 2) t) (m + 2) (n := kn.cf.rounds) (by rw [k_cf, c_rounds]; omega) step fun q => vi_exit (i := 0) (e' := (dtS (gridL f (a :: rs) cols) (m + 2) t (m + 2)).1 ++ [(16, some (.bool false))]) (h' := (dtS (gridL f (a :: rs) cols) (m + 2) t (m + 2)).2) (by
      rw [round_v]; simp only [loopAt, nthC, bodyC, loops, List.nil_append, List.cons_append, List.append_nil, Try.f97, dtS, dtV]
      rw [if_neg (show ¬ m + 2 = 0 by omega)]
      generalize flat DyT.v _ = GF
      simp (implicitDefEqProofs := false) (disch := omega) [go_sem, tab97]))
    clear step
    have e0 : dtV t 0 = [.bool false, .nil, .int .i64 0] := rfl
    have e1 : dtV t (m + 2) = [.bool (dSum t (m + 2)).neg, .ints .i64 (dSum t (m + 2)).l, .int .i64 (dSum t (m + 2)).e] := by unfold dtV; rw [if_neg (by omega)]
    simp only [loopAt, nthC, bodyC, loops, List.nil_append, List.cons_append, List.append_nil, Try.f97, dtS, e0, e1, Int.natCast_zero, List.cons_append, List.nil_append] at hl0
    rw [ht]
    have hN2 : ¬ ((m + 2 : Nat) : Int) = 1 := by omega
    clear ih ib tb sb hmn hat ht
    generalize dSum t (m + 2) = w at *
    generalize ((m + 2 : Nat) : Int) = N at *
    generalize gridL f (a :: rs) cols = G at *
    generalize flat DyT.v G = GF at *
    generalize G.length = GL at *
    rw [show d + (m + 2) + 5 = d + (m + 1) + 5 + 1 by omega]
    generalize d + (m + 1) = d' at *
    rw [vrun_v Try.func97 rfl rfl rfl]; simp only [Try.f97]
    simp (implicitDefEqProofs := false) (disch := omega) [go_sem, tab97, hl0, hN2]
end
end
end Go.Eng
