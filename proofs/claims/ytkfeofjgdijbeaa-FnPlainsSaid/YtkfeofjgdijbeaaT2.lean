/- What the functions of this seat do, one after another, told by plain values. No conditions. -/
import Derived.Test.YtkfeofjgdijbeaaSeat
import Derived.Test.YtkfeofjgdijbeaaVb
import Derived.Test.YtkfeofjgdijbeaaT1
set_option linter.unusedVariables false
set_option linter.unusedSimpArgs false
namespace Go.Eng
open Go.Proofs
set_option maxRecDepth 100000
set_option linter.unusedSimpArgs false
attribute [local go_sem] r_seq r_skip r_retC r_exitC r_label r_block r_region r_regionW r_xWt r_xW r_cond r_Bt r_Bf r_Ncode r_Nret r_Nexit r_Nblk r_Nblkr r_Nblke r_Nnil r_Es r_Onil r_Oop r_Oif r_Xs r_Gt r_Gf r_wtt r_wtf r_wft r_wff r_wu r_gO r_putS r_putN r_get r_keepN r_keepC r_fr r_fn r_fi r_ff r_fo r_l1 r_l2t r_cun r_cul r_cub r_cui r_cus r_cuis r_cuc r_cusl r_cuti r_cutv r_ven r_vec r_l2f r_l3 r_t1 r_t2 r_t0 r_rt r_rc r_en r_ec r_cM r_oN r_oC r_end r_endt r_endf r_nob0 r_nobN r_nobC r_nobE r_nb0 r_nbi r_nbs r_nbsl r_nbin r_nbce r_nLn r_nLv r_nLc r_nAa r_nAn r_nAk_b r_nAk_i r_nAk_s r_nAk_n r_nAk_is r_nAk_ce r_nAk_fp r_nAk_sl r_nAk_pt r_nAk_fn r_nsn r_nsv r_nsc r_m0 r_mi r_ms r_msl r_min r_mce r_mLn r_mLv r_mLc r_mAa r_mAn r_mAk_b r_mAk_i r_mAk_s r_mAk_n r_mAk_is r_mAk_ce r_mAk_fp r_mAk_sl r_mAk_pt r_mAk_fn r_msn r_msv r_msc r_atb r_ati r_ats r_atn r_atis r_atc r_atf r_atl r_atp r_atfn r_gcn r_gcc r_gLn r_gLc r_gIt r_ndn r_ndc r_gcB r_gLB r_two r_rea r_rea0 r_re1n r_re1c r_ori r_orv r_ord r_orn r_adn r_adc r_ad1 r_ern r_ers r_er0 r_rsl r_rptr r_rb r_ri r_rs r_rn r_ris r_rce r_rfp r_ra4 r_ra3 r_rt4 r_rf4 r_rf3 r_idS r_idc r_nS r_nP r_nF r_nT r_vsl r_vptr r_vb r_vi r_vs r_vn r_vis r_vce r_vfp r_va4 r_va3 r_vt4 r_vf4 r_vf3 r_rV r_Oi r_Ov r_Od r_rE r_rE0 r_En r_Ec r_E0 r_pO r_pk r_agL r_cO r_fO r_fSi r_fSv r_fPv r_fsl r_fptr r_ffn r_fag r_fb r_fint r_fstr r_fnil r_fis r_fce r_ffp r_res r_move r_assign r_pick r_pickt r_pickf r_alloc r_box r_al r_build r_bslice r_load r_store r_nlc r_nl1 r_nl2 r_bin r_un r_conv r_mkf r_mks r_slc r_fad r_fld r_iad r_idx r_ext r_ex1 r_callf r_callt r_callen r_calapp r_calmax r_calmin r_vt r_vcb r_vci r_vcs r_vcnp r_vcn r_vca r_vcf r_vcg r_ofb r_ofi r_ofs r_ofn r_evs r_pn r_prt r_pc r_one_a r_one_b r_one_i r_one_s r_one_n r_one_is r_one_ce r_one_fp r_one_sl r_one_pt r_one_fn r_cs_a r_cs_b r_cs_i r_cs_s r_cs_n r_cs_is r_cs_ce r_cs_fp r_cs_sl r_cs_pt r_cs_fn r_tov r_tovA r_toc r_toa r_tb r_ti r_ts r_tn r_bd r_bd2 r_filn r_fp1 r_filc r_fsn r_fsc r_san r_sac r_bs2 r_bs1 r_nE r_newO r_mkq r_mkI r_mkOi r_mkOv r_tIn r_tIc r_repz r_repn r_ldp r_ldf r_l1t r_l1f r_lFt r_lFf r_aggO r_obj r_at r_ati' r_atv r_celli r_cellv r_subi r_subv r_sto r_sto1 r_sto2 r_sets r_setR r_setn r_setc r_s1i r_s1v r_bin1 r_bin2 r_tv1 r_cb r_ci r_cst r_cn r_csl r_cis r_cce r_uni r_unb r_cv r_cvO r_cvN r_cv0 r_cvS r_wB r_cvi r_cvs r_cvb r_cvl r_sO r_rdn r_rdi r_rdl r_rdO r_vsub r_vfn r_mk r_mk1 r_mk2 r_zoi r_zov r_leni r_lenv r_bn r_bndV r_bo r_sl0 r_sl1 r_vsz r_ct1 r_cts r_cti r_ctc r_ctn r_lnl r_lni r_lnc r_lnn r_fa r_fap r_faf r_fi1 r_fit r_fif r_ixi r_ixs r_ixc r_ixf r_ixF r_ixF2 r_ix1 r_ixsl r_ixin r_ixce r_len1 r_lenA r_lTs r_lTn r_lTl r_lTi r_lTc r_app0 r_app9 r_paf r_pat r_frn r_fre r_tt1 r_tt2 r_tt3 r_app r_app1 r_app2 r_app3 r_catO r_cati r_catv r_newt r_newf r_pair r_pairK r_trip r_kis r_kiv r_srn r_srl r_sri r_src r_srs r_oln r_ole r_oll r_vw r_wi r_wv r_mm r_max r_min' r_str r_cF r_c2t r_c3f r_c3t r_ab r_c2f r_cV r_p1 r_la r_la2t r_la2f r_la3 r_sh r_z_is r_z_ce r_z_fp r_z_b r_z_i r_z_s r_z_n r_z_l r_z_p r_z_a4 r_z_a3 r_z_t4 r_zoI r_zoV r_roN r_roC r_roi r_rod r_zod r_rov r_aR r_trOi r_trOv r_trPv r_trl r_trp r_trf r_tra r_trb r_tri r_trs r_trn r_tris r_trce r_trfp r_vJ r_vJs r_vJn
attribute [local go_sem] b_add b_sub b_mul b_quo b_rem b_shl b_shr b_eql b_neq b_lss b_leq b_gtr b_geq eqB_s b_eqB b_neB u_neg u_not b_nn b_nn' eqS_s zerosT_s zerosT_n zt_i zt_sl zt_st dstOf_z dstOf_n iltT iltF ileT ileF ieqT ieqF nltT nltF nleT nleF neqT neqF tdiv_pos tmod_pos w64 idx0 List.take_of_length_le
/- Runes: the one at the beginning, program. No conditions. -/
section
open Num
def conB (t : Int) : Bool := decide (t / 64 = 2)
def runeL (r : Int) (L : List Int) : Int := L.foldl (fun r t => r * 64 + t % 64) r
def restL (b : List Int) (n : Int) : List Int := (b.drop 1).take (n.toNat - 1)
/-- The rune that begins a text that is not empty; how many bytes it has. -/
def runeF (b : List Int) : Int × Int :=
  if gt b 0 < 128 then (gt b 0, 1) else
  if ldN (gt b 0) = 0 ∨ (b.length : Int) < ldN (gt b 0) then (65533, 1) else
  if (restL b (ldN (gt b 0))).all conB = false then (65533, 1) else
  if isPt (runeL (ldR (gt b 0)) (restL b (ldN (gt b 0)))) = true ∧ szOf (runeL (ldR (gt b 0)) (restL b (ldN (gt b 0)))) = ldN (gt b 0) then (runeL (ldR (gt b 0)) (restL b (ldN (gt b 0))), ldN (gt b 0)) else (65533, 1)
theorem ld_bd {c : Int} : (ldN c = 0 ∨ ldN c = 2 ∨ ldN c = 3 ∨ ldN c = 4) ∧ 0 ≤ ldR c ∧ ldR c < 32 := by
  unfold ldN ldR
  (repeat' split) <;> omega
theorem runeL_bd {L : List Int} : ∀ {r P : Int}, 0 ≤ r → r < 32 * P → 0 ≤ runeL r L ∧ runeL r L < 32 * (P * 64 ^ L.length) := by
  induction L with
  | nil => intro r P h0 h1; simp [runeL]; omega
  | cons t L ih =>
    intro r P h0 h1
    have := ih (r := r * 64 + t % 64) (P := P * 64) (by omega) (by omega)
    rw [List.length_cons, show P * 64 ^ (L.length + 1) = P * 64 * 64 ^ L.length by rw [Int.pow_succ, Int.mul_comm (64 ^ L.length), Int.mul_assoc]]
    exact this
section
variable {L : List Int} {n r : Int}
def rnS (n r : Int) (L : List Int) (j : Nat) : VE × VH := ([(4, some (.int .i64 n)), (5, some (.int .i64 (runeL r (L.take j)))), (34, some (.ints .u8 L)), (35, some (.int .i64 L.length)), (36, some (.int .i64 j))], [])
theorem rn_l (call : CallV) (hL : L.length ≤ 3) (hb : ∀ x ∈ L, 0 ≤ x ∧ x < 256) (r0 : 0 ≤ r) (r1 : r < 32) :
    (viter (vCode Try.prog kn call 76 (loopAt Try.f76 0)) kn.cf.rounds (rnS n r L 0).1 (rnS n r L 0).2 = some (.exit 0, (rnS n r L L.length).1 ++ [(37, some (.bool false))], []) ∧ L.all conB = true) ∨
    (viter (vCode Try.prog kn call 76 (loopAt Try.f76 0)) kn.cf.rounds (rnS n r L 0).1 (rnS n r L 0).2 = some (.ret, [(2, some (.int .i64 65533)), (3, some (.int .i64 1))], []) ∧ L.all conB = false) :=
  vi_inv (n := kn.cf.rounds) (body := vCode Try.prog kn call 76 (loopAt Try.f76 0)) (fun j s => s = rnS n r L j ∧ (L.take j).all conB = true)
    (fun x => (x = some (.exit 0, (rnS n r L L.length).1 ++ [(37, some (.bool false))], []) ∧ L.all conB = true) ∨ (x = some (.ret, [(2, some (.int .i64 65533)), (3, some (.int .i64 1))], []) ∧ L.all conB = false)) L.length (by rw [k_cf, c_rounds]; omega)
    (fun j s hj hI => by
      obtain ⟨rfl, hI⟩ := hI
      have hx := hb _ (gt_mem hj)
      have e1 : L.take (j + 1) = L.take j ++ [gt L j] := by rw [List.take_add_one, gt_some hj]; rfl
      have hbd := runeL_bd (L := L.take j) (r := r) (P := 1) r0 (by omega)
      rw [List.length_take, show min j L.length = j by omega] at hbd
      have hp : (64 : Int) ^ j ≤ 4096 := by
        have : j = 0 ∨ j = 1 ∨ j = 2 := by omega
        rcases this with rfl | rfl | rfl <;> decide
      have hsh : (gt L j).fdiv 64 = gt L j / 64 := by rw [Int.fdiv_eq_ediv_of_nonneg _ (by omega)]
      have m1 := fun P t => and8_at and8_u63 P t hx.1 hx.2
      cases hq : conB (gt L j) with
      | true =>
        left
        refine ⟨rnS n r L (j + 1), ?_, rfl, by rw [e1, List.all_append, hI]; simp [hq]⟩
        have e2 : runeL r (L.take (j + 1)) = runeL r (L.take j) * 64 + gt L j % 64 := by rw [e1]; unfold runeL; rw [List.foldl_append]; rfl
        have hc := of_decide_eq_true hq
        rw [round_v]; simp only [loopAt, nthC, bodyC, loops, List.nil_append, List.cons_append, List.append_nil, Try.f76, rnS, e2]
        generalize runeL r (L.take j) = R at *
        have o1 := fun P t => b_orp P t (a := R * 64) (b := gt L j % 64) (i := 6) (by omega) (by omega) (by omega) (by omega) (by exact ⟨R, by omega⟩) (by omega)
        simp (disch := omega) [go_sem, tab76, hc, m1, o1]
      | false =>
        right; intro m; right
        have hc := of_decide_eq_false hq
        refine ⟨vi_ret ?_, ?_⟩
        · rw [round_v]; simp only [loopAt, nthC, bodyC, loops, List.nil_append, List.cons_append, List.append_nil, Try.f76, rnS]
          simp (disch := omega) [go_sem, tab76, hc]
        · rw [List.all_eq_false]; exact ⟨_, gt_mem hj, by simp [hq]⟩)
    (fun s hI m => by
      obtain ⟨rfl, hI⟩ := hI
      left
      refine ⟨vi_exit ?_, by rwa [List.take_length] at hI⟩
      rw [round_v]; simp only [loopAt, nthC, bodyC, loops, List.nil_append, List.cons_append, List.append_nil, Try.f76, rnS]
      simp (disch := omega) [go_sem, tab76])
    (rnS n r L 0) ⟨rfl, by simp⟩
variable {b : List Int}
theorem runeAt_v (d : Nat) (h0 : 0 < b.length) (hl : b.length < 1000000) (hb : ∀ x ∈ b, 0 ≤ x ∧ x < 256) : vrun Try.prog kn (d + 3) 76 [.ints .u8 b] [] = some (.tup [.int .i64 (runeF b).1, .int .i64 (runeF b).2], []) := by
  have hx := hb _ (gt_mem h0)
  unfold runeF
  by_cases c1 : gt b 0 < 128
  · rw [if_pos c1]
    rw [vrun_v Try.func76 rfl rfl rfl]; simp only [Try.f76]
    simp (disch := omega) [go_sem, tab76, c1]
  · rw [if_neg c1]
    have a1 := fun d => leadSize_v d hx.1 hx.2
    obtain ⟨q1, q2, q3⟩ := ld_bd (c := gt b 0)
    by_cases c2 : ldN (gt b 0) = 0 ∨ (b.length : Int) < ldN (gt b 0)
    · rw [if_pos c2]
      generalize ldR (gt b 0) = r at *
      generalize ldN (gt b 0) = n at *
      by_cases c3 : n = 0
      · subst c3
        rw [vrun_v Try.func76 rfl rfl rfl]; simp only [Try.f76]
        simp (disch := omega) [go_sem, tab76, c1, a1]
      · have c4 : (b.length : Int) < n := c2.resolve_left c3
        rw [vrun_v Try.func76 rfl rfl rfl]; simp only [Try.f76]
        simp (disch := omega) [go_sem, tab76, c1, a1, c3]
    · rw [if_neg c2]
      have n0 : ¬ ldN (gt b 0) = 0 := fun h => c2 (.inl h)
      have n1 : ¬ (b.length : Int) < ldN (gt b 0) := fun h => c2 (.inr h)
      generalize ldR (gt b 0) = r at *
      generalize ldN (gt b 0) = n at *
      have hL : (restL b n).length = n.toNat - 1 := by unfold restL; rw [List.length_take, List.length_drop]; omega
      have hLb : ∀ x ∈ restL b n, 0 ≤ x ∧ x < 256 := fun x hx => hb x (List.mem_of_mem_drop (List.mem_of_mem_take hx))
      have hbd := (runeL_bd (L := restL b n) (r := r) (P := 1) q2 (by omega)).1
      have key := rn_l (L := restL b n) (n := n) (r := r) (vrun Try.prog kn (d + 0 + 2)) (by omega) hLb q2 q3
      have eL : b.tail.take (n.toNat - 1) = restL b n := by unfold restL; rw [List.drop_one]
      rcases key with ⟨hv, hc⟩ | ⟨hv, hc⟩
      · rw [hc]
        have hl0 := fun ks => loop_v (P := Try.prog) (K := kn) (ks := ks) hv
        simp only [loopAt, nthC, bodyC, loops, List.nil_append, List.cons_append, List.append_nil, Try.f76, rnS, Int.natCast_zero, List.cons_append, List.nil_append, List.take_zero, List.take_length] at hl0
        simp only [Bool.true_eq_false, if_false]
        have hrn : runeL r [] = r := rfl
        rw [hrn, hL] at hl0
        have a2 := fun d => isPoint_v d (runeL r (restL b n))
        have a3 := fun d => sizeOf_v d (runeL r (restL b n))
        clear hv hLb hb
        generalize runeL r (restL b n) = R at *
        generalize restL b n = L at *
        by_cases p1 : isPt R = true
        · rw [p1] at a2
          by_cases p2 : szOf R = n
          · rw [if_pos ⟨p1, p2⟩]
            rw [p2] at a3
            rw [vrun_v Try.func76 rfl rfl rfl]; simp only [Try.f76]
            simp (disch := omega) [go_sem, tab76, c1, a1, n0, n1, eL, hL, hl0, a2, a3]
          · rw [if_neg (fun h => p2 h.2)]
            rw [vrun_v Try.func76 rfl rfl rfl]; simp only [Try.f76]
            simp (disch := omega) [go_sem, tab76, c1, a1, n0, n1, eL, hL, hl0, a2, a3, p2]
        · rw [if_neg (fun h => p1 h.1)]
          rw [Bool.not_eq_true] at p1
          rw [p1] at a2
          rw [vrun_v Try.func76 rfl rfl rfl]; simp only [Try.f76]
          simp (disch := omega) [go_sem, tab76, c1, a1, n0, n1, eL, hL, hl0, a2]
      · rw [hc]
        have hl0 := fun ks => loop_v (P := Try.prog) (K := kn) (ks := ks) hv
        simp only [loopAt, nthC, bodyC, loops, List.nil_append, List.cons_append, List.append_nil, Try.f76, rnS, Int.natCast_zero, List.cons_append, List.nil_append, List.take_zero, List.take_length] at hl0
        simp only [if_true]
        have hrn : runeL r [] = r := rfl
        rw [hrn, hL] at hl0
        clear hv hLb hb hbd
        generalize restL b n = L at *
        rw [vrun_v Try.func76 rfl rfl rfl]; simp only [Try.f76]
        simp (disch := omega) [go_sem, tab76, c1, a1, n0, n1, eL, hL, hl0]
end
end
/- Runes: all of a text, program. No conditions. -/
section
open Num
theorem runeF_n {b : List Int} (h0 : 0 < b.length) : 1 ≤ (runeF b).2 ∧ (runeF b).2 ≤ b.length := by
  obtain ⟨q1, -, -⟩ := ld_bd (c := gt b 0)
  unfold runeF
  split
  · exact ⟨by simp, by show (1 : Int) ≤ _; omega⟩
  · split
    · exact ⟨by simp, by show (1 : Int) ≤ _; omega⟩
    · rename_i h
      split
      · exact ⟨by simp, by show (1 : Int) ≤ _; omega⟩
      · split
        · exact ⟨by show (1 : Int) ≤ ldN _; omega, by show ldN _ ≤ _; omega⟩
        · exact ⟨by simp, by show (1 : Int) ≤ _; omega⟩
def runesG : Nat → List Int → List Int
  | 0, _ => []
  | n + 1, b => if b = [] then [] else (runeF b).1 :: runesG n (b.drop (runeF b).2.toNat)
def runesF (b : List Int) : List Int := runesG b.length b
theorem runesG_nil (n : Nat) : runesG n [] = [] := by cases n <;> simp [runesG]
theorem runesG_len : ∀ (n : Nat) (b : List Int), (runesG n b).length ≤ n
  | 0, _ => by simp [runesG]
  | n + 1, b => by
    unfold runesG
    split
    · simp
    · have := runesG_len n (b.drop (runeF b).2.toNat)
      rw [List.length_cons]; omega
theorem runesG_eq : ∀ (n m : Nat) (b : List Int), b.length ≤ n → b.length ≤ m → runesG n b = runesG m b
  | 0, m, b, h, _ => by
    have : b = [] := List.eq_nil_of_length_eq_zero (by omega)
    subst this; rw [runesG_nil, runesG_nil]
  | n + 1, 0, b, _, h => by
    have : b = [] := List.eq_nil_of_length_eq_zero (by omega)
    subst this; rw [runesG_nil, runesG_nil]
  | n + 1, m + 1, b, h, h' => by
    unfold runesG
    split
    · rfl
    · rename_i hb
      have hp : 0 < b.length := List.length_pos_iff.2 hb
      have := (runeF_n hp).1
      rw [runesG_eq n m (b.drop (runeF b).2.toNat) (by rw [List.length_drop]; omega) (by rw [List.length_drop]; omega)]
theorem runesF_cons {b : List Int} (h : b ≠ []) : runesF b = (runeF b).1 :: runesF (b.drop (runeF b).2.toNat) := by
  have hp : 0 < b.length := List.length_pos_iff.2 h
  have := (runeF_n hp).1
  unfold runesF
  obtain ⟨n, hn⟩ : ∃ n, b.length = n + 1 := ⟨b.length - 1, by omega⟩
  rw [hn, runesG, if_neg h, runesG_eq n _ (b.drop (runeF b).2.toNat) (by rw [List.length_drop]; omega) (Nat.le_refl _)]
theorem runesF_nil : runesF [] = [] := rfl
theorem runesF_len (b : List Int) : (runesF b).length ≤ b.length := runesG_len _ _
section
variable {b : List Int}
def roS (r O : List Int) (c : Bool) (x : VE) : VE × VH := ((0, some (.ints .u8 r)) :: (4, some (.sl 0 0 O.length 1)) :: (5, some (.bool c)) :: x, [.ints true .i64 O])
theorem ro_l (d : Nat) (hl : b.length < 1000000) (hb : ∀ x ∈ b, 0 ≤ x ∧ x < 256) :
    ∃ c : Bool, viter (vCode Try.prog kn (vrun Try.prog kn (d + 3)) 42 (loopAt Try.f42 0)) kn.cf.rounds (roS b [] true []).1 (roS b [] true []).2 = some (.exit 0, (roS [] (runesF b) c [(10, some (.bool false))]).1, (roS [] (runesF b) c []).2) :=
  vi_inv (n := kn.cf.rounds) (body := vCode Try.prog kn (vrun Try.prog kn (d + 3)) 42 (loopAt Try.f42 0)) (fun j s => ∃ (r O : List Int) (c : Bool), s = roS r O c [] ∧ O ++ runesF r = runesF b ∧ r.length + j ≤ b.length ∧ O.length ≤ j ∧ ∀ x ∈ r, 0 ≤ x ∧ x < 256)
    (fun x => ∃ c : Bool, x = some (.exit 0, (roS [] (runesF b) c [(10, some (.bool false))]).1, (roS [] (runesF b) c []).2)) b.length (by rw [k_cf, c_rounds]; omega)
    (fun j s hj hI => by
      obtain ⟨r, O, c, rfl, h1, h2, h3, h4⟩ := hI
      by_cases h0 : r = []
      · subst h0
        right; intro m
        refine ⟨c, vi_exit ?_⟩
        rw [runesF_nil, List.append_nil] at h1
        rw [← h1]
        rw [round_v]; simp only [loopAt, nthC, bodyC, loops, List.nil_append, List.cons_append, List.append_nil, Try.f42, roS]
        simp (disch := omega) [go_sem, tab42, nil42]
      · left
        have hp : 0 < r.length := List.length_pos_iff.2 h0
        have a1 := fun d => runeAt_v (b := r) d hp (by omega) h4
        obtain ⟨n1, n2⟩ := runeF_n hp
        rw [runesF_cons h0] at h1
        have hd : ∀ x ∈ r.drop (runeF r).2.toNat, 0 ≤ x ∧ x < 256 := fun x hx => h4 x (List.mem_of_mem_drop hx)
        have hdl : (r.drop (runeF r).2.toNat).length + (j + 1) ≤ b.length := by rw [List.length_drop]; omega
        generalize (runeF r).2 = n at *
        generalize (runeF r).1 = v at *
        refine ⟨roS (r.drop n.toNat) (O ++ [v]) (c && !(decide (v = 65533) && decide (n = 1))) [], ?_, r.drop n.toNat, O ++ [v], _, rfl, by rw [List.append_assoc]; exact h1, hdl, by simp; omega, hd⟩
        have hT : List.take ((r.length : Int) - n).toNat (List.drop n.toNat r) = List.drop n.toNat r := List.take_of_length_le (by rw [List.length_drop]; omega)
        have hT1 : List.take (r.length - 1) r.tail = r.tail := List.take_of_length_le (by rw [List.length_tail]; exact Nat.le_refl _)
        clear hd hdl h1 h4
        rw [round_v]; simp only [loopAt, nthC, bodyC, loops, List.nil_append, List.cons_append, List.append_nil, Try.f42, roS]
        cases c
        · simp (implicitDefEqProofs := false) (disch := omega) [go_sem, tab42, nil42, a1, hT, hT1, h0]
        · by_cases q1 : v = 65533
          · subst q1
            by_cases q2 : n = 1
            · subst q2
              simp (implicitDefEqProofs := false) (disch := omega) [go_sem, tab42, nil42, a1, hT, hT1, h0]
            · simp (implicitDefEqProofs := false) (disch := omega) [go_sem, tab42, nil42, a1, hT, hT1, h0, q2]
          · simp (implicitDefEqProofs := false) (disch := omega) [go_sem, tab42, nil42, a1, hT, hT1, h0, q1])
    (fun s hI m => by
      obtain ⟨r, O, c, rfl, h1, h2, h3, h4⟩ := hI
      have h0 : r = [] := List.eq_nil_of_length_eq_zero (by omega)
      subst h0
      refine ⟨c, vi_exit ?_⟩
      rw [runesF_nil, List.append_nil] at h1
      rw [← h1]
      rw [round_v]; simp only [loopAt, nthC, bodyC, loops, List.nil_append, List.cons_append, List.append_nil, Try.f42, roS]
      simp (disch := omega) [go_sem, tab42, nil42])
    (roS b [] true []) ⟨b, [], true, rfl, rfl, by omega, by simp, hb⟩
theorem runesOf_v (d : Nat) (hl : b.length < 1000000) (hb : ∀ x ∈ b, 0 ≤ x ∧ x < 256) : ∃ c : Bool, vrun Try.prog kn (d + 4) 42 [.ints .u8 b] [] = some (.tup [.sl 0 0 (runesF b).length 1, .bool c], [.ints true .i64 (runesF b)]) := by
  obtain ⟨c, hv⟩ := ro_l (d + 0) hl hb
  have hl0 := fun ks => loop_v (P := Try.prog) (K := kn) (ks := ks) hv
  simp only [loopAt, nthC, bodyC, loops, List.nil_append, List.cons_append, List.append_nil, Try.f42, roS, List.length_nil] at hl0
  refine ⟨c, ?_⟩
  rw [vrun_v Try.func42 rfl rfl rfl]; simp only [Try.f42]
  simp (disch := omega) [go_sem, tab42, nil42, hl0]
theorem Runes_v (d : Nat) (hl : b.length ≤ 400) (hb : ∀ x ∈ b, 0 ≤ x ∧ x < 256) : vrun Try.prog kn (d + 5) 10 [.ints .u8 b] [] = some (.sl 0 0 (runesF b).length 1, [.ints true .i64 (runesF b)]) := by
  obtain ⟨c, a1⟩ := runesOf_v (d + 0) (by omega) hb
  rw [vrun_v Try.func10 rfl rfl rfl]; simp only [Try.f10]
  simp (disch := omega) [go_sem, tab10, nil10, a1]
theorem Runes_l (d : Nat) (hl : 400 < b.length) (hl' : b.length < 1000000000) : vrun Try.prog kn (d + 5) 10 [.ints .u8 b] [] = some (.sl 0 0 0 1, [.ints true .i64 []]) := by
  rw [vrun_v Try.func10 rfl rfl rfl]; simp only [Try.f10]
  simp (disch := omega) [go_sem, tab10, nil10]
end
end
/- Runes: what each becomes in a plain text, program. No conditions. -/
section
open Num
theorem wu8' {x : Int} (h0 : 0 ≤ x) (h1 : x < 256) : IntKind.wrap .u8 x = x := by
  unfold IntKind.wrap; simp [IntKind.signed, IntKind.bits]; omega
theorem b_and63 (P : Program) (t : TypeId) {a : Int} (h0 : 0 ≤ a) (h1 : a < 4294967296) : binE P .and t (.int .i64 a) (.int .i64 63) = some (.int .i64 (a % 64)) := by
  rw [b_and]
  have e : (BitVec.ofInt 64 a &&& BitVec.ofInt 64 63).toNat = (a % 64).toNat := by
    obtain ⟨A, rfl⟩ := Int.eq_ofNat_of_zero_le h0
    have h3 : A &&& 63 = A % 64 := Nat.and_two_pow_sub_one_eq_mod A 6
    rw [BitVec.toNat_and, BitVec.toNat_ofInt, show (BitVec.ofInt 64 63).toNat = 63 from rfl, show ((A : Int) % ((2 ^ 64 : Nat) : Int)).toNat = A by omega, h3]
    omega
  have h2 : IntKind.wrap .i64 (((BitVec.ofInt 64 a &&& BitVec.ofInt 64 63).toNat : Nat) : Int) = a % 64 := by
    rw [e, w64 (by omega) (by omega)]; omega
  exact congrArg (fun q => some (CV.int .i64 q)) h2
/-- The bytes of a rune. -/
def rbF (r : Int) : List Int :=
  if isPt r = false then [] else
  if r < 128 then [r] else
  if r < 2048 then [192 + r / 64, 128 + r % 64] else
  if r < 65536 then [224 + r / 4096, 128 + r / 64 % 64, 128 + r % 64] else
  [240 + r / 262144, 128 + r / 4096 % 64, 128 + r / 64 % 64, 128 + r % 64]
def rbS (r n : Int) (O : List Int) (i : Int) : VE × VH := ([(0, some (.int .i64 r)), (3, some (.int .i64 n)), (4, some (.sl 0 0 O.length 1)), (5, some (.int .i64 i))], [.ints true .u8 O])
theorem rb_r (call : CallV) {r n : Int} {O : List Int} {i : Nat} (h0 : 0 ≤ r) (h1 : r < 4000000) (hi : i + 1 < O.length) (hO : O.length ≤ 4) : vCode Try.prog kn call 65 (loopAt Try.f65 0) (rbS r n O ((i : Int) + 1)).1 (rbS r n O ((i : Int) + 1)).2 = some (.norm, rbS (r / 64) n (O.set (i + 1) (128 + r % 64)) i) := by
  have m1 := fun P t => b_and63 P t h0 (by omega)
  have o1 := fun P t => b_orp P t (a := 128) (b := r % 64) (i := 6) (by omega) (by omega) (by omega) (by omega) ⟨2, by omega⟩ (by omega)
  have w1 := wu8' (x := 128 + r % 64) (by omega) (by omega)
  have e1 : ((i : Int) + 1).toNat = i + 1 := by omega
  have f1 : r.fdiv 64 = r / 64 := Int.fdiv_eq_ediv_of_nonneg _ (by omega)
  rw [round_v]; simp only [loopAt, nthC, bodyC, loops, List.nil_append, List.cons_append, List.append_nil, Try.f65, rbS]
  simp (disch := omega) [go_sem, tab65, nil65, m1, o1, w1, e1, f1]
theorem rb_s (call : CallV) {r r' n k k' : Int} {O O' : List Int} (i : Nat) {m : Nat} (hk : k = (i : Int) + 1) (hk' : k' = i) (h0 : 0 ≤ r) (h1 : r < 4000000) (hi : i + 1 < O.length) (hO : O.length ≤ 4) (hr : r / 64 = r') (hs : O.set (i + 1) (128 + r % 64) = O') : viter (vCode Try.prog kn call 65 (loopAt Try.f65 0)) (m + 1) (rbS r n O k).1 (rbS r n O k).2 = viter (vCode Try.prog kn call 65 (loopAt Try.f65 0)) m (rbS r' n O' k').1 (rbS r' n O' k').2 := by
  subst hk hk' hr hs
  exact vi_norm (rb_r call h0 h1 hi hO)
theorem rb_x (call : CallV) {r n : Int} {O : List Int} : vCode Try.prog kn call 65 (loopAt Try.f65 0) (rbS r n O 0).1 (rbS r n O 0).2 = some (.exit 0, (rbS r n O 0).1 ++ [(21, some (.bool false))], (rbS r n O 0).2) := by
  rw [round_v]; simp only [loopAt, nthC, bodyC, loops, List.nil_append, List.cons_append, List.append_nil, Try.f65, rbS]
  simp (disch := omega) [go_sem, tab65, nil65]
theorem rounds5 : ∃ m, kn.cf.rounds = m + 1 + 1 + 1 + 1 + 1 := ⟨4294967291, by rw [k_cf, c_rounds]⟩
theorem rb_2 (call : CallV) {r : Int} (h0 : 0 ≤ r) (h1 : r < 4000000) : viter (vCode Try.prog kn call 65 (loopAt Try.f65 0)) kn.cf.rounds (rbS r 2 [0, 0] 1).1 (rbS r 2 [0, 0] 1).2 = some (.exit 0, (rbS (r / 64) 2 [0, 128 + r % 64] 0).1 ++ [(21, some (.bool false))], (rbS (r / 64) 2 [0, 128 + r % 64] 0).2) := by
  obtain ⟨m, hm⟩ := rounds5
  rw [hm, rb_s call 0 (by omega) rfl h0 h1 (by simp) (by simp) rfl rfl]
  exact vi_exit (rb_x call)
theorem rb_3 (call : CallV) {r : Int} (h0 : 0 ≤ r) (h1 : r < 4000000) : viter (vCode Try.prog kn call 65 (loopAt Try.f65 0)) kn.cf.rounds (rbS r 3 [0, 0, 0] 2).1 (rbS r 3 [0, 0, 0] 2).2 = some (.exit 0, (rbS (r / 4096) 3 [0, 128 + r / 64 % 64, 128 + r % 64] 0).1 ++ [(21, some (.bool false))], (rbS (r / 4096) 3 [0, 128 + r / 64 % 64, 128 + r % 64] 0).2) := by
  obtain ⟨m, hm⟩ := rounds5
  rw [hm, rb_s call (k' := 1) 1 (by omega) rfl h0 h1 (by simp) (by simp) rfl rfl, rb_s call 0 (k' := 0) (r' := r / 4096) (by omega) rfl (by omega) (by omega) (by simp) (by simp) (by omega) rfl]
  exact vi_exit (rb_x call)
theorem rb_4 (call : CallV) {r : Int} (h0 : 0 ≤ r) (h1 : r < 4000000) : viter (vCode Try.prog kn call 65 (loopAt Try.f65 0)) kn.cf.rounds (rbS r 4 [0, 0, 0, 0] 3).1 (rbS r 4 [0, 0, 0, 0] 3).2 = some (.exit 0, (rbS (r / 262144) 4 [0, 128 + r / 4096 % 64, 128 + r / 64 % 64, 128 + r % 64] 0).1 ++ [(21, some (.bool false))], (rbS (r / 262144) 4 [0, 128 + r / 4096 % 64, 128 + r / 64 % 64, 128 + r % 64] 0).2) := by
  obtain ⟨m, hm⟩ := rounds5
  rw [hm, rb_s call (k' := 2) 2 (by omega) rfl h0 h1 (by simp) (by simp) rfl rfl, rb_s call 1 (k' := 1) (r' := r / 4096) (by omega) rfl (by omega) (by omega) (by simp) (by simp) (by omega) rfl, rb_s call 0 (k' := 0) (r' := r / 262144) (by omega) rfl (by omega) (by omega) (by simp) (by simp) (by omega) rfl]
  exact vi_exit (rb_x call)
theorem gl2 : gt [0, 0, 192, 224, 240] 2 = 192 := rfl
theorem gl3 : gt [0, 0, 192, 224, 240] 3 = 224 := rfl
theorem gl4 : gt [0, 0, 192, 224, 240] 4 = 240 := rfl
theorem isPt_t {r : Int} (h : isPt r = true) : 0 ≤ r ∧ r ≤ 1114111 := by
  unfold isPt at h
  simp only [Bool.and_eq_true, decide_eq_true_eq] at h
  exact h.1
theorem RuneBytes_v (d : Nat) (r : Int) : vrun Try.prog kn (d + 3) 65 [.int .i64 r] [] = some (.sl 0 0 (rbF r).length 1, [.ints true .u8 (rbF r)]) := by
  have a1 := fun d => isPoint_v d r
  have a2 := fun d => sizeOf_v d r
  unfold rbF
  cases hp : isPt r with
  | false =>
    rw [hp] at a1
    rw [vrun_v Try.func65 rfl rfl rfl]; simp only [Try.f65]
    simp (disch := omega) [go_sem, tab65, nil65, a1]
  | true =>
    rw [hp] at a1
    obtain ⟨r0, r1⟩ := isPt_t hp
    simp only [Bool.true_eq_false, if_false]
    unfold szOf at a2
    by_cases c1 : r < 128
    · rw [if_pos c1] at a2 ⊢
      have w1 := wu8' (x := r) (by omega) (by omega)
      rw [vrun_v Try.func65 rfl rfl rfl]; simp only [Try.f65]
      simp (disch := omega) [go_sem, tab65, nil65, a1, a2, w1]
    · rw [if_neg c1] at a2 ⊢
      by_cases c2 : r < 2048
      · rw [if_pos c2] at a2 ⊢
        have hl0 := fun call ks => loop_v (P := Try.prog) (K := kn) (ks := ks) (rb_2 call r0 (by omega) : viter _ _ _ _ = _)
        simp only [loopAt, nthC, bodyC, loops, List.nil_append, List.cons_append, List.append_nil, Try.f65, rbS, List.cons_append, List.nil_append, List.length_cons, List.length_nil, Nat.zero_add, Nat.reduceAdd] at hl0
        have o1 := fun P t => b_orp P t (a := 192) (b := r / 64) (i := 6) (by omega) (by omega) (by omega) (by omega) ⟨3, by omega⟩ (by omega)
        have w1 := wu8' (x := 192 + r / 64) (by omega) (by omega)
        rw [vrun_v Try.func65 rfl rfl rfl]; simp only [Try.f65]
        simp (disch := omega) [go_sem, tab65, nil65, a1, a2, hl0, gl2, gl3, gl4, o1, w1]
      · rw [if_neg c2] at a2 ⊢
        by_cases c3 : r < 65536
        · rw [if_pos c3] at a2 ⊢
          have hl0 := fun call ks => loop_v (P := Try.prog) (K := kn) (ks := ks) (rb_3 call r0 (by omega) : viter _ _ _ _ = _)
          simp only [loopAt, nthC, bodyC, loops, List.nil_append, List.cons_append, List.append_nil, Try.f65, rbS, List.cons_append, List.nil_append, List.length_cons, List.length_nil, Nat.zero_add, Nat.reduceAdd] at hl0
          have o1 := fun P t => b_orp P t (a := 224) (b := r / 4096) (i := 5) (by omega) (by omega) (by omega) (by omega) ⟨7, by omega⟩ (by omega)
          have w1 := wu8' (x := 224 + r / 4096) (by omega) (by omega)
          rw [vrun_v Try.func65 rfl rfl rfl]; simp only [Try.f65]
          simp (disch := omega) [go_sem, tab65, nil65, a1, a2, hl0, gl2, gl3, gl4, o1, w1]
        · rw [if_neg c3] at a2 ⊢
          have hl0 := fun call ks => loop_v (P := Try.prog) (K := kn) (ks := ks) (rb_4 call r0 (by omega) : viter _ _ _ _ = _)
          simp only [loopAt, nthC, bodyC, loops, List.nil_append, List.cons_append, List.append_nil, Try.f65, rbS, List.cons_append, List.nil_append, List.length_cons, List.length_nil, Nat.zero_add, Nat.reduceAdd] at hl0
          have o1 := fun P t => b_orp P t (a := 240) (b := r / 262144) (i := 4) (by omega) (by omega) (by omega) (by omega) ⟨15, by omega⟩ (by omega)
          have w1 := wu8' (x := 240 + r / 262144) (by omega) (by omega)
          rw [vrun_v Try.func65 rfl rfl rfl]; simp only [Try.f65]
          simp (disch := omega) [go_sem, tab65, nil65, a1, a2, hl0, gl2, gl3, gl4, o1, w1]
end
/- Digits, signs, blanks; a plain text, program. No conditions. -/
section
open Num
def zsL : List Int := [48, 1632, 1776, 2406, 65296]
def bkL : List Int := [9, 32, 160, 8201, 12288]
def digG : List Int → Int → Int
  | [], _ => -1
  | z :: zs, r => if z ≤ r ∧ r ≤ z + 9 then r - z else digG zs r
def digF (r : Int) : Int := digG zsL r
def sgnF (r : Int) : Int := if r = 43 ∨ r = 65291 then 1 else if r = 45 ∨ r = 8722 ∨ r = 65293 then -1 else 0
def blkF (r : Int) : Bool := bkL.any fun x => decide (r = x)
def plF (r : Int) : List Int := if 0 ≤ digF r then [48 + digF r] else if 0 < sgnF r then [43] else if sgnF r < 0 then [45] else if blkF r = true then [32] else rbF r
def plainF (b : List Int) : List Int := (runesF b).flatMap plF
theorem digG_bd : ∀ {zs : List Int} {r : Int}, -1 ≤ digG zs r ∧ digG zs r ≤ 9
  | [], r => by simp [digG]
  | z :: zs, r => by
    unfold digG
    split
    · omega
    · exact digG_bd
section
variable {r : Int}
def doF (r : Int) (j : Nat) : VE × VH := ([(0, some (.int .i64 r)), (5, some (.sl 0 0 5 1)), (6, some (.int .i64 5)), (7, some (.int .i64 j))], [.ints true .i64 [48, 1632, 1776, 2406, 65296]])
theorem DigitOf_v (d : Nat) : vrun Try.prog kn (d + 2) 11 [.int .i64 r] [] = some (.int .i64 (digF r), []) := by
  have wn := within_v
  have key := vi_inv (n := kn.cf.rounds) (body := vCode Try.prog kn (vrun Try.prog kn (d + 1)) 11 (loopAt Try.f11 0)) (fun j s => s = doF r j ∧ digG (zsL.drop j) r = digF r)
    (fun x => (x = some (.exit 0, (doF r 5).1 ++ [(8, some (.bool false))], (doF r 5).2) ∧ digF r = -1) ∨ x = some (.ret, [(2, some (.int .i64 (digF r)))], [])) 5 (by rw [k_cf, c_rounds]; omega)
    (fun j s hj hI => by
      obtain ⟨rfl, hI⟩ := hI
      have hz : zsL[j]? = some (gt zsL j) := gt_some (by unfold zsL; simpa using hj)
      have hd : zsL.drop j = gt zsL j :: zsL.drop (j + 1) := by rw [List.drop_eq_getElem_cons (by unfold zsL; simpa using hj), gt_get]
      have hb : 0 ≤ gt zsL j ∧ gt zsL j ≤ 65296 := by
        have : j = 0 ∨ j = 1 ∨ j = 2 ∨ j = 3 ∨ j = 4 := by omega
        rcases this with rfl | rfl | rfl | rfl | rfl <;> decide
      rw [hd, digG] at hI
      have hg : gt [48, 1632, 1776, 2406, 65296] j = gt zsL j := rfl
      generalize gt zsL j = z at *
      by_cases c : z ≤ r ∧ r ≤ z + 9
      · rw [if_pos c] at hI
        right; intro m; right
        refine vi_ret ?_
        rw [← hI]
        have e1 : (decide (z ≤ r) && decide (r ≤ z + 9)) = true := by simp [c]
        have w2 := fun d => wn d r z (z + 9)
        rw [e1] at w2
        rw [round_v]; simp only [loopAt, nthC, bodyC, loops, List.nil_append, List.cons_append, List.append_nil, Try.f11, doF]
        simp (disch := omega) [go_sem, tab11, hg, w2]
      · rw [if_neg c] at hI
        left
        refine ⟨doF r (j + 1), ?_, rfl, hI⟩
        have e1 : (decide (z ≤ r) && decide (r ≤ z + 9)) = false := by simpa using c
        have w2 := fun d => wn d r z (z + 9)
        rw [e1] at w2
        rw [round_v]; simp only [loopAt, nthC, bodyC, loops, List.nil_append, List.cons_append, List.append_nil, Try.f11, doF]
        simp (disch := omega) [go_sem, tab11, hg, w2])
    (fun s hI m => by
      obtain ⟨rfl, hI⟩ := hI
      left
      refine ⟨vi_exit ?_, hI.symm⟩
      rw [round_v]; simp only [loopAt, nthC, bodyC, loops, List.nil_append, List.cons_append, List.append_nil, Try.f11, doF]
      simp (disch := omega) [go_sem, tab11])
    (doF r 0) ⟨rfl, rfl⟩
  rcases key with ⟨hv, hq⟩ | hv
  · have hl0 := fun ks => loop_v (P := Try.prog) (K := kn) (ks := ks) hv
    simp only [loopAt, nthC, bodyC, loops, List.nil_append, List.cons_append, List.append_nil, Try.f11, doF, Int.natCast_zero, List.cons_append, List.nil_append] at hl0
    rw [hq]
    rw [vrun_v Try.func11 rfl rfl rfl]; simp only [Try.f11]
    simp (disch := omega) [go_sem, tab11, hl0]
  · have hl0 := fun ks => loop_v (P := Try.prog) (K := kn) (ks := ks) hv
    simp only [loopAt, nthC, bodyC, loops, List.nil_append, List.cons_append, List.append_nil, Try.f11, doF, Int.natCast_zero, List.cons_append, List.nil_append] at hl0
    rw [vrun_v Try.func11 rfl rfl rfl]; simp only [Try.f11]
    simp (disch := omega) [go_sem, tab11, hl0]
theorem SignOf_v (d : Nat) : vrun Try.prog kn (d + 1) 13 [.int .i64 r] [] = some (.int .i64 (sgnF r), []) := by
  unfold sgnF
  by_cases c1 : r = 43
  · subst c1
    rw [vrun_v Try.func13 rfl rfl rfl]; simp only [Try.f13]
    simp (disch := omega) [go_sem, tab13]
  by_cases c2 : r = 65291
  · subst c2
    rw [vrun_v Try.func13 rfl rfl rfl]; simp only [Try.f13]
    simp (disch := omega) [go_sem, tab13]
  by_cases c3 : r = 45
  · subst c3
    rw [vrun_v Try.func13 rfl rfl rfl]; simp only [Try.f13]
    simp (disch := omega) [go_sem, tab13]
  by_cases c4 : r = 8722
  · subst c4
    rw [vrun_v Try.func13 rfl rfl rfl]; simp only [Try.f13]
    simp (disch := omega) [go_sem, tab13]
  by_cases c5 : r = 65293
  · subst c5
    rw [vrun_v Try.func13 rfl rfl rfl]; simp only [Try.f13]
    simp (disch := omega) [go_sem, tab13]
  rw [vrun_v Try.func13 rfl rfl rfl]; simp only [Try.f13]
  simp (disch := omega) [go_sem, tab13, c1, c2, c3, c4, c5]
def inS (l : List Int) (r : Int) (j : Nat) : VE × VH := ([(0, some (.ints .i64 l)), (1, some (.int .i64 r)), (7, some (.int .i64 l.length)), (8, some (.int .i64 j))], [])
theorem Index_v (d : Nat) {l : List Int} (hl : l.length < 1000000) : ∃ v : Int, vrun Try.prog kn (d + 1) 77 [.ints .i64 l, .int .i64 r] [] = some (.int .i64 v, []) ∧ decide (0 ≤ v) = l.any fun x => decide (r = x) := by
  have key := vi_inv (n := kn.cf.rounds) (body := vCode Try.prog kn (vrun Try.prog kn d) 77 (loopAt Try.f77 0)) (fun j s => s = inS l r j ∧ (l.take j).any (fun x => decide (r = x)) = false)
    (fun x => (x = some (.exit 0, (inS l r l.length).1 ++ [(9, some (.bool false))], []) ∧ l.any (fun x => decide (r = x)) = false) ∨ ∃ k : Nat, x = some (.ret, [(4, some (.int .i64 k))], []) ∧ l.any (fun x => decide (r = x)) = true) l.length (by rw [k_cf, c_rounds]; omega)
    (fun j s hj hI => by
      obtain ⟨rfl, hI⟩ := hI
      by_cases hq : r = gt l j
      · right; intro m; right
        refine ⟨j, vi_ret ?_, List.any_eq_true.2 ⟨_, gt_mem hj, decide_eq_true hq⟩⟩
        rw [round_v]; simp only [loopAt, nthC, bodyC, loops, List.nil_append, List.cons_append, List.append_nil, Try.f77, inS]
        simp (disch := omega) [go_sem, tab77, ← hq]
      · left
        refine ⟨inS l r (j + 1), ?_, rfl, ?_⟩
        · rw [round_v]; simp only [loopAt, nthC, bodyC, loops, List.nil_append, List.cons_append, List.append_nil, Try.f77, inS]
          simp (disch := omega) [go_sem, tab77, hq]
        · rw [List.take_add_one, gt_some hj, List.any_append, hI]; simp [hq])
    (fun s hI m => by
      obtain ⟨rfl, hI⟩ := hI
      left
      refine ⟨vi_exit ?_, by rwa [List.take_length] at hI⟩
      rw [round_v]; simp only [loopAt, nthC, bodyC, loops, List.nil_append, List.cons_append, List.append_nil, Try.f77, inS]
      simp (disch := omega) [go_sem, tab77])
    (inS l r 0) ⟨rfl, by simp⟩
  rcases key with ⟨hv, ha⟩ | ⟨k, hv, ha⟩
  · have hl0 := fun ks => loop_v (P := Try.prog) (K := kn) (ks := ks) hv
    simp only [loopAt, nthC, bodyC, loops, List.nil_append, List.cons_append, List.append_nil, Try.f77, inS, Int.natCast_zero, List.cons_append, List.nil_append] at hl0
    refine ⟨-1, ?_, by rw [ha]; rfl⟩
    rw [vrun_v Try.func77 rfl rfl rfl]; simp only [Try.f77]
    simp (disch := omega) [go_sem, tab77, hl0]
  · have hl0 := fun ks => loop_v (P := Try.prog) (K := kn) (ks := ks) hv
    simp only [loopAt, nthC, bodyC, loops, List.nil_append, List.cons_append, List.append_nil, Try.f77, inS, Int.natCast_zero, List.cons_append, List.nil_append] at hl0
    refine ⟨k, ?_, by rw [ha]; simp⟩
    rw [vrun_v Try.func77 rfl rfl rfl]; simp only [Try.f77]
    simp (disch := omega) [go_sem, tab77, hl0]
theorem IsBlank_v (d : Nat) : vrun Try.prog kn (d + 3) 12 [.int .i64 r] [] = some (.bool (blkF r), []) := by
  obtain ⟨v, hv, ha⟩ := Index_v (r := r) (l := bkL) (d + 0 + 0) (by decide)
  change _ = blkF r at ha
  rw [← ha]
  have h2 : vrun Try.prog kn (d + 0 + 2) 44 [.ints .i64 bkL, .int .i64 r] [] = some (.bool (decide (0 ≤ v)), []) := by
    rw [vrun_v Try.func44 rfl rfl rfl]; simp only [Try.f44]
    simp (disch := omega) [go_sem, tab44, hv]
  unfold bkL at h2
  rw [vrun_v Try.func12 rfl rfl rfl]; simp only [Try.f12]
  simp (disch := omega) [go_sem, tab12, h2]
theorem plainOf_v (d : Nat) : vrun Try.prog kn (d + 4) 32 [.int .i64 r] [] = some (.sl 0 0 (plF r).length 1, [.ints true .u8 (plF r)]) := by
  have a1 := fun d => DigitOf_v (r := r) d
  have a2 := fun d => SignOf_v (r := r) d
  have a3 := fun d => IsBlank_v (r := r) d
  have a4 := fun d => RuneBytes_v d r
  have hb := digG_bd (zs := zsL) (r := r)
  change -1 ≤ digF r ∧ digF r ≤ 9 at hb
  unfold plF
  by_cases c1 : 0 ≤ digF r
  · rw [if_pos c1]
    have w1 := wu8' (x := 48 + digF r) (by omega) (by omega)
    rw [vrun_v Try.func32 rfl rfl rfl]; simp only [Try.f32]
    simp (disch := omega) [go_sem, tab32, nil32, a1, w1]
  rw [if_neg c1]
  by_cases c2 : 0 < sgnF r
  · rw [if_pos c2]
    rw [vrun_v Try.func32 rfl rfl rfl]; simp only [Try.f32]
    simp (disch := omega) [go_sem, tab32, nil32, a1, a2]
  rw [if_neg c2]
  by_cases c3 : sgnF r < 0
  · rw [if_pos c3]
    rw [vrun_v Try.func32 rfl rfl rfl]; simp only [Try.f32]
    simp (disch := omega) [go_sem, tab32, nil32, a1, a2]
  rw [if_neg c3]
  cases c4 : blkF r with
  | true =>
    rw [c4] at a3
    rw [vrun_v Try.func32 rfl rfl rfl]; simp only [Try.f32]
    simp (disch := omega) [go_sem, tab32, nil32, a1, a2, a3]
  | false =>
    rw [c4] at a3
    rw [vrun_v Try.func32 rfl rfl rfl]; simp only [Try.f32]
    simp (disch := omega) [go_sem, tab32, nil32, a1, a2, a3, a4]
end
end
/- Runes of the reference: what may be one, its bytes; digits, signs, blanks; one byte behind the first. No conditions. -/
section
open Num
section
variable {r : Int}
theorem l1may_v (d : Nat) : vrun Try.prog kn (d + 1) 69 [.int .i64 r] [] = some (.bool (isPt r), []) := by
  unfold isPt
  by_cases c1 : 0 ≤ r
  · by_cases c2 : r ≤ 1114111
    · by_cases c3 : r < 55296
      · rw [vrun_v Try.func69 rfl rfl rfl]; simp only [Try.f69]
        have : ¬ 55296 ≤ r := by omega
        simp (disch := omega) [go_sem, tab69, c1, c2, c3, this]
      · rw [vrun_v Try.func69 rfl rfl rfl]; simp only [Try.f69]
        have : 55296 ≤ r := by omega
        by_cases c4 : r ≤ 57343
        · have : ¬ 57343 < r := by omega
          simp (disch := omega) [go_sem, tab69, *]
        · have : 57343 < r := by omega
          simp (disch := omega) [go_sem, tab69, *]
    · rw [vrun_v Try.func69 rfl rfl rfl]; simp only [Try.f69]
      simp (disch := omega) [go_sem, tab69, c1, c2]
  · rw [vrun_v Try.func69 rfl rfl rfl]; simp only [Try.f69]
    simp (disch := omega) [go_sem, tab69, c1]
theorem sRuneBytes_v (d : Nat) : vrun Try.prog kn (d + 2) 36 [.int .i64 r] [] = some (.ints .u8 (rbF r), []) := by
  have a1 := fun d => l1may_v (r := r) d
  unfold rbF
  cases hp : isPt r with
  | false =>
    rw [hp] at a1
    rw [vrun_v Try.func36 rfl rfl rfl]; simp only [Try.f36]
    simp (disch := omega) [go_sem, tab36, nil36, a1]
  | true =>
    rw [hp] at a1
    obtain ⟨r0, r1⟩ := isPt_t hp
    simp only [Bool.true_eq_false, if_false]
    have w4 := wu8' (x := 128 + r % 64) (by omega) (by omega)
    have w5 := wu8' (x := 128 + r / 64 % 64) (by omega) (by omega)
    have w6 := wu8' (x := 128 + r / 4096 % 64) (by omega) (by omega)
    by_cases c1 : r < 128
    · rw [if_pos c1]
      have w1 := wu8' (x := r) (by omega) (by omega)
      rw [vrun_v Try.func36 rfl rfl rfl]; simp only [Try.f36]
      simp (disch := omega) [go_sem, tab36, nil36, a1, c1, w1]
    · rw [if_neg c1]
      by_cases c2 : r < 2048
      · rw [if_pos c2]
        have w1 := wu8' (x := 192 + r / 64) (by omega) (by omega)
        rw [vrun_v Try.func36 rfl rfl rfl]; simp only [Try.f36]
        simp (disch := omega) [go_sem, tab36, nil36, a1, c1, c2, w1, w4]
      · rw [if_neg c2]
        by_cases c3 : r < 65536
        · rw [if_pos c3]
          have w1 := wu8' (x := 224 + r / 4096) (by omega) (by omega)
          rw [vrun_v Try.func36 rfl rfl rfl]; simp only [Try.f36]
          simp (disch := omega) [go_sem, tab36, nil36, a1, c1, c2, c3, w1, w4, w5]
        · rw [if_neg c3]
          have w1 := wu8' (x := 240 + r / 262144) (by omega) (by omega)
          rw [vrun_v Try.func36 rfl rfl rfl]; simp only [Try.f36]
          simp (disch := omega) [go_sem, tab36, nil36, a1, c1, c2, c3, w1, w4, w5, w6]
/-- A byte behind the first one. -/
def tailF (b : List Int) (i : Nat) : Int := if i < b.length ∧ 128 ≤ gt b i ∧ gt b i ≤ 191 then gt b i % 64 else -1
def sdF (r : Int) (j : Nat) : VE × VH := ([(0, some (.int .i64 r)), (3, some (.sl 0 0 5 1)), (4, some (.int .i64 j))], [.ints true .i64 [48, 1632, 1776, 2406, 65296]])
end
end
/- Runes and texts drawn off a code. No conditions. -/
section
open Num
section
variable {b : List Int} {h : VH} {i : Nat}
def drL : List Int := [0, 127, 128, 2047, 2048, 65535, 65536, 1114111, 55296 - 1, 57344, 65533, 8722, 160, 12288]
theorem l1drawRune_v (d : Nat) (hb : Cod b) (hc : Cu b i h) : ∃ (x : Int) (g : VH), vrun Try.prog kn (d + 4) 63 [.ptr i 0] h = some (.int .i64 x, g) ∧ Cu b i g ∧ Frm i h g := by
  obtain ⟨x1, g1, e1, q1, f1, l1⟩ := l1Once_v (d + 0) hb hc (n := 3) (by omega) (by omega)
  have hil := hc.lt
  cases x1 with
  | true =>
    obtain ⟨y, g2, e2, ym, q2, f2, l2⟩ := l1Pick_v (d + 0) hb (q1.app [.ints true .i64 [0, 127, 128, 2047, 2048, 65535, 65536, 1114111, 55295, 57344, 65533, 8722, 160, 12288]]) (L := [0, 127, 128, 2047, 2048, 65535, 65536, 1114111, 55295, 57344, 65533, 8722, 160, 12288]) (by rw [List.getElem?_append_right (Nat.le_refl _), Nat.sub_self]; rfl) (n := 14) rfl (by simp) (by simp)
    refine ⟨y, g2, ?_, q2, f1.trans ((Frm.app _ _ _).trans f2)⟩
    rw [vrun_v Try.func63 rfl rfl rfl]; simp only [Try.f63]
    simp (implicitDefEqProofs := false) (disch := omega) [go_sem, tab63, e1, e2]
  | false =>
    obtain ⟨x2, g2, e2, q2, f2, l2⟩ := l1Once_v (d + 0) hb q1 (n := 2) (by omega) (by omega)
    cases x2 with
    | true =>
      obtain ⟨y, g3, e3, ym, q3, f3, l3⟩ := l1Pick_v (d + 0) hb (q2.app [.ints true .i64 [48, 1632, 1776, 2406, 65296]]) (L := [48, 1632, 1776, 2406, 65296]) (by rw [List.getElem?_append_right (Nat.le_refl _), Nat.sub_self]; rfl) (n := 5) rfl (by simp) (by simp)
      obtain ⟨z, g4, e4, z0, z1, q4, f4, l4⟩ := l1Below_v (d + 1) hb q3 (n := 10) (by omega) (by omega)
      have yb : 0 ≤ y ∧ y ≤ 70000 := by
        simp only [List.mem_cons, List.not_mem_nil, or_false] at ym
        omega
      refine ⟨y + z, g4, ?_, q4, f1.trans (f2.trans ((Frm.app _ _ _).trans (f3.trans f4)))⟩
      rw [vrun_v Try.func63 rfl rfl rfl]; simp only [Try.f63]
      simp (implicitDefEqProofs := false) (disch := omega) [go_sem, tab63, e1, e2, e3, e4]
    | false =>
      obtain ⟨z, g4, e4, z0, z1, q4, f4, l4⟩ := l1Below_v (d + 1) hb q2 (n := 95) (by omega) (by omega)
      refine ⟨32 + z, g4, ?_, q4, f1.trans (f2.trans f4)⟩
      rw [vrun_v Try.func63 rfl rfl rfl]; simp only [Try.f63]
      simp (implicitDefEqProofs := false) (disch := omega) [go_sem, tab63, e1, e2, e4]
/-- The text so far: what of an object of the call's own is looked at. -/
structure TxI (b : List Int) (i : Nat) (h g : VH) (q n : Nat) (L : List Int) : Prop where
  c : Cu b i g
  o : g[q]? = some (.ints true .u8 L)
  q : h.length ≤ q
  f : Frm i h g
  n : n ≤ L.length
  by' : ∀ x ∈ L, 0 ≤ x ∧ x < 256
theorem TxI.ne {g : VH} {q n : Nat} {L : List Int} (a : TxI b i h g q n L) : q ≠ i := fun e => by
  obtain ⟨c, s, h1, _⟩ := a.c
  have := a.o
  rw [e, h1] at this; cases this
theorem TxI.step {g g' : VH} {q n : Nat} {L : List Int} (a : TxI b i h g q n L) (c : Cu b i g') (f : Frm i g g') : TxI b i h g' q n L :=
  ⟨c, f.at a.o a.ne, a.q, a.f.trans f, a.n, a.by'⟩
theorem TxI.app {g : VH} {q n : Nat} {L M : List Int} (a : TxI b i h g q n L) (t : VH) (hM : ∀ x ∈ M, 0 ≤ x ∧ x < 256) : TxI b i h (g.set q .dead ++ (t ++ [.ints true .u8 (L.take n ++ M)])) (g.length + t.length) (n + M.length) (L.take n ++ M) := by
  have hn := a.n
  have hql := (List.getElem?_eq_some_iff.1 a.o).1
  refine ⟨(a.c.setne a.ne _).app _, ?_, ?_, ?_, by simp; omega, fun x hx => ?_⟩
  · rw [List.getElem?_append_right (by simp), List.length_set, Nat.add_sub_cancel_left, List.getElem?_append_right (Nat.le_refl _), Nat.sub_self]; rfl
  · have := a.q; omega
  · refine ⟨?_, fun p hp hi => ?_⟩
    · have := a.f.1; simp; omega
    · have h1 := a.q
      rw [List.getElem?_append_left (by rw [List.length_set]; omega), List.getElem?_set_ne (by omega)]
      exact a.f.2 p hp hi
  · rcases List.mem_append.1 hx with hx | hx
    · exact a.by' x (List.mem_of_mem_take hx)
    · exact hM x hx
end
end
/- A plain text; signs cut; whole numbers read, program. No conditions. -/
section
open Num
theorem plF_len (r : Int) : (plF r).length ≤ 4 := by
  unfold plF rbF
  (repeat' split) <;> simp
theorem flat_len4 : ∀ l : List Int, (l.flatMap plF).length ≤ 4 * l.length
  | [] => by simp
  | x :: l => by
    have h1 := plF_len x
    have h2 := flat_len4 l
    rw [List.flatMap_cons, List.length_append, List.length_cons]; omega
section
variable {b R : List Int}
def pnS (R : List Int) (j : Nat) : VE × VH := ([(3, some (.sl 0 0 ((R.take j).flatMap plF).length 1)), (7, some (.sl 1 0 R.length 1)), (8, some (.int .i64 R.length)), (9, some (.int .i64 j))], [.ints true .u8 ((R.take j).flatMap plF), .ints true .i64 R])
theorem pn_r (d : Nat) (hR : R.length ≤ 1000) {j : Nat} (hj : j < R.length) : vCode Try.prog kn (vrun Try.prog kn (d + 4)) 7 (loopAt Try.f7 0) (pnS R j).1 (pnS R j).2 = some (.norm, pnS R (j + 1)) := by
  have e1 : R.take (j + 1) = R.take j ++ [gt R j] := by rw [List.take_add_one, gt_some hj]; rfl
  have e2 : (R.take (j + 1)).flatMap plF = (R.take j).flatMap plF ++ plF (gt R j) := by rw [e1, List.flatMap_append, List.flatMap_cons, List.flatMap_nil, List.append_nil]
  have a1 := fun d => plainOf_v (r := gt R j) d
  have l1 := plF_len (gt R j)
  have l2 := flat_len4 (R.take j)
  rw [List.length_take] at l2
  unfold pnS
  rw [e2]
  generalize (R.take j).flatMap plF = O at *
  generalize plF (gt R j) = X at *
  have htk : (O ++ X).take (O.length + X.length) = O ++ X := List.take_of_length_le (by rw [List.length_append]; exact Nat.le_refl _)
  rw [round_v]; simp only [loopAt, nthC, bodyC, loops, List.nil_append, List.cons_append, List.append_nil, Try.f7]
  simp (implicitDefEqProofs := false) (disch := omega) [go_sem, tab7, nil7, a1, htk]
theorem pn_x (call : CallV) (hR : R.length ≤ 1000) : vCode Try.prog kn call 7 (loopAt Try.f7 0) (pnS R R.length).1 (pnS R R.length).2 = some (.exit 0, (pnS R R.length).1 ++ [(10, some (.bool false))], (pnS R R.length).2) := by
  rw [round_v]; simp only [loopAt, nthC, bodyC, loops, List.nil_append, List.cons_append, List.append_nil, Try.f7, pnS]
  simp (implicitDefEqProofs := false) (disch := omega) [go_sem, tab7, nil7]
theorem Plain_v (d : Nat) (hl : b.length ≤ 400) (hb : ∀ x ∈ b, 0 ≤ x ∧ x < 256) : vrun Try.prog kn (d + 6) 7 [.ints .u8 b] [] = some (.sl 0 0 (plainF b).length 1, [.ints true .u8 (plainF b)]) := by
  have a1 := fun d => Runes_v (b := b) d hl hb
  have lR := runesF_len b
  have l4 := flat_len4 (runesF b)
  unfold plainF
  generalize runesF b = R at *
  have hl0 := fun ks => loop_v (P := Try.prog) (K := kn) (ks := ks) (vi_for (pnS R) R.length (n := kn.cf.rounds) (by rw [k_cf, c_rounds]; omega) (fun j hj => pn_r (d + 1) (by omega) hj) fun m => vi_exit (pn_x _ (by omega)))
  simp only [loopAt, nthC, bodyC, loops, List.nil_append, List.cons_append, List.append_nil, Try.f7, pnS, Int.natCast_zero, List.cons_append, List.nil_append, List.take_zero, List.take_length, List.flatMap_nil, List.length_nil] at hl0
  generalize R.flatMap plF = O at *
  rw [vrun_v Try.func7 rfl rfl rfl]; simp only [Try.f7]
  simp (implicitDefEqProofs := false) (disch := omega) [go_sem, tab7, nil7, a1, hl0]
theorem Plain_l (d : Nat) (hl : 400 < b.length) (hl' : b.length < 1000000000) : vrun Try.prog kn (d + 6) 7 [.ints .u8 b] [] = some (.sl 0 0 0 1, [.ints true .u8 []]) := by
  have a1 := fun d => Runes_l (b := b) d hl hl'
  have hl0 := fun d ks => loop_v (P := Try.prog) (K := kn) (ks := ks) (vi_for (pnS []) 0 (n := kn.cf.rounds) (by rw [k_cf, c_rounds]; omega) (fun j hj => pn_r d (by simp) (by omega)) fun m => vi_exit (pn_x _ (by simp)))
  simp only [loopAt, nthC, bodyC, loops, List.nil_append, List.cons_append, List.append_nil, Try.f7, pnS, Int.natCast_zero, List.cons_append, List.nil_append, List.take_nil, List.flatMap_nil, List.length_nil] at hl0
  rw [vrun_v Try.func7 rfl rfl rfl]; simp only [Try.f7]
  simp (implicitDefEqProofs := false) (disch := omega) [go_sem, tab7, nil7, a1, hl0]
end
end
/- natOf, wholeOf; all of some dyadic numbers are valid. No conditions. -/
section
open Num
def fitL (l : List Int) : List Int := if l.length ≤ 100 then l else []
theorem fitL_len (l : List Int) : (fitL l).length ≤ 100 := by unfold fitL; split <;> simp_all
theorem natOf_v (d : Nat) {l : List Int} (hl : l.length < 1000000000) : vrun Try.prog kn (d + 2) 72 [.ints .i64 l] [] = some (.tup [.agg [.sl 0 0 (fitL l).length 1], .bool (decide (l.length ≤ 100))], [.ints true .i64 (fitL l)]) := by
  have h1 := fun d => clone_v d hl
  unfold fitL
  by_cases h : l.length ≤ 100
  · rw [vrun_v Try.func72 rfl rfl rfl]; simp only [Try.f72]
    simp (disch := omega) [go_sem, tab72, h1, h]
  · rw [vrun_v Try.func72 rfl rfl rfl]; simp only [Try.f72]
    simp (disch := omega) [go_sem, tab72, h]
theorem wholeOf_v (d : Nat) (n : Bool) {l : List Int} (hl : l.length < 1000000000) : vrun Try.prog kn (d + 3) 40 [.bool n, .ints .i64 l] [] = some (.tup [.agg [.bool (n && !decide (l.length = 0) && decide (l.length ≤ 100)), .sl 0 0 (fitL l).length 1], .bool (decide (l.length ≤ 100))], [.ints true .i64 (fitL l)]) := by
  have h1 := fun d => natOf_v d hl
  by_cases h : l.length ≤ 100
  · have e : fitL l = l := by unfold fitL; rw [if_pos h]
    rw [e] at h1 ⊢
    by_cases h0 : l = []
    · subst h0
      rw [vrun_v Try.func40 rfl rfl rfl]; simp only [Try.f40]
      cases n <;> simp (disch := omega) [go_sem, tab40, h1]
    · have h2 : 0 < l.length := List.length_pos_iff.2 h0
      rw [vrun_v Try.func40 rfl rfl rfl]; simp only [Try.f40]
      cases n <;> simp (disch := omega) [go_sem, tab40, h1, h, h0]
  · have e : fitL l = [] := by unfold fitL; rw [if_neg h]
    rw [e] at h1 ⊢
    rw [vrun_v Try.func40 rfl rfl rfl]; simp only [Try.f40]
    cases n <;> simp (disch := omega) [go_sem, tab40, h1, h]
section
variable {ds : List DyT} {g : Nat} {caps : List V} {p : DyT → Bool} {call : CallV}
def ixDS (ds : List DyT) (g : Nat) (caps : List V) (j : Nat) : VE × VH := ([(0, some (.cells 3 ds.length (flat DyT.v ds))), (1, some (.fn (.func g) [] caps)), (7, some (.int .i64 ds.length)), (8, some (.int .i64 j))], [])
end
end
/- Natural numbers: sums, differences, products of what is told, program. No conditions. -/
section
open Num
/-- The number that digits stand for. -/
def nN (l : List Int) : Nat := (val l).toNat
theorem nN_D (n : Nat) : nN (D n) = n := by unfold nN; rw [val_D]; rfl
theorem okN {l : List Int} (h : natOkB l = true) : l = D (nN l) ∧ (D (nN l)).length ≤ 100 := by
  obtain ⟨n, h1, h2⟩ := (natOkB_iff l).1 h
  rw [h1, nN_D]; exact ⟨rfl, h2⟩
theorem natOk_D {n : Nat} (h : (D n).length ≤ 100) : natOkB (D n) = true := (natOkB_iff _).2 ⟨n, rfl, h⟩
/-- What an operation answers. -/
def nres (op : Nat → Nat → Nat) (a b : List Int) : List Int := if natOkB a && natOkB b then fitL (D (op (nN a) (nN b))) else []
def nok (op : Nat → Nat → Nat) (a b : List Int) : Bool := natOkB a && natOkB b && decide ((D (op (nN a) (nN b))).length ≤ 100)
def nresS (a b : List Int) : List Int := if natOkB a && natOkB b && decide (nN b ≤ nN a) then D (nN a - nN b) else []
def nokSub (a b : List Int) : Bool := natOkB a && natOkB b && decide (nN b ≤ nN a)
theorem nres_len {op : Nat → Nat → Nat} {a b : List Int} : (nres op a b).length ≤ 100 := by
  unfold nres; split
  · exact fitL_len _
  · simp
theorem nres_ok {op : Nat → Nat → Nat} {a b : List Int} : natOkB (nres op a b) = true := by
  unfold nres fitL; split
  · split
    · exact natOk_D ‹_›
    · rfl
  · rfl
theorem nres_t {op : Nat → Nat → Nat} {a b : List Int} (h : nok op a b = true) : natOkB a = true ∧ natOkB b = true ∧ nres op a b = D (op (nN a) (nN b)) ∧ (D (op (nN a) (nN b))).length ≤ 100 := by
  unfold nok at h
  rw [Bool.and_eq_true, Bool.and_eq_true, decide_eq_true_eq] at h
  refine ⟨h.1.1, h.1.2, ?_, h.2⟩
  unfold nres fitL
  rw [h.1.1, h.1.2, if_pos h.2]; rfl
theorem nres_comm {op : Nat → Nat → Nat} (hc : ∀ x y, op x y = op y x) (a b : List Int) : nres op a b = nres op b a ∧ nok op a b = nok op b a := by
  unfold nres nok
  rw [hc, Bool.and_comm (natOkB a)]; exact ⟨rfl, rfl⟩
theorem nresS_len {a b : List Int} : (nresS a b).length ≤ 100 := by
  unfold nresS; split
  · rename_i h
    rw [Bool.and_eq_true, Bool.and_eq_true] at h
    obtain ⟨e, h1⟩ := okN h.1.1
    exact Nat.le_trans (len_D_mono (Nat.sub_le _ _)) h1
  · simp
section
variable {a b : List Int}
end
end
/- Dyadics: alignment and comparison, program and reference. No conditions. -/
section
open Num
def alE (a : Nat) (ex : Int) (b : Nat) (ey : Int) : Int := if b = 0 then ex else if a = 0 then ey else if ey < ex then ey else ex
def alA (a : Nat) (ex : Int) (b : Nat) (ey : Int) : Nat := a * 2 ^ (ex - alE a ex b ey).toNat
def alB (a : Nat) (ex : Int) (b : Nat) (ey : Int) : Nat := b * 2 ^ (ey - alE a ex b ey).toNat
def scmp (n : Bool) (a : Nat) (m : Bool) (b : Nat) : Int := if n && !m then -1 else if !n && m then 1 else if n then cmpI b a else cmpI a b
section
variable {a b : Nat} {ex ey : Int} {n m : Bool}
theorem alE_bd (he : -100000 ≤ ex) (he' : ex ≤ 100000) (hf : -100000 ≤ ey) (hf' : ey ≤ 100000) : -100000 ≤ alE a ex b ey ∧ alE a ex b ey ≤ 100000 := by
  unfold alE
  by_cases h1 : b = 0
  · rw [if_pos h1]; omega
  · rw [if_neg h1]
    by_cases h2 : a = 0
    · rw [if_pos h2]; omega
    · rw [if_neg h2]; split <;> omega
theorem al_len (ha : (D a).length < 100000) (hb : (D b).length < 100000) (he : -100000 ≤ ex) (he' : ex ≤ 100000) (hf : -100000 ≤ ey) (hf' : ey ≤ 100000) : (D (alA a ex b ey)).length < 200000 ∧ (D (alB a ex b ey)).length < 200000 := by
  have := alE_bd (a := a) (b := b) he he' hf hf'
  unfold alA alB
  have h1 := len_shl a (ex - alE a ex b ey).toNat
  have h2 := len_shl b (ey - alE a ex b ey).toNat
  omega
theorem l3make_v (d : Nat) (ha : (D a).length < 1000000) : vrun Try.prog kn (d + 2) 67 [.bool n, .agg [.ints .i64 (D a)]] [] = some (.agg [.bool (n && decide (a ≠ 0)), .ints .i64 (D a)], []) := by
  have h1 := fun d => l2norm_v d (l := D a) (v := a) (by omega) (good_D a) (val_D a)
  by_cases h0 : a = 0
  · subst h0
    rw [D_zero] at h1 ⊢
    rw [vrun_v Try.func67 rfl rfl rfl]; simp only [Try.f67]
    cases n <;> simp (disch := omega) [go_sem, tab67, h1]
  · have hn : ¬ D a = [] := fun h => h0 (D_nil_iff.1 h)
    have hp : 0 < (D a).length := List.length_pos_iff.2 hn
    rw [vrun_v Try.func67 rfl rfl rfl]; simp only [Try.f67]
    cases n <;> simp (disch := omega) [go_sem, tab67, h1, h0, hn]
def alE2 (a : Nat) (ex : Int) (b : Nat) (ey : Int) : Int := if a = 0 then ey else if b = 0 then ex else if ey < ex then ey else ex
end
end
/- The reference's trailing noughts, and its one form of a dyadic. No conditions. -/
section
open Num
section
variable {x : Nat}
def trS (x j : Nat) : VE × VH := ([(1, some (.ptr 0 0)), (3, some (.int .i64 j))], [.vals true [.ints .i64 (D x)]])
end
end
/- The reference's one form of a dyadic number. No conditions. -/
section
open Num
section
variable {a : Nat} {n : Bool} {e : Int}
/-- The one form. -/
def mkD (n : Bool) (a : Nat) (e : Int) : DyT := if a = 0 then ⟨false, [], 0⟩ else ⟨n, D (a / 2 ^ tz a), e + tz a⟩
end
end
/- Trailing noughts of a limb, as the library counts them. No conditions. -/
section
open Num
theorem wu64' {x : Int} (h1 : 0 ≤ x) (h2 : x ≤ 18446744073709551615) : IntKind.wrap .u64 x = x := by
  simp [IntKind.wrap, IntKind.bits, IntKind.signed]; omega
theorem negu {x : Nat} (h0 : x ≠ 0) (hx : x < 65536) : IntKind.wrap .u64 (-(x : Int)) = ((2 ^ 64 - x : Nat) : Int) := by
  simp [IntKind.wrap, IntKind.bits, IntKind.signed]; omega
theorem andneg (P : Program) (ty : TypeId) {x t o : Nat} (h0 : x ≠ 0) (hx : x < 65536) (h : x = 2 ^ t * (2 * o + 1)) : binE P .and ty (.int .u64 (x : Int)) (.int .u64 ((2 ^ 64 - x : Nat) : Int)) = some (.int .u64 ((2 ^ t : Nat) : Int)) := by
  rw [b_and]
  have e : (BitVec.ofInt (IntKind.bits .u64) (x : Int) &&& BitVec.ofInt (IntKind.bits .u64) ((2 ^ 64 - x : Nat) : Int)).toNat = 2 ^ t := by
    show (BitVec.ofInt 64 (x : Int) &&& BitVec.ofInt 64 ((2 ^ 64 - x : Nat) : Int)).toNat = 2 ^ t
    rw [BitVec.toNat_and, BitVec.ofInt_natCast, BitVec.ofInt_natCast, BitVec.toNat_ofNat, BitVec.toNat_ofNat, Nat.mod_eq_of_lt (by omega), Nat.mod_eq_of_lt (by omega)]
    exact land_neg h (by omega)
  rw [e]
  have hle : 2 ^ t ≤ x := by rw [h]; exact Nat.le_mul_of_pos_right _ (by omega)
  rw [wu64' (by omega) (by omega)]
theorem tz16 {x t o : Nat} (hx : x < 65536) (h : x = 2 ^ t * (2 * o + 1)) : t < 16 := by
  have hle : 2 ^ t ≤ x := by rw [h]; exact Nat.le_mul_of_pos_right _ (by omega)
  exact (Nat.pow_lt_pow_iff_right (a := 2) (by omega)).1 (by omega : 2 ^ t < 2 ^ 16)
end
/- Numbers of any size: their one form, products; trailing noughts. No conditions. -/
section
open Num
theorem low_zero {x j : Nat} (h : 16 * j ≤ tz x) : x % 65536 ^ j = 0 := by
  by_cases h0 : x = 0
  · subst h0; simp
  obtain ⟨o, ho⟩ := tz_spec h0
  have e : (65536 : Nat) ^ j = 2 ^ (16 * j) := by rw [show (65536 : Nat) = 2 ^ 16 from rfl, ← Nat.pow_mul]
  have e2 : 2 ^ tz x = 2 ^ (16 * j) * 2 ^ (tz x - 16 * j) := by rw [← Nat.pow_add]; congr 1; omega
  rw [e]
  conv => lhs; lhs; rw [ho, e2, Nat.mul_assoc]
  exact Nat.mul_mod_right _ _
theorem dig_zero {x j : Nat} (h : 16 * (j + 1) ≤ tz x) : x / 65536 ^ j % 65536 = 0 := by
  have h1 := low_zero h
  rw [mod_pow_succ] at h1
  have hp := powN_pos j
  rcases Nat.eq_zero_or_pos (x / 65536 ^ j % 65536) with h2 | h2
  · exact h2
  · have := Nat.mul_pos hp h2; omega
theorem dig_nz {x : Nat} (h0 : x ≠ 0) : x / 65536 ^ (tz x / 16) % 65536 ≠ 0 := by
  intro h
  have hb := tz_bit h0
  have e : 2 ^ tz x = 65536 ^ (tz x / 16) * 2 ^ (tz x % 16) := pow_split _
  rw [e, ← Nat.div_div_eq_div_mul] at hb
  generalize x / 65536 ^ (tz x / 16) = a at *
  have e2 : (65536 : Nat) = 2 ^ (tz x % 16) * (2 * 2 ^ (15 - tz x % 16)) := by
    rw [← Nat.mul_assoc, Nat.mul_right_comm, ← Nat.pow_add, show tz x % 16 + (15 - tz x % 16) = 15 by omega]
  have h2 : a = 65536 * (a / 65536) := by omega
  rw [h2, e2, Nat.mul_assoc, Nat.mul_div_cancel_left _ (Nat.two_pow_pos _), Nat.mul_assoc] at hb
  omega
section
variable {x : Nat}
def toS (x j : Nat) : VE × VH := ([(5, some (.ints .i64 (D x))), (6, some (.int .i64 (D x).length)), (7, some (.int .i64 j))], [])
end
section
variable {a b : Nat} {n m : Bool} {e ex ey : Int}
/-- May it be told? -/
def dyFit (r : DyT) : Bool := decide (r.l.length ≤ 100) && decide (-3000 ≤ r.e) && decide (r.e ≤ 3000)
def zT : DyT := ⟨false, [], 0⟩
def fitT (r : DyT) : DyT := if dyFit r then r else zT
theorem mkD_neg : (mkD n a e).neg = ((mkD n a e).neg && !decide ((mkD n a e).l.length = 0)) := by
  unfold mkD
  by_cases h0 : a = 0
  · rw [if_pos h0]; rfl
  · rw [if_neg h0]
    have hb := tz_bit h0
    have hX : a / 2 ^ tz a ≠ 0 := fun h => by rw [h] at hb; simp at hb
    have : ¬ (D (a / 2 ^ tz a)).length = 0 := fun h => hX (D_nil_iff.1 (List.eq_nil_of_length_eq_zero h))
    simp [this]
theorem mkD_len : (mkD n a e).l.length ≤ (D a).length := by
  unfold mkD
  split
  · simp
  · exact len_D_mono (Nat.div_le_self _ _)
theorem mkD_e (he : -1000000000 ≤ e) (he' : e ≤ 1000000000) (ha : (D a).length < 60000) : -1000000000 ≤ (mkD n a e).e ∧ (mkD n a e).e ≤ 1001000000 := by
  unfold mkD
  by_cases h0 : a = 0
  · rw [if_pos h0]; simp
  · rw [if_neg h0]
    have := tz_lt h0
    simp only; omega
/-- What is in its one form is valid where it fits. -/
theorem dyOkB_mkD : dyOkB (mkD n a e) = dyFit (mkD n a e) := by
  unfold mkD
  by_cases h0 : a = 0
  · rw [if_pos h0]; rfl
  · rw [if_neg h0]
    have hb := tz_bit h0
    generalize a / 2 ^ tz a = X at *
    have hX : X ≠ 0 := fun h => by rw [h] at hb; simp at hb
    have hl : ¬ (D X).length = 0 := fun h => hX (D_nil_iff.1 (List.eq_nil_of_length_eq_zero h))
    have hg : gt (D X) 0 % 2 = 1 := by rw [gt_D]; unfold dg; rw [Nat.pow_zero, Nat.div_one]; omega
    unfold dyOkB dyFit wholeOkB
    simp only [natOkB_D, hl, hg, decide_false, Bool.and_false, Bool.not_false, Bool.and_true, if_false, decide_true, Bool.and_assoc]
theorem mkD_and : mkD (n && decide (a ≠ 0)) a e = mkD n a e := by
  unfold mkD
  by_cases h0 : a = 0
  · rw [if_pos h0, if_pos h0]
  · rw [if_neg h0, if_neg h0]; simp [h0]
end
end
end Go.Eng
