/- What the functions of this seat do, one after another, told by plain values. No conditions. -/
import Derived.Test.YteojcbmelbohlaaSeat
import Derived.Test.YteojcbmelbohlaaVb
import Derived.Test.YteojcbmelbohlaaT3
set_option linter.unusedVariables false
set_option linter.unusedSimpArgs false
namespace Go.Eng
open Go.Proofs
set_option maxRecDepth 100000
set_option linter.unusedSimpArgs false
attribute [local go_sem] r_seq r_skip r_retC r_exitC r_label r_block r_region r_regionW r_xWt r_xW r_cond r_Bt r_Bf r_Ncode r_Nret r_Nexit r_Nblk r_Nblkr r_Nblke r_Nnil r_Es r_Onil r_Oop r_Oif r_Xs r_Gt r_Gf r_wtt r_wtf r_wft r_wff r_wu r_gO r_putS r_putN r_get r_keepN r_keepC r_fr r_fn r_fi r_ff r_fo r_l1 r_l2t r_cun r_cul r_cub r_cui r_cus r_cuis r_cuc r_cusl r_cuti r_cutv r_ven r_vec r_l2f r_l3 r_t1 r_t2 r_t0 r_rt r_rc r_en r_ec r_cM r_oN r_oC r_end r_endt r_endf r_nob0 r_nobN r_nobC r_nobE r_nb0 r_nbi r_nbs r_nbsl r_nbin r_nbce r_nLn r_nLv r_nLc r_nAa r_nAn r_nAk_b r_nAk_i r_nAk_s r_nAk_n r_nAk_is r_nAk_ce r_nAk_fp r_nAk_sl r_nAk_pt r_nAk_fn r_nsn r_nsv r_nsc r_m0 r_mi r_ms r_msl r_min r_mce r_mLn r_mLv r_mLc r_mAa r_mAn r_mAk_b r_mAk_i r_mAk_s r_mAk_n r_mAk_is r_mAk_ce r_mAk_fp r_mAk_sl r_mAk_pt r_mAk_fn r_msn r_msv r_msc r_atb r_ati r_ats r_atn r_atis r_atc r_atf r_atl r_atp r_atfn r_gcn r_gcc r_gLn r_gLc r_gIt r_ndn r_ndc r_gcB r_gLB r_two r_rea r_rea0 r_re1n r_re1c r_ori r_orv r_ord r_orn r_adn r_adc r_ad1 r_ern r_ers r_er0 r_rsl r_rptr r_rb r_ri r_rs r_rn r_ris r_rce r_rfp r_ra4 r_ra3 r_rt4 r_rf4 r_rf3 r_idS r_idc r_nS r_nP r_nF r_nT r_vsl r_vptr r_vb r_vi r_vs r_vn r_vis r_vce r_vfp r_va4 r_va3 r_vt4 r_vf4 r_vf3 r_rV r_Oi r_Ov r_Od r_rE r_rE0 r_En r_Ec r_E0 r_pO r_pk r_agL r_cO r_fO r_fSi r_fSv r_fPv r_fsl r_fptr r_ffn r_fag r_fb r_fint r_fstr r_fnil r_fis r_fce r_ffp r_res r_move r_assign r_pick r_pickt r_pickf r_alloc r_box r_al r_build r_bslice r_load r_store r_nlc r_nl1 r_nl2 r_bin r_un r_conv r_mkf r_mks r_slc r_fad r_fld r_iad r_idx r_ext r_ex1 r_callf r_callt r_callen r_calapp r_calmax r_calmin r_vt r_vcb r_vci r_vcs r_vcnp r_vcn r_vca r_vcf r_vcg r_ofb r_ofi r_ofs r_ofn r_evs r_pn r_prt r_pc r_one_a r_one_b r_one_i r_one_s r_one_n r_one_is r_one_ce r_one_fp r_one_sl r_one_pt r_one_fn r_cs_a r_cs_b r_cs_i r_cs_s r_cs_n r_cs_is r_cs_ce r_cs_fp r_cs_sl r_cs_pt r_cs_fn r_tov r_tovA r_toc r_toa r_tb r_ti r_ts r_tn r_bd r_bd2 r_filn r_fp1 r_filc r_fsn r_fsc r_san r_sac r_bs2 r_bs1 r_newO r_mkq r_mkI r_mkOi r_mkOv r_tIn r_tIc r_repz r_repn r_ldp r_ldf r_l1t r_l1f r_lFt r_lFf r_aggO r_obj r_at r_ati' r_atv r_celli r_cellv r_subi r_subv r_sto r_sto1 r_sto2 r_sets r_setR r_setn r_setc r_s1i r_s1v r_bin1 r_bin2 r_tv1 r_cb r_ci r_cst r_cn r_csl r_cis r_cce r_uni r_unb r_cv r_cvO r_cvN r_cv0 r_cvS r_wB r_cvi r_cvs r_cvb r_cvl r_sO r_rdn r_rdi r_rdl r_rdO r_vsub r_vfn r_mk r_mk1 r_mk2 r_zoi r_zov r_leni r_lenv r_bn r_bndV r_bo r_sl0 r_sl1 r_vsz r_ct1 r_cts r_cti r_ctc r_ctn r_lnl r_lni r_lnc r_lnn r_fa r_fap r_faf r_fi1 r_fit r_fif r_ixi r_ixs r_ixc r_ixf r_ixF r_ixF2 r_ix1 r_ixsl r_ixin r_ixce r_len1 r_lenA r_lTs r_lTn r_lTl r_lTi r_lTc r_app0 r_app r_app1 r_app2 r_app3 r_catO r_cati r_catv r_newt r_newf r_pair r_pairK r_trip r_kis r_kiv r_srn r_srl r_sri r_src r_srs r_oln r_oll r_vw r_wi r_wv r_mm r_max r_min' r_str r_cF r_c2t r_c3f r_c3t r_ab r_c2f r_cV r_p1 r_la r_la2t r_la2f r_la3 r_sh r_z_is r_z_ce r_z_fp r_z_b r_z_i r_z_s r_z_n r_z_l r_z_p r_z_a4 r_z_a3 r_z_t4 r_zoI r_zoV r_roN r_roC r_roi r_rod r_zod r_rov r_aR r_trOi r_trOv r_trPv r_trl r_trp r_trf r_tra r_trb r_tri r_trs r_trn r_tris r_trce r_trfp r_vJ r_vJs r_vJn
attribute [local go_sem] b_add b_sub b_mul b_quo b_rem b_shl b_shr b_eql b_neq b_lss b_leq b_gtr b_geq eqB_s b_eqB b_neB u_neg u_not b_nn b_nn' eqS_s zerosT_s zerosT_n zt_i zt_sl zt_st dstOf_z dstOf_n iltT iltF ileT ileF ieqT ieqF nltT nltF nleT nleF neqT neqF tdiv_pos tmod_pos w64 idx0 List.take_of_length_le
/- Runes: the bits of bytes; one rune, program. No conditions. -/
section
open Num
def and8 (k : IntKind) (m : Int) (n : Nat) : Int := k.wrap (((BitVec.ofInt k.bits (n : Int) &&& BitVec.ofInt k.bits m).toNat : Nat) : Int)
theorem and8_31 : ((List.range 256).all fun n => decide (and8 .i64 31 n = (n : Int) % 32)) = true := by decide +kernel
theorem and8_15 : ((List.range 256).all fun n => decide (and8 .i64 15 n = (n : Int) % 16)) = true := by decide +kernel
theorem and8_7 : ((List.range 256).all fun n => decide (and8 .i64 7 n = (n : Int) % 8)) = true := by decide +kernel
theorem and8_63 : ((List.range 256).all fun n => decide (and8 .i64 63 n = (n : Int) % 64)) = true := by decide +kernel
theorem and8_u63 : ((List.range 256).all fun n => decide (and8 .u8 63 n = (n : Int) % 64)) = true := by decide +kernel
theorem and8_at {k : IntKind} {m w : Int} (h : ((List.range 256).all fun n => decide (and8 k m n = (n : Int) % w)) = true) (P : Program) (t : TypeId) {a : Int} (h0 : 0 ≤ a) (h1 : a < 256) : binE P .and t (.int k a) (.int k m) = some (.int k (a % w)) := by
  rw [b_and]
  have h2 := of_decide_eq_true (List.all_eq_true.1 h a.toNat (List.mem_range.2 (by omega)))
  unfold and8 at h2
  rw [show ((a.toNat : Nat) : Int) = a by omega] at h2
  exact congrArg (fun q => some (CV.int k q)) h2
/-- High bits and low bits put together. -/
theorem b_orp (P : Program) (t : TypeId) {a b : Int} {i : Nat} (h0 : 0 ≤ a) (h1 : a < 4294967296) (hb0 : 0 ≤ b) (hb1 : b < 2 ^ i) (hi : (2 : Int) ^ i ∣ a) (hs : b < 4294967296) : binE P .or t (.int .i64 a) (.int .i64 b) = some (.int .i64 (a + b)) := by
  rw [b_or]
  have e : (BitVec.ofInt 64 a ||| BitVec.ofInt 64 b).toNat = (a + b).toNat := by
    obtain ⟨A, rfl⟩ := Int.eq_ofNat_of_zero_le h0
    obtain ⟨b, rfl⟩ := Int.eq_ofNat_of_zero_le hb0
    have hp : ((2 : Int) ^ i) = ((2 ^ i : Nat) : Int) := by rw [Int.natCast_pow]; rfl
    rw [hp] at hb1 hi
    have hb2 : b < 2 ^ i := Int.ofNat_lt.1 hb1
    obtain ⟨q, hq⟩ := Int.natCast_dvd_natCast.1 hi
    have h3 := Nat.two_pow_add_eq_or_of_lt hb2 q
    rw [← hq] at h3
    rw [BitVec.toNat_or, BitVec.toNat_ofInt, BitVec.toNat_ofInt, show ((A : Int) % ((2 ^ 64 : Nat) : Int)).toNat = A by omega, show ((b : Int) % ((2 ^ 64 : Nat) : Int)).toNat = b by omega, ← h3]
    omega
  have h2 : IntKind.wrap .i64 (((BitVec.ofInt 64 a ||| BitVec.ofInt 64 b).toNat : Nat) : Int) = a + b := by
    rw [e, w64 (by omega) (by omega)]; omega
  exact congrArg (fun q => some (CV.int .i64 q)) h2
def isPt (r : Int) : Bool := decide (0 ≤ r) && decide (r ≤ 1114111) && !(decide (55296 ≤ r) && decide (r ≤ 57343))
def szOf (r : Int) : Int := if r < 128 then 1 else if r < 2048 then 2 else if r < 65536 then 3 else 4
def ldN (c : Int) : Int := if 192 ≤ c ∧ c ≤ 223 then 2 else if 224 ≤ c ∧ c ≤ 239 then 3 else if 240 ≤ c ∧ c ≤ 247 then 4 else 0
def ldR (c : Int) : Int := if 192 ≤ c ∧ c ≤ 223 then c % 32 else if 224 ≤ c ∧ c ≤ 239 then c % 16 else if 240 ≤ c ∧ c ≤ 247 then c % 8 else 0
theorem isPoint_v (d : Nat) (r : Int) : vrun Try.prog kn (d + 2) 173 [.int .i64 r] [] = some (.bool (isPt r), []) := by
  have h1 := fun d => within_v d r 0 1114111
  have h2 := fun d => within_v d r 55296 57343
  unfold isPt
  cases hc : (decide (0 ≤ r) && decide (r ≤ 1114111)) <;> rw [hc] at h1
  · rw [vrun_v Try.func173 rfl rfl rfl]; simp only [Try.f173]
    simp (disch := omega) [go_sem, tab173, h1]
  · cases hd : (decide (55296 ≤ r) && decide (r ≤ 57343)) <;> rw [hd] at h2
    all_goals
      rw [vrun_v Try.func173 rfl rfl rfl]; simp only [Try.f173]
      simp (disch := omega) [go_sem, tab173, h1, h2]
theorem sizeOf_v (d : Nat) (r : Int) : vrun Try.prog kn (d + 1) 174 [.int .i64 r] [] = some (.int .i64 (szOf r), []) := by
  unfold szOf
  by_cases h1 : r < 128
  · rw [vrun_v Try.func174 rfl rfl rfl]; simp only [Try.f174]
    simp (disch := omega) [go_sem, tab174, h1]
  · by_cases h2 : r < 2048
    · rw [vrun_v Try.func174 rfl rfl rfl]; simp only [Try.f174]
      simp (disch := omega) [go_sem, tab174, h1, h2]
    · by_cases h3 : r < 65536
      · rw [vrun_v Try.func174 rfl rfl rfl]; simp only [Try.f174]
        simp (disch := omega) [go_sem, tab174, h1, h2, h3]
      · rw [vrun_v Try.func174 rfl rfl rfl]; simp only [Try.f174]
        simp (disch := omega) [go_sem, tab174, h1, h2, h3]
theorem leadSize_v (d : Nat) {c : Int} (h0 : 0 ≤ c) (h1 : c < 256) : vrun Try.prog kn (d + 2) 175 [.int .i64 c] [] = some (.tup [.int .i64 (ldN c), .int .i64 (ldR c)], []) := by
  have a1 := fun d => within_v d c 192 223
  have a2 := fun d => within_v d c 224 239
  have a3 := fun d => within_v d c 240 247
  have m1 := fun P t => and8_at and8_31 P t h0 h1
  have m2 := fun P t => and8_at and8_15 P t h0 h1
  have m3 := fun P t => and8_at and8_7 P t h0 h1
  unfold ldN ldR
  by_cases c1 : 192 ≤ c ∧ c ≤ 223
  · have e : (decide (192 ≤ c) && decide (c ≤ 223)) = true := by simp [c1]
    rw [e] at a1
    simp only [c1, and_self, if_true]
    rw [vrun_v Try.func175 rfl rfl rfl]; simp only [Try.f175]
    simp (disch := omega) [go_sem, tab175, a1, m1]
  · have e : (decide (192 ≤ c) && decide (c ≤ 223)) = false := by simpa using c1
    rw [e] at a1
    simp only [c1, if_false]
    by_cases c2 : 224 ≤ c ∧ c ≤ 239
    · have e : (decide (224 ≤ c) && decide (c ≤ 239)) = true := by simp [c2]
      rw [e] at a2
      simp only [c2, and_self, if_true]
      rw [vrun_v Try.func175 rfl rfl rfl]; simp only [Try.f175]
      simp (disch := omega) [go_sem, tab175, a1, a2, m2]
    · have e : (decide (224 ≤ c) && decide (c ≤ 239)) = false := by simpa using c2
      rw [e] at a2
      simp only [c2, if_false]
      by_cases c3 : 240 ≤ c ∧ c ≤ 247
      · have e : (decide (240 ≤ c) && decide (c ≤ 247)) = true := by simp [c3]
        rw [e] at a3
        simp only [c3, and_self, if_true]
        rw [vrun_v Try.func175 rfl rfl rfl]; simp only [Try.f175]
        simp (disch := omega) [go_sem, tab175, a1, a2, a3, m3]
      · have e : (decide (240 ≤ c) && decide (c ≤ 247)) = false := by simpa using c3
        rw [e] at a3
        simp only [c3, if_false]
        rw [vrun_v Try.func175 rfl rfl rfl]; simp only [Try.f175]
        simp (disch := omega) [go_sem, tab175, a1, a2, a3]
end
/- Runes: the one at the beginning, program. No conditions. -/
section
open Num
def conB (t : Int) : Bool := decide (t / 64 = 2)
def runeL (r : Int) (L : List Int) : Int := L.foldl (fun r t => r * 64 + t % 64) r
def restL (b : List Int) (n : Int) : List Int := (b.drop 1).take (n.toNat - 1)
/-- The rune that begins a text that is not empty; how many bytes it has. -/
def runeF (b : List Int) : Int × Int :=
  if gt b 0 < 128 then (gt b 0, 1) else
  if ldN (gt b 0) = 0 ∨ (b.length : Int) < ldN (gt b 0) then (65533, 1) else
  if (restL b (ldN (gt b 0))).all conB = false then (65533, 1) else
  if isPt (runeL (ldR (gt b 0)) (restL b (ldN (gt b 0)))) = true ∧ szOf (runeL (ldR (gt b 0)) (restL b (ldN (gt b 0)))) = ldN (gt b 0) then (runeL (ldR (gt b 0)) (restL b (ldN (gt b 0))), ldN (gt b 0)) else (65533, 1)
theorem ld_bd {c : Int} : (ldN c = 0 ∨ ldN c = 2 ∨ ldN c = 3 ∨ ldN c = 4) ∧ 0 ≤ ldR c ∧ ldR c < 32 := by
  unfold ldN ldR
  (repeat' split) <;> omega
theorem runeL_bd {L : List Int} : ∀ {r P : Int}, 0 ≤ r → r < 32 * P → 0 ≤ runeL r L ∧ runeL r L < 32 * (P * 64 ^ L.length) := by
  induction L with
  | nil => intro r P h0 h1; simp [runeL]; omega
  | cons t L ih =>
    intro r P h0 h1
    have := ih (r := r * 64 + t % 64) (P := P * 64) (by omega) (by omega)
    rw [List.length_cons, show P * 64 ^ (L.length + 1) = P * 64 * 64 ^ L.length by rw [Int.pow_succ, Int.mul_comm (64 ^ L.length), Int.mul_assoc]]
    exact this
section
variable {L : List Int} {n r : Int}
def rnS (n r : Int) (L : List Int) (j : Nat) : VE × VH := ([(4, some (.int .i64 n)), (5, some (.int .i64 (runeL r (L.take j)))), (34, some (.ints .u8 L)), (35, some (.int .i64 L.length)), (36, some (.int .i64 j))], [])
theorem rn_l (call : CallV) (hL : L.length ≤ 3) (hb : ∀ x ∈ L, 0 ≤ x ∧ x < 256) (r0 : 0 ≤ r) (r1 : r < 32) :
    (viter (vCode Try.prog kn call 161 (loopAt Try.f161 0)) kn.cf.rounds (rnS n r L 0).1 (rnS n r L 0).2 = some (.exit 0, (rnS n r L L.length).1 ++ [(37, some (.bool false))], []) ∧ L.all conB = true) ∨
    (viter (vCode Try.prog kn call 161 (loopAt Try.f161 0)) kn.cf.rounds (rnS n r L 0).1 (rnS n r L 0).2 = some (.ret, [(2, some (.int .i64 65533)), (3, some (.int .i64 1))], []) ∧ L.all conB = false) :=
  vi_inv (n := kn.cf.rounds) (body := vCode Try.prog kn call 161 (loopAt Try.f161 0)) (fun j s => s = rnS n r L j ∧ (L.take j).all conB = true)
    (fun x => (x = some (.exit 0, (rnS n r L L.length).1 ++ [(37, some (.bool false))], []) ∧ L.all conB = true) ∨ (x = some (.ret, [(2, some (.int .i64 65533)), (3, some (.int .i64 1))], []) ∧ L.all conB = false)) L.length (by rw [k_cf, c_rounds]; omega)
    (fun j s hj hI => by
      obtain ⟨rfl, hI⟩ := hI
      have hx := hb _ (gt_mem hj)
      have e1 : L.take (j + 1) = L.take j ++ [gt L j] := by rw [List.take_add_one, gt_some hj]; rfl
      have hbd := runeL_bd (L := L.take j) (r := r) (P := 1) r0 (by omega)
      rw [List.length_take, show min j L.length = j by omega] at hbd
      have hp : (64 : Int) ^ j ≤ 4096 := by
        have : j = 0 ∨ j = 1 ∨ j = 2 := by omega
        rcases this with rfl | rfl | rfl <;> decide
      have hsh : (gt L j).fdiv 64 = gt L j / 64 := by rw [Int.fdiv_eq_ediv_of_nonneg _ (by omega)]
      have m1 := fun P t => and8_at and8_u63 P t hx.1 hx.2
      cases hq : conB (gt L j) with
      | true =>
        left
        refine ⟨rnS n r L (j + 1), ?_, rfl, by rw [e1, List.all_append, hI]; simp [hq]⟩
        have e2 : runeL r (L.take (j + 1)) = runeL r (L.take j) * 64 + gt L j % 64 := by rw [e1]; unfold runeL; rw [List.foldl_append]; rfl
        have hc := of_decide_eq_true hq
        rw [round_v]; simp only [loopAt, nthC, bodyC, loops, List.nil_append, List.cons_append, List.append_nil, Try.f161, rnS, e2]
        generalize runeL r (L.take j) = R at *
        have o1 := fun P t => b_orp P t (a := R * 64) (b := gt L j % 64) (i := 6) (by omega) (by omega) (by omega) (by omega) (by exact ⟨R, by omega⟩) (by omega)
        simp (disch := omega) [go_sem, tab161, hc, m1, o1]
      | false =>
        right; intro m; right
        have hc := of_decide_eq_false hq
        refine ⟨vi_ret ?_, ?_⟩
        · rw [round_v]; simp only [loopAt, nthC, bodyC, loops, List.nil_append, List.cons_append, List.append_nil, Try.f161, rnS]
          simp (disch := omega) [go_sem, tab161, hc]
        · rw [List.all_eq_false]; exact ⟨_, gt_mem hj, by simp [hq]⟩)
    (fun s hI m => by
      obtain ⟨rfl, hI⟩ := hI
      left
      refine ⟨vi_exit ?_, by rwa [List.take_length] at hI⟩
      rw [round_v]; simp only [loopAt, nthC, bodyC, loops, List.nil_append, List.cons_append, List.append_nil, Try.f161, rnS]
      simp (disch := omega) [go_sem, tab161])
    (rnS n r L 0) ⟨rfl, by simp⟩
variable {b : List Int}
theorem runeAt_v (d : Nat) (h0 : 0 < b.length) (hl : b.length < 1000000) (hb : ∀ x ∈ b, 0 ≤ x ∧ x < 256) : vrun Try.prog kn (d + 3) 161 [.ints .u8 b] [] = some (.tup [.int .i64 (runeF b).1, .int .i64 (runeF b).2], []) := by
  have hx := hb _ (gt_mem h0)
  unfold runeF
  by_cases c1 : gt b 0 < 128
  · rw [if_pos c1]
    rw [vrun_v Try.func161 rfl rfl rfl]; simp only [Try.f161]
    simp (disch := omega) [go_sem, tab161, c1]
  · rw [if_neg c1]
    have a1 := fun d => leadSize_v d hx.1 hx.2
    obtain ⟨q1, q2, q3⟩ := ld_bd (c := gt b 0)
    by_cases c2 : ldN (gt b 0) = 0 ∨ (b.length : Int) < ldN (gt b 0)
    · rw [if_pos c2]
      generalize ldR (gt b 0) = r at *
      generalize ldN (gt b 0) = n at *
      by_cases c3 : n = 0
      · subst c3
        rw [vrun_v Try.func161 rfl rfl rfl]; simp only [Try.f161]
        simp (disch := omega) [go_sem, tab161, c1, a1]
      · have c4 : (b.length : Int) < n := c2.resolve_left c3
        rw [vrun_v Try.func161 rfl rfl rfl]; simp only [Try.f161]
        simp (disch := omega) [go_sem, tab161, c1, a1, c3]
    · rw [if_neg c2]
      have n0 : ¬ ldN (gt b 0) = 0 := fun h => c2 (.inl h)
      have n1 : ¬ (b.length : Int) < ldN (gt b 0) := fun h => c2 (.inr h)
      generalize ldR (gt b 0) = r at *
      generalize ldN (gt b 0) = n at *
      have hL : (restL b n).length = n.toNat - 1 := by unfold restL; rw [List.length_take, List.length_drop]; omega
      have hLb : ∀ x ∈ restL b n, 0 ≤ x ∧ x < 256 := fun x hx => hb x (List.mem_of_mem_drop (List.mem_of_mem_take hx))
      have hbd := (runeL_bd (L := restL b n) (r := r) (P := 1) q2 (by omega)).1
      have key := rn_l (L := restL b n) (n := n) (r := r) (vrun Try.prog kn (d + 0 + 2)) (by omega) hLb q2 q3
      have eL : b.tail.take (n.toNat - 1) = restL b n := by unfold restL; rw [List.drop_one]
      rcases key with ⟨hv, hc⟩ | ⟨hv, hc⟩
      · rw [hc]
        have hl0 := fun ks => loop_v (P := Try.prog) (K := kn) (ks := ks) hv
        simp only [loopAt, nthC, bodyC, loops, List.nil_append, List.cons_append, List.append_nil, Try.f161, rnS, Int.natCast_zero, List.cons_append, List.nil_append, List.take_zero, List.take_length] at hl0
        simp only [Bool.true_eq_false, if_false]
        have hrn : runeL r [] = r := rfl
        rw [hrn, hL] at hl0
        have a2 := fun d => isPoint_v d (runeL r (restL b n))
        have a3 := fun d => sizeOf_v d (runeL r (restL b n))
        clear hv hLb hb
        generalize runeL r (restL b n) = R at *
        generalize restL b n = L at *
        by_cases p1 : isPt R = true
        · rw [p1] at a2
          by_cases p2 : szOf R = n
          · rw [if_pos ⟨p1, p2⟩]
            rw [p2] at a3
            rw [vrun_v Try.func161 rfl rfl rfl]; simp only [Try.f161]
            simp (disch := omega) [go_sem, tab161, c1, a1, n0, n1, eL, hL, hl0, a2, a3]
          · rw [if_neg (fun h => p2 h.2)]
            rw [vrun_v Try.func161 rfl rfl rfl]; simp only [Try.f161]
            simp (disch := omega) [go_sem, tab161, c1, a1, n0, n1, eL, hL, hl0, a2, a3, p2]
        · rw [if_neg (fun h => p1 h.1)]
          rw [Bool.not_eq_true] at p1
          rw [p1] at a2
          rw [vrun_v Try.func161 rfl rfl rfl]; simp only [Try.f161]
          simp (disch := omega) [go_sem, tab161, c1, a1, n0, n1, eL, hL, hl0, a2]
      · rw [hc]
        have hl0 := fun ks => loop_v (P := Try.prog) (K := kn) (ks := ks) hv
        simp only [loopAt, nthC, bodyC, loops, List.nil_append, List.cons_append, List.append_nil, Try.f161, rnS, Int.natCast_zero, List.cons_append, List.nil_append, List.take_zero, List.take_length] at hl0
        simp only [if_true]
        have hrn : runeL r [] = r := rfl
        rw [hrn, hL] at hl0
        clear hv hLb hb hbd
        generalize restL b n = L at *
        rw [vrun_v Try.func161 rfl rfl rfl]; simp only [Try.f161]
        simp (disch := omega) [go_sem, tab161, c1, a1, n0, n1, eL, hL, hl0]
end
end
/- Runes: all of a text, program. No conditions. -/
section
open Num
theorem runeF_n {b : List Int} (h0 : 0 < b.length) : 1 ≤ (runeF b).2 ∧ (runeF b).2 ≤ b.length := by
  obtain ⟨q1, -, -⟩ := ld_bd (c := gt b 0)
  unfold runeF
  split
  · exact ⟨by simp, by show (1 : Int) ≤ _; omega⟩
  · split
    · exact ⟨by simp, by show (1 : Int) ≤ _; omega⟩
    · rename_i h
      split
      · exact ⟨by simp, by show (1 : Int) ≤ _; omega⟩
      · split
        · exact ⟨by show (1 : Int) ≤ ldN _; omega, by show ldN _ ≤ _; omega⟩
        · exact ⟨by simp, by show (1 : Int) ≤ _; omega⟩
def runesG : Nat → List Int → List Int
  | 0, _ => []
  | n + 1, b => if b = [] then [] else (runeF b).1 :: runesG n (b.drop (runeF b).2.toNat)
def runesF (b : List Int) : List Int := runesG b.length b
theorem runesG_nil (n : Nat) : runesG n [] = [] := by cases n <;> simp [runesG]
theorem runesG_len : ∀ (n : Nat) (b : List Int), (runesG n b).length ≤ n
  | 0, _ => by simp [runesG]
  | n + 1, b => by
    unfold runesG
    split
    · simp
    · have := runesG_len n (b.drop (runeF b).2.toNat)
      rw [List.length_cons]; omega
theorem runesG_eq : ∀ (n m : Nat) (b : List Int), b.length ≤ n → b.length ≤ m → runesG n b = runesG m b
  | 0, m, b, h, _ => by
    have : b = [] := List.eq_nil_of_length_eq_zero (by omega)
    subst this; rw [runesG_nil, runesG_nil]
  | n + 1, 0, b, _, h => by
    have : b = [] := List.eq_nil_of_length_eq_zero (by omega)
    subst this; rw [runesG_nil, runesG_nil]
  | n + 1, m + 1, b, h, h' => by
    unfold runesG
    split
    · rfl
    · rename_i hb
      have hp : 0 < b.length := List.length_pos_iff.2 hb
      have := (runeF_n hp).1
      rw [runesG_eq n m (b.drop (runeF b).2.toNat) (by rw [List.length_drop]; omega) (by rw [List.length_drop]; omega)]
theorem runesF_cons {b : List Int} (h : b ≠ []) : runesF b = (runeF b).1 :: runesF (b.drop (runeF b).2.toNat) := by
  have hp : 0 < b.length := List.length_pos_iff.2 h
  have := (runeF_n hp).1
  unfold runesF
  obtain ⟨n, hn⟩ : ∃ n, b.length = n + 1 := ⟨b.length - 1, by omega⟩
  rw [hn, runesG, if_neg h, runesG_eq n _ (b.drop (runeF b).2.toNat) (by rw [List.length_drop]; omega) (Nat.le_refl _)]
theorem runesF_nil : runesF [] = [] := rfl
theorem runesF_len (b : List Int) : (runesF b).length ≤ b.length := runesG_len _ _
section
variable {b : List Int}
def roS (r O : List Int) (c : Bool) (x : VE) : VE × VH := ((0, some (.ints .u8 r)) :: (4, some (.sl 0 0 O.length 1)) :: (5, some (.bool c)) :: x, [.ints true .i64 O])
theorem ro_l (d : Nat) (hl : b.length < 1000000) (hb : ∀ x ∈ b, 0 ≤ x ∧ x < 256) :
    ∃ c : Bool, viter (vCode Try.prog kn (vrun Try.prog kn (d + 3)) 118 (loopAt Try.f118 0)) kn.cf.rounds (roS b [] true []).1 (roS b [] true []).2 = some (.exit 0, (roS [] (runesF b) c [(10, some (.bool false))]).1, (roS [] (runesF b) c []).2) :=
  vi_inv (n := kn.cf.rounds) (body := vCode Try.prog kn (vrun Try.prog kn (d + 3)) 118 (loopAt Try.f118 0)) (fun j s => ∃ (r O : List Int) (c : Bool), s = roS r O c [] ∧ O ++ runesF r = runesF b ∧ r.length + j ≤ b.length ∧ O.length ≤ j ∧ ∀ x ∈ r, 0 ≤ x ∧ x < 256)
    (fun x => ∃ c : Bool, x = some (.exit 0, (roS [] (runesF b) c [(10, some (.bool false))]).1, (roS [] (runesF b) c []).2)) b.length (by rw [k_cf, c_rounds]; omega)
    (fun j s hj hI => by
      obtain ⟨r, O, c, rfl, h1, h2, h3, h4⟩ := hI
      by_cases h0 : r = []
      · subst h0
        right; intro m
        refine ⟨c, vi_exit ?_⟩
        rw [runesF_nil, List.append_nil] at h1
        rw [← h1]
        rw [round_v]; simp only [loopAt, nthC, bodyC, loops, List.nil_append, List.cons_append, List.append_nil, Try.f118, roS]
        simp (disch := omega) [go_sem, tab118, nil118]
      · left
        have hp : 0 < r.length := List.length_pos_iff.2 h0
        have a1 := fun d => runeAt_v (b := r) d hp (by omega) h4
        obtain ⟨n1, n2⟩ := runeF_n hp
        rw [runesF_cons h0] at h1
        have hd : ∀ x ∈ r.drop (runeF r).2.toNat, 0 ≤ x ∧ x < 256 := fun x hx => h4 x (List.mem_of_mem_drop hx)
        have hdl : (r.drop (runeF r).2.toNat).length + (j + 1) ≤ b.length := by rw [List.length_drop]; omega
        generalize (runeF r).2 = n at *
        generalize (runeF r).1 = v at *
        refine ⟨roS (r.drop n.toNat) (O ++ [v]) (c && !(decide (v = 65533) && decide (n = 1))) [], ?_, r.drop n.toNat, O ++ [v], _, rfl, by rw [List.append_assoc]; exact h1, hdl, by simp; omega, hd⟩
        have hT : List.take ((r.length : Int) - n).toNat (List.drop n.toNat r) = List.drop n.toNat r := List.take_of_length_le (by rw [List.length_drop]; omega)
        have hT1 : List.take (r.length - 1) r.tail = r.tail := List.take_of_length_le (by rw [List.length_tail]; exact Nat.le_refl _)
        clear hd hdl h1 h4
        rw [round_v]; simp only [loopAt, nthC, bodyC, loops, List.nil_append, List.cons_append, List.append_nil, Try.f118, roS]
        cases c
        · simp (implicitDefEqProofs := false) (disch := omega) [go_sem, tab118, nil118, a1, hT, hT1, h0]
        · by_cases q1 : v = 65533
          · subst q1
            by_cases q2 : n = 1
            · subst q2
              simp (implicitDefEqProofs := false) (disch := omega) [go_sem, tab118, nil118, a1, hT, hT1, h0]
            · simp (implicitDefEqProofs := false) (disch := omega) [go_sem, tab118, nil118, a1, hT, hT1, h0, q2]
          · simp (implicitDefEqProofs := false) (disch := omega) [go_sem, tab118, nil118, a1, hT, hT1, h0, q1])
    (fun s hI m => by
      obtain ⟨r, O, c, rfl, h1, h2, h3, h4⟩ := hI
      have h0 : r = [] := List.eq_nil_of_length_eq_zero (by omega)
      subst h0
      refine ⟨c, vi_exit ?_⟩
      rw [runesF_nil, List.append_nil] at h1
      rw [← h1]
      rw [round_v]; simp only [loopAt, nthC, bodyC, loops, List.nil_append, List.cons_append, List.append_nil, Try.f118, roS]
      simp (disch := omega) [go_sem, tab118, nil118])
    (roS b [] true []) ⟨b, [], true, rfl, rfl, by omega, by simp, hb⟩
theorem runesOf_v (d : Nat) (hl : b.length < 1000000) (hb : ∀ x ∈ b, 0 ≤ x ∧ x < 256) : ∃ c : Bool, vrun Try.prog kn (d + 4) 118 [.ints .u8 b] [] = some (.tup [.sl 0 0 (runesF b).length 1, .bool c], [.ints true .i64 (runesF b)]) := by
  obtain ⟨c, hv⟩ := ro_l (d + 0) hl hb
  have hl0 := fun ks => loop_v (P := Try.prog) (K := kn) (ks := ks) hv
  simp only [loopAt, nthC, bodyC, loops, List.nil_append, List.cons_append, List.append_nil, Try.f118, roS, List.length_nil] at hl0
  refine ⟨c, ?_⟩
  rw [vrun_v Try.func118 rfl rfl rfl]; simp only [Try.f118]
  simp (disch := omega) [go_sem, tab118, nil118, hl0]
theorem Runes_v (d : Nat) (hl : b.length ≤ 400) (hb : ∀ x ∈ b, 0 ≤ x ∧ x < 256) : vrun Try.prog kn (d + 5) 62 [.ints .u8 b] [] = some (.sl 0 0 (runesF b).length 1, [.ints true .i64 (runesF b)]) := by
  obtain ⟨c, a1⟩ := runesOf_v (d + 0) (by omega) hb
  rw [vrun_v Try.func62 rfl rfl rfl]; simp only [Try.f62]
  simp (disch := omega) [go_sem, tab62, nil62, a1]
theorem Runes_l (d : Nat) (hl : 400 < b.length) (hl' : b.length < 1000000000) : vrun Try.prog kn (d + 5) 62 [.ints .u8 b] [] = some (.sl 0 0 0 1, [.ints true .i64 []]) := by
  rw [vrun_v Try.func62 rfl rfl rfl]; simp only [Try.f62]
  simp (disch := omega) [go_sem, tab62, nil62]
end
end
/- Runes: what each becomes in a plain text, program. No conditions. -/
section
open Num
theorem wu8' {x : Int} (h0 : 0 ≤ x) (h1 : x < 256) : IntKind.wrap .u8 x = x := by
  unfold IntKind.wrap; simp [IntKind.signed, IntKind.bits]; omega
theorem b_and63 (P : Program) (t : TypeId) {a : Int} (h0 : 0 ≤ a) (h1 : a < 4294967296) : binE P .and t (.int .i64 a) (.int .i64 63) = some (.int .i64 (a % 64)) := by
  rw [b_and]
  have e : (BitVec.ofInt 64 a &&& BitVec.ofInt 64 63).toNat = (a % 64).toNat := by
    obtain ⟨A, rfl⟩ := Int.eq_ofNat_of_zero_le h0
    have h3 : A &&& 63 = A % 64 := Nat.and_two_pow_sub_one_eq_mod A 6
    rw [BitVec.toNat_and, BitVec.toNat_ofInt, show (BitVec.ofInt 64 63).toNat = 63 from rfl, show ((A : Int) % ((2 ^ 64 : Nat) : Int)).toNat = A by omega, h3]
    omega
  have h2 : IntKind.wrap .i64 (((BitVec.ofInt 64 a &&& BitVec.ofInt 64 63).toNat : Nat) : Int) = a % 64 := by
    rw [e, w64 (by omega) (by omega)]; omega
  exact congrArg (fun q => some (CV.int .i64 q)) h2
/-- The bytes of a rune. -/
def rbF (r : Int) : List Int :=
  if isPt r = false then [] else
  if r < 128 then [r] else
  if r < 2048 then [192 + r / 64, 128 + r % 64] else
  if r < 65536 then [224 + r / 4096, 128 + r / 64 % 64, 128 + r % 64] else
  [240 + r / 262144, 128 + r / 4096 % 64, 128 + r / 64 % 64, 128 + r % 64]
def rbS (r n : Int) (O : List Int) (i : Int) : VE × VH := ([(0, some (.int .i64 r)), (3, some (.int .i64 n)), (4, some (.sl 0 0 O.length 1)), (5, some (.int .i64 i))], [.ints true .u8 O])
theorem rb_r (call : CallV) {r n : Int} {O : List Int} {i : Nat} (h0 : 0 ≤ r) (h1 : r < 4000000) (hi : i + 1 < O.length) (hO : O.length ≤ 4) : vCode Try.prog kn call 159 (loopAt Try.f159 0) (rbS r n O ((i : Int) + 1)).1 (rbS r n O ((i : Int) + 1)).2 = some (.norm, rbS (r / 64) n (O.set (i + 1) (128 + r % 64)) i) := by
  have m1 := fun P t => b_and63 P t h0 (by omega)
  have o1 := fun P t => b_orp P t (a := 128) (b := r % 64) (i := 6) (by omega) (by omega) (by omega) (by omega) ⟨2, by omega⟩ (by omega)
  have w1 := wu8' (x := 128 + r % 64) (by omega) (by omega)
  have e1 : ((i : Int) + 1).toNat = i + 1 := by omega
  have f1 : r.fdiv 64 = r / 64 := Int.fdiv_eq_ediv_of_nonneg _ (by omega)
  rw [round_v]; simp only [loopAt, nthC, bodyC, loops, List.nil_append, List.cons_append, List.append_nil, Try.f159, rbS]
  simp (disch := omega) [go_sem, tab159, nil159, m1, o1, w1, e1, f1]
theorem rb_s (call : CallV) {r r' n k k' : Int} {O O' : List Int} (i : Nat) {m : Nat} (hk : k = (i : Int) + 1) (hk' : k' = i) (h0 : 0 ≤ r) (h1 : r < 4000000) (hi : i + 1 < O.length) (hO : O.length ≤ 4) (hr : r / 64 = r') (hs : O.set (i + 1) (128 + r % 64) = O') : viter (vCode Try.prog kn call 159 (loopAt Try.f159 0)) (m + 1) (rbS r n O k).1 (rbS r n O k).2 = viter (vCode Try.prog kn call 159 (loopAt Try.f159 0)) m (rbS r' n O' k').1 (rbS r' n O' k').2 := by
  subst hk hk' hr hs
  exact vi_norm (rb_r call h0 h1 hi hO)
theorem rb_x (call : CallV) {r n : Int} {O : List Int} : vCode Try.prog kn call 159 (loopAt Try.f159 0) (rbS r n O 0).1 (rbS r n O 0).2 = some (.exit 0, (rbS r n O 0).1 ++ [(21, some (.bool false))], (rbS r n O 0).2) := by
  rw [round_v]; simp only [loopAt, nthC, bodyC, loops, List.nil_append, List.cons_append, List.append_nil, Try.f159, rbS]
  simp (disch := omega) [go_sem, tab159, nil159]
theorem rounds5 : ∃ m, kn.cf.rounds = m + 1 + 1 + 1 + 1 + 1 := ⟨4294967291, by rw [k_cf, c_rounds]⟩
theorem rb_2 (call : CallV) {r : Int} (h0 : 0 ≤ r) (h1 : r < 4000000) : viter (vCode Try.prog kn call 159 (loopAt Try.f159 0)) kn.cf.rounds (rbS r 2 [0, 0] 1).1 (rbS r 2 [0, 0] 1).2 = some (.exit 0, (rbS (r / 64) 2 [0, 128 + r % 64] 0).1 ++ [(21, some (.bool false))], (rbS (r / 64) 2 [0, 128 + r % 64] 0).2) := by
  obtain ⟨m, hm⟩ := rounds5
  rw [hm, rb_s call 0 (by omega) rfl h0 h1 (by simp) (by simp) rfl rfl]
  exact vi_exit (rb_x call)
theorem rb_3 (call : CallV) {r : Int} (h0 : 0 ≤ r) (h1 : r < 4000000) : viter (vCode Try.prog kn call 159 (loopAt Try.f159 0)) kn.cf.rounds (rbS r 3 [0, 0, 0] 2).1 (rbS r 3 [0, 0, 0] 2).2 = some (.exit 0, (rbS (r / 4096) 3 [0, 128 + r / 64 % 64, 128 + r % 64] 0).1 ++ [(21, some (.bool false))], (rbS (r / 4096) 3 [0, 128 + r / 64 % 64, 128 + r % 64] 0).2) := by
  obtain ⟨m, hm⟩ := rounds5
  rw [hm, rb_s call (k' := 1) 1 (by omega) rfl h0 h1 (by simp) (by simp) rfl rfl, rb_s call 0 (k' := 0) (r' := r / 4096) (by omega) rfl (by omega) (by omega) (by simp) (by simp) (by omega) rfl]
  exact vi_exit (rb_x call)
theorem rb_4 (call : CallV) {r : Int} (h0 : 0 ≤ r) (h1 : r < 4000000) : viter (vCode Try.prog kn call 159 (loopAt Try.f159 0)) kn.cf.rounds (rbS r 4 [0, 0, 0, 0] 3).1 (rbS r 4 [0, 0, 0, 0] 3).2 = some (.exit 0, (rbS (r / 262144) 4 [0, 128 + r / 4096 % 64, 128 + r / 64 % 64, 128 + r % 64] 0).1 ++ [(21, some (.bool false))], (rbS (r / 262144) 4 [0, 128 + r / 4096 % 64, 128 + r / 64 % 64, 128 + r % 64] 0).2) := by
  obtain ⟨m, hm⟩ := rounds5
  rw [hm, rb_s call (k' := 2) 2 (by omega) rfl h0 h1 (by simp) (by simp) rfl rfl, rb_s call 1 (k' := 1) (r' := r / 4096) (by omega) rfl (by omega) (by omega) (by simp) (by simp) (by omega) rfl, rb_s call 0 (k' := 0) (r' := r / 262144) (by omega) rfl (by omega) (by omega) (by simp) (by simp) (by omega) rfl]
  exact vi_exit (rb_x call)
theorem gl2 : gt [0, 0, 192, 224, 240] 2 = 192 := rfl
theorem gl3 : gt [0, 0, 192, 224, 240] 3 = 224 := rfl
theorem gl4 : gt [0, 0, 192, 224, 240] 4 = 240 := rfl
theorem isPt_t {r : Int} (h : isPt r = true) : 0 ≤ r ∧ r ≤ 1114111 := by
  unfold isPt at h
  simp only [Bool.and_eq_true, decide_eq_true_eq] at h
  exact h.1
theorem RuneBytes_v (d : Nat) (r : Int) : vrun Try.prog kn (d + 3) 159 [.int .i64 r] [] = some (.sl 0 0 (rbF r).length 1, [.ints true .u8 (rbF r)]) := by
  have a1 := fun d => isPoint_v d r
  have a2 := fun d => sizeOf_v d r
  unfold rbF
  cases hp : isPt r with
  | false =>
    rw [hp] at a1
    rw [vrun_v Try.func159 rfl rfl rfl]; simp only [Try.f159]
    simp (disch := omega) [go_sem, tab159, nil159, a1]
  | true =>
    rw [hp] at a1
    obtain ⟨r0, r1⟩ := isPt_t hp
    simp only [Bool.true_eq_false, if_false]
    unfold szOf at a2
    by_cases c1 : r < 128
    · rw [if_pos c1] at a2 ⊢
      have w1 := wu8' (x := r) (by omega) (by omega)
      rw [vrun_v Try.func159 rfl rfl rfl]; simp only [Try.f159]
      simp (disch := omega) [go_sem, tab159, nil159, a1, a2, w1]
    · rw [if_neg c1] at a2 ⊢
      by_cases c2 : r < 2048
      · rw [if_pos c2] at a2 ⊢
        have hl0 := fun call ks => loop_v (P := Try.prog) (K := kn) (ks := ks) (rb_2 call r0 (by omega) : viter _ _ _ _ = _)
        simp only [loopAt, nthC, bodyC, loops, List.nil_append, List.cons_append, List.append_nil, Try.f159, rbS, List.cons_append, List.nil_append, List.length_cons, List.length_nil, Nat.zero_add, Nat.reduceAdd] at hl0
        have o1 := fun P t => b_orp P t (a := 192) (b := r / 64) (i := 6) (by omega) (by omega) (by omega) (by omega) ⟨3, by omega⟩ (by omega)
        have w1 := wu8' (x := 192 + r / 64) (by omega) (by omega)
        rw [vrun_v Try.func159 rfl rfl rfl]; simp only [Try.f159]
        simp (disch := omega) [go_sem, tab159, nil159, a1, a2, hl0, gl2, gl3, gl4, o1, w1]
      · rw [if_neg c2] at a2 ⊢
        by_cases c3 : r < 65536
        · rw [if_pos c3] at a2 ⊢
          have hl0 := fun call ks => loop_v (P := Try.prog) (K := kn) (ks := ks) (rb_3 call r0 (by omega) : viter _ _ _ _ = _)
          simp only [loopAt, nthC, bodyC, loops, List.nil_append, List.cons_append, List.append_nil, Try.f159, rbS, List.cons_append, List.nil_append, List.length_cons, List.length_nil, Nat.zero_add, Nat.reduceAdd] at hl0
          have o1 := fun P t => b_orp P t (a := 224) (b := r / 4096) (i := 5) (by omega) (by omega) (by omega) (by omega) ⟨7, by omega⟩ (by omega)
          have w1 := wu8' (x := 224 + r / 4096) (by omega) (by omega)
          rw [vrun_v Try.func159 rfl rfl rfl]; simp only [Try.f159]
          simp (disch := omega) [go_sem, tab159, nil159, a1, a2, hl0, gl2, gl3, gl4, o1, w1]
        · rw [if_neg c3] at a2 ⊢
          have hl0 := fun call ks => loop_v (P := Try.prog) (K := kn) (ks := ks) (rb_4 call r0 (by omega) : viter _ _ _ _ = _)
          simp only [loopAt, nthC, bodyC, loops, List.nil_append, List.cons_append, List.append_nil, Try.f159, rbS, List.cons_append, List.nil_append, List.length_cons, List.length_nil, Nat.zero_add, Nat.reduceAdd] at hl0
          have o1 := fun P t => b_orp P t (a := 240) (b := r / 262144) (i := 4) (by omega) (by omega) (by omega) (by omega) ⟨15, by omega⟩ (by omega)
          have w1 := wu8' (x := 240 + r / 262144) (by omega) (by omega)
          rw [vrun_v Try.func159 rfl rfl rfl]; simp only [Try.f159]
          simp (disch := omega) [go_sem, tab159, nil159, a1, a2, hl0, gl2, gl3, gl4, o1, w1]
end
/- Digits, signs, blanks; a plain text, program. No conditions. -/
section
open Num
def zsL : List Int := [48, 1632, 1776, 2406, 65296]
def bkL : List Int := [9, 32, 160, 8201, 12288]
def digG : List Int → Int → Int
  | [], _ => -1
  | z :: zs, r => if z ≤ r ∧ r ≤ z + 9 then r - z else digG zs r
def digF (r : Int) : Int := digG zsL r
def sgnF (r : Int) : Int := if r = 43 ∨ r = 65291 then 1 else if r = 45 ∨ r = 8722 ∨ r = 65293 then -1 else 0
def blkF (r : Int) : Bool := bkL.any fun x => decide (r = x)
def plF (r : Int) : List Int := if 0 ≤ digF r then [48 + digF r] else if 0 < sgnF r then [43] else if sgnF r < 0 then [45] else if blkF r = true then [32] else rbF r
def plainF (b : List Int) : List Int := (runesF b).flatMap plF
theorem digG_bd : ∀ {zs : List Int} {r : Int}, -1 ≤ digG zs r ∧ digG zs r ≤ 9
  | [], r => by simp [digG]
  | z :: zs, r => by
    unfold digG
    split
    · omega
    · exact digG_bd
section
variable {r : Int}
def doF (r : Int) (j : Nat) : VE × VH := ([(0, some (.int .i64 r)), (5, some (.sl 0 0 5 1)), (6, some (.int .i64 5)), (7, some (.int .i64 j))], [.ints true .i64 [48, 1632, 1776, 2406, 65296]])
theorem DigitOf_v (d : Nat) : vrun Try.prog kn (d + 2) 63 [.int .i64 r] [] = some (.int .i64 (digF r), []) := by
  have wn := within_v
  have key := vi_inv (n := kn.cf.rounds) (body := vCode Try.prog kn (vrun Try.prog kn (d + 1)) 63 (loopAt Try.f63 0)) (fun j s => s = doF r j ∧ digG (zsL.drop j) r = digF r)
    (fun x => (x = some (.exit 0, (doF r 5).1 ++ [(8, some (.bool false))], (doF r 5).2) ∧ digF r = -1) ∨ x = some (.ret, [(2, some (.int .i64 (digF r)))], [])) 5 (by rw [k_cf, c_rounds]; omega)
    (fun j s hj hI => by
      obtain ⟨rfl, hI⟩ := hI
      have hz : zsL[j]? = some (gt zsL j) := gt_some (by unfold zsL; simpa using hj)
      have hd : zsL.drop j = gt zsL j :: zsL.drop (j + 1) := by rw [List.drop_eq_getElem_cons (by unfold zsL; simpa using hj), gt_get]
      have hb : 0 ≤ gt zsL j ∧ gt zsL j ≤ 65296 := by
        have : j = 0 ∨ j = 1 ∨ j = 2 ∨ j = 3 ∨ j = 4 := by omega
        rcases this with rfl | rfl | rfl | rfl | rfl <;> decide
      rw [hd, digG] at hI
      have hg : gt [48, 1632, 1776, 2406, 65296] j = gt zsL j := rfl
      generalize gt zsL j = z at *
      by_cases c : z ≤ r ∧ r ≤ z + 9
      · rw [if_pos c] at hI
        right; intro m; right
        refine vi_ret ?_
        rw [← hI]
        have e1 : (decide (z ≤ r) && decide (r ≤ z + 9)) = true := by simp [c]
        have w2 := fun d => wn d r z (z + 9)
        rw [e1] at w2
        rw [round_v]; simp only [loopAt, nthC, bodyC, loops, List.nil_append, List.cons_append, List.append_nil, Try.f63, doF]
        simp (disch := omega) [go_sem, tab63, hg, w2]
      · rw [if_neg c] at hI
        left
        refine ⟨doF r (j + 1), ?_, rfl, hI⟩
        have e1 : (decide (z ≤ r) && decide (r ≤ z + 9)) = false := by simpa using c
        have w2 := fun d => wn d r z (z + 9)
        rw [e1] at w2
        rw [round_v]; simp only [loopAt, nthC, bodyC, loops, List.nil_append, List.cons_append, List.append_nil, Try.f63, doF]
        simp (disch := omega) [go_sem, tab63, hg, w2])
    (fun s hI m => by
      obtain ⟨rfl, hI⟩ := hI
      left
      refine ⟨vi_exit ?_, hI.symm⟩
      rw [round_v]; simp only [loopAt, nthC, bodyC, loops, List.nil_append, List.cons_append, List.append_nil, Try.f63, doF]
      simp (disch := omega) [go_sem, tab63])
    (doF r 0) ⟨rfl, rfl⟩
  rcases key with ⟨hv, hq⟩ | hv
  · have hl0 := fun ks => loop_v (P := Try.prog) (K := kn) (ks := ks) hv
    simp only [loopAt, nthC, bodyC, loops, List.nil_append, List.cons_append, List.append_nil, Try.f63, doF, Int.natCast_zero, List.cons_append, List.nil_append] at hl0
    rw [hq]
    rw [vrun_v Try.func63 rfl rfl rfl]; simp only [Try.f63]
    simp (disch := omega) [go_sem, tab63, hl0]
  · have hl0 := fun ks => loop_v (P := Try.prog) (K := kn) (ks := ks) hv
    simp only [loopAt, nthC, bodyC, loops, List.nil_append, List.cons_append, List.append_nil, Try.f63, doF, Int.natCast_zero, List.cons_append, List.nil_append] at hl0
    rw [vrun_v Try.func63 rfl rfl rfl]; simp only [Try.f63]
    simp (disch := omega) [go_sem, tab63, hl0]
theorem SignOf_v (d : Nat) : vrun Try.prog kn (d + 1) 65 [.int .i64 r] [] = some (.int .i64 (sgnF r), []) := by
  unfold sgnF
  by_cases c1 : r = 43
  · subst c1
    rw [vrun_v Try.func65 rfl rfl rfl]; simp only [Try.f65]
    simp (disch := omega) [go_sem, tab65]
  by_cases c2 : r = 65291
  · subst c2
    rw [vrun_v Try.func65 rfl rfl rfl]; simp only [Try.f65]
    simp (disch := omega) [go_sem, tab65]
  by_cases c3 : r = 45
  · subst c3
    rw [vrun_v Try.func65 rfl rfl rfl]; simp only [Try.f65]
    simp (disch := omega) [go_sem, tab65]
  by_cases c4 : r = 8722
  · subst c4
    rw [vrun_v Try.func65 rfl rfl rfl]; simp only [Try.f65]
    simp (disch := omega) [go_sem, tab65]
  by_cases c5 : r = 65293
  · subst c5
    rw [vrun_v Try.func65 rfl rfl rfl]; simp only [Try.f65]
    simp (disch := omega) [go_sem, tab65]
  rw [vrun_v Try.func65 rfl rfl rfl]; simp only [Try.f65]
  simp (disch := omega) [go_sem, tab65, c1, c2, c3, c4, c5]
def inS (l : List Int) (r : Int) (j : Nat) : VE × VH := ([(0, some (.ints .i64 l)), (1, some (.int .i64 r)), (7, some (.int .i64 l.length)), (8, some (.int .i64 j))], [])
theorem Index_v (d : Nat) {l : List Int} (hl : l.length < 1000000) : ∃ v : Int, vrun Try.prog kn (d + 1) 162 [.ints .i64 l, .int .i64 r] [] = some (.int .i64 v, []) ∧ decide (0 ≤ v) = l.any fun x => decide (r = x) := by
  have key := vi_inv (n := kn.cf.rounds) (body := vCode Try.prog kn (vrun Try.prog kn d) 162 (loopAt Try.f162 0)) (fun j s => s = inS l r j ∧ (l.take j).any (fun x => decide (r = x)) = false)
    (fun x => (x = some (.exit 0, (inS l r l.length).1 ++ [(9, some (.bool false))], []) ∧ l.any (fun x => decide (r = x)) = false) ∨ ∃ k : Nat, x = some (.ret, [(4, some (.int .i64 k))], []) ∧ l.any (fun x => decide (r = x)) = true) l.length (by rw [k_cf, c_rounds]; omega)
    (fun j s hj hI => by
      obtain ⟨rfl, hI⟩ := hI
      by_cases hq : r = gt l j
      · right; intro m; right
        refine ⟨j, vi_ret ?_, List.any_eq_true.2 ⟨_, gt_mem hj, decide_eq_true hq⟩⟩
        rw [round_v]; simp only [loopAt, nthC, bodyC, loops, List.nil_append, List.cons_append, List.append_nil, Try.f162, inS]
        simp (disch := omega) [go_sem, tab162, ← hq]
      · left
        refine ⟨inS l r (j + 1), ?_, rfl, ?_⟩
        · rw [round_v]; simp only [loopAt, nthC, bodyC, loops, List.nil_append, List.cons_append, List.append_nil, Try.f162, inS]
          simp (disch := omega) [go_sem, tab162, hq]
        · rw [List.take_add_one, gt_some hj, List.any_append, hI]; simp [hq])
    (fun s hI m => by
      obtain ⟨rfl, hI⟩ := hI
      left
      refine ⟨vi_exit ?_, by rwa [List.take_length] at hI⟩
      rw [round_v]; simp only [loopAt, nthC, bodyC, loops, List.nil_append, List.cons_append, List.append_nil, Try.f162, inS]
      simp (disch := omega) [go_sem, tab162])
    (inS l r 0) ⟨rfl, by simp⟩
  rcases key with ⟨hv, ha⟩ | ⟨k, hv, ha⟩
  · have hl0 := fun ks => loop_v (P := Try.prog) (K := kn) (ks := ks) hv
    simp only [loopAt, nthC, bodyC, loops, List.nil_append, List.cons_append, List.append_nil, Try.f162, inS, Int.natCast_zero, List.cons_append, List.nil_append] at hl0
    refine ⟨-1, ?_, by rw [ha]; rfl⟩
    rw [vrun_v Try.func162 rfl rfl rfl]; simp only [Try.f162]
    simp (disch := omega) [go_sem, tab162, hl0]
  · have hl0 := fun ks => loop_v (P := Try.prog) (K := kn) (ks := ks) hv
    simp only [loopAt, nthC, bodyC, loops, List.nil_append, List.cons_append, List.append_nil, Try.f162, inS, Int.natCast_zero, List.cons_append, List.nil_append] at hl0
    refine ⟨k, ?_, by rw [ha]; simp⟩
    rw [vrun_v Try.func162 rfl rfl rfl]; simp only [Try.f162]
    simp (disch := omega) [go_sem, tab162, hl0]
theorem IsBlank_v (d : Nat) : vrun Try.prog kn (d + 3) 64 [.int .i64 r] [] = some (.bool (blkF r), []) := by
  obtain ⟨v, hv, ha⟩ := Index_v (r := r) (l := bkL) (d + 0 + 0) (by decide)
  change _ = blkF r at ha
  rw [← ha]
  have h2 : vrun Try.prog kn (d + 0 + 2) 119 [.ints .i64 bkL, .int .i64 r] [] = some (.bool (decide (0 ≤ v)), []) := by
    rw [vrun_v Try.func119 rfl rfl rfl]; simp only [Try.f119]
    simp (disch := omega) [go_sem, tab119, hv]
  unfold bkL at h2
  rw [vrun_v Try.func64 rfl rfl rfl]; simp only [Try.f64]
  simp (disch := omega) [go_sem, tab64, h2]
theorem plainOf_v (d : Nat) : vrun Try.prog kn (d + 4) 113 [.int .i64 r] [] = some (.sl 0 0 (plF r).length 1, [.ints true .u8 (plF r)]) := by
  have a1 := fun d => DigitOf_v (r := r) d
  have a2 := fun d => SignOf_v (r := r) d
  have a3 := fun d => IsBlank_v (r := r) d
  have a4 := fun d => RuneBytes_v d r
  have hb := digG_bd (zs := zsL) (r := r)
  change -1 ≤ digF r ∧ digF r ≤ 9 at hb
  unfold plF
  by_cases c1 : 0 ≤ digF r
  · rw [if_pos c1]
    have w1 := wu8' (x := 48 + digF r) (by omega) (by omega)
    rw [vrun_v Try.func113 rfl rfl rfl]; simp only [Try.f113]
    simp (disch := omega) [go_sem, tab113, nil113, a1, w1]
  rw [if_neg c1]
  by_cases c2 : 0 < sgnF r
  · rw [if_pos c2]
    rw [vrun_v Try.func113 rfl rfl rfl]; simp only [Try.f113]
    simp (disch := omega) [go_sem, tab113, nil113, a1, a2]
  rw [if_neg c2]
  by_cases c3 : sgnF r < 0
  · rw [if_pos c3]
    rw [vrun_v Try.func113 rfl rfl rfl]; simp only [Try.f113]
    simp (disch := omega) [go_sem, tab113, nil113, a1, a2]
  rw [if_neg c3]
  cases c4 : blkF r with
  | true =>
    rw [c4] at a3
    rw [vrun_v Try.func113 rfl rfl rfl]; simp only [Try.f113]
    simp (disch := omega) [go_sem, tab113, nil113, a1, a2, a3]
  | false =>
    rw [c4] at a3
    rw [vrun_v Try.func113 rfl rfl rfl]; simp only [Try.f113]
    simp (disch := omega) [go_sem, tab113, nil113, a1, a2, a3, a4]
end
end
/- A plain text; signs cut; whole numbers read, program. No conditions. -/
section
open Num
theorem plF_len (r : Int) : (plF r).length ≤ 4 := by
  unfold plF rbF
  (repeat' split) <;> simp
theorem flat_len4 : ∀ l : List Int, (l.flatMap plF).length ≤ 4 * l.length
  | [] => by simp
  | x :: l => by
    have h1 := plF_len x
    have h2 := flat_len4 l
    rw [List.flatMap_cons, List.length_append, List.length_cons]; omega
section
variable {b R : List Int}
def pnS (R : List Int) (j : Nat) : VE × VH := ([(3, some (.sl 0 0 ((R.take j).flatMap plF).length 1)), (7, some (.sl 1 0 R.length 1)), (8, some (.int .i64 R.length)), (9, some (.int .i64 j))], [.ints true .u8 ((R.take j).flatMap plF), .ints true .i64 R])
theorem pn_r (d : Nat) (hR : R.length ≤ 1000) {j : Nat} (hj : j < R.length) : vCode Try.prog kn (vrun Try.prog kn (d + 4)) 59 (loopAt Try.f59 0) (pnS R j).1 (pnS R j).2 = some (.norm, pnS R (j + 1)) := by
  have e1 : R.take (j + 1) = R.take j ++ [gt R j] := by rw [List.take_add_one, gt_some hj]; rfl
  have e2 : (R.take (j + 1)).flatMap plF = (R.take j).flatMap plF ++ plF (gt R j) := by rw [e1, List.flatMap_append, List.flatMap_cons, List.flatMap_nil, List.append_nil]
  have a1 := fun d => plainOf_v (r := gt R j) d
  have l1 := plF_len (gt R j)
  have l2 := flat_len4 (R.take j)
  rw [List.length_take] at l2
  unfold pnS
  rw [e2]
  generalize (R.take j).flatMap plF = O at *
  generalize plF (gt R j) = X at *
  have htk : (O ++ X).take (O.length + X.length) = O ++ X := List.take_of_length_le (by rw [List.length_append]; exact Nat.le_refl _)
  rw [round_v]; simp only [loopAt, nthC, bodyC, loops, List.nil_append, List.cons_append, List.append_nil, Try.f59]
  simp (implicitDefEqProofs := false) (disch := omega) [go_sem, tab59, nil59, a1, htk]
theorem pn_x (call : CallV) (hR : R.length ≤ 1000) : vCode Try.prog kn call 59 (loopAt Try.f59 0) (pnS R R.length).1 (pnS R R.length).2 = some (.exit 0, (pnS R R.length).1 ++ [(10, some (.bool false))], (pnS R R.length).2) := by
  rw [round_v]; simp only [loopAt, nthC, bodyC, loops, List.nil_append, List.cons_append, List.append_nil, Try.f59, pnS]
  simp (implicitDefEqProofs := false) (disch := omega) [go_sem, tab59, nil59]
theorem Plain_v (d : Nat) (hl : b.length ≤ 400) (hb : ∀ x ∈ b, 0 ≤ x ∧ x < 256) : vrun Try.prog kn (d + 6) 59 [.ints .u8 b] [] = some (.sl 0 0 (plainF b).length 1, [.ints true .u8 (plainF b)]) := by
  have a1 := fun d => Runes_v (b := b) d hl hb
  have lR := runesF_len b
  have l4 := flat_len4 (runesF b)
  unfold plainF
  generalize runesF b = R at *
  have hl0 := fun ks => loop_v (P := Try.prog) (K := kn) (ks := ks) (vi_for (pnS R) R.length (n := kn.cf.rounds) (by rw [k_cf, c_rounds]; omega) (fun j hj => pn_r (d + 1) (by omega) hj) fun m => vi_exit (pn_x _ (by omega)))
  simp only [loopAt, nthC, bodyC, loops, List.nil_append, List.cons_append, List.append_nil, Try.f59, pnS, Int.natCast_zero, List.cons_append, List.nil_append, List.take_zero, List.take_length, List.flatMap_nil, List.length_nil] at hl0
  generalize R.flatMap plF = O at *
  rw [vrun_v Try.func59 rfl rfl rfl]; simp only [Try.f59]
  simp (implicitDefEqProofs := false) (disch := omega) [go_sem, tab59, nil59, a1, hl0]
theorem Plain_l (d : Nat) (hl : 400 < b.length) (hl' : b.length < 1000000000) : vrun Try.prog kn (d + 6) 59 [.ints .u8 b] [] = some (.sl 0 0 0 1, [.ints true .u8 []]) := by
  have a1 := fun d => Runes_l (b := b) d hl hl'
  have hl0 := fun d ks => loop_v (P := Try.prog) (K := kn) (ks := ks) (vi_for (pnS []) 0 (n := kn.cf.rounds) (by rw [k_cf, c_rounds]; omega) (fun j hj => pn_r d (by simp) (by omega)) fun m => vi_exit (pn_x _ (by simp)))
  simp only [loopAt, nthC, bodyC, loops, List.nil_append, List.cons_append, List.append_nil, Try.f59, pnS, Int.natCast_zero, List.cons_append, List.nil_append, List.take_nil, List.flatMap_nil, List.length_nil] at hl0
  rw [vrun_v Try.func59 rfl rfl rfl]; simp only [Try.f59]
  simp (implicitDefEqProofs := false) (disch := omega) [go_sem, tab59, nil59, a1, hl0]
end
end
/- Dyadics: alignment and comparison, program and reference. No conditions. -/
section
open Num
def alE (a : Nat) (ex : Int) (b : Nat) (ey : Int) : Int := if b = 0 then ex else if a = 0 then ey else if ey < ex then ey else ex
def alA (a : Nat) (ex : Int) (b : Nat) (ey : Int) : Nat := a * 2 ^ (ex - alE a ex b ey).toNat
def alB (a : Nat) (ex : Int) (b : Nat) (ey : Int) : Nat := b * 2 ^ (ey - alE a ex b ey).toNat
def scmp (n : Bool) (a : Nat) (m : Bool) (b : Nat) : Int := if n && !m then -1 else if !n && m then 1 else if n then cmpI b a else cmpI a b
section
variable {a b : Nat} {ex ey : Int} {n m : Bool}
theorem alE_bd (he : -100000 ≤ ex) (he' : ex ≤ 100000) (hf : -100000 ≤ ey) (hf' : ey ≤ 100000) : -100000 ≤ alE a ex b ey ∧ alE a ex b ey ≤ 100000 := by
  unfold alE
  by_cases h1 : b = 0
  · rw [if_pos h1]; omega
  · rw [if_neg h1]
    by_cases h2 : a = 0
    · rw [if_pos h2]; omega
    · rw [if_neg h2]; split <;> omega
theorem al_len (ha : (D a).length < 100000) (hb : (D b).length < 100000) (he : -100000 ≤ ex) (he' : ex ≤ 100000) (hf : -100000 ≤ ey) (hf' : ey ≤ 100000) : (D (alA a ex b ey)).length < 200000 ∧ (D (alB a ex b ey)).length < 200000 := by
  have := alE_bd (a := a) (b := b) he he' hf hf'
  unfold alA alB
  have h1 := len_shl a (ex - alE a ex b ey).toNat
  have h2 := len_shl b (ey - alE a ex b ey).toNat
  omega
theorem signedCompare_v (d : Nat) (ha : (D a).length < 1000000) (hb : (D b).length < 1000000) : vrun Try.prog kn (d + 4) 98 [.bool n, .ints .i64 (D a), .bool m, .ints .i64 (D b)] [] = some (.int .i64 (scmp n a m b), []) := by
  have h1 := fun d => compare_v d ha hb
  have h2 := fun d => compare_v d hb ha
  rw [vrun_v Try.func98 rfl rfl rfl]; simp only [Try.f98]
  cases n <;> cases m <;> simp (disch := omega) [go_sem, tab98, h1, h2, scmp]
theorem l3make_v (d : Nat) (ha : (D a).length < 1000000) : vrun Try.prog kn (d + 2) 124 [.bool n, .agg [.ints .i64 (D a)]] [] = some (.agg [.bool (n && decide (a ≠ 0)), .ints .i64 (D a)], []) := by
  have h1 := fun d => l2norm_v d (l := D a) (v := a) (by omega) (good_D a) (val_D a)
  by_cases h0 : a = 0
  · subst h0
    rw [D_zero] at h1 ⊢
    rw [vrun_v Try.func124 rfl rfl rfl]; simp only [Try.f124]
    cases n <;> simp (disch := omega) [go_sem, tab124, h1]
  · have hn : ¬ D a = [] := fun h => h0 (D_nil_iff.1 h)
    have hp : 0 < (D a).length := List.length_pos_iff.2 hn
    rw [vrun_v Try.func124 rfl rfl rfl]; simp only [Try.f124]
    cases n <;> simp (disch := omega) [go_sem, tab124, h1, h0, hn]
def alE2 (a : Nat) (ex : Int) (b : Nat) (ey : Int) : Int := if a = 0 then ey else if b = 0 then ex else if ey < ex then ey else ex
end
end
/- The reference's trailing noughts, and its one form of a dyadic. No conditions. -/
section
open Num
section
variable {x : Nat}
def trS (x j : Nat) : VE × VH := ([(1, some (.ptr 0 0)), (3, some (.int .i64 j))], [.vals true [.ints .i64 (D x)]])
end
end
/- The reference's one form of a dyadic number. No conditions. -/
section
open Num
section
variable {a : Nat} {n : Bool} {e : Int}
/-- The one form. -/
def mkD (n : Bool) (a : Nat) (e : Int) : DyT := if a = 0 then ⟨false, [], 0⟩ else ⟨n, D (a / 2 ^ tz a), e + tz a⟩
end
end
/- Trailing noughts of a limb, as the library counts them. No conditions. -/
section
open Num
theorem wu64' {x : Int} (h1 : 0 ≤ x) (h2 : x ≤ 18446744073709551615) : IntKind.wrap .u64 x = x := by
  simp [IntKind.wrap, IntKind.bits, IntKind.signed]; omega
theorem negu {x : Nat} (h0 : x ≠ 0) (hx : x < 65536) : IntKind.wrap .u64 (-(x : Int)) = ((2 ^ 64 - x : Nat) : Int) := by
  simp [IntKind.wrap, IntKind.bits, IntKind.signed]; omega
theorem andneg (P : Program) (ty : TypeId) {x t o : Nat} (h0 : x ≠ 0) (hx : x < 65536) (h : x = 2 ^ t * (2 * o + 1)) : binE P .and ty (.int .u64 (x : Int)) (.int .u64 ((2 ^ 64 - x : Nat) : Int)) = some (.int .u64 ((2 ^ t : Nat) : Int)) := by
  rw [b_and]
  have e : (BitVec.ofInt (IntKind.bits .u64) (x : Int) &&& BitVec.ofInt (IntKind.bits .u64) ((2 ^ 64 - x : Nat) : Int)).toNat = 2 ^ t := by
    show (BitVec.ofInt 64 (x : Int) &&& BitVec.ofInt 64 ((2 ^ 64 - x : Nat) : Int)).toNat = 2 ^ t
    rw [BitVec.toNat_and, BitVec.ofInt_natCast, BitVec.ofInt_natCast, BitVec.toNat_ofNat, BitVec.toNat_ofNat, Nat.mod_eq_of_lt (by omega), Nat.mod_eq_of_lt (by omega)]
    exact land_neg h (by omega)
  rw [e]
  have hle : 2 ^ t ≤ x := by rw [h]; exact Nat.le_mul_of_pos_right _ (by omega)
  rw [wu64' (by omega) (by omega)]
theorem tz16 {x t o : Nat} (hx : x < 65536) (h : x = 2 ^ t * (2 * o + 1)) : t < 16 := by
  have hle : 2 ^ t ≤ x := by rw [h]; exact Nat.le_mul_of_pos_right _ (by omega)
  exact (Nat.pow_lt_pow_iff_right (a := 2) (by omega)).1 (by omega : 2 ^ t < 2 ^ 16)
end
/- Numbers of any size: their one form, products; trailing noughts. No conditions. -/
section
open Num
theorem low_zero {x j : Nat} (h : 16 * j ≤ tz x) : x % 65536 ^ j = 0 := by
  by_cases h0 : x = 0
  · subst h0; simp
  obtain ⟨o, ho⟩ := tz_spec h0
  have e : (65536 : Nat) ^ j = 2 ^ (16 * j) := by rw [show (65536 : Nat) = 2 ^ 16 from rfl, ← Nat.pow_mul]
  have e2 : 2 ^ tz x = 2 ^ (16 * j) * 2 ^ (tz x - 16 * j) := by rw [← Nat.pow_add]; congr 1; omega
  rw [e]
  conv => lhs; lhs; rw [ho, e2, Nat.mul_assoc]
  exact Nat.mul_mod_right _ _
theorem dig_zero {x j : Nat} (h : 16 * (j + 1) ≤ tz x) : x / 65536 ^ j % 65536 = 0 := by
  have h1 := low_zero h
  rw [mod_pow_succ] at h1
  have hp := powN_pos j
  rcases Nat.eq_zero_or_pos (x / 65536 ^ j % 65536) with h2 | h2
  · exact h2
  · have := Nat.mul_pos hp h2; omega
theorem dig_nz {x : Nat} (h0 : x ≠ 0) : x / 65536 ^ (tz x / 16) % 65536 ≠ 0 := by
  intro h
  have hb := tz_bit h0
  have e : 2 ^ tz x = 65536 ^ (tz x / 16) * 2 ^ (tz x % 16) := pow_split _
  rw [e, ← Nat.div_div_eq_div_mul] at hb
  generalize x / 65536 ^ (tz x / 16) = a at *
  have e2 : (65536 : Nat) = 2 ^ (tz x % 16) * (2 * 2 ^ (15 - tz x % 16)) := by
    rw [← Nat.mul_assoc, Nat.mul_right_comm, ← Nat.pow_add, show tz x % 16 + (15 - tz x % 16) = 15 by omega]
  have h2 : a = 65536 * (a / 65536) := by omega
  rw [h2, e2, Nat.mul_assoc, Nat.mul_div_cancel_left _ (Nat.two_pow_pos _), Nat.mul_assoc] at hb
  omega
section
variable {x : Nat}
def toS (x j : Nat) : VE × VH := ([(5, some (.ints .i64 (D x))), (6, some (.int .i64 (D x).length)), (7, some (.int .i64 j))], [])
end
section
variable {a b : Nat} {n m : Bool} {e ex ey : Int}
/-- May it be told? -/
def dyFit (r : DyT) : Bool := decide (r.l.length ≤ 100) && decide (-3000 ≤ r.e) && decide (r.e ≤ 3000)
def zT : DyT := ⟨false, [], 0⟩
def fitT (r : DyT) : DyT := if dyFit r then r else zT
theorem mkD_neg : (mkD n a e).neg = ((mkD n a e).neg && !decide ((mkD n a e).l.length = 0)) := by
  unfold mkD
  by_cases h0 : a = 0
  · rw [if_pos h0]; rfl
  · rw [if_neg h0]
    have hb := tz_bit h0
    have hX : a / 2 ^ tz a ≠ 0 := fun h => by rw [h] at hb; simp at hb
    have : ¬ (D (a / 2 ^ tz a)).length = 0 := fun h => hX (D_nil_iff.1 (List.eq_nil_of_length_eq_zero h))
    simp [this]
theorem mkD_len : (mkD n a e).l.length ≤ (D a).length := by
  unfold mkD
  split
  · simp
  · exact len_D_mono (Nat.div_le_self _ _)
theorem mkD_e (he : -1000000000 ≤ e) (he' : e ≤ 1000000000) (ha : (D a).length < 60000) : -1000000000 ≤ (mkD n a e).e ∧ (mkD n a e).e ≤ 1001000000 := by
  unfold mkD
  by_cases h0 : a = 0
  · rw [if_pos h0]; simp
  · rw [if_neg h0]
    have := tz_lt h0
    simp only; omega
/-- What is in its one form is valid where it fits. -/
theorem dyOkB_mkD : dyOkB (mkD n a e) = dyFit (mkD n a e) := by
  unfold mkD
  by_cases h0 : a = 0
  · rw [if_pos h0]; rfl
  · rw [if_neg h0]
    have hb := tz_bit h0
    generalize a / 2 ^ tz a = X at *
    have hX : X ≠ 0 := fun h => by rw [h] at hb; simp at hb
    have hl : ¬ (D X).length = 0 := fun h => hX (D_nil_iff.1 (List.eq_nil_of_length_eq_zero h))
    have hg : gt (D X) 0 % 2 = 1 := by rw [gt_D]; unfold dg; rw [Nat.pow_zero, Nat.div_one]; omega
    unfold dyOkB dyFit wholeOkB
    simp only [natOkB_D, hl, hg, decide_false, Bool.and_false, Bool.not_false, Bool.and_true, if_false, decide_true, Bool.and_assoc]
theorem mkD_and : mkD (n && decide (a ≠ 0)) a e = mkD n a e := by
  unfold mkD
  by_cases h0 : a = 0
  · rw [if_pos h0, if_pos h0]
  · rw [if_neg h0, if_neg h0]; simp [h0]
end
end
/- Intervals: validity and membership, program and reference. No conditions. -/
section
open Num
def DyT.n (x : DyT) : Nat := (val x.l).toNat
def dcmp (x y : DyT) : Int := scmp x.neg (alA x.n x.e y.n y.e) y.neg (alB x.n x.e y.n y.e)
structure IvT where
  lo : DyT
  hi : DyT
def IvT.v (x : IvT) : List V := [.bool x.lo.neg, .ints .i64 x.lo.l, .int .i64 x.lo.e, .bool x.hi.neg, .ints .i64 x.hi.l, .int .i64 x.hi.e]
def ivOkB (x : IvT) : Bool := dyOkB x.lo && dyOkB x.hi && decide (dcmp x.lo x.hi ≤ 0)
def ivHasB (v : IvT) (x : DyT) : Bool := decide (dcmp v.lo x ≤ 0) && decide (dcmp x v.hi ≤ 0)
theorem ok_D {x : DyT} (hx : dyOkB x = true) : x.l = D (x.n) ∧ (D (x.n)).length < 100000 ∧ -100000 ≤ x.e ∧ x.e ≤ 100000 ∧ (x.n = 0 → x.neg = false) := by
  obtain ⟨n, h1, h2, h3, h4, h5⟩ := (dyOkB_iff x).1 hx
  have : x.n = n := by unfold DyT.n; rw [h1, val_D]; rfl
  rw [this]
  refine ⟨h1, by omega, by omega, by omega, fun h => ?_⟩
  rcases h5 with ⟨_, h, _⟩ | h5
  · exact h
  · omega
section
variable {x y : DyT}
end
section
variable {x : DyT} {v : IvT}
end
end
/- Numbers of any size: products, sums, differences. No conditions. -/
section
open Num
def ssN (n : Bool) (a : Nat) (m : Bool) (b : Nat) : Bool := if n = m then n else if b ≤ a then n else m
def ssV (n : Bool) (a : Nat) (m : Bool) (b : Nat) : Nat := if n = m then a + b else if b ≤ a then a - b else b - a
section
variable {a b : Nat} {n m : Bool} {e ex ey : Int}
theorem cmpI_ge : (0 ≤ cmpI a b) = (b ≤ a) := by
  unfold cmpI
  by_cases h : a < b
  · rw [if_pos h]; simp; omega
  · rw [if_neg h]; split <;> (simp; omega)
theorem ssV_len {k : Nat} (ha : (D a).length < k) (hb : (D b).length < k) : (D (ssV n a m b)).length < k + 1 := by
  unfold ssV
  by_cases h : n = m
  · rw [if_pos h]; have := len_add (x := a) (y := b) (n := k - 1) (by omega) (by omega); omega
  · rw [if_neg h]
    split
    · have := len_D_mono (Nat.sub_le a b); omega
    · have := len_D_mono (Nat.sub_le b a); omega
theorem D_ne {x : Nat} : (D x = []) = (x = 0) := propext D_nil_iff
theorem signedSum_v (d : Nat) (ha : (D a).length < 900000) (hb : (D b).length < 900000) : vrun Try.prog kn (d + 4) 95 [.bool n, .ints .i64 (D a), .bool m, .ints .i64 (D b)] [] = some (.tup [.bool (ssN n a m b), .ints .i64 (D (ssV n a m b))], []) := by
  have h1 := fun d => plus_v (x := a) (y := b) d (by omega) (by omega)
  have h2 := fun d => compare_v (x := a) (y := b) d (by omega) (by omega)
  unfold ssN ssV
  by_cases h : b ≤ a
  · have h3 := fun d => minus_v (x := a) (y := b) d h (by omega)
    have hc : (0 ≤ cmpI a b) = True := by rw [cmpI_ge]; simp [h]
    have hlp := len_add (x := a) (y := b) (n := 900000) (by omega) (by omega)
    have hlm := len_D_mono (Nat.sub_le a b)
    generalize cmpI a b = c at *
    rw [vrun_v Try.func95 rfl rfl rfl]; simp only [Try.f95]
    cases n <;> cases m <;> simp (disch := omega) [go_sem, tab95, nil95, h1, h2, h3, hc, h]
  · have h3 := fun d => minus_v (x := b) (y := a) d (by omega) (by omega)
    have hc : (0 ≤ cmpI a b) = False := by rw [cmpI_ge]; simp [h]
    have hlp := len_add (x := a) (y := b) (n := 900000) (by omega) (by omega)
    have hlm := len_D_mono (Nat.sub_le b a)
    generalize cmpI a b = c at *
    rw [vrun_v Try.func95 rfl rfl rfl]; simp only [Try.f95]
    cases n <;> cases m <;> simp (disch := omega) [go_sem, tab95, nil95, h1, h2, h3, hc, h]
theorem l3neg_v (d : Nat) (ha : (D a).length < 900000) : vrun Try.prog kn (d + 3) 141 [.agg [.bool n, .ints .i64 (D a)]] [] = some (.agg [.bool (!n && decide (a ≠ 0)), .ints .i64 (D a)], []) := by
  have h2 := fun n d => l3make_v (n := n) (a := a) d (by omega)
  rw [vrun_v Try.func141 rfl rfl rfl]; simp only [Try.f141]
  cases n <;> simp (disch := omega) [go_sem, tab141, h2]
end
end
/- Dyadic numbers: products, sums, differences, program and reference. No conditions. -/
section
open Num
def mulR (x y : DyT) : DyT := mkD (x.neg != y.neg) (x.n * y.n) (x.e + y.e)
def addR (x y : DyT) : DyT := mkD (ssN x.neg (alA x.n x.e y.n y.e) y.neg (alB x.n x.e y.n y.e)) (ssV x.neg (alA x.n x.e y.n y.e) y.neg (alB x.n x.e y.n y.e)) (alE x.n x.e y.n y.e)
def negT (y : DyT) : DyT := ⟨!y.neg && decide (y.n ≠ 0), y.l, y.e⟩
def subR (x y : DyT) : DyT := addR x (negT y)
/-- What an operation answers. -/
def res2 (R : DyT → DyT → DyT) (x y : DyT) : DyT := if dyOkB x && dyOkB y && dyFit (R x y) then R x y else zT
def ok2 (R : DyT → DyT → DyT) (x y : DyT) : Bool := dyOkB x && dyOkB y && dyFit (R x y)
theorem res2_ok {R : DyT → DyT → DyT} {x y : DyT} (h : dyOkB x = true) (h' : dyOkB y = true) : res2 R x y = fitT (R x y) ∧ ok2 R x y = dyFit (R x y) := by
  unfold res2 ok2 fitT; rw [h, h']; simp
theorem res2_no {R : DyT → DyT → DyT} {x y : DyT} (h : (dyOkB x && dyOkB y) = false) : res2 R x y = zT ∧ ok2 R x y = false := by
  unfold res2 ok2; rw [h]; simp
theorem fitT_len (r : DyT) : (fitT r).l.length ≤ 100 := by
  unfold fitT
  cases h : dyFit r with
  | false => simp [zT]
  | true => unfold dyFit at h; simp at h; simp only [if_true]; omega
theorem res2_len {R : DyT → DyT → DyT} {x y : DyT} : (res2 R x y).l.length ≤ 100 := by
  cases h : (dyOkB x && dyOkB y) with
  | false => rw [(res2_no h).1]; simp [zT]
  | true => rw [Bool.and_eq_true] at h; rw [(res2_ok h.1 h.2).1]; exact fitT_len _
/-- A valid one, whole. -/
theorem okD {x : DyT} (hx : dyOkB x = true) : x.l = D x.n ∧ (D x.n).length ≤ 100 ∧ -3000 ≤ x.e ∧ x.e ≤ 3000 ∧ (x.n = 0 → x.neg = false) := by
  obtain ⟨n, h1, h2, h3, h4, h5⟩ := (dyOkB_iff x).1 hx
  have : x.n = n := by unfold DyT.n; rw [h1, val_D]; rfl
  rw [this]
  refine ⟨h1, by omega, by omega, by omega, fun h => ?_⟩
  rcases h5 with ⟨_, h, _⟩ | h5
  · exact h
  · omega
section
variable {x y : DyT}
theorem neg_dbl {b : Nat} {m : Bool} (h : b = 0 → m = false) : (!(!m && decide (b ≠ 0)) && decide (b ≠ 0)) = m := by
  by_cases h0 : b = 0
  · rw [h h0]; simp [h0]
  · cases m <;> simp [h0]
theorem al_small {a b : Nat} {ex ey : Int} (ha : (D a).length ≤ 100) (hb : (D b).length ≤ 100) (he : -3000 ≤ ex) (he' : ex ≤ 3000) (hf : -3000 ≤ ey) (hf' : ey ≤ 3000) : (D (alA a ex b ey)).length < 1000 ∧ (D (alB a ex b ey)).length < 1000 ∧ -3000 ≤ alE a ex b ey ∧ alE a ex b ey ≤ 3000 := by
  have q1 : -3000 ≤ alE a ex b ey ∧ alE a ex b ey ≤ 3000 := by unfold alE; split <;> (try split) <;> (try split) <;> omega
  have h1 := len_shl a (ex - alE a ex b ey).toNat
  have h2 := len_shl b (ey - alE a ex b ey).toNat
  unfold alA alB
  omega
end
end
/- Comparison of dyadics is comparison of numbers. Plain law. No conditions. -/
section
open Num
def sg (n : Bool) (a : Nat) : Int := if n then -(a : Int) else a
theorem cmpI_le (a b : Nat) : cmpI a b ≤ 0 ↔ a ≤ b := by
  unfold cmpI
  split
  · omega
  · split <;> omega
theorem cmpI_eq (a b : Nat) : cmpI a b = 0 ↔ a = b := by
  unfold cmpI
  split
  · omega
  · split <;> omega
theorem scmp_le {n m : Bool} {a b : Nat} (ha : a = 0 → n = false) (hb : b = 0 → m = false) : scmp n a m b ≤ 0 ↔ sg n a ≤ sg m b := by
  unfold scmp sg
  cases n <;> cases m <;> simp [cmpI_le] <;> simp at ha hb <;> omega
theorem scmp_eq {n m : Bool} {a b : Nat} (ha : a = 0 → n = false) (hb : b = 0 → m = false) : scmp n a m b = 0 ↔ sg n a = sg m b := by
  unfold scmp sg
  cases n <;> cases m <;> simp [cmpI_eq] <;> simp at ha hb <;> omega
theorem sg_mul (n : Bool) (a k : Nat) : sg n (a * k) = sg n a * k := by
  unfold sg; cases n <;> simp [Int.neg_mul]
/-- The number, scaled. -/
def DyT.sv (K : Int) (x : DyT) : Int := sg x.neg x.n * (2 ^ (x.e - K).toNat : Nat)
theorem al_sv {a : Nat} {ex ey K : Int} {b : Nat} (hx : K ≤ ex) (hy : K ≤ ey) : a * 2 ^ (ex - K).toNat = alA a ex b ey * 2 ^ (alE a ex b ey - K).toNat ∧ b * 2 ^ (ey - K).toNat = alB a ex b ey * 2 ^ (alE a ex b ey - K).toNat := by
  unfold alA alB alE
  by_cases hb : b = 0
  · subst hb
    simp
  · by_cases ha : a = 0
    · subst ha
      simp [hb]
    · rw [if_neg hb, if_neg ha]
      by_cases h : ey < ex
      · rw [if_pos h, Nat.mul_assoc, ← Nat.pow_add, Int.sub_self]
        refine ⟨by rw [show (ex - ey).toNat + (ey - K).toNat = (ex - K).toNat by omega], by simp⟩
      · rw [if_neg h, Nat.mul_assoc b, ← Nat.pow_add, Int.sub_self]
        refine ⟨by simp, by rw [show (ey - ex).toNat + (ex - K).toNat = (ey - K).toNat by omega]⟩
theorem al_zero {a : Nat} {ex ey : Int} {b : Nat} : (alA a ex b ey = 0 ↔ a = 0) ∧ (alB a ex b ey = 0 ↔ b = 0) := by
  unfold alA alB
  have h1 := Nat.two_pow_pos (ex - alE a ex b ey).toNat
  have h2 := Nat.two_pow_pos (ey - alE a ex b ey).toNat
  refine ⟨⟨fun h => ?_, fun h => by rw [h, Nat.zero_mul]⟩, ⟨fun h => ?_, fun h => by rw [h, Nat.zero_mul]⟩⟩
  · rcases Nat.mul_eq_zero.1 h with h | h <;> omega
  · rcases Nat.mul_eq_zero.1 h with h | h <;> omega
theorem dcmp_sv {x y : DyT} {K : Int} (hx : dyOkB x = true) (hy : dyOkB y = true) (h1 : K ≤ x.e) (h2 : K ≤ y.e) : (dcmp x y ≤ 0 ↔ x.sv K ≤ y.sv K) ∧ (dcmp x y = 0 ↔ x.sv K = y.sv K) := by
  obtain ⟨_, _, _, _, a4⟩ := ok_D hx
  obtain ⟨_, _, _, _, b4⟩ := ok_D hy
  unfold dcmp DyT.sv
  have z := al_zero (a := x.n) (ex := x.e) (ey := y.e) (b := y.n)
  have za : alA x.n x.e y.n y.e = 0 → x.neg = false := fun h => a4 (z.1.1 h)
  have zb : alB x.n x.e y.n y.e = 0 → y.neg = false := fun h => b4 (z.2.1 h)
  rw [scmp_le za zb, scmp_eq za zb, ← sg_mul, ← sg_mul, (al_sv h1 h2).1, (al_sv h1 h2).2, sg_mul, sg_mul]
  have hp : (0 : Int) < (2 ^ (alE x.n x.e y.n y.e - K).toNat : Nat) := by exact_mod_cast Nat.two_pow_pos _
  exact ⟨⟨fun h => Int.mul_le_mul_of_nonneg_right h (Int.le_of_lt hp), fun h => Int.le_of_mul_le_mul_right h hp⟩, ⟨fun h => by rw [h], fun h => Int.eq_of_mul_eq_mul_right (by omega) h⟩⟩
theorem dyOk_e {x : DyT} (hx : dyOkB x = true) : -3000 ≤ x.e := by
  obtain ⟨_, _, _, h, _⟩ := (dyOkB_iff x).1 hx
  exact h
theorem dcmp_le {x y : DyT} (hx : dyOkB x = true) (hy : dyOkB y = true) : dcmp x y ≤ 0 ↔ x.sv (-3000) ≤ y.sv (-3000) := (dcmp_sv hx hy (dyOk_e hx) (dyOk_e hy)).1
theorem dcmp_eq {x y : DyT} (hx : dyOkB x = true) (hy : dyOkB y = true) : dcmp x y = 0 ↔ x.sv (-3000) = y.sv (-3000) := (dcmp_sv hx hy (dyOk_e hx) (dyOk_e hy)).2
theorem dcmp_trans {x y z : DyT} (hx : dyOkB x = true) (hy : dyOkB y = true) (hz : dyOkB z = true) (h1 : dcmp x y ≤ 0) (h2 : dcmp y z ≤ 0) : dcmp x z ≤ 0 :=
  (dcmp_le hx hz).2 (Int.le_trans ((dcmp_le hx hy).1 h1) ((dcmp_le hy hz).1 h2))
end
/- The laws of a ring for dyadic numbers. Plain law. No conditions. -/
section
open Num
theorem sg_zero (n : Bool) (a : Nat) : sg n a = 0 ↔ a = 0 := by unfold sg; cases n <;> simp
theorem sg_inj {n m : Bool} {a b : Nat} (h0 : a ≠ 0) (h : sg n a = sg m b) : n = m ∧ a = b := by
  unfold sg at h; cases n <;> cases m <;> simp at h ⊢ <;> omega
theorem sg_pow (n : Bool) (a k : Nat) : sg n a * ((2 ^ k : Nat) : Int) = sg n (a * 2 ^ k) := (sg_mul n a (2 ^ k)).symm
theorem oddq : ∀ (i j : Nat) {a b : Nat}, a % 2 = 1 → b % 2 = 1 → a * 2 ^ i = b * 2 ^ j → a = b ∧ i = j
  | 0, 0, a, b, _, _, h => by simpa using h
  | 0, j + 1, a, b, ha, _, h => by
    rw [Nat.pow_zero, Nat.mul_one, Nat.pow_succ, ← Nat.mul_assoc] at h; omega
  | i + 1, 0, a, b, _, hb, h => by
    rw [Nat.pow_zero, Nat.mul_one, Nat.pow_succ, ← Nat.mul_assoc] at h; omega
  | i + 1, j + 1, a, b, ha, hb, h => by
    rw [Nat.pow_succ, ← Nat.mul_assoc, Nat.pow_succ, ← Nat.mul_assoc] at h
    obtain ⟨h1, h2⟩ := oddq i j ha hb (Nat.eq_of_mul_eq_mul_right (by omega) h)
    exact ⟨h1, by omega⟩
theorem tz_split {a : Nat} (h : a ≠ 0) : a = a / 2 ^ tz a * 2 ^ tz a := by
  obtain ⟨o, ho⟩ := tz_spec h
  have hd : a / 2 ^ tz a = 2 * o + 1 := by
    conv => lhs; lhs; rw [ho]
    exact Nat.mul_div_cancel_left _ (Nat.two_pow_pos _)
  rw [hd, Nat.mul_comm]; exact ho
theorem mkD_uniq {n m : Bool} {a b : Nat} {e f K : Int} (he : K ≤ e) (hf : K ≤ f) (h : sg n a * ((2 ^ (e - K).toNat : Nat) : Int) = sg m b * ((2 ^ (f - K).toNat : Nat) : Int)) : mkD n a e = mkD m b f := by
  rw [sg_pow, sg_pow] at h
  by_cases h0 : a = 0
  · subst h0
    rw [Nat.zero_mul] at h
    have hb : b = 0 := by
      have := (sg_zero m (b * 2 ^ (f - K).toNat)).1 (by rw [← h]; exact (sg_zero n 0).2 rfl)
      rcases Nat.mul_eq_zero.1 this with h | h
      · exact h
      · have := Nat.two_pow_pos (f - K).toNat; omega
    subst hb
    unfold mkD
    rw [if_pos rfl, if_pos rfl]
  · have hp := Nat.two_pow_pos (e - K).toNat
    obtain ⟨h1, h2⟩ := sg_inj (Nat.mul_ne_zero h0 (by omega)) h
    have hb : b ≠ 0 := by
      rintro rfl
      rw [Nat.zero_mul] at h2
      rcases Nat.mul_eq_zero.1 h2 with h | h <;> omega
    subst h1
    unfold mkD
    rw [if_neg h0, if_neg hb]
    have ha2 := tz_split h0
    have hb2 := tz_split hb
    have oa := tz_bit h0
    have ob := tz_bit hb
    generalize a / 2 ^ tz a = A at *
    generalize b / 2 ^ tz b = B at *
    rw [ha2, hb2, Nat.mul_assoc, Nat.mul_assoc, ← Nat.pow_add, ← Nat.pow_add] at h2
    obtain ⟨h3, h4⟩ := oddq _ _ oa ob h2
    rw [h3]
    have h5 : e + (tz a : Int) = f + (tz b : Int) := by omega
    rw [h5]
theorem ss_sum (n m : Bool) (a b : Nat) : sg (ssN n a m b) (ssV n a m b) = sg n a + sg m b := by
  unfold ssN ssV sg
  by_cases h : b ≤ a <;> cases n <;> cases m <;> simp [h] <;> omega
section
variable {x y z : DyT}
/-- A valid one is its own one form. -/
theorem mkD_self (hx : dyOkB x = true) : mkD x.neg x.n x.e = x := by
  obtain ⟨n, h1, h2, h3, h4, h5⟩ := (dyOkB_iff x).1 hx
  have hn : x.n = n := by unfold DyT.n; rw [h1, val_D]; rfl
  rw [hn]
  unfold mkD
  rcases h5 with ⟨k1, k2, k3⟩ | k
  · subst k1
    rw [if_pos rfl]
    cases x
    simp only at h1 k2 k3
    rw [D_zero] at h1
    rw [h1, k2, k3]
  · have h0 : n ≠ 0 := by omega
    rw [if_neg h0]
    have ha2 := tz_split h0
    have ob := tz_bit h0
    have hz : n / 2 ^ tz n = n ∧ tz n = 0 := oddq (tz n) 0 ob k (by rw [Nat.pow_zero, Nat.mul_one]; exact ha2.symm)
    rw [hz.1, hz.2, ← h1]
    cases x
    simp
theorem addR_sv (hx : dyOkB x = true) (hy : dyOkB y = true) (K : Int) (hK : K ≤ -3000) : ∃ n a e, addR x y = mkD n a e ∧ -3000 ≤ e ∧ sg n a * ((2 ^ (e - K).toNat : Nat) : Int) = x.sv K + y.sv K := by
  obtain ⟨_, x1, x2, x3, _⟩ := okD hx
  obtain ⟨_, y1, y2, y3, _⟩ := okD hy
  obtain ⟨_, _, e3, _⟩ := al_small x1 y1 x2 x3 y2 y3
  refine ⟨_, _, _, rfl, e3, ?_⟩
  rw [ss_sum, Int.add_mul, sg_pow, sg_pow]
  obtain ⟨h1, h2⟩ := al_sv (a := x.n) (ex := x.e) (ey := y.e) (b := y.n) (K := K) (by omega) (by omega)
  rw [← h1, ← h2, ← sg_pow, ← sg_pow]
  rfl
theorem addR_comm (hx : dyOkB x = true) (hy : dyOkB y = true) : addR x y = addR y x := by
  obtain ⟨n, a, e, h1, h2, h3⟩ := addR_sv hx hy (-3000) (by omega)
  obtain ⟨m, b, f, k1, k2, k3⟩ := addR_sv hy hx (-3000) (by omega)
  rw [h1, k1]
  exact mkD_uniq h2 k2 (by rw [h3, k3, Int.add_comm])
theorem mulR_comm : mulR x y = mulR y x := by
  unfold mulR
  rw [Nat.mul_comm, Int.add_comm, show (x.neg != y.neg) = (y.neg != x.neg) by cases x.neg <;> cases y.neg <;> rfl]
theorem negT_ok (hy : dyOkB y = true) : dyOkB (negT y) = true ∧ ∀ K, (negT y).sv K = -(y.sv K) := by
  obtain ⟨n, h1, h2, h3, h4, h5⟩ := (dyOkB_iff y).1 hy
  have hn : y.n = n := by unfold DyT.n; rw [h1, val_D]; rfl
  have hn' : (negT y).n = y.n := rfl
  refine ⟨(dyOkB_iff _).2 ⟨n, h1, h2, h3, h4, ?_⟩, fun K => ?_⟩
  · rcases h5 with ⟨k1, k2, k3⟩ | k
    · exact .inl ⟨k1, by unfold negT; simp [hn, k1], k3⟩
    · exact .inr k
  · unfold DyT.sv
    rw [hn']
    have e1 : (negT y).e = y.e := rfl
    rw [e1]
    have : sg (negT y).neg y.n = -(sg y.neg y.n) := by
      unfold negT sg
      by_cases h0 : y.n = 0
      · rw [h0]; cases y.neg <;> simp
      · cases y.neg <;> simp [h0]
    rw [this, Int.neg_mul]
theorem mkD_sv {n : Bool} {a : Nat} {e K : Int} (h : K ≤ e) : (mkD n a e).sv K = sg n a * ((2 ^ (e - K).toNat : Nat) : Int) := by
  unfold mkD
  by_cases h0 : a = 0
  · subst h0
    rw [if_pos rfl]
    unfold DyT.sv DyT.n
    rw [(sg_zero n 0).2 rfl]
    simp [sg, val]
  · rw [if_neg h0]
    have ha2 := tz_split h0
    have hv : (DyT.n ⟨n, D (a / 2 ^ tz a), e + tz a⟩) = a / 2 ^ tz a := by unfold DyT.n; rw [val_D]; rfl
    unfold DyT.sv
    rw [hv]
    simp only
    rw [sg_pow, sg_pow]
    generalize a / 2 ^ tz a = A at *
    rw [show (e + (tz a : Int) - K).toNat = tz a + (e - K).toNat by omega, Nat.pow_add, ← Nat.mul_assoc, ← ha2]
theorem subR_addR (hx : dyOkB x = true) (hy : dyOkB y = true) (hs : dyFit (addR x y) = true) : subR (addR x y) y = x := by
  obtain ⟨n, a, e, h1, h2, h3⟩ := addR_sv hx hy (-3000) (by omega)
  have hok : dyOkB (addR x y) = true := by rw [h1] at hs ⊢; rw [dyOkB_mkD]; exact hs
  obtain ⟨q1, q2⟩ := negT_ok hy
  obtain ⟨m, b, f, k1, k2, k3⟩ := addR_sv hok q1 (-3000) (by omega)
  unfold subR
  rw [k1, ← mkD_self hx]
  refine mkD_uniq k2 (dyOk_e hx) ?_
  rw [k3, q2, h1, mkD_sv h2, h3]
  unfold DyT.sv
  omega
theorem mulR_sv (hx : dyOkB x = true) (hy : dyOkB y = true) : ∃ n a e, mulR x y = mkD n a e ∧ -6000 ≤ e ∧ sg n a * ((2 ^ (e - (-6000)).toNat : Nat) : Int) = x.sv (-3000) * y.sv (-3000) := by
  have x2 := dyOk_e hx
  have y2 := dyOk_e hy
  refine ⟨_, _, _, rfl, by omega, ?_⟩
  unfold DyT.sv
  rw [sg_pow, sg_pow, sg_pow, show (x.e + y.e - -6000).toNat = (x.e - -3000).toNat + (y.e - -3000).toNat by omega, Nat.pow_add]
  generalize 2 ^ (x.e - -3000).toNat = P
  generalize 2 ^ (y.e - -3000).toNat = Q
  generalize x.n = A
  generalize y.n = B
  unfold sg
  have e1 : ((A * B * (P * Q) : Nat) : Int) = ((A * P : Nat) : Int) * ((B * Q : Nat) : Int) := by
    rw [← Int.natCast_mul]; congr 1
    rw [Nat.mul_mul_mul_comm]
  cases x.neg <;> cases y.neg <;> simp only [bne, Bool.false_eq_true, if_false, if_true, Bool.not_true, Bool.not_false, BEq.rfl, show (false == true) = false from rfl, show (true == false) = false from rfl] <;> rw [e1]
  · rw [Int.mul_neg]
  · rw [Int.neg_mul]
  · rw [Int.neg_mul_neg]
theorem sv_shift (hx : dyOkB x = true) : x.sv (-6000) = x.sv (-3000) * ((2 ^ 3000 : Nat) : Int) := by
  have x2 := dyOk_e hx
  unfold DyT.sv
  rw [show (x.e - -6000).toNat = (x.e - -3000).toNat + 3000 by omega, Nat.pow_add, Int.natCast_mul, Int.mul_assoc]
theorem distr (hx : dyOkB x = true) (hy : dyOkB y = true) (hz : dyOkB z = true) (hs : dyFit (addR x y) = true) (h1 : dyFit (mulR x z) = true) (h2 : dyFit (mulR y z) = true) : mulR (addR x y) z = addR (mulR x z) (mulR y z) := by
  obtain ⟨n, a, e, s1, s2, s3⟩ := addR_sv hx hy (-3000) (by omega)
  have hok : dyOkB (addR x y) = true := by rw [s1] at hs ⊢; rw [dyOkB_mkD]; exact hs
  obtain ⟨n1, a1, e1, p1, p2, p3⟩ := mulR_sv hok hz
  obtain ⟨n2, a2, e2, q1, q2, q3⟩ := mulR_sv hx hz
  obtain ⟨n3, a3, e3, r1, r2, r3⟩ := mulR_sv hy hz
  have ok2 : dyOkB (mulR x z) = true := by rw [q1] at h1 ⊢; rw [dyOkB_mkD]; exact h1
  have ok3 : dyOkB (mulR y z) = true := by rw [r1] at h2 ⊢; rw [dyOkB_mkD]; exact h2
  obtain ⟨n4, a4, e4, t1, t2, t3⟩ := addR_sv ok2 ok3 (-6000) (by omega)
  rw [p1, t1]
  refine mkD_uniq p2 (by omega) ?_
  rw [p3, t3, s1, mkD_sv s2, s3, q1, r1, mkD_sv q2, mkD_sv r2, q3, r3, Int.add_mul]
end
end
/- Whole numbers: sums, differences, products, opposites, comparison, program. No conditions. -/
section
open Num
structure WhT where
  neg : Bool
  l : List Int
def WhT.z (w : WhT) : Int := sg w.neg (nN w.l)
def wOk (w : WhT) : Bool := wholeOkB w.neg w.l
/-- The one form of an integer. -/
def wz (z : Int) : WhT := ⟨decide (z < 0), D z.natAbs⟩
theorem wOk_t {w : WhT} (h : wOk w = true) : w = wz w.z ∧ (D w.z.natAbs).length ≤ 100 ∧ w.l = D (nN w.l) ∧ (D (nN w.l)).length ≤ 100 ∧ (nN w.l = 0 → w.neg = false) := by
  unfold wOk wholeOkB at h
  rw [Bool.and_eq_true] at h
  obtain ⟨e, hl⟩ := okN h.1
  have hz : nN w.l = 0 → w.neg = false := fun h0 => by
    have : w.l = [] := by rw [e, h0, D_zero]
    have h2 := h.2
    rw [this] at h2; simpa using h2
  have hn : w.z.natAbs = nN w.l := by unfold WhT.z sg; split <;> omega
  have hs : decide (w.z < 0) = w.neg := by
    unfold WhT.z sg
    cases hw : w.neg with
    | false => simp
    | true =>
      have : nN w.l ≠ 0 := fun h0 => by rw [hz h0] at hw; cases hw
      simp; omega
  refine ⟨?_, by rw [hn]; exact hl, e, hl, hz⟩
  unfold wz
  rw [hs, hn, ← e]
theorem wz_z (z : Int) : (wz z).z = z := by
  unfold WhT.z wz
  simp only
  rw [nN_D]
  unfold sg
  by_cases h : z < 0 <;> simp [h] <;> omega
theorem wz_ok {z : Int} (h : (D z.natAbs).length ≤ 100) : wOk (wz z) = true := by
  unfold wOk wz wholeOkB
  rw [natOk_D h]
  by_cases h0 : z = 0
  · subst h0; simp
  · have : ¬ (D z.natAbs).length = 0 := fun e => by
      have := D_nil_iff.1 (List.eq_nil_of_length_eq_zero e); omega
    simp [this]
theorem sg_abs {n : Bool} {a : Nat} {z : Int} (h : sg n a = z) : a = z.natAbs ∧ (n && decide (a ≠ 0)) = decide (z < 0) := by
  subst h
  unfold sg
  cases n with
  | false => simp
  | true =>
    refine ⟨by simp, ?_⟩
    by_cases h0 : a = 0
    · subst h0; simp
    · simp [h0]; omega
def wfitB (z : Int) : Bool := decide ((D z.natAbs).length ≤ 100)
def wfit (z : Int) : WhT := if wfitB z then wz z else ⟨false, []⟩
theorem wfit_len (z : Int) : (wfit z).l.length ≤ 100 := by
  unfold wfit
  split
  · rename_i h; unfold wfitB at h; exact of_decide_eq_true h
  · simp
/-- What an operation answers. -/
def wf2 (op : Int → Int → Int) (a b : WhT) : Bool := wOk a && wOk b && wfitB (op a.z b.z)
def wr2 (op : Int → Int → Int) (a b : WhT) : WhT := if wOk a && wOk b then wfit (op a.z b.z) else ⟨false, []⟩
theorem wr2_len {op : Int → Int → Int} {a b : WhT} : (wr2 op a b).l.length ≤ 100 := by
  unfold wr2
  split
  · exact wfit_len _
  · simp
theorem wf2_t {op : Int → Int → Int} {a b : WhT} (h : wf2 op a b = true) : wOk a = true ∧ wOk b = true ∧ wr2 op a b = wz (op a.z b.z) ∧ (D (op a.z b.z).natAbs).length ≤ 100 := by
  unfold wf2 at h
  rw [Bool.and_eq_true, Bool.and_eq_true] at h
  refine ⟨h.1.1, h.1.2, ?_, of_decide_eq_true h.2⟩
  unfold wr2 wfit
  rw [h.1.1, h.1.2, h.2]; rfl
theorem wr2_comm {op : Int → Int → Int} (hc : ∀ x y, op x y = op y x) (a b : WhT) : wr2 op a b = wr2 op b a ∧ wf2 op a b = wf2 op b a := by
  unfold wr2 wf2
  rw [hc, Bool.and_comm (wOk a)]; exact ⟨rfl, rfl⟩
section
variable {a b : WhT}
theorem areWholes_v (d : Nat) (ha : a.l.length < 1000000000) (hb : b.l.length < 1000000000) : vrun Try.prog kn (d + 9) 93 [.agg [.bool a.neg, .ints .i64 a.l], .agg [.bool b.neg, .ints .i64 b.l]] [] = some (.bool (wOk a && wOk b), []) := by
  have h1 := fun d => WholeOk_v d a.neg ha
  have h2 := fun d => WholeOk_v d b.neg hb
  change ∀ d, _ = some (V.bool (wOk a), []) at h1
  change ∀ d, _ = some (V.bool (wOk b), []) at h2
  cases hq : wOk a <;> rw [hq] at h1
  all_goals
    rw [vrun_v Try.func93 rfl rfl rfl]; simp only [Try.f93]
    simp (disch := omega) [go_sem, tab93, h1, h2]
/-- A sign and a magnitude, made a whole number, of an integer. -/
theorem wholeZ_v (d : Nat) {n : Bool} {v : Nat} {z : Int} (h : sg n v = z) (hl : (D v).length < 1000000000) : vrun Try.prog kn (d + 3) 94 [.bool n, .ints .i64 (D v)] [] = some (.tup [.agg [.bool (wfit z).neg, .sl 0 0 (wfit z).l.length 1], .bool (wfitB z)], [.ints true .i64 (wfit z).l]) := by
  obtain ⟨h1, h2⟩ := sg_abs h
  have hw := wholeOf_v d n (l := D v) hl
  rw [hw]
  unfold wfit wfitB
  rw [← h1]
  by_cases hc : (D v).length ≤ 100
  · have e : fitL (D v) = D v := by unfold fitL; rw [if_pos hc]
    rw [e, decide_eq_true hc]
    have e2 : (n && !decide ((D v).length = 0) && true) = (wz z).neg := by
      show _ = decide (z < 0)
      rw [← h2]
      by_cases h0 : v = 0
      · subst h0; rw [D_zero]; simp
      · have : ¬ (D v).length = 0 := fun e => h0 (D_nil_iff.1 (List.eq_nil_of_length_eq_zero e))
        simp [this, h0]
    have e3 : (wz z).l = D v := by show D z.natAbs = D v; rw [← h1]
    rw [e2]
    simp only [if_true, e3]
  · have e : fitL (D v) = [] := by unfold fitL; rw [if_neg hc]
    rw [e, decide_eq_false hc]
    simp
theorem WholeAdd_v (d : Nat) (ha : a.l.length < 1000000000) (hb : b.l.length < 1000000000) : vrun Try.prog kn (d + 10) 30 [.agg [.bool a.neg, .ints .i64 a.l], .agg [.bool b.neg, .ints .i64 b.l]] [] = some (.tup [.agg [.bool (wr2 (· + ·) a b).neg, .sl 0 0 (wr2 (· + ·) a b).l.length 1], .bool (wf2 (· + ·) a b)], [.ints true .i64 (wr2 (· + ·) a b).l]) := by
  have h1 := fun d => areWholes_v d ha hb
  unfold wr2 wf2
  cases hq : wOk a && wOk b
  · rw [hq] at h1
    rw [vrun_v Try.func30 rfl rfl rfl]; simp only [Try.f30]
    simp (disch := omega) [go_sem, tab30, h1]
  · rw [hq] at h1
    rw [Bool.and_eq_true] at hq
    obtain ⟨_, _, e1, l1, _⟩ := wOk_t hq.1
    obtain ⟨_, _, e2, l2, _⟩ := wOk_t hq.2
    have h2 := fun d => signedSum_v (n := a.neg) (m := b.neg) (a := nN a.l) (b := nN b.l) d (by omega) (by omega)
    have hl := ssV_len (n := a.neg) (m := b.neg) (k := 101) (a := nN a.l) (b := nN b.l) (by omega) (by omega)
    have hs : sg (ssN a.neg (nN a.l) b.neg (nN b.l)) (ssV a.neg (nN a.l) b.neg (nN b.l)) = a.z + b.z := ss_sum _ _ _ _
    have h3 := fun d => wholeZ_v d hs (by omega)
    rw [← e1, ← e2] at h2
    simp only [Bool.true_and, if_true]
    generalize a.z + b.z = z at *
    generalize ssN a.neg (nN a.l) b.neg (nN b.l) = s at *
    generalize D (ssV a.neg (nN a.l) b.neg (nN b.l)) = R at *
    generalize wfit z = q at *
    generalize wfitB z = f at *
    rw [vrun_v Try.func30 rfl rfl rfl]; simp only [Try.f30]
    simp (disch := omega) [go_sem, tab30, h1, h2, h3]
theorem WholeSub_v (d : Nat) (ha : a.l.length < 1000000000) (hb : b.l.length < 1000000000) : vrun Try.prog kn (d + 10) 37 [.agg [.bool a.neg, .ints .i64 a.l], .agg [.bool b.neg, .ints .i64 b.l]] [] = some (.tup [.agg [.bool (wr2 (· - ·) a b).neg, .sl 0 0 (wr2 (· - ·) a b).l.length 1], .bool (wf2 (· - ·) a b)], [.ints true .i64 (wr2 (· - ·) a b).l]) := by
  have h1 := fun d => areWholes_v d ha hb
  unfold wr2 wf2
  cases hq : wOk a && wOk b
  · rw [hq] at h1
    rw [vrun_v Try.func37 rfl rfl rfl]; simp only [Try.f37]
    simp (disch := omega) [go_sem, tab37, h1]
  · rw [hq] at h1
    rw [Bool.and_eq_true] at hq
    obtain ⟨_, _, e1, l1, _⟩ := wOk_t hq.1
    obtain ⟨_, _, e2, l2, _⟩ := wOk_t hq.2
    have h2 := fun d => signedSum_v (n := a.neg) (m := !b.neg) (a := nN a.l) (b := nN b.l) d (by omega) (by omega)
    have hl := ssV_len (n := a.neg) (m := !b.neg) (k := 101) (a := nN a.l) (b := nN b.l) (by omega) (by omega)
    have hs : sg (ssN a.neg (nN a.l) (!b.neg) (nN b.l)) (ssV a.neg (nN a.l) (!b.neg) (nN b.l)) = a.z - b.z := by
      rw [ss_sum]; unfold WhT.z sg; cases b.neg <;> simp <;> omega
    have h3 := fun d => wholeZ_v d hs (by omega)
    rw [← e1, ← e2] at h2
    simp only [Bool.true_and, if_true]
    generalize a.z - b.z = z at *
    generalize ssN a.neg (nN a.l) (!b.neg) (nN b.l) = s at *
    generalize D (ssV a.neg (nN a.l) (!b.neg) (nN b.l)) = R at *
    generalize wfit z = q at *
    generalize wfitB z = f at *
    rw [vrun_v Try.func37 rfl rfl rfl]; simp only [Try.f37]
    simp (disch := omega) [go_sem, tab37, h1, h2, h3]
theorem WholeMul_v (d : Nat) (ha : a.l.length < 1000000000) (hb : b.l.length < 1000000000) : vrun Try.prog kn (d + 10) 31 [.agg [.bool a.neg, .ints .i64 a.l], .agg [.bool b.neg, .ints .i64 b.l]] [] = some (.tup [.agg [.bool (wr2 (· * ·) a b).neg, .sl 0 0 (wr2 (· * ·) a b).l.length 1], .bool (wf2 (· * ·) a b)], [.ints true .i64 (wr2 (· * ·) a b).l]) := by
  have h1 := fun d => areWholes_v d ha hb
  unfold wr2 wf2
  cases hq : wOk a && wOk b
  · rw [hq] at h1
    rw [vrun_v Try.func31 rfl rfl rfl]; simp only [Try.f31]
    simp (disch := omega) [go_sem, tab31, h1]
  · rw [hq] at h1
    rw [Bool.and_eq_true] at hq
    obtain ⟨_, _, e1, l1, _⟩ := wOk_t hq.1
    obtain ⟨_, _, e2, l2, _⟩ := wOk_t hq.2
    have h2 := fun d => times_v (x := nN a.l) (y := nN b.l) d (by omega) (by omega)
    have hl := len_mul (nN a.l) (nN b.l)
    have hs : sg (a.neg != b.neg) (nN a.l * nN b.l) = a.z * b.z := by
      unfold WhT.z sg
      cases a.neg <;> cases b.neg <;> simp [Int.neg_mul, Int.mul_neg]
    have h3 := fun d => wholeZ_v d hs (by omega)
    rw [← e1, ← e2] at h2
    simp only [Bool.true_and, if_true]
    generalize a.z * b.z = z at *
    generalize D (nN a.l * nN b.l) = R at *
    generalize wfit z = q at *
    generalize wfitB z = f at *
    clear e1 e2 hs hq
    generalize a.neg = an at *
    generalize b.neg = bn at *
    cases an <;> cases bn
    all_goals
      simp only [show (true != true) = false from rfl, show (true != false) = true from rfl, show (false != true) = true from rfl, show (false != false) = false from rfl] at h3
      rw [vrun_v Try.func31 rfl rfl rfl]; simp only [Try.f31]
      simp (disch := omega) [go_sem, tab31, h1, h2, h3]
theorem own_v (d : Nat) (ha : a.l.length < 1000000000) : vrun Try.prog kn (d + 2) 142 [.agg [.bool a.neg, .ints .i64 a.l]] [] = some (.agg [.bool a.neg, .sl 0 0 a.l.length 1], [.ints true .i64 a.l]) := by
  have h1 := fun d => clone_v d ha
  rw [vrun_v Try.func142 rfl rfl rfl]; simp only [Try.f142]
  simp (disch := omega) [go_sem, tab142, h1]
theorem negated_v (d : Nat) (ha : a.l.length < 1000000000) : vrun Try.prog kn (d + 3) 96 [.agg [.bool a.neg, .ints .i64 a.l]] [] = some (.agg [.bool (!a.neg && decide (a.l ≠ [])), .sl 0 0 a.l.length 1], [.ints true .i64 a.l]) := by
  have h1 := fun d => own_v (a := a) d ha
  generalize a.neg = an at *
  by_cases h : a.l = []
  · rw [h] at h1 ⊢
    cases an
    all_goals
      rw [vrun_v Try.func96 rfl rfl rfl]; simp only [Try.f96]
      simp (disch := omega) [go_sem, tab96, h1]
  · have hp : 0 < a.l.length := List.length_pos_iff.2 h
    cases an
    all_goals
      rw [vrun_v Try.func96 rfl rfl rfl]; simp only [Try.f96]
      simp (disch := omega) [go_sem, tab96, h1, h]
def wneg (a : WhT) : WhT := if wOk a then wz (-a.z) else ⟨false, []⟩
theorem wneg_len : (wneg a).l.length ≤ 100 := by
  unfold wneg
  split
  · rename_i h
    obtain ⟨_, h2, _⟩ := wOk_t h
    show (D (-a.z).natAbs).length ≤ 100
    rw [Int.natAbs_neg]; exact h2
  · simp
theorem WholeNeg_v (d : Nat) (ha : a.l.length < 1000000000) : vrun Try.prog kn (d + 9) 32 [.agg [.bool a.neg, .ints .i64 a.l]] [] = some (.agg [.bool (wneg a).neg, .sl 0 0 (wneg a).l.length 1], [.ints true .i64 (wneg a).l]) := by
  have h1 := fun d => WholeOk_v d a.neg ha
  change ∀ d, _ = some (V.bool (wOk a), []) at h1
  unfold wneg
  cases h : wOk a with
  | false =>
    rw [h] at h1
    rw [vrun_v Try.func32 rfl rfl rfl]; simp only [Try.f32]
    simp (disch := omega) [go_sem, tab32, h1]
  | true =>
    rw [h] at h1
    obtain ⟨h0, h2, h3, h4, h5⟩ := wOk_t h
    have h6 := fun d => negated_v (a := a) d ha
    have e1 : (!a.neg && decide (a.l ≠ [])) = (wz (-a.z)).neg := by
      show _ = decide (-a.z < 0)
      unfold WhT.z sg
      by_cases hz : nN a.l = 0
      · have : a.l = [] := by rw [h3, hz, D_zero]
        rw [hz, this]; cases a.neg <;> simp
      · have : a.l ≠ [] := fun e => hz (by rw [e]; rfl)
        cases a.neg <;> simp [this] <;> omega
    have e2 : (wz (-a.z)).l = a.l := by
      show D (-a.z).natAbs = a.l
      have : (-a.z).natAbs = nN a.l := by unfold WhT.z sg; split <;> omega
      rw [this, ← h3]
    rw [e1] at h6
    simp only [if_true, e2]
    generalize (wz (-a.z)).neg = q at *
    rw [vrun_v Try.func32 rfl rfl rfl]; simp only [Try.f32]
    simp (disch := omega) [go_sem, tab32, h1, h6]
def icmp (x y : Int) : Int := if x < y then -1 else if x = y then 0 else 1
def wcmp (a b : WhT) : Int := if wOk a && wOk b then icmp a.z b.z else 0
theorem scmp_icmp {n m : Bool} {x y : Nat} (ha : x = 0 → n = false) (hb : y = 0 → m = false) : scmp n x m y = icmp (sg n x) (sg m y) := by
  unfold scmp icmp sg cmpI
  cases n <;> cases m <;> simp at ha hb ⊢ <;> (repeat' split) <;> omega
theorem WholeCmp_v (d : Nat) (ha : a.l.length < 1000000000) (hb : b.l.length < 1000000000) : vrun Try.prog kn (d + 10) 38 [.agg [.bool a.neg, .ints .i64 a.l], .agg [.bool b.neg, .ints .i64 b.l]] [] = some (.int .i64 (wcmp a b), []) := by
  have h1 := fun d => areWholes_v d ha hb
  unfold wcmp
  cases hq : wOk a && wOk b
  · rw [hq] at h1
    rw [vrun_v Try.func38 rfl rfl rfl]; simp only [Try.f38]
    simp (disch := omega) [go_sem, tab38, h1]
  · rw [hq] at h1
    rw [Bool.and_eq_true] at hq
    obtain ⟨_, _, e1, l1, z1⟩ := wOk_t hq.1
    obtain ⟨_, _, e2, l2, z2⟩ := wOk_t hq.2
    have h2 := fun d => signedCompare_v (n := a.neg) (m := b.neg) (a := nN a.l) (b := nN b.l) d (by omega) (by omega)
    rw [← e1, ← e2, scmp_icmp z1 z2] at h2
    change ∀ d, _ = some (V.int .i64 (icmp a.z b.z), []) at h2
    generalize icmp a.z b.z = c at *
    rw [vrun_v Try.func38 rfl rfl rfl]; simp only [Try.f38]
    simp (disch := omega) [go_sem, tab38, h1, h2]
theorem WholeOf_s (d : Nat) {n : Int} (h0 : -1000000 ≤ n) (h1 : n ≤ 1000000) : vrun Try.prog kn (d + 4) 36 [.int .i64 n] [] = some (.agg [.bool (wz n).neg, .sl 0 0 (wz n).l.length 1], [.ints true .i64 (wz n).l]) := by
  have hl : (D n.natAbs).length ≤ 4 := len_small (by omega)
  have e0 : ((n.natAbs : Nat) : Int) = if n < -n then -n else n := by split <;> omega
  have a1 := fun d => small_v (n := n.natAbs) d (by omega)
  rw [e0] at a1
  have hs : sg (decide (n < 0)) n.natAbs = n := by unfold sg; split <;> simp_all <;> omega
  have a2 := fun d => wholeZ_v d hs (by omega)
  have e2 : wfitB n = true := by unfold wfitB; simp; omega
  have e3 : wfit n = wz n := by unfold wfit; rw [if_pos e2]
  rw [e2, e3] at a2
  have m1 : ∀ d, vrun Try.prog kn (d + 3) 97 [.int .i64 n] [] = some (.sl 0 0 (D n.natAbs).length 1, [.ints true .i64 (D n.natAbs)]) := fun d => by
    have hm : ¬ n = -9223372036854775808 := by omega
    generalize D n.natAbs = R at *
    clear hs
    by_cases hn : n < -n
    · rw [if_pos hn] at a1
      rw [vrun_v Try.func97 rfl rfl rfl]; simp only [Try.f97]
      simp (disch := omega) [go_sem, tab97, nil97, a1, hm]
    · rw [if_neg hn] at a1
      rw [vrun_v Try.func97 rfl rfl rfl]; simp only [Try.f97]
      simp (disch := omega) [go_sem, tab97, nil97, a1, hm]
  clear a1 e0 hs e3
  generalize D n.natAbs = R at *
  generalize hq : wz n = q at *
  generalize hr : decide (n < 0) = r at *
  rw [vrun_v Try.func36 rfl rfl rfl]; simp only [Try.f36]
  cases r
  · have hn : ¬ n < 0 := of_decide_eq_false hr
    simp (disch := omega) [go_sem, tab36, m1, a2, hn]
  · have hn : n < 0 := of_decide_eq_true hr
    simp (disch := omega) [go_sem, tab36, m1, a2, hn]
end
end
/- The decimal digits of a number, program. No conditions. -/
section
open Num
/-! ### a list turned round in place -/
theorem gt_ext {a b : List Int} (hl : a.length = b.length) (h : ∀ p, p < a.length → gt a p = gt b p) : a = b := by
  refine List.ext_getElem hl fun p h1 h2 => ?_
  have := h p h1
  unfold gt at this
  simpa [h1, h2] using this
theorem gt_st {l : List Int} {i j : Nat} (x : Int) : gt (l.set i x) j = if i = j ∧ i < l.length then x else gt l j := by
  unfold gt
  by_cases e : i = j
  · subst e
    by_cases h : i < l.length
    · simp [h]
    · simp [h]
  · simp [e]
def rvL (L : List Int) (k : Nat) : Nat → List Int
  | 0 => L
  | t + 1 => ((rvL L k t).set t (gt (rvL L k t) (k - 1 - t))).set (k - 1 - t) (gt (rvL L k t) t)
theorem rv_len (L : List Int) (k : Nat) : ∀ t, (rvL L k t).length = L.length
  | 0 => rfl
  | t + 1 => by rw [rvL]; simp [rv_len L k t]
theorem rv_gt {L : List Int} {k : Nat} (hk : k ≤ L.length) : ∀ t, 2 * t ≤ k → ∀ p, gt (rvL L k t) p = if p < k ∧ (p < t ∨ k - t ≤ p) then gt L (k - 1 - p) else gt L p
  | 0, _, p => by
    have : ¬ (p < k ∧ (p < 0 ∨ k - 0 ≤ p)) := by omega
    rw [if_neg this]; rfl
  | t + 1, h, p => by
    have ih := rv_gt hk t (by omega)
    have hl := rv_len L k t
    rw [rvL, gt_st, gt_st, List.length_set, hl]
    by_cases e1 : k - 1 - t = p
    · rw [if_pos ⟨e1, by omega⟩, if_pos (by omega), ih t, if_neg (by omega)]
      congr 1; omega
    · rw [if_neg (fun q => e1 q.1)]
      by_cases e2 : t = p
      · rw [if_pos ⟨e2, by omega⟩, if_pos (by omega), ih (k - 1 - t), if_neg (by omega)]
        congr 1; omega
      · rw [if_neg (fun q => e2 q.1), ih p]
        by_cases c : p < k ∧ (p < t ∨ k - t ≤ p)
        · rw [if_pos c, if_pos (by omega)]
        · rw [if_neg c, if_neg (by omega)]
theorem rv_end {L : List Int} {k : Nat} (hk : k ≤ L.length) : rvL L k (k / 2) = (L.take k).reverse ++ L.drop k := by
  have hl : (rvL L k (k / 2)).length = ((L.take k).reverse ++ L.drop k).length := by rw [rv_len]; simp; omega
  refine gt_ext hl fun p hp => ?_
  rw [rv_len] at hp
  rw [rv_gt hk _ (by omega)]
  unfold gt
  by_cases h : p < k
  · have e1 : ((L.take k).reverse ++ L.drop k)[p]? = L[k - 1 - p]? := by
      rw [List.getElem?_append_left (by simp; omega), List.getElem?_reverse (by simp; omega), List.length_take, Nat.min_eq_left hk, List.getElem?_take_of_lt (by omega)]
    rw [List.getD_eq_getElem?_getD, List.getD_eq_getElem?_getD, List.getD_eq_getElem?_getD, e1]
    by_cases c : p < k / 2 ∨ k - k / 2 ≤ p
    · rw [if_pos ⟨h, c⟩]
    · rw [if_neg (by omega)]
      have : k - 1 - p = p := by omega
      rw [this]
  · have e1 : ((L.take k).reverse ++ L.drop k)[p]? = L[p]? := by
      rw [List.getElem?_append_right (by simp; omega), List.getElem?_drop]
      congr 1; simp; omega
    rw [if_neg (by omega), List.getD_eq_getElem?_getD, List.getD_eq_getElem?_getD, e1]
section
variable {h : VH} {i k : Nat} {L : List Int}
def rvS (h : VH) (i k : Nat) (L : List Int) (t : Nat) : VE × VH := ([(0, some (.sl i 0 k 1)), (2, some (.int .i64 t)), (3, some (.int .i64 ((k : Int) - 1 - t)))], h.set i (.ints true .u8 (rvL L k t)))
theorem rv_r (call : CallV) (hi : i < h.length) (hk : k ≤ L.length) (hk2 : k < 1000000) {t : Nat} (ht : t < k / 2) : vCode Try.prog kn call 135 (loopAt Try.f135 0) (rvS h i k L t).1 (rvS h i k L t).2 = some (.norm, rvS h i k L (t + 1)) := by
  have hl := rv_len L k t
  have hs : ∀ a : VO, (h.set i a)[i]? = some a := fun a => by simp [hi]
  have e1 : ((k : Int) - 1 - t).toNat = k - 1 - t := by omega
  have e2 : ((k : Int) - 1 - ((t + 1 : Nat) : Int)) = (k : Int) - 1 - t - 1 := by omega
  have e3 : ((t + 1 : Nat) : Int) = t + 1 := by omega
  rw [round_v]; simp only [loopAt, nthC, bodyC, loops, List.nil_append, List.cons_append, List.append_nil, Try.f135, rvS, rvL, e2, e3]
  generalize rvL L k t = M at *
  clear hi
  simp (implicitDefEqProofs := false) (disch := omega) [go_sem, tab135, hs, hl, e1, List.set_set]
theorem rv_x (call : CallV) (hi : i < h.length) (hk2 : k < 1000000) : vCode Try.prog kn call 135 (loopAt Try.f135 0) (rvS h i k L (k / 2)).1 (rvS h i k L (k / 2)).2 = some (.exit 0, (rvS h i k L (k / 2)).1 ++ [(9, some (.bool false))], (rvS h i k L (k / 2)).2) := by
  rw [round_v]; simp only [loopAt, nthC, bodyC, loops, List.nil_append, List.cons_append, List.append_nil, Try.f135, rvS]
  clear hi
  simp (implicitDefEqProofs := false) (disch := omega) [go_sem, tab135]
theorem Reverse_v (d : Nat) (hi : h[i]? = some (.ints true .u8 L)) (hk : k ≤ L.length) (hk2 : k < 1000000) : vrun Try.prog kn (d + 1) 135 [.sl i 0 k 1] h = some (.tup [], h.set i (.ints true .u8 ((L.take k).reverse ++ L.drop k))) := by
  have hlt := (List.getElem?_eq_some_iff.1 hi).1
  have hself : h.set i (.ints true .u8 L) = h := by
    obtain ⟨h1, h2⟩ := List.getElem?_eq_some_iff.1 hi
    rw [← h2]; exact List.set_getElem_self _
  have hl0 := fun ks => loop_v (P := Try.prog) (K := kn) (ks := ks) (vi_for (rvS h i k L) (k / 2) (n := kn.cf.rounds) (by rw [k_cf, c_rounds]; omega) (fun t ht => rv_r (vrun Try.prog kn d) hlt hk hk2 ht) fun m => vi_exit (rv_x _ hlt hk2))
  have e0 : rvL L k 0 = L := rfl
  simp only [loopAt, nthC, bodyC, loops, List.nil_append, List.cons_append, List.append_nil, Try.f135, rvS, Int.natCast_zero, Int.sub_zero, List.cons_append, List.nil_append, e0, hself, rv_end hk] at hl0
  clear hlt e0
  rw [vrun_v Try.func135 rfl rfl rfl]; simp only [Try.f135]
  simp (implicitDefEqProofs := false) (disch := omega) [go_sem, tab135, hl0]
end
/-! ### digits -/
section
variable {n : Nat}
def dgI (n j q : Nat) : VE × VH := ([(3, some (.sl 0 0 (4 * j + q) 1)), (4, some (.sl 1 0 (D (n / 10 ^ (4 * (j + 1)))).length 1)), (5, some (.int .i64 ((n / 10 ^ (4 * j) % 10000 / 10 ^ q : Nat) : Int))), (19, some (.int .i64 q))], [.ints true .u8 (lsd n (4 * j + q)), .ints true .i64 (D (n / 10 ^ (4 * (j + 1))))])
theorem lsd_low (n j q : Nat) (hq : q < 4) : lsd n (4 * j + (q + 1)) = lsd n (4 * j + q) ++ [48 + ((n / 10 ^ (4 * j) % 10000 / 10 ^ q : Nat) : Int) % 10] := by
  have e : n / 10 ^ (4 * j + q) % 10 = n / 10 ^ (4 * j) % 10000 / 10 ^ q % 10 := by
    rw [Nat.pow_add, ← Nat.div_div_eq_div_mul]
    generalize n / 10 ^ (4 * j) = a
    rcases (by omega : q = 0 ∨ q = 1 ∨ q = 2 ∨ q = 3) with rfl | rfl | rfl | rfl <;> simp <;> omega
  rw [show 4 * j + (q + 1) = (4 * j + q) + 1 by omega, lsd, e]
  congr 2
theorem dgI_r (call : CallV) {j q : Nat} (hq : q < 4) (hj : j < 100000) : vCode Try.prog kn call 84 (loopAt Try.f84 1) (dgI n j q).1 (dgI n j q).2 = some (.norm, dgI n j (q + 1)) := by
  have e1 := lsd_low n j q hq
  have e2 : ((n / 10 ^ (4 * j) % 10000 / 10 ^ (q + 1) : Nat) : Int) = ((n / 10 ^ (4 * j) % 10000 / 10 ^ q : Nat) : Int) / 10 := by
    rw [Nat.pow_succ, ← Nat.div_div_eq_div_mul]; omega
  have hl := lsd_len n (4 * j + q)
  have hb : n / 10 ^ (4 * j) % 10000 / 10 ^ q < 10000 := Nat.lt_of_le_of_lt (Nat.div_le_self _ _) (Nat.mod_lt _ (by omega))
  rw [round_v]; simp only [loopAt, nthC, bodyC, loops, List.nil_append, List.cons_append, List.append_nil, Try.f84, dgI, e1, e2]
  generalize n / 10 ^ (4 * j) % 10000 / 10 ^ q = r at *
  generalize lsd n (4 * j + q) = L at *
  generalize D (n / 10 ^ (4 * (j + 1))) = Z at *
  have htk : L.take (4 * j + q) = L := List.take_of_length_le (by omega)
  have hw : IntKind.wrap .u8 (48 + (r : Int) % 10) = 48 + (r : Int) % 10 := by
    unfold IntKind.wrap; simp [IntKind.signed, IntKind.bits]; omega
  have e3 : ((4 * j + (q + 1) : Nat) : Int) = ((4 * j + q : Nat) : Int) + 1 := by omega
  simp (implicitDefEqProofs := false) (disch := omega) [go_sem, tab84, nil84, hl, htk, hw]
theorem dgI_x (call : CallV) {j : Nat} (hj : j < 100000) : vCode Try.prog kn call 84 (loopAt Try.f84 1) (dgI n j 4).1 (dgI n j 4).2 = some (.exit 2, (dgI n j 4).1 ++ [(20, some (.bool false))], (dgI n j 4).2) := by
  rw [round_v]; simp only [loopAt, nthC, bodyC, loops, List.nil_append, List.cons_append, List.append_nil, Try.f84, dgI]
  simp (implicitDefEqProofs := false) (disch := omega) [go_sem, tab84, nil84]
def dgO (n j : Nat) : VE × VH := if j = 0 then ([(0, some (.ints .i64 (D n))), (3, some (.sl 0 0 0 1))], [.ints true .u8 []]) else ([(0, some (.sl 0 0 (D (n / 10 ^ (4 * j))).length 1)), (3, some (.sl 1 0 (4 * j) 1))], [.ints true .i64 (D (n / 10 ^ (4 * j))), .ints true .u8 (lsd n (4 * j))])
theorem dgO_r (d : Nat) (hn : (D n).length < 1000000) {j : Nat} (hj : j < 100000) (h0 : 4 * j < nd n) : vCode Try.prog kn (vrun Try.prog kn (d + 2)) 84 (loopAt Try.f84 0) (dgO n j).1 (dgO n j).2 = some (.norm, dgO n (j + 1)) := by
  have hl0 := fun ks => loop_v (P := Try.prog) (K := kn) (ks := ks) (vi_for (dgI n j) 4 (n := kn.cf.rounds) (by rw [k_cf, c_rounds]; omega) (fun q hq => dgI_r (vrun Try.prog kn (d + 2)) hq hj) fun m => vi_exit (dgI_x _ hj))
  have hp := nd_pos h0
  have hpos : 0 < n / 10 ^ (4 * j) := Nat.div_pos hp (Nat.pow_pos (by omega))
  have hne : D (n / 10 ^ (4 * j)) ≠ [] := fun h => by have := D_nil_iff.1 h; omega
  have hlp : 0 < (D (n / 10 ^ (4 * j))).length := List.length_pos_iff.2 hne
  have hle : (D (n / 10 ^ (4 * j))).length ≤ (D n).length := len_D_mono (Nat.div_le_self _ _)
  have hds := divideSmall_v (z := n / 10 ^ (4 * j)) (m := 10000) d (by omega) (by omega) (by omega)
  have e1 : n / 10 ^ (4 * j) / 10000 = n / 10 ^ (4 * (j + 1)) := by
    rw [Nat.div_div_eq_div_mul, show (10000 : Nat) = 10 ^ 4 from rfl, ← Nat.pow_add, show 4 * j + 4 = 4 * (j + 1) by omega]
  rw [e1, show ((10000 : Nat) : Int) = 10000 from rfl] at hds
  have hj1 : dgO n (j + 1) = ([(0, some (.sl 0 0 (D (n / 10 ^ (4 * (j + 1)))).length 1)), (3, some (.sl 1 0 (4 * j + 4) 1))], [.ints true .i64 (D (n / 10 ^ (4 * (j + 1)))), .ints true .u8 (lsd n (4 * j + 4))]) := by
    unfold dgO; rw [if_neg (by omega), show 4 * (j + 1) = 4 * j + 4 by omega]
  rw [hj1]
  simp only [loopAt, nthC, bodyC, loops, List.nil_append, List.cons_append, List.append_nil, Try.f84, dgI, Int.natCast_zero, List.cons_append, List.nil_append, Nat.pow_zero, Nat.div_one, Nat.add_zero] at hl0
  have hl := lsd_len n (4 * j)
  have hl4 := lsd_len n (4 * j + 4)
  clear hj1 hp hpos e1
  generalize n / 10 ^ (4 * j) % 10000 / 10 ^ 4 = r4 at *
  generalize n / 10 ^ (4 * j) % 10000 = r at *
  generalize D (n / 10 ^ (4 * (j + 1))) = Z at *
  generalize lsd n (4 * j + 4) = L4 at *
  unfold dgO
  cases j with
  | zero =>
    rw [if_pos rfl]
    simp only [Nat.mul_zero, Nat.pow_zero, Nat.div_one, lsd, Nat.zero_add] at *
    rw [round_v]; simp only [loopAt, nthC, bodyC, loops, List.nil_append, List.cons_append, List.append_nil, Try.f84]
    simp (implicitDefEqProofs := false) (disch := omega) [go_sem, tab84, nil84, hl0, hds, hne]
  | succ j =>
    rw [if_neg (by omega)]
    generalize lsd n (4 * (j + 1)) = L at *
    generalize D (n / 10 ^ (4 * (j + 1))) = X at *
    rw [round_v]; simp only [loopAt, nthC, bodyC, loops, List.nil_append, List.cons_append, List.append_nil, Try.f84]
    simp (implicitDefEqProofs := false) (disch := omega) [go_sem, tab84, nil84, hl0, hds, hne]
theorem dgO_x (call : CallV) {m : Nat} (hm : n / 10 ^ (4 * m) = 0) : vCode Try.prog kn call 84 (loopAt Try.f84 0) (dgO n m).1 (dgO n m).2 = some (.exit 0, (dgO n m).1 ++ [(13, some (.bool false))], (dgO n m).2) := by
  unfold dgO
  by_cases h0 : m = 0
  · subst h0
    rw [Nat.mul_zero, Nat.pow_zero, Nat.div_one] at hm
    subst hm
    rw [if_pos rfl, D_zero]
    rw [round_v]; simp only [loopAt, nthC, bodyC, loops, List.nil_append, List.cons_append, List.append_nil, Try.f84]
    simp (implicitDefEqProofs := false) (disch := omega) [go_sem, tab84, nil84]
  · rw [if_neg h0, hm, D_zero]
    rw [round_v]; simp only [loopAt, nthC, bodyC, loops, List.nil_append, List.cons_append, List.append_nil, Try.f84]
    simp (implicitDefEqProofs := false) (disch := omega) [go_sem, tab84, nil84]
/-- Noughts at the high end are taken away. -/
def dgT (E : VE × VH) (L : List Int) (k j : Nat) : VE × VH := if j = 0 then E else ([(3, some (.sl 0 0 (k - j) 1))], [.ints true .u8 L])
theorem dgT_r (call : CallV) {L : List Int} {k j : Nat} {X : V} {Z : List Int} (hk : k = L.length) (hk2 : k < 1000000) (hj : j < k) (h0 : gt L (k - 1 - j) = 48) : vCode Try.prog kn call 84 (loopAt Try.f84 2) (dgT ([(0, some (.sl 0 0 0 1)), (3, some (.sl 1 0 k 1)), (13, some (.bool false))], [.ints true .i64 Z, .ints true .u8 L]) L k j).1 (dgT ([(0, some (.sl 0 0 0 1)), (3, some (.sl 1 0 k 1)), (13, some (.bool false))], [.ints true .i64 Z, .ints true .u8 L]) L k j).2 = some (.norm, dgT ([(0, some (.sl 0 0 0 1)), (3, some (.sl 1 0 k 1)), (13, some (.bool false))], [.ints true .i64 Z, .ints true .u8 L]) L k (j + 1)) := by
  unfold dgT
  rw [if_neg (show ¬ j + 1 = 0 by omega)]
  cases j with
  | zero =>
    rw [if_pos rfl]
    have e1 : ((k : Int) - 1).toNat = k - 1 := by omega
    rw [Nat.sub_zero] at h0
    rw [round_v]; simp only [loopAt, nthC, bodyC, loops, List.nil_append, List.cons_append, List.append_nil, Try.f84]
    simp (implicitDefEqProofs := false) (disch := omega) [go_sem, tab84, nil84, e1, h0]
  | succ j =>
    rw [if_neg (by omega)]
    obtain ⟨q, hq⟩ : ∃ q, q = k - (j + 1) := ⟨_, rfl⟩
    rw [← hq, show k - (j + 1 + 1) = q - 1 by omega]
    rw [show k - 1 - (j + 1) = q - 1 by omega] at h0
    have e1 : ((q : Int) - 1).toNat = q - 1 := by omega
    rw [round_v]; simp only [loopAt, nthC, bodyC, loops, List.nil_append, List.cons_append, List.append_nil, Try.f84]
    simp (implicitDefEqProofs := false) (disch := omega) [go_sem, tab84, nil84, e1, h0]
theorem dgT_x (call : CallV) {L : List Int} {k j : Nat} {Z : List Int} (hk : k = L.length) (hk2 : k < 1000000) (hj : j < k) (h0 : gt L (k - 1 - j) ≠ 48) : ∃ q, vCode Try.prog kn call 84 (loopAt Try.f84 2) (dgT ([(0, some (.sl 0 0 0 1)), (3, some (.sl 1 0 k 1)), (13, some (.bool false))], [.ints true .i64 Z, .ints true .u8 L]) L k j).1 (dgT ([(0, some (.sl 0 0 0 1)), (3, some (.sl 1 0 k 1)), (13, some (.bool false))], [.ints true .i64 Z, .ints true .u8 L]) L k j).2 = some (.exit 4, [(3, some (.sl 0 0 (k - j) 1)), (38, some (.bool false))], q) ∧ q = [.ints true .u8 L] := by
  refine ⟨_, ?_, rfl⟩
  unfold dgT
  cases j with
  | zero =>
    rw [if_pos rfl]
    have e1 : ((k : Int) - 1).toNat = k - 1 := by omega
    rw [Nat.sub_zero] at h0 ⊢
    rw [round_v]; simp only [loopAt, nthC, bodyC, loops, List.nil_append, List.cons_append, List.append_nil, Try.f84]
    simp (implicitDefEqProofs := false) (disch := omega) [go_sem, tab84, nil84, e1, h0]
  | succ j =>
    rw [if_neg (by omega)]
    obtain ⟨q, hq⟩ : ∃ q, q = k - (j + 1) := ⟨_, rfl⟩
    rw [← hq]
    rw [show k - 1 - (j + 1) = q - 1 by omega] at h0
    have e1 : ((q : Int) - 1).toNat = q - 1 := by omega
    rw [round_v]; simp only [loopAt, nthC, bodyC, loops, List.nil_append, List.cons_append, List.append_nil, Try.f84]
    simp (implicitDefEqProofs := false) (disch := omega) [go_sem, tab84, nil84, e1, h0]
theorem nd_len (h : (D n).length < 10000) : nd n < 100000 := by
  by_cases h0 : n = 0
  · subst h0; rw [nd_zero]; omega
  · obtain ⟨h1, h2⟩ := nd_le h0
    have h3 := lt_len_D n
    have h4 : 65536 ^ (D n).length ≤ 10 ^ (5 * (D n).length) := by
      rw [Nat.pow_mul]; exact Nat.pow_le_pow_left (by omega) _
    have h5 : nd n - 1 < 5 * (D n).length := (Nat.pow_lt_pow_iff_right (by omega : 1 < 10)).1 (Nat.lt_of_le_of_lt h1 (Nat.lt_of_lt_of_le h3 h4))
    omega
theorem digitsOf_v (d : Nat) (hn : (D n).length < 10000) : vrun Try.prog kn (d + 3) 84 [.ints .i64 (D n)] [] = some (.sl 0 0 (text n).length 1, [.ints true .u8 (text n)]) := by
  by_cases h0 : n = 0
  · subst h0
    rw [D_zero]
    unfold text
    rw [if_pos rfl]
    rw [vrun_v Try.func84 rfl rfl rfl]; simp only [Try.f84]
    simp (implicitDefEqProofs := false) (disch := omega) [go_sem, tab84, nil84]
  · have hnd := nd_len hn
    obtain ⟨hn1, hn2⟩ := nd_le h0
    obtain ⟨m, hm⟩ : ∃ m, m = (nd n + 3) / 4 := ⟨_, rfl⟩
    have hl0 := fun ks => loop_v (P := Try.prog) (K := kn) (ks := ks) (vi_for (dgO n) m (n := kn.cf.rounds) (by rw [k_cf, c_rounds]; omega) (fun j hj => dgO_r (d + 0) (by omega) (by omega) (by omega)) fun q => vi_exit (dgO_x _ (nd_div (by omega))))
    have e0 : dgO n 0 = ([(0, some (.ints .i64 (D n))), (3, some (.sl 0 0 0 1))], [.ints true .u8 []]) := rfl
    have em : dgO n m = ([(0, some (.sl 0 0 0 1)), (3, some (.sl 1 0 (4 * m) 1))], [.ints true .i64 [], .ints true .u8 (lsd n (4 * m))]) := by
      unfold dgO; rw [if_neg (by omega), nd_div (by omega : nd n ≤ 4 * m), D_zero]; rfl
    have hlen := lsd_len n (4 * m)
    have hz : ∀ j, j < 4 * m - nd n → gt (lsd n (4 * m)) (4 * m - 1 - j) = 48 := fun j hj => by
      have := lsd_at n (i := 4 * m - 1 - j) (m := 4 * m) (by omega)
      rw [nd_div (by omega : nd n ≤ 4 * m - 1 - j)] at this
      unfold gt; rw [this]; rfl
    have hx0 : gt (lsd n (4 * m)) (4 * m - 1 - (4 * m - nd n)) ≠ 48 := by
      have := lsd_at n (i := nd n - 1) (m := 4 * m) (by omega)
      have ht := nd_top h0
      rw [show 4 * m - 1 - (4 * m - nd n) = nd n - 1 by omega]
      unfold gt; rw [this]; omega
    obtain ⟨q, hq, rfl⟩ := dgT_x (Z := []) (vrun Try.prog kn (d + 0 + 2)) hlen.symm (by omega) (by omega : 4 * m - nd n < 4 * m) hx0
    have hl1 := fun ks => loop_v (P := Try.prog) (K := kn) (ks := ks) (vi_for (dgT ([(0, some (.sl 0 0 0 1)), (3, some (.sl 1 0 (4 * m) 1)), (13, some (.bool false))], [.ints true .i64 [], .ints true .u8 (lsd n (4 * m))]) (lsd n (4 * m)) (4 * m)) (4 * m - nd n) (n := kn.cf.rounds) (by rw [k_cf, c_rounds]; omega) (fun j hj => dgT_r (X := .nil) _ hlen.symm (by omega) (by omega) (hz j hj)) fun q => vi_exit hq)
    have et : dgT ([(0, some (.sl 0 0 0 1)), (3, some (.sl 1 0 (4 * m) 1)), (13, some (.bool false))], [.ints true .i64 [], .ints true .u8 (lsd n (4 * m))]) (lsd n (4 * m)) (4 * m) 0 = ([(0, some (.sl 0 0 0 1)), (3, some (.sl 1 0 (4 * m) 1)), (13, some (.bool false))], [.ints true .i64 [], .ints true .u8 (lsd n (4 * m))]) := rfl
    rw [show 4 * m - (4 * m - nd n) = nd n by omega] at hl1
    simp only [e0, em, List.cons_append, List.nil_append, loopAt, nthC, bodyC, loops, List.nil_append, List.cons_append, List.append_nil, Try.f84] at hl0
    simp only [et, loopAt, nthC, bodyC, loops, List.nil_append, List.cons_append, List.append_nil, Try.f84] at hl1
    have hr := fun d => Reverse_v (h := [.ints true .u8 (lsd n (4 * m))]) (i := 0) (k := nd n) (L := lsd n (4 * m)) d rfl (by omega) (by omega)
    have htx : text n = (lsd n (nd n)).reverse := by unfold text; rw [if_neg h0]
    have htk := lsd_take n (nd n) (4 * m) (by omega)
    rw [htk, ← htx] at hr
    have hne : D n ≠ [] := fun h => h0 (D_nil_iff.1 h)
    have hlp : 0 < (D n).length := List.length_pos_iff.2 hne
    have hlt := text_len h0
    have hfin : (text n ++ (lsd n (4 * m)).drop (nd n)).take (nd n) = text n := by
      rw [List.take_append_of_le_length (by omega), List.take_of_length_le (by omega)]
    rw [hlt]
    clear hq hz hx0 htk htx e0 em et hn1
    generalize lsd n (4 * m) = L at *
    generalize text n = T at *
    generalize D n = Z at *
    rw [vrun_v Try.func84 rfl rfl rfl]; simp only [Try.f84]
    simp (implicitDefEqProofs := false) (disch := omega) [go_sem, tab84, nil84, hl0, hl1, hr, hne, hfin]
end
end
/- Decimal texts: whether there are digits alone, the number that they stand for, program; the digits, reference. No conditions. -/
section
open Num
section
variable {l : List Int} {g : Nat} {caps : List V} {p : Int → Bool} {call : CallV}
def ixB (l : List Int) (g : Nat) (caps : List V) (j : Nat) : VE × VH := ([(0, some (.ints .u8 l)), (1, some (.fn (.func g) [] caps)), (7, some (.int .i64 l.length)), (8, some (.int .i64 j))], [])
theorem ixfB_v (hl : l.length < 1000000000) {d : Nat} (hg : kn.cf.pure g = true) (hg2 : kn.ali g = false) (hc : ∀ h, omap (vfrz h 6) caps = some caps) (hp : ∀ x ∈ l, vrun Try.prog kn d g (vnrmAs (kn.args g) (.int .u8 x :: caps)) [] = some (.bool (p x), [])) :
    ∃ v : Int, vrun Try.prog kn (d + 1) 177 [.ints .u8 l, .fn (.func g) [] caps] [] = some (.int .i64 v, []) ∧ decide (0 ≤ v) = l.any p := by
  rw [k_cf] at hg
  have key := vi_inv (n := kn.cf.rounds) (body := vCode Try.prog kn (vrun Try.prog kn d) 177 (loopAt Try.f177 0)) (fun j s => s = ixB l g caps j ∧ (l.take j).any p = false)
    (fun r => (r = some (.exit 0, (ixB l g caps l.length).1 ++ [(9, some (.bool false))], []) ∧ l.any p = false) ∨ ∃ k : Nat, r = some (.ret, [(4, some (.int .i64 k))], []) ∧ l.any p = true) l.length (by rw [k_cf, c_rounds]; omega)
    (fun j s hj hI => by
      obtain ⟨rfl, hI⟩ := hI
      have hpp := hp _ (gt_mem hj)
      cases hq : p (gt l j) with
      | true =>
        right; intro m; right
        refine ⟨j, vi_ret ?_, List.any_eq_true.2 ⟨_, gt_mem hj, hq⟩⟩
        rw [hq] at hpp
        rw [round_v]; simp only [loopAt, nthC, bodyC, loops, List.nil_append, List.cons_append, List.append_nil, Try.f177, ixB]
        simp (disch := omega) [go_sem, tab177, hg, hg2, hc, hpp]
      | false =>
        left
        refine ⟨ixB l g caps (j + 1), ?_, rfl, ?_⟩
        · rw [hq] at hpp
          rw [round_v]; simp only [loopAt, nthC, bodyC, loops, List.nil_append, List.cons_append, List.append_nil, Try.f177, ixB]
          simp (disch := omega) [go_sem, tab177, hg, hg2, hc, hpp]
        · rw [List.take_add_one, gt_some hj, List.any_append, hI]; simp [hq])
    (fun s hI m => by
      obtain ⟨rfl, hI⟩ := hI
      left
      refine ⟨vi_exit ?_, by rwa [List.take_length] at hI⟩
      rw [round_v]; simp only [loopAt, nthC, bodyC, loops, List.nil_append, List.cons_append, List.append_nil, Try.f177, ixB]
      simp (disch := omega) [go_sem, tab177])
    (ixB l g caps 0) ⟨rfl, by simp⟩
  rcases key with ⟨hv, ha⟩ | ⟨k, hv, ha⟩
  · have hl0 := fun ks => loop_v (P := Try.prog) (K := kn) (ks := ks) hv
    simp only [loopAt, nthC, bodyC, loops, List.nil_append, List.cons_append, List.append_nil, Try.f177, ixB, Int.natCast_zero, List.cons_append, List.nil_append] at hl0
    refine ⟨-1, ?_, by rw [ha]; rfl⟩
    rw [vrun_v Try.func177 rfl rfl rfl]; simp only [Try.f177]
    simp (disch := omega) [go_sem, tab177, hc, hl0]
  · have hl0 := fun ks => loop_v (P := Try.prog) (K := kn) (ks := ks) hv
    simp only [loopAt, nthC, bodyC, loops, List.nil_append, List.cons_append, List.append_nil, Try.f177, ixB, Int.natCast_zero, List.cons_append, List.nil_append] at hl0
    refine ⟨k, ?_, by rw [ha]; simp⟩
    rw [vrun_v Try.func177 rfl rfl rfl]; simp only [Try.f177]
    simp (disch := omega) [go_sem, tab177, hc, hl0]
theorem allB_v (hl : l.length < 1000000000) {d : Nat} (hg : kn.cf.pure g = true) (hg2 : kn.ali g = false) (ha : kn.args g = []) (hp : ∀ x ∈ l, vrun Try.prog kn d g [.int .u8 x] [] = some (.bool (p x), [])) :
    vrun Try.prog kn (d + 4) 136 [.ints .u8 l, .fn (.func g) [] []] [] = some (.bool (l.all p), []) := by
  have hg' := hg
  rw [k_cf] at hg'
  have h1 : ∀ x ∈ l, vrun Try.prog kn (d + 1) 170 (vnrmAs (kn.args 170) [.int .u8 x, .fptr [.fn (.func g) [] []]]) [] = some (.bool (!p x), []) := fun x hx => by
    have := hp x hx
    simp only [go_sem, k_args170]
    rw [vrun_v Try.func170 rfl rfl rfl]; simp only [Try.f170]
    simp (disch := omega) [go_sem, tab170, hg', hg2, ha, this]
  obtain ⟨v, hv, hany⟩ := ixfB_v (caps := [.fptr [.fn (.func g) [] []]]) hl (c_pure170) rfl (fun h => by simp [go_sem]) h1
  have e : l.all p = !decide (0 ≤ v) := by
    rw [hany, List.not_any_eq_all_not]; simp
  rw [e]
  have h2 : vrun Try.prog kn (d + 3) 169 [.ints .u8 l, .fn (.func 170) [] [.fptr [.fn (.func g) [] []]]] [] = some (.bool (decide (0 ≤ v)), []) := by
    rw [vrun_v Try.func169 rfl rfl rfl]; simp only [Try.f169]
    simp (disch := omega) [go_sem, tab169, hv]
  rw [vrun_v Try.func136 rfl rfl rfl]; simp only [Try.f136]
  simp (disch := omega) [go_sem, tab136, h2]
end

def digB (x : Int) : Bool := decide (48 ≤ x) && decide (x ≤ 57)
def areDigB (b : List Int) : Bool := decide (0 < b.length) && b.all digB
theorem dig_v (d : Nat) (x : Int) : vrun Try.prog kn (d + 1) 137 [.int .u8 x] [] = some (.bool (digB x), []) := by
  unfold digB
  by_cases h : 48 ≤ x
  all_goals
    rw [vrun_v Try.func137 rfl rfl rfl]; simp only [Try.f137]
    simp (disch := omega) [go_sem, tab137, h]
section
variable {b : List Int}
theorem areDigits_v (d : Nat) (hb : b.length < 1000000) : vrun Try.prog kn (d + 6) 85 [.ints .u8 b] [] = some (.bool (areDigB b), []) := by
  have h1 := fun d => allB_v (g := 137) (l := b) (p := digB) (d := d + 1) (by omega) c_pure137 rfl rfl (fun x _ => dig_v d x)
  unfold areDigB
  by_cases h : 0 < b.length
  · rw [vrun_v Try.func85 rfl rfl rfl]; simp only [Try.f85]
    simp (disch := omega) [go_sem, tab85, h1, h]
  · have : b = [] := List.eq_nil_of_length_eq_zero (by omega)
    subst this
    rw [vrun_v Try.func85 rfl rfl rfl]; simp only [Try.f85]
    simp (disch := omega) [go_sem, tab85]
theorem digs_of (h : areDigB b = true) : 0 < b.length ∧ ∀ x ∈ b, 48 ≤ x ∧ x ≤ 57 := by
  unfold areDigB at h
  rw [Bool.and_eq_true, decide_eq_true_eq, List.all_eq_true] at h
  refine ⟨h.1, fun x hx => ?_⟩
  have := h.2 x hx
  unfold digB at this
  simpa using this
theorem rdd_lt : ∀ {l : List Int}, (∀ x ∈ l, 48 ≤ x ∧ x ≤ 57) → ∀ v k : Nat, v < 10 ^ k → rdd v l < 10 ^ (k + l.length)
  | [], _, v, k, h => h
  | x :: r, hl, v, k, h => by
    have hx := hl x List.mem_cons_self
    have := rdd_lt (l := r) (fun y hy => hl y (List.mem_cons_of_mem _ hy)) (v * 10 + (x - 48).toNat) (k + 1) (by rw [Nat.pow_succ]; omega)
    rw [List.length_cons, show k + (r.length + 1) = k + 1 + r.length by omega]; exact this
theorem rdd_len {l : List Int} (hl : ∀ x ∈ l, 48 ≤ x ∧ x ≤ 57) : (D (rdd 0 l)).length ≤ l.length := by
  have h := rdd_lt hl 0 0 (by simp)
  rw [Nat.zero_add] at h
  exact len_D_le.2 (Nat.lt_of_lt_of_le h (Nat.pow_le_pow_left (by omega) _))
theorem rdd_100 {l : List Int} (hl : ∀ x ∈ l, 48 ≤ x ∧ x ≤ 57) (h4 : l.length ≤ 400) : (D (rdd 0 l)).length ≤ 100 := by
  have h := rdd_lt hl 0 0 (by simp)
  rw [Nat.zero_add] at h
  obtain ⟨k, hk⟩ : ∃ k : Nat, k = 100 := ⟨_, rfl⟩
  have h5 : (10 : Nat) ^ l.length ≤ 10 ^ (4 * k) := Nat.pow_le_pow_right (by omega) (by omega)
  have h6 : (10 : Nat) ^ (4 * k) ≤ 65536 ^ k := by rw [Nat.pow_mul]; exact Nat.pow_le_pow_left (by omega) k
  have h7 : (D (rdd 0 l)).length ≤ k := len_D_le.2 (Nat.lt_of_lt_of_le h (Nat.le_trans h5 h6))
  omega
def fdS (b : List Int) (j : Nat) : VE × VH := ([(3, some (.sl 0 0 (D (rdd 0 (b.take j))).length 1)), (6, some (.ints .u8 b)), (7, some (.int .i64 b.length)), (8, some (.int .i64 j))], [.ints true .i64 (D (rdd 0 (b.take j)))])
theorem fd_r (d : Nat) (hb : b.length ≤ 10000) (hl : ∀ x ∈ b, 48 ≤ x ∧ x ≤ 57) {j : Nat} (hj : j < b.length) : vCode Try.prog kn (vrun Try.prog kn (d + 2)) 86 (loopAt Try.f86 0) (fdS b j).1 (fdS b j).2 = some (.norm, fdS b (j + 1)) := by
  have hx := hl _ (gt_mem hj)
  have hlen := rdd_len (l := b.take j) (fun x hx => hl x (List.mem_of_mem_take hx))
  rw [List.length_take] at hlen
  have e1 : b.take (j + 1) = b.take j ++ [gt b j] := by rw [List.take_add_one, gt_some hj]; rfl
  have e2 : rdd 0 (b.take (j + 1)) = rdd 0 (b.take j) * 10 + (gt b j - 48).toNat := by rw [e1, rdd_snoc]
  unfold fdS
  rw [e2]
  generalize rdd 0 (b.take j) = v at *
  have hc : ((gt b j - 48).toNat : Int) = gt b j - 48 := by omega
  have l10 : (D 10).length ≤ 4 := len_small (by omega)
  have lc : (D (gt b j - 48).toNat).length ≤ 4 := len_small (by omega)
  have lm := len_mul v 10
  have a1 := fun d => small_v (n := 10) d (by omega)
  have a2 := fun d => times_v (x := v) (y := 10) d (by omega) (by omega)
  have a3 := fun d => small_v (n := (gt b j - 48).toNat) d (by omega)
  have a4 := fun d => plus_v (x := v * 10) (y := (gt b j - 48).toNat) d (by omega) (by omega)
  rw [hc] at a3
  rw [show ((10 : Nat) : Int) = 10 from rfl] at a1
  have hw : IntKind.wrap .u8 (gt b j - 48) = gt b j - 48 := by
    unfold IntKind.wrap; simp [IntKind.signed, IntKind.bits]; omega
  generalize D 10 = T at *
  generalize D (gt b j - 48).toNat = C at *
  generalize D (v * 10 + (gt b j - 48).toNat) = R at *
  generalize D (v * 10) = M at *
  generalize D v = V at *
  rw [round_v]; simp only [loopAt, nthC, bodyC, loops, List.nil_append, List.cons_append, List.append_nil, Try.f86]
  simp (implicitDefEqProofs := false) (disch := omega) [go_sem, tab86, nil86, a1, a2, a3, a4, hw]
theorem fd_x (call : CallV) (hb : b.length ≤ 10000) : vCode Try.prog kn call 86 (loopAt Try.f86 0) (fdS b b.length).1 (fdS b b.length).2 = some (.exit 0, (fdS b b.length).1 ++ [(9, some (.bool false))], (fdS b b.length).2) := by
  rw [round_v]; simp only [loopAt, nthC, bodyC, loops, List.nil_append, List.cons_append, List.append_nil, Try.f86, fdS]
  simp (implicitDefEqProofs := false) (disch := omega) [go_sem, tab86, nil86]
theorem fromDigits_v (d : Nat) (hb : b.length ≤ 10000) (hl : ∀ x ∈ b, 48 ≤ x ∧ x ≤ 57) : vrun Try.prog kn (d + 3) 86 [.ints .u8 b] [] = some (.sl 0 0 (D (rdd 0 b)).length 1, [.ints true .i64 (D (rdd 0 b))]) := by
  have hl0 := fun ks => loop_v (P := Try.prog) (K := kn) (ks := ks) (vi_for (fdS b) b.length (n := kn.cf.rounds) (by rw [k_cf, c_rounds]; omega) (fun j hj => fd_r (d + 0) hb hl hj) fun m => vi_exit (fd_x _ hb))
  have e0 : rdd 0 [] = 0 := rfl
  simp only [loopAt, nthC, bodyC, loops, List.nil_append, List.cons_append, List.append_nil, Try.f86, fdS, Int.natCast_zero, List.cons_append, List.nil_append, List.take_zero, List.take_length, e0, D_zero, List.length_nil] at hl0
  generalize D (rdd 0 b) = R at *
  rw [vrun_v Try.func86 rfl rfl rfl]; simp only [Try.f86]
  simp (implicitDefEqProofs := false) (disch := omega) [go_sem, tab86, nil86, hl0]
/-! ### NatRead, NatText -/
def rdOk (b : List Int) : Bool := decide (b.length ≤ 400) && areDigB b && !(decide (1 < b.length) && decide (gt b 0 = 48))
def rdR (b : List Int) : List Int := if rdOk b then D (rdd 0 b) else []
theorem rdR_len (b : List Int) : (rdR b).length ≤ 100 := by
  unfold rdR
  split
  · rename_i h
    unfold rdOk at h
    rw [Bool.and_eq_true, Bool.and_eq_true, decide_eq_true_eq] at h
    exact rdd_100 (digs_of h.1.2).2 h.1.1
  · simp
theorem NatRead_v (d : Nat) (hb : b.length < 1000000) : vrun Try.prog kn (d + 7) 25 [.ints .u8 b] [] = some (.tup [.agg [.sl 0 0 (rdR b).length 1], .bool (rdOk b)], [.ints true .i64 (rdR b)]) := by
  have a1 := fun d => areDigits_v d hb
  unfold rdR
  by_cases h4 : b.length ≤ 400
  · cases hd : areDigB b with
    | false =>
      rw [hd] at a1
      have hr : rdOk b = false := by unfold rdOk; rw [hd]; simp
      rw [hr]
      rw [vrun_v Try.func25 rfl rfl rfl]; simp only [Try.f25]
      simp (implicitDefEqProofs := false) (disch := omega) [go_sem, tab25, a1]
    | true =>
      rw [hd] at a1
      obtain ⟨h0, hl⟩ := digs_of hd
      by_cases hz : 1 < b.length ∧ gt b 0 = 48
      · have hr : rdOk b = false := by unfold rdOk; simp [hz.1, hz.2]
        have hz1 := hz.1
        have hz2 := hz.2
        rw [hr]
        rw [vrun_v Try.func25 rfl rfl rfl]; simp only [Try.f25]
        simp (implicitDefEqProofs := false) (disch := omega) [go_sem, tab25, a1, hz2]
      · have hr : rdOk b = true := by
          unfold rdOk
          rw [hd]
          by_cases h1 : 1 < b.length
          · have : ¬ gt b 0 = 48 := fun h => hz ⟨h1, h⟩
            simp [h4, this]
          · simp [h4, h1]
        have l1 := rdd_100 hl h4
        have a2 := fun d => fromDigits_v d (by omega) hl
        have a3 := fun d => natOf_v (l := D (rdd 0 b)) d (by omega)
        have e3 : fitL (D (rdd 0 b)) = D (rdd 0 b) := by unfold fitL; rw [if_pos l1]
        rw [e3, decide_eq_true l1] at a3
        rw [hr]
        generalize D (rdd 0 b) = R at *
        by_cases h1 : 1 < b.length
        · have h2 : ¬ gt b 0 = 48 := fun h => hz ⟨h1, h⟩
          rw [vrun_v Try.func25 rfl rfl rfl]; simp only [Try.f25]
          simp (implicitDefEqProofs := false) (disch := omega) [go_sem, tab25, a1, a2, a3, h2]
        · rw [vrun_v Try.func25 rfl rfl rfl]; simp only [Try.f25]
          simp (implicitDefEqProofs := false) (disch := omega) [go_sem, tab25, a1, a2, a3]
  · have hr : rdOk b = false := by unfold rdOk; simp [h4]
    rw [hr]
    rw [vrun_v Try.func25 rfl rfl rfl]; simp only [Try.f25]
    simp (implicitDefEqProofs := false) (disch := omega) [go_sem, tab25]
def txR (l : List Int) : List Int := if natOkB l then text (nN l) else []
theorem text_le {n : Nat} (h : (D n).length ≤ 100) : (text n).length ≤ 100000 := by
  by_cases h0 : n = 0
  · subst h0; simp [text]
  · rw [text_len h0]; have := nd_len (n := n) (by omega); omega
theorem txR_len (l : List Int) : (txR l).length ≤ 100000 := by
  unfold txR
  split
  · rename_i h; exact text_le (okN h).2
  · simp
theorem NatText_v (d : Nat) {l : List Int} (hl : l.length < 1000000000) : vrun Try.prog kn (d + 8) 24 [.agg [.ints .i64 l]] [] = some (.sl 0 0 (txR l).length 1, [.ints true .u8 (txR l)]) := by
  have a1 := fun d => NatOk_v d hl
  unfold txR
  cases h : natOkB l with
  | false =>
    rw [h] at a1
    rw [vrun_v Try.func24 rfl rfl rfl]; simp only [Try.f24]
    simp (implicitDefEqProofs := false) (disch := omega) [go_sem, tab24, nil24, a1]
  | true =>
    rw [h] at a1
    obtain ⟨e1, l1⟩ := okN h
    have a2 := fun d => digitsOf_v (n := nN l) d (by omega)
    have l2 := text_le l1
    rw [← e1] at a2
    simp only [if_true]
    generalize text (nN l) = T at *
    rw [vrun_v Try.func24 rfl rfl rfl]; simp only [Try.f24]
    simp (implicitDefEqProofs := false) (disch := omega) [go_sem, tab24, nil24, a1, a2]
/-! ### the reference's digits -/
def ltS (n j : Nat) : VE × VH := ([(1, some (.ptr 0 0)), (3, some (.sl 1 0 j 1))], [.vals true [.ints .i64 (D (n / 10 ^ j))], .ints true .u8 (lsd n j)])
theorem lt_r (d : Nat) {n j : Nat} (hn : (D n).length < 10000) (hj : j < nd n) : vCode Try.prog kn (vrun Try.prog kn (d + 2)) 87 (loopAt Try.f87 0) (ltS n j).1 (ltS n j).2 = some (.norm, ltS n (j + 1)) := by
  have hnd := nd_len hn
  have hp := nd_pos hj
  have hpos : 0 < n / 10 ^ j := Nat.div_pos hp (Nat.pow_pos (by omega))
  have hne : D (n / 10 ^ j) ≠ [] := fun h => by have := D_nil_iff.1 h; omega
  have hlp : 0 < (D (n / 10 ^ j)).length := List.length_pos_iff.2 hne
  have hle : (D (n / 10 ^ j)).length ≤ (D n).length := len_D_mono (Nat.div_le_self _ _)
  have a1 := l2small_v (z := n / 10 ^ j) (m := 10) d (by omega) (by omega) (by omega)
  rw [Nat.div_div_eq_div_mul, ← Nat.pow_succ, show ((10 : Nat) : Int) = 10 from rfl] at a1
  have hl := lsd_len n j
  have e1 : lsd n (j + 1) = lsd n j ++ [48 + ((n / 10 ^ j % 10 : Nat) : Int)] := by rw [lsd]; congr 2
  have hb : n / 10 ^ j % 10 < 10 := Nat.mod_lt _ (by omega)
  unfold ltS
  rw [e1]
  generalize n / 10 ^ j % 10 = r at *
  generalize D (n / 10 ^ (j + 1)) = Z at *
  generalize D (n / 10 ^ j) = X at *
  generalize lsd n j = L at *
  have htk : L.take j = L := List.take_of_length_le (by omega)
  have hw : IntKind.wrap .u8 (48 + (r : Int)) = 48 + (r : Int) := by
    unfold IntKind.wrap; simp [IntKind.signed, IntKind.bits]; omega
  clear hp hpos
  rw [round_v]; simp only [loopAt, nthC, bodyC, loops, List.nil_append, List.cons_append, List.append_nil, Try.f87]
  simp (implicitDefEqProofs := false) (disch := omega) [go_sem, tab87, nil87, a1, hne, hl, htk, hw]
theorem lt_x (call : CallV) {n : Nat} : vCode Try.prog kn call 87 (loopAt Try.f87 0) (ltS n (nd n)).1 (ltS n (nd n)).2 = some (.exit 0, (ltS n (nd n)).1 ++ [(17, some (.bool false))], (ltS n (nd n)).2) := by
  have e : D (n / 10 ^ nd n) = [] := by rw [nd_div (Nat.le_refl _), D_zero]
  unfold ltS
  rw [e]
  rw [round_v]; simp only [loopAt, nthC, bodyC, loops, List.nil_append, List.cons_append, List.append_nil, Try.f87]
  simp (implicitDefEqProofs := false) (disch := omega) [go_sem, tab87, nil87]
def lrS (L : List Int) (j : Nat) : VE × VH := ([(3, some (.sl 0 0 L.length 1)), (6, some (.sl 1 0 j 1)), (7, some (.int .i64 ((L.length : Int) - 1 - j)))], [.ints true .u8 L, .ints true .u8 (L.reverse.take j)])
theorem lr_r (call : CallV) {L : List Int} {j : Nat} (hL : L.length < 1000000) (hj : j < L.length) : vCode Try.prog kn call 87 (loopAt Try.f87 1) (lrS L j).1 (lrS L j).2 = some (.norm, lrS L (j + 1)) := by
  have e1 : L.reverse.take (j + 1) = L.reverse.take j ++ [gt L (L.length - 1 - j)] := by
    rw [List.take_add_one, List.getElem?_reverse hj, gt_some (by omega)]; rfl
  have hl : (L.reverse.take j).length = j := by simp; omega
  have e2 : ((L.length : Int) - 1 - j).toNat = L.length - 1 - j := by omega
  have e3 : (L.length : Int) - 1 - ((j + 1 : Nat) : Int) = (L.length : Int) - 1 - j - 1 := by omega
  unfold lrS
  rw [e1, e3]
  generalize L.reverse.take j = M at *
  have htk : M.take j = M := List.take_of_length_le (by omega)
  rw [round_v]; simp only [loopAt, nthC, bodyC, loops, List.nil_append, List.cons_append, List.append_nil, Try.f87]
  simp (implicitDefEqProofs := false) (disch := omega) [go_sem, tab87, nil87, hl, htk, e2]
theorem lr_x (call : CallV) {L : List Int} (hL : L.length < 1000000) : vCode Try.prog kn call 87 (loopAt Try.f87 1) (lrS L L.length).1 (lrS L L.length).2 = some (.exit 2, (lrS L L.length).1 ++ [(34, some (.bool false))], (lrS L L.length).2) := by
  rw [round_v]; simp only [loopAt, nthC, bodyC, loops, List.nil_append, List.cons_append, List.append_nil, Try.f87, lrS]
  simp (implicitDefEqProofs := false) (disch := omega) [go_sem, tab87, nil87]
theorem l2text_v (d : Nat) {n : Nat} (hn : (D n).length < 10000) : vrun Try.prog kn (d + 3) 87 [.agg [.ints .i64 (D n)]] [] = some (.sl 0 0 (text n).length 1, [.ints true .u8 (text n)]) := by
  by_cases h0 : n = 0
  · subst h0
    rw [D_zero]
    unfold text
    rw [if_pos rfl]
    rw [vrun_v Try.func87 rfl rfl rfl]; simp only [Try.f87]
    simp (implicitDefEqProofs := false) (disch := omega) [go_sem, tab87, nil87]
  · have hnd := nd_len hn
    have hl0 := fun ks => loop_v (P := Try.prog) (K := kn) (ks := ks) (vi_for (ltS n) (nd n) (n := kn.cf.rounds) (by rw [k_cf, c_rounds]; omega) (fun j hj => lt_r (d + 0) hn hj) fun m => vi_exit (lt_x _))
    have e0 : D (n / 10 ^ 0) = D n := by rw [Nat.pow_zero, Nat.div_one]
    have e1 : D (n / 10 ^ nd n) = [] := by rw [nd_div (Nat.le_refl _), D_zero]
    have hlen := lsd_len n (nd n)
    have htx : text n = (lsd n (nd n)).reverse := by unfold text; rw [if_neg h0]
    simp only [loopAt, nthC, bodyC, loops, List.nil_append, List.cons_append, List.append_nil, Try.f87, ltS, Int.natCast_zero, List.cons_append, List.nil_append, e0, e1, lsd] at hl0
    rw [htx]
    generalize lsd n (nd n) = L at *
    have hl1 := fun ks => loop_v (P := Try.prog) (K := kn) (ks := ks) (vi_for (lrS L) L.length (n := kn.cf.rounds) (by rw [k_cf, c_rounds]; omega) (fun j hj => lr_r (vrun Try.prog kn (d + 0 + 2)) (by omega) hj) fun m => vi_exit (lr_x _ (by omega)))
    have htk : L.reverse.take L.length = L.reverse := List.take_of_length_le (by simp)
    simp only [loopAt, nthC, bodyC, loops, List.nil_append, List.cons_append, List.append_nil, Try.f87, lrS, Int.natCast_zero, Int.sub_zero, List.cons_append, List.nil_append, List.take_zero, htk] at hl1
    have hne : D n ≠ [] := fun h => h0 (D_nil_iff.1 h)
    have hlp : 0 < (D n).length := List.length_pos_iff.2 hne
    clear e0 e1 htx
    rw [← hlen] at hl0
    generalize D n = Z at *
    rw [vrun_v Try.func87 rfl rfl rfl]; simp only [Try.f87]
    simp (implicitDefEqProofs := false) (disch := omega) [go_sem, tab87, nil87, hl0, hl1, hne, htk]
end
end
/- Whole numbers read, program. No conditions. -/
section
open Num
def cutF (b : List Int) : List Int × Bool := if gt b 0 = 43 ∨ gt b 0 = 45 then (b.tail, decide (gt b 0 = 45)) else (b, false)
section
variable {b : List Int}
theorem cutSign_v (d : Nat) (hl : b.length < 1000000) : vrun Try.prog kn (d + 1) 117 [.ints .u8 b] [] = some (.tup [.ints .u8 (cutF b).1, .bool (cutF b).2], []) := by
  unfold cutF
  by_cases h0 : b = []
  · subst h0
    have e : ¬ (gt [] 0 = 43 ∨ gt [] 0 = 45) := by decide
    rw [if_neg e]
    rw [vrun_v Try.func117 rfl rfl rfl]; simp only [Try.f117]
    simp (implicitDefEqProofs := false) (disch := omega) [go_sem, tab117, nil117]
  · have hp : 0 < b.length := List.length_pos_iff.2 h0
    have ht : b.tail.take (b.length - 1) = b.tail := List.take_of_length_le (by rw [List.length_tail]; exact Nat.le_refl _)
    by_cases c1 : gt b 0 = 43
    · rw [if_pos (.inl c1)]
      rw [vrun_v Try.func117 rfl rfl rfl]; simp only [Try.f117]
      simp (implicitDefEqProofs := false) (disch := omega) [go_sem, tab117, nil117, c1, h0, ht]
    · by_cases c2 : gt b 0 = 45
      · rw [if_pos (.inr c2)]
        rw [vrun_v Try.func117 rfl rfl rfl]; simp only [Try.f117]
        simp (implicitDefEqProofs := false) (disch := omega) [go_sem, tab117, nil117, c2, h0, ht]
      · rw [if_neg (fun h => h.elim c1 c2)]
        rw [vrun_v Try.func117 rfl rfl rfl]; simp only [Try.f117]
        simp (implicitDefEqProofs := false) (disch := omega) [go_sem, tab117, nil117, c1, c2, h0]
def wrF (b : List Int) : Bool := decide (b.length ≤ 400) && areDigB (cutF (plainF b)).1 && wfitB (sg (cutF (plainF b)).2 (rdd 0 (cutF (plainF b)).1))
def wrT (b : List Int) : WhT := if decide (b.length ≤ 400) && areDigB (cutF (plainF b)).1 then wfit (sg (cutF (plainF b)).2 (rdd 0 (cutF (plainF b)).1)) else ⟨false, []⟩
theorem wrT_len (b : List Int) : (wrT b).l.length ≤ 100 := by
  unfold wrT
  split
  · exact wfit_len _
  · simp
theorem plainF_len (b : List Int) : (plainF b).length ≤ 4 * b.length := Nat.le_trans (flat_len4 _) (Nat.mul_le_mul_left 4 (runesF_len b))
theorem cutF_len (b : List Int) : (cutF b).1.length ≤ b.length := by
  unfold cutF
  split
  · rw [List.length_tail]; omega
  · exact Nat.le_refl _
set_option maxHeartbeats 1000000 in
theorem WholeRead_v (d : Nat) (hl : b.length < 1000000000) (hb : ∀ x ∈ b, 0 ≤ x ∧ x < 256) : vrun Try.prog kn (d + 7) 61 [.ints .u8 b] [] = some (.tup [.agg [.bool (wrT b).neg, .sl 0 0 (wrT b).l.length 1], .bool (wrF b)], [.ints true .i64 (wrT b).l]) := by
  unfold wrF wrT
  by_cases h4 : b.length ≤ 400
  · have a1 := fun d => Plain_v (b := b) d h4 hb
    have l1 := plainF_len b
    have l2 := cutF_len (plainF b)
    have a2 := fun d => cutSign_v (b := plainF b) d (by omega)
    have a3 := fun d => areDigits_v (b := (cutF (plainF b)).1) d (by omega)
    rw [decide_eq_true h4]
    generalize plainF b = p at *
    generalize (cutF p).2 = ng at *
    generalize (cutF p).1 = q at *
    cases hd : areDigB q with
    | false =>
      rw [hd] at a3
      rw [vrun_v Try.func61 rfl rfl rfl]; simp only [Try.f61]
      simp (implicitDefEqProofs := false) (disch := omega) [go_sem, tab61, a1, a2, a3]
    | true =>
      rw [hd] at a3
      obtain ⟨_, hq⟩ := digs_of hd
      have a4 := fun d => fromDigits_v (b := q) d (by omega) hq
      have l3 := rdd_len hq
      have a5 := fun d => wholeZ_v (n := ng) (v := rdd 0 q) d rfl (by omega)
      have l4 := wfit_len (sg ng (rdd 0 q))
      generalize wfit (sg ng (rdd 0 q)) = W at *
      generalize wfitB (sg ng (rdd 0 q)) = F at *
      generalize D (rdd 0 q) = Z at *
      simp only [Bool.true_and, if_true]
      clear hq hd hb
      rw [vrun_v Try.func61 rfl rfl rfl]; simp only [Try.f61]
      simp (implicitDefEqProofs := false) (disch := omega) [go_sem, tab61, a1, a2, a3, a4, a5]
  · rw [decide_eq_false h4]
    rw [vrun_v Try.func61 rfl rfl rfl]; simp only [Try.f61]
    simp (implicitDefEqProofs := false) (disch := omega) [go_sem, tab61]
def wtxR (w : WhT) : List Int := if w.neg then 45 :: text (nN w.l) else text (nN w.l)
theorem signedText_t (d : Nat) (hl : b.length < 1000000) {A : VO} : vrun Try.prog kn (d + 1) 121 [.bool true, .sl 1 0 b.length 1] [A, .ints false .u8 b] = some (.sl 3 0 (1 + b.length) 1, [A, .ints false .u8 b, .dead, .ints true .u8 (45 :: b)]) := by
  have htk : List.take (1 + b.length) (45 :: b) = 45 :: b := List.take_of_length_le (by rw [List.length_cons]; omega)
  have w1 := wu8' (x := 45) (by omega) (by omega)
  rw [vrun_v Try.func121 rfl rfl rfl]; simp only [Try.f121]
  simp (implicitDefEqProofs := false) (disch := omega) [go_sem, tab121, nil121, htk, w1]
theorem signedText_f (d : Nat) (hl : b.length < 1000000) {A : VO} : vrun Try.prog kn (d + 1) 121 [.bool false, .sl 1 0 b.length 1] [A, .ints false .u8 b] = some (.sl 1 0 b.length 1, [A, .ints false .u8 b]) := by
  rw [vrun_v Try.func121 rfl rfl rfl]; simp only [Try.f121]
  simp (implicitDefEqProofs := false) (disch := omega) [go_sem, tab121, nil121]
variable {a : WhT}
def wtx (a : WhT) : List Int := if wOk a then wtxR a else []
theorem WholeText_v (d : Nat) (ha : a.l.length < 1000000000) : vrun Try.prog kn (d + 9) 67 [.agg [.bool a.neg, .ints .i64 a.l]] [] = some (.sl 0 0 (wtx a).length 1, [.ints true .u8 (wtx a)]) := by
  have h1 := fun d => WholeOk_v d a.neg ha
  change ∀ d, _ = some (V.bool (wOk a), []) at h1
  unfold wtx wtxR
  cases h : wOk a with
  | false =>
    rw [h] at h1
    rw [vrun_v Try.func67 rfl rfl rfl]; simp only [Try.f67]
    simp (implicitDefEqProofs := false) (disch := omega) [go_sem, tab67, nil67, h1]
  | true =>
    rw [h] at h1
    obtain ⟨_, _, e1, l1, _⟩ := wOk_t h
    have a2 := fun d => digitsOf_v (n := nN a.l) d (by omega)
    have l2 := text_le l1
    rw [← e1] at a2
    simp only [if_true]
    generalize text (nN a.l) = T at *
    have a3 := fun A d => signedText_t (b := T) (A := A) d (by omega)
    have a4 := fun A d => signedText_f (b := T) (A := A) d (by omega)
    generalize a.neg = n at *
    have htk : List.take (1 + T.length) (45 :: T) = 45 :: T := List.take_of_length_le (by rw [List.length_cons]; omega)
    cases n
    · rw [vrun_v Try.func67 rfl rfl rfl]; simp only [Try.f67]
      simp (implicitDefEqProofs := false) (disch := omega) [go_sem, tab67, nil67, h1, a2, a4]
    · rw [vrun_v Try.func67 rfl rfl rfl]; simp only [Try.f67]
      simp (implicitDefEqProofs := false) (disch := omega) [go_sem, tab67, nil67, h1, a2, a3, htk]
end
end
/- Plain mathematics of whole numbers' texts: they are read back. No conditions. -/
section
open Num
def okC (x : Int) : Prop := x = 45 ∨ (48 ≤ x ∧ x ≤ 57)
theorem plF_ok {x : Int} (h : okC x) : plF x = [x] := by
  have : x = 45 ∨ x = 48 ∨ x = 49 ∨ x = 50 ∨ x = 51 ∨ x = 52 ∨ x = 53 ∨ x = 54 ∨ x = 55 ∨ x = 56 ∨ x = 57 := by unfold okC at h; omega
  rcases this with rfl | rfl | rfl | rfl | rfl | rfl | rfl | rfl | rfl | rfl | rfl <;> decide
theorem runesF_ok : ∀ {b : List Int}, (∀ x ∈ b, okC x) → runesF b = b
  | [], _ => rfl
  | x :: r, h => by
    have hx := h x List.mem_cons_self
    have h1 : gt (x :: r) 0 < 128 := by show x < 128; unfold okC at hx; omega
    have e : runeF (x :: r) = (x, 1) := by unfold runeF; rw [if_pos h1]; rfl
    rw [runesF_cons (by simp), e]
    show x :: runesF r = x :: r
    rw [runesF_ok fun y hy => h y (List.mem_cons_of_mem _ hy)]
theorem flat_ok : ∀ {b : List Int}, (∀ x ∈ b, okC x) → b.flatMap plF = b
  | [], _ => rfl
  | x :: r, h => by
    rw [List.flatMap_cons, plF_ok (h x List.mem_cons_self), flat_ok fun y hy => h y (List.mem_cons_of_mem _ hy)]; rfl
theorem plainF_ok {b : List Int} (h : ∀ x ∈ b, okC x) : plainF b = b := by unfold plainF; rw [runesF_ok h, flat_ok h]
theorem wtx_ok {a : WhT} : ∀ x ∈ wtxR a, okC x := by
  intro x hx
  unfold wtxR at hx
  split at hx
  · rcases List.mem_cons.1 hx with rfl | hx
    · exact .inl rfl
    · exact .inr (text_bd _ x hx)
  · exact .inr (text_bd _ x hx)
theorem cut_wtx (a : WhT) : cutF (wtxR a) = (text (nN a.l), a.neg) := by
  unfold wtxR cutF
  cases a.neg with
  | true => rfl
  | false =>
    have hp := text_pos (nN a.l)
    have hg := text_bd (nN a.l) _ (gt_mem hp)
    have : ¬ (gt (text (nN a.l)) 0 = 43 ∨ gt (text (nN a.l)) 0 = 45) := by omega
    simp only [Bool.false_eq_true, if_false]
    rw [if_neg this]
theorem areDig_text (n : Nat) : areDigB (text n) = true := by
  unfold areDigB
  rw [decide_eq_true (text_pos n)]
  exact List.all_eq_true.2 fun x hx => by have := text_bd n x hx; unfold digB; simp; omega
/-- What is written is read. -/
theorem rd_wtx {a : WhT} (h : wOk a = true) (h4 : (wtxR a).length ≤ 400) : wrF (wtxR a) = true ∧ wrT (wtxR a) = a := by
  obtain ⟨e, l1, _, _, _⟩ := wOk_t h
  have hz : sg a.neg (rdd 0 (text (nN a.l))) = a.z := by rw [rdd_text]; rfl
  have hf : wfitB a.z = true := by unfold wfitB; exact decide_eq_true l1
  unfold wrF wrT
  rw [plainF_ok wtx_ok, cut_wtx, decide_eq_true h4]
  simp only [areDig_text, hz, Bool.true_and, if_true]
  refine ⟨hf, ?_⟩
  unfold wfit
  rw [hf]
  exact e.symm
theorem wtx_byte {a : WhT} : ∀ x ∈ wtxR a, 0 ≤ x ∧ x < 256 := fun x hx => by have := wtx_ok x hx; unfold okC at this; omega
theorem wtx_len {a : WhT} (h : wOk a = true) : (wtxR a).length ≤ 100001 := by
  obtain ⟨_, _, _, l1, _⟩ := wOk_t h
  have := text_le l1
  unfold wtxR
  split
  · rw [List.length_cons]; omega
  · omega
end
/- The reference's whole numbers of the machine; dyadics of a whole number and a power. No conditions. -/
section
open Num
theorem wholeOk_D {a : Nat} {w : Bool} (ha : (D a).length ≤ 100) (hw : a = 0 → w = false) : wholeOkB w (D a) = true := by
  unfold wholeOkB
  rw [natOkB_D]
  by_cases h0 : a = 0
  · rw [hw h0]; simp [ha]
  · have : ¬ (D a).length = 0 := fun h => h0 (D_nil_iff.1 (List.eq_nil_of_length_eq_zero h))
    simp [this, ha]
end
/- Whole numbers drawn, bent. No conditions. -/
section
open Num
section
variable {h : VH} {b : List Int} {i : Nat}
/-- Digits as a value. -/
def Dg (g : VH) (m : Nat) (x : V) (l : List Int) : Prop := x = .ints .i64 l ∨ (x = .nil ∧ l = []) ∨ ∃ k, x = .sl k 0 l.length 1 ∧ m < k ∧ g[k]? = some (.ints true .i64 l)
theorem set_at {g : VH} {q : Nat} {o : VO} (hq : g[q]? = some o) (X : VO) : (g.set q X)[q]? = some X := by
  have := (List.getElem?_eq_some_iff.1 hq).1
  simp [this]
theorem set_ne {g : VH} {q p : Nat} (h : q ≠ p) (X : VO) : (g.set q X)[p]? = g[p]? := List.getElem?_set_ne h
theorem l3draw_v (d : Nat) (hb : Cod b) (hc : Cu b i h) : ∃ (n : Bool) (a : Nat) (g : VH), vrun Try.prog kn (d + 6) 115 [.ptr i 0] h = some (.agg [.bool n, .ints .i64 (D a)], g) ∧ (a = 0 → n = false) ∧ (D a).length ≤ 100 ∧ Cu b i g ∧ Frm i h g := by
  obtain ⟨x1, g1, e1, q1, f1, l1⟩ := l1Once_v (d + 2) hb (hc.app [.vals true [.bool false, .nil]]) (n := 2) (by omega) (by omega)
  obtain ⟨v, k, g2, e2, hn, q2, f2, hk, hk0⟩ := l2draw_v (d + 0) hb q1
  have hi := hc.lt
  have hg1 : g1[h.length]? = some (.vals true [.bool false, .nil]) := f1.at (by simp) (by omega)
  have hg2 := f2.at hg1 (by omega)
  have hp3 : (g2.modify k VO.ro)[h.length]? = some (.vals true [.bool false, .nil]) := by rw [mod_ne (by have := (List.getElem?_eq_some_iff.1 hg1).1; omega)]; exact hg2
  have hset := set_at hp3
  have a3 := fun d => l3make_v (n := x1) (a := v) d (by omega)
  have hlt1 := (List.getElem?_eq_some_iff.1 hg1).1
  refine ⟨x1 && decide (v ≠ 0), v, (g2.modify k VO.ro).set h.length (.vals true [.bool (x1 && decide (v ≠ 0)), .ints .i64 (D v)]), ?_, fun h => by simp [h], hn, (q2.modne (by omega)).setne (by omega) _, set_fr (mod_fr (((Frm.app _ _ _).trans f1).trans f2) (by omega)) (Nat.le_refl _)⟩
  generalize D v = R at *
  generalize (x1 && decide (v ≠ 0)) = B at *
  clear hlt1
  rw [vrun_v Try.func115 rfl rfl rfl]; simp only [Try.f115]
  simp (implicitDefEqProofs := false) (disch := omega) [go_sem, tab115, e1, e2, a3, hk0, hg2, hp3, hset]
theorem l3bent_v (d : Nat) (hb : Cod b) (hc : Cu b i h) : ∃ (n : Bool) (x : V) (l : List Int) (g : VH), vrun Try.prog kn (d + 7) 120 [.ptr i 0] h = some (.agg [.bool n, x], g) ∧ l.length ≤ 101 ∧ Dg g h.length x l ∧ Cu b i g ∧ Frm i h g := by
  obtain ⟨n, a, g0, e0, hna, hn, q0, f0⟩ := l3draw_v (d + 0) hb (hc.app [.vals true [.bool false, .nil]])
  have hi := hc.lt
  have hg0 : g0[h.length]? = some (.vals true [.bool false, .nil]) := f0.at (by simp) (by omega)
  have hl0 := (List.getElem?_eq_some_iff.1 hg0).1
  obtain ⟨x1, g1, e1, q1, f1, l1⟩ := l1Once_v (d + 3) hb (q0.app [.vals true [.bool n, .ints .i64 (D a)]]) (n := 9) (by omega) (by omega)
  have hq1 : g1[h.length]? = some (.vals true [.bool false, .nil]) := f1.at (gap hg0 _) (by omega)
  have hp1 : g1[g0.length]? = some (.vals true [.bool n, .ints .i64 (D a)]) := f1.at (last_at _ _) (by omega)
  have f01 : Frm i h g1 := (((Frm.app _ _ _).trans f0).trans (Frm.app _ _ _)).trans f1
  cases x1
  · have s1 := set_at hq1
    refine ⟨n, .ints .i64 (D a), D a, g1.set h.length (.vals true [.bool n, .ints .i64 (D a)]), ?_, by omega, .inl rfl, q1.setne (by omega) _, set_fr f01 (Nat.le_refl _)⟩
    generalize D a = R at *
    clear hl0
    rw [vrun_v Try.func120 rfl rfl rfl]; simp only [Try.f120]
    simp (implicitDefEqProofs := false) (disch := omega) [go_sem, tab120, e0, e1, hq1, hp1, s1, last_at]
  · obtain ⟨x2, g2, e2, q2, f2, l2⟩ := l1Once_v (d + 3) hb q1 (n := 2) (by omega) (by omega)
    have hq2 := f2.at hq1 (by omega)
    have hp2 := f2.at hp1 (by omega)
    cases x2
    · obtain ⟨l, k, g3, e3, hl, q3, f3, hk, hk3, -⟩ := l2bent_v (d + 0) hb q2
      have hq3 := f3.at hq2 (by omega)
      have hp3 := f3.at hp2 (by omega)
      have hl2 := (List.getElem?_eq_some_iff.1 hp2).1
      have s1 := set_at hp3
      have s2 : ∀ X, (g3.set g0.length X)[h.length]? = some (.vals true [.bool false, .nil]) := fun X => by rw [set_ne (by omega)]; exact hq3
      have s3 := fun X => set_at (s2 X)
      refine ⟨n, .sl k 0 l.length 1, l, (g3.set g0.length (.vals true [.bool n, .sl k 0 l.length 1])).set h.length (.vals true [.bool n, .sl k 0 l.length 1]), ?_, hl, .inr (.inr ⟨k, rfl, by omega, by rw [set_ne (by omega), set_ne (by omega)]; exact hk3⟩), (q3.setne (by omega) _).setne (by omega) _, set_fr (set_fr ((f01.trans f2).trans f3) (by omega)) (Nat.le_refl _)⟩
      clear hl0 hl2
      generalize D a = R at *
      rw [vrun_v Try.func120 rfl rfl rfl]; simp only [Try.f120]
      simp (implicitDefEqProofs := false) (disch := omega) [go_sem, tab120, e0, e1, e2, e3, hp3, s1, s2, s3, last_at]
    · have s1 := set_at hq2
      refine ⟨true, .nil, [], g2.set h.length (.vals true [.bool true, .nil]), ?_, by simp, .inr (.inl ⟨rfl, rfl⟩), q2.setne (by omega) _, set_fr (f01.trans f2) (Nat.le_refl _)⟩
      clear hl0
      generalize D a = R at *
      rw [vrun_v Try.func120 rfl rfl rfl]; simp only [Try.f120]
      simp (implicitDefEqProofs := false) (disch := omega) [go_sem, tab120, e0, e1, e2, hq2, s1, last_at]
end
end
/- Equality of whole numbers, laws. No conditions. -/
section
open Num
section
variable {a b : List Int}
theorem sameWhole_v (d : Nat) {n1 n2 : Bool} (ha : a.length < 1000000000) (hb : b.length < 1000000000) : vrun Try.prog kn (d + 2) 35 [.agg [.bool n1, .ints .i64 a], .agg [.bool n2, .ints .i64 b]] [] = some (.bool (decide (n1 = n2) && decide (a = b)), []) := by
  have h1 := fun d => sameNat_v d ha hb
  by_cases h : a = b <;> simp only [h, decide_true, decide_false, Bool.and_true, Bool.and_false] at h1 ⊢
  all_goals
    rw [vrun_v Try.func35 rfl rfl rfl]; simp only [Try.f35]
    cases n1 <;> cases n2 <;> simp (disch := omega) [go_sem, tab35, h1]
end
end
/- The laws' types as values. No conditions. -/
section
open Go.Proofs Num
def DyT.row (x : DyT) : Prop := x.l.length ≤ 9223372036854775807 ∧ (∀ y ∈ x.l, (Lit.int .i64 y).wf = true) ∧ (Lit.int .i64 x.e).wf = true
def TInt (vs : List V) : Prop := ∃ x : Int, vs = [.int .i64 x] ∧ (Lit.int .i64 x).wf = true
def TBool (vs : List V) : Prop := ∃ x : Bool, vs = [.bool x]
def TInts (vs : List V) : Prop := ∃ l : List Int, vs = [.ints .i64 l] ∧ l.length ≤ 9223372036854775807 ∧ ∀ x ∈ l, (Lit.int .i64 x).wf = true
def TDys (vs : List V) : Prop := ∃ ds : List DyT, vs = [.cells 3 ds.length (flat DyT.v ds)] ∧ ds.length ≤ 9223372036854775807 ∧ ∀ x ∈ ds, x.row
theorem opInt : OpV Try.prog 3 1 TInt := OpV.int Try.underlying3 (by kernel_rfl)
theorem opBool : OpV Try.prog 4 1 TBool := OpV.bool Try.underlying4 (by kernel_rfl)
theorem opInts : OpV Try.prog 24 1 TInts := OpV.ints Try.underlying24 (by kernel_rfl) Try.underlying3 (by kernel_rfl)
theorem opBytes : OpV Try.prog 22 1 (fun vs => ∃ l : List Int, vs = [.ints .u8 l] ∧ l.length ≤ 9223372036854775807 ∧ ∀ x ∈ l, (Lit.int .u8 x).wf = true) := OpV.ints Try.underlying22 (by kernel_rfl) Try.underlying5 (by kernel_rfl)
theorem opNat : OpV Try.prog 52 1 TInts := OpV.struct1 Try.underlying52 (by kernel_rfl) rfl opInts
theorem opWhole : OpV Try.prog 64 2 (fun vs => ∃ (n : Bool) (l : List Int), vs = [.bool n, .ints .i64 l] ∧ l.length ≤ 9223372036854775807 ∧ ∀ x ∈ l, (Lit.int .i64 x).wf = true) :=
  (OpV.struct2 Try.underlying64 (by kernel_rfl) rfl rfl opBool opNat).imp fun vs ⟨_, _, e, ⟨n, e1⟩, ⟨l, e2, h1, h2⟩⟩ => ⟨n, l, by rw [e, e1, e2]; rfl, h1, h2⟩
end
end Go.Eng
