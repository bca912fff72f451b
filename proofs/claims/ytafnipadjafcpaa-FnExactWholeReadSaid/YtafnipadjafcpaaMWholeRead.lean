/- What the functions of this seat do, one after another, told by plain values. No conditions. -/
import Derived.Test.YtafnipadjafcpaaSeat
import Derived.Test.YtafnipadjafcpaaVb
import Derived.Test.YtafnipadjafcpaaT3
set_option linter.unusedVariables false
set_option linter.unusedSimpArgs false
namespace Go.Eng
open Go.Proofs
set_option maxRecDepth 100000
set_option linter.unusedSimpArgs false
attribute [local go_sem] r_seq r_skip r_retC r_exitC r_label r_block r_region r_regionW r_xWt r_xW r_cond r_Bt r_Bf r_Ncode r_Nret r_Nexit r_Nblk r_Nblkr r_Nblke r_Nnil r_Es r_Onil r_Oop r_Oif r_Xs r_Gt r_Gf r_wtt r_wtf r_wft r_wff r_wu r_gO r_putS r_putN r_get r_keepN r_keepC r_fr r_fn r_fi r_ff r_fo r_l1 r_l2t r_cun r_cul r_cub r_cui r_cus r_cuis r_cuc r_cusl r_cuti r_cutv r_ven r_vec r_l2f r_l3 r_t1 r_t2 r_t0 r_rt r_rc r_en r_ec r_cM r_oN r_oC r_end r_endt r_endf r_nob0 r_nobN r_nobC r_nobE r_nb0 r_nbi r_nbs r_nbsl r_nbin r_nbce r_nLn r_nLv r_nLc r_nAa r_nAn r_nAk_b r_nAk_i r_nAk_s r_nAk_n r_nAk_is r_nAk_ce r_nAk_fp r_nAk_sl r_nAk_pt r_nAk_fn r_nsn r_nsv r_nsc r_m0 r_mi r_ms r_msl r_min r_mce r_mLn r_mLv r_mLc r_mAa r_mAn r_mAk_b r_mAk_i r_mAk_s r_mAk_n r_mAk_is r_mAk_ce r_mAk_fp r_mAk_sl r_mAk_pt r_mAk_fn r_msn r_msv r_msc r_atb r_ati r_ats r_atn r_atis r_atc r_atf r_atl r_atp r_atfn r_gcn r_gcc r_gLn r_gLc r_gIt r_ndn r_ndc r_gcB r_gLB r_two r_rea r_rea0 r_re1n r_re1c r_ori r_orv r_ord r_orn r_adn r_adc r_ad1 r_ern r_ers r_er0 r_rsl r_rptr r_rb r_ri r_rs r_rn r_ris r_rce r_rfp r_ra4 r_ra3 r_rt4 r_rf4 r_rf3 r_idS r_idc r_nS r_nP r_nF r_nT r_vsl r_vptr r_vb r_vi r_vs r_vn r_vis r_vce r_vfp r_va4 r_va3 r_vt4 r_vf4 r_vf3 r_rV r_Oi r_Ov r_Od r_rE r_rE0 r_En r_Ec r_E0 r_pO r_pk r_agL r_cO r_fO r_fSi r_fSv r_fPv r_fsl r_fptr r_ffn r_fag r_fb r_fint r_fstr r_fnil r_fis r_fce r_ffp r_res r_move r_assign r_pick r_pickt r_pickf r_alloc r_box r_al r_build r_bslice r_load r_store r_nlc r_nl1 r_nl2 r_bin r_un r_conv r_mkf r_mks r_slc r_fad r_fld r_iad r_idx r_ext r_ex1 r_callf r_callt r_callen r_calapp r_calmax r_calmin r_vt r_vcb r_vci r_vcs r_vcnp r_vcn r_vca r_vcf r_vcg r_ofb r_ofi r_ofs r_ofn r_evs r_pn r_prt r_pc r_one_a r_one_b r_one_i r_one_s r_one_n r_one_is r_one_ce r_one_fp r_one_sl r_one_pt r_one_fn r_cs_a r_cs_b r_cs_i r_cs_s r_cs_n r_cs_is r_cs_ce r_cs_fp r_cs_sl r_cs_pt r_cs_fn r_tov r_tovA r_toc r_toa r_tb r_ti r_ts r_tn r_bd r_bd2 r_filn r_fp1 r_filc r_fsn r_fsc r_san r_sac r_bs2 r_bs1 r_newO r_mkq r_mkI r_mkOi r_mkOv r_tIn r_tIc r_repz r_repn r_ldp r_ldf r_l1t r_l1f r_lFt r_lFf r_aggO r_obj r_at r_ati' r_atv r_celli r_cellv r_subi r_subv r_sto r_sto1 r_sto2 r_sets r_setR r_setn r_setc r_s1i r_s1v r_bin1 r_bin2 r_tv1 r_cb r_ci r_cst r_cn r_csl r_cis r_cce r_uni r_unb r_cv r_cvO r_cvN r_cv0 r_cvS r_wB r_cvi r_cvs r_cvb r_cvl r_sO r_rdn r_rdi r_rdl r_rdO r_vsub r_vfn r_mk r_mk1 r_mk2 r_zoi r_zov r_leni r_lenv r_bn r_bndV r_bo r_sl0 r_sl1 r_vsz r_ct1 r_cts r_cti r_ctc r_ctn r_lnl r_lni r_lnc r_lnn r_fa r_fap r_faf r_fi1 r_fit r_fif r_ixi r_ixs r_ixc r_ixf r_ixF r_ixF2 r_ix1 r_ixsl r_ixin r_ixce r_len1 r_lenA r_lTs r_lTn r_lTl r_lTi r_lTc r_app0 r_app r_app1 r_app2 r_app3 r_catO r_cati r_catv r_newt r_newf r_pair r_pairK r_trip r_kis r_kiv r_srn r_srl r_sri r_src r_srs r_oln r_oll r_vw r_wi r_wv r_mm r_max r_min' r_str r_cF r_c2t r_c3f r_c3t r_ab r_c2f r_cV r_p1 r_la r_la2t r_la2f r_la3 r_sh r_z_is r_z_ce r_z_fp r_z_b r_z_i r_z_s r_z_n r_z_l r_z_p r_z_a4 r_z_a3 r_z_t4 r_zoI r_zoV r_roN r_roC r_roi r_rod r_zod r_rov r_aR r_trOi r_trOv r_trPv r_trl r_trp r_trf r_tra r_trb r_tri r_trs r_trn r_tris r_trce r_trfp r_vJ r_vJs r_vJn
attribute [local go_sem] b_add b_sub b_mul b_quo b_rem b_shl b_shr b_eql b_neq b_lss b_leq b_gtr b_geq eqB_s b_eqB b_neB u_neg u_not b_nn b_nn' eqS_s zerosT_s zerosT_n zt_i zt_sl zt_st dstOf_z dstOf_n iltT iltF ileT ileF ieqT ieqF nltT nltF nleT nleF neqT neqF tdiv_pos tmod_pos w64 idx0 List.take_of_length_le
/- Runes: the bits of bytes; one rune, program. No conditions. -/
section
open Num
def and8 (k : IntKind) (m : Int) (n : Nat) : Int := k.wrap (((BitVec.ofInt k.bits (n : Int) &&& BitVec.ofInt k.bits m).toNat : Nat) : Int)
theorem and8_31 : ((List.range 256).all fun n => decide (and8 .i64 31 n = (n : Int) % 32)) = true := by decide +kernel
theorem and8_15 : ((List.range 256).all fun n => decide (and8 .i64 15 n = (n : Int) % 16)) = true := by decide +kernel
theorem and8_7 : ((List.range 256).all fun n => decide (and8 .i64 7 n = (n : Int) % 8)) = true := by decide +kernel
theorem and8_63 : ((List.range 256).all fun n => decide (and8 .i64 63 n = (n : Int) % 64)) = true := by decide +kernel
theorem and8_u63 : ((List.range 256).all fun n => decide (and8 .u8 63 n = (n : Int) % 64)) = true := by decide +kernel
theorem and8_at {k : IntKind} {m w : Int} (h : ((List.range 256).all fun n => decide (and8 k m n = (n : Int) % w)) = true) (P : Program) (t : TypeId) {a : Int} (h0 : 0 ≤ a) (h1 : a < 256) : binE P .and t (.int k a) (.int k m) = some (.int k (a % w)) := by
  rw [b_and]
  have h2 := of_decide_eq_true (List.all_eq_true.1 h a.toNat (List.mem_range.2 (by omega)))
  unfold and8 at h2
  rw [show ((a.toNat : Nat) : Int) = a by omega] at h2
  exact congrArg (fun q => some (CV.int k q)) h2
/-- High bits and low bits put together. -/
theorem b_orp (P : Program) (t : TypeId) {a b : Int} {i : Nat} (h0 : 0 ≤ a) (h1 : a < 4294967296) (hb0 : 0 ≤ b) (hb1 : b < 2 ^ i) (hi : (2 : Int) ^ i ∣ a) (hs : b < 4294967296) : binE P .or t (.int .i64 a) (.int .i64 b) = some (.int .i64 (a + b)) := by
  rw [b_or]
  have e : (BitVec.ofInt 64 a ||| BitVec.ofInt 64 b).toNat = (a + b).toNat := by
    obtain ⟨A, rfl⟩ := Int.eq_ofNat_of_zero_le h0
    obtain ⟨b, rfl⟩ := Int.eq_ofNat_of_zero_le hb0
    have hp : ((2 : Int) ^ i) = ((2 ^ i : Nat) : Int) := by rw [Int.natCast_pow]; rfl
    rw [hp] at hb1 hi
    have hb2 : b < 2 ^ i := Int.ofNat_lt.1 hb1
    obtain ⟨q, hq⟩ := Int.natCast_dvd_natCast.1 hi
    have h3 := Nat.two_pow_add_eq_or_of_lt hb2 q
    rw [← hq] at h3
    rw [BitVec.toNat_or, BitVec.toNat_ofInt, BitVec.toNat_ofInt, show ((A : Int) % ((2 ^ 64 : Nat) : Int)).toNat = A by omega, show ((b : Int) % ((2 ^ 64 : Nat) : Int)).toNat = b by omega, ← h3]
    omega
  have h2 : IntKind.wrap .i64 (((BitVec.ofInt 64 a ||| BitVec.ofInt 64 b).toNat : Nat) : Int) = a + b := by
    rw [e, w64 (by omega) (by omega)]; omega
  exact congrArg (fun q => some (CV.int .i64 q)) h2
def isPt (r : Int) : Bool := decide (0 ≤ r) && decide (r ≤ 1114111) && !(decide (55296 ≤ r) && decide (r ≤ 57343))
def szOf (r : Int) : Int := if r < 128 then 1 else if r < 2048 then 2 else if r < 65536 then 3 else 4
def ldN (c : Int) : Int := if 192 ≤ c ∧ c ≤ 223 then 2 else if 224 ≤ c ∧ c ≤ 239 then 3 else if 240 ≤ c ∧ c ≤ 247 then 4 else 0
def ldR (c : Int) : Int := if 192 ≤ c ∧ c ≤ 223 then c % 32 else if 224 ≤ c ∧ c ≤ 239 then c % 16 else if 240 ≤ c ∧ c ≤ 247 then c % 8 else 0
theorem isPoint_v (d : Nat) (r : Int) : vrun Try.prog kn (d + 2) 77 [.int .i64 r] [] = some (.bool (isPt r), []) := by
  have h1 := fun d => within_v d r 0 1114111
  have h2 := fun d => within_v d r 55296 57343
  unfold isPt
  cases hc : (decide (0 ≤ r) && decide (r ≤ 1114111)) <;> rw [hc] at h1
  · rw [vrun_v Try.func77 rfl rfl rfl]; simp only [Try.f77]
    simp (disch := omega) [go_sem, tab77, h1]
  · cases hd : (decide (55296 ≤ r) && decide (r ≤ 57343)) <;> rw [hd] at h2
    all_goals
      rw [vrun_v Try.func77 rfl rfl rfl]; simp only [Try.f77]
      simp (disch := omega) [go_sem, tab77, h1, h2]
theorem sizeOf_v (d : Nat) (r : Int) : vrun Try.prog kn (d + 1) 78 [.int .i64 r] [] = some (.int .i64 (szOf r), []) := by
  unfold szOf
  by_cases h1 : r < 128
  · rw [vrun_v Try.func78 rfl rfl rfl]; simp only [Try.f78]
    simp (disch := omega) [go_sem, tab78, h1]
  · by_cases h2 : r < 2048
    · rw [vrun_v Try.func78 rfl rfl rfl]; simp only [Try.f78]
      simp (disch := omega) [go_sem, tab78, h1, h2]
    · by_cases h3 : r < 65536
      · rw [vrun_v Try.func78 rfl rfl rfl]; simp only [Try.f78]
        simp (disch := omega) [go_sem, tab78, h1, h2, h3]
      · rw [vrun_v Try.func78 rfl rfl rfl]; simp only [Try.f78]
        simp (disch := omega) [go_sem, tab78, h1, h2, h3]
theorem leadSize_v (d : Nat) {c : Int} (h0 : 0 ≤ c) (h1 : c < 256) : vrun Try.prog kn (d + 2) 81 [.int .i64 c] [] = some (.tup [.int .i64 (ldN c), .int .i64 (ldR c)], []) := by
  have a1 := fun d => within_v d c 192 223
  have a2 := fun d => within_v d c 224 239
  have a3 := fun d => within_v d c 240 247
  have m1 := fun P t => and8_at and8_31 P t h0 h1
  have m2 := fun P t => and8_at and8_15 P t h0 h1
  have m3 := fun P t => and8_at and8_7 P t h0 h1
  unfold ldN ldR
  by_cases c1 : 192 ≤ c ∧ c ≤ 223
  · have e : (decide (192 ≤ c) && decide (c ≤ 223)) = true := by simp [c1]
    rw [e] at a1
    simp only [c1, and_self, if_true]
    rw [vrun_v Try.func81 rfl rfl rfl]; simp only [Try.f81]
    simp (disch := omega) [go_sem, tab81, a1, m1]
  · have e : (decide (192 ≤ c) && decide (c ≤ 223)) = false := by simpa using c1
    rw [e] at a1
    simp only [c1, if_false]
    by_cases c2 : 224 ≤ c ∧ c ≤ 239
    · have e : (decide (224 ≤ c) && decide (c ≤ 239)) = true := by simp [c2]
      rw [e] at a2
      simp only [c2, and_self, if_true]
      rw [vrun_v Try.func81 rfl rfl rfl]; simp only [Try.f81]
      simp (disch := omega) [go_sem, tab81, a1, a2, m2]
    · have e : (decide (224 ≤ c) && decide (c ≤ 239)) = false := by simpa using c2
      rw [e] at a2
      simp only [c2, if_false]
      by_cases c3 : 240 ≤ c ∧ c ≤ 247
      · have e : (decide (240 ≤ c) && decide (c ≤ 247)) = true := by simp [c3]
        rw [e] at a3
        simp only [c3, and_self, if_true]
        rw [vrun_v Try.func81 rfl rfl rfl]; simp only [Try.f81]
        simp (disch := omega) [go_sem, tab81, a1, a2, a3, m3]
      · have e : (decide (240 ≤ c) && decide (c ≤ 247)) = false := by simpa using c3
        rw [e] at a3
        simp only [c3, if_false]
        rw [vrun_v Try.func81 rfl rfl rfl]; simp only [Try.f81]
        simp (disch := omega) [go_sem, tab81, a1, a2, a3]
end
/- Runes: the one at the beginning, program. No conditions. -/
section
open Num
def conB (t : Int) : Bool := decide (t / 64 = 2)
def runeL (r : Int) (L : List Int) : Int := L.foldl (fun r t => r * 64 + t % 64) r
def restL (b : List Int) (n : Int) : List Int := (b.drop 1).take (n.toNat - 1)
/-- The rune that begins a text that is not empty; how many bytes it has. -/
def runeF (b : List Int) : Int × Int :=
  if gt b 0 < 128 then (gt b 0, 1) else
  if ldN (gt b 0) = 0 ∨ (b.length : Int) < ldN (gt b 0) then (65533, 1) else
  if (restL b (ldN (gt b 0))).all conB = false then (65533, 1) else
  if isPt (runeL (ldR (gt b 0)) (restL b (ldN (gt b 0)))) = true ∧ szOf (runeL (ldR (gt b 0)) (restL b (ldN (gt b 0)))) = ldN (gt b 0) then (runeL (ldR (gt b 0)) (restL b (ldN (gt b 0))), ldN (gt b 0)) else (65533, 1)
theorem ld_bd {c : Int} : (ldN c = 0 ∨ ldN c = 2 ∨ ldN c = 3 ∨ ldN c = 4) ∧ 0 ≤ ldR c ∧ ldR c < 32 := by
  unfold ldN ldR
  (repeat' split) <;> omega
theorem runeL_bd {L : List Int} : ∀ {r P : Int}, 0 ≤ r → r < 32 * P → 0 ≤ runeL r L ∧ runeL r L < 32 * (P * 64 ^ L.length) := by
  induction L with
  | nil => intro r P h0 h1; simp [runeL]; omega
  | cons t L ih =>
    intro r P h0 h1
    have := ih (r := r * 64 + t % 64) (P := P * 64) (by omega) (by omega)
    rw [List.length_cons, show P * 64 ^ (L.length + 1) = P * 64 * 64 ^ L.length by rw [Int.pow_succ, Int.mul_comm (64 ^ L.length), Int.mul_assoc]]
    exact this
section
variable {L : List Int} {n r : Int}
def rnS (n r : Int) (L : List Int) (j : Nat) : VE × VH := ([(4, some (.int .i64 n)), (5, some (.int .i64 (runeL r (L.take j)))), (34, some (.ints .u8 L)), (35, some (.int .i64 L.length)), (36, some (.int .i64 j))], [])
theorem rn_l (call : CallV) (hL : L.length ≤ 3) (hb : ∀ x ∈ L, 0 ≤ x ∧ x < 256) (r0 : 0 ≤ r) (r1 : r < 32) :
    (viter (vCode Try.prog kn call 70 (loopAt Try.f70 0)) kn.cf.rounds (rnS n r L 0).1 (rnS n r L 0).2 = some (.exit 0, (rnS n r L L.length).1 ++ [(37, some (.bool false))], []) ∧ L.all conB = true) ∨
    (viter (vCode Try.prog kn call 70 (loopAt Try.f70 0)) kn.cf.rounds (rnS n r L 0).1 (rnS n r L 0).2 = some (.ret, [(2, some (.int .i64 65533)), (3, some (.int .i64 1))], []) ∧ L.all conB = false) :=
  vi_inv (n := kn.cf.rounds) (body := vCode Try.prog kn call 70 (loopAt Try.f70 0)) (fun j s => s = rnS n r L j ∧ (L.take j).all conB = true)
    (fun x => (x = some (.exit 0, (rnS n r L L.length).1 ++ [(37, some (.bool false))], []) ∧ L.all conB = true) ∨ (x = some (.ret, [(2, some (.int .i64 65533)), (3, some (.int .i64 1))], []) ∧ L.all conB = false)) L.length (by rw [k_cf, c_rounds]; omega)
    (fun j s hj hI => by
      obtain ⟨rfl, hI⟩ := hI
      have hx := hb _ (gt_mem hj)
      have e1 : L.take (j + 1) = L.take j ++ [gt L j] := by rw [List.take_add_one, gt_some hj]; rfl
      have hbd := runeL_bd (L := L.take j) (r := r) (P := 1) r0 (by omega)
      rw [List.length_take, show min j L.length = j by omega] at hbd
      have hp : (64 : Int) ^ j ≤ 4096 := by
        have : j = 0 ∨ j = 1 ∨ j = 2 := by omega
        rcases this with rfl | rfl | rfl <;> decide
      have hsh : (gt L j).fdiv 64 = gt L j / 64 := by rw [Int.fdiv_eq_ediv_of_nonneg _ (by omega)]
      have m1 := fun P t => and8_at and8_u63 P t hx.1 hx.2
      cases hq : conB (gt L j) with
      | true =>
        left
        refine ⟨rnS n r L (j + 1), ?_, rfl, by rw [e1, List.all_append, hI]; simp [hq]⟩
        have e2 : runeL r (L.take (j + 1)) = runeL r (L.take j) * 64 + gt L j % 64 := by rw [e1]; unfold runeL; rw [List.foldl_append]; rfl
        have hc := of_decide_eq_true hq
        rw [round_v]; simp only [loopAt, nthC, bodyC, loops, List.nil_append, List.cons_append, List.append_nil, Try.f70, rnS, e2]
        generalize runeL r (L.take j) = R at *
        have o1 := fun P t => b_orp P t (a := R * 64) (b := gt L j % 64) (i := 6) (by omega) (by omega) (by omega) (by omega) (by exact ⟨R, by omega⟩) (by omega)
        simp (disch := omega) [go_sem, tab70, hc, m1, o1]
      | false =>
        right; intro m; right
        have hc := of_decide_eq_false hq
        refine ⟨vi_ret ?_, ?_⟩
        · rw [round_v]; simp only [loopAt, nthC, bodyC, loops, List.nil_append, List.cons_append, List.append_nil, Try.f70, rnS]
          simp (disch := omega) [go_sem, tab70, hc]
        · rw [List.all_eq_false]; exact ⟨_, gt_mem hj, by simp [hq]⟩)
    (fun s hI m => by
      obtain ⟨rfl, hI⟩ := hI
      left
      refine ⟨vi_exit ?_, by rwa [List.take_length] at hI⟩
      rw [round_v]; simp only [loopAt, nthC, bodyC, loops, List.nil_append, List.cons_append, List.append_nil, Try.f70, rnS]
      simp (disch := omega) [go_sem, tab70])
    (rnS n r L 0) ⟨rfl, by simp⟩
variable {b : List Int}
theorem runeAt_v (d : Nat) (h0 : 0 < b.length) (hl : b.length < 1000000) (hb : ∀ x ∈ b, 0 ≤ x ∧ x < 256) : vrun Try.prog kn (d + 3) 70 [.ints .u8 b] [] = some (.tup [.int .i64 (runeF b).1, .int .i64 (runeF b).2], []) := by
  have hx := hb _ (gt_mem h0)
  unfold runeF
  by_cases c1 : gt b 0 < 128
  · rw [if_pos c1]
    rw [vrun_v Try.func70 rfl rfl rfl]; simp only [Try.f70]
    simp (disch := omega) [go_sem, tab70, c1]
  · rw [if_neg c1]
    have a1 := fun d => leadSize_v d hx.1 hx.2
    obtain ⟨q1, q2, q3⟩ := ld_bd (c := gt b 0)
    by_cases c2 : ldN (gt b 0) = 0 ∨ (b.length : Int) < ldN (gt b 0)
    · rw [if_pos c2]
      generalize ldR (gt b 0) = r at *
      generalize ldN (gt b 0) = n at *
      by_cases c3 : n = 0
      · subst c3
        rw [vrun_v Try.func70 rfl rfl rfl]; simp only [Try.f70]
        simp (disch := omega) [go_sem, tab70, c1, a1]
      · have c4 : (b.length : Int) < n := c2.resolve_left c3
        rw [vrun_v Try.func70 rfl rfl rfl]; simp only [Try.f70]
        simp (disch := omega) [go_sem, tab70, c1, a1, c3]
    · rw [if_neg c2]
      have n0 : ¬ ldN (gt b 0) = 0 := fun h => c2 (.inl h)
      have n1 : ¬ (b.length : Int) < ldN (gt b 0) := fun h => c2 (.inr h)
      generalize ldR (gt b 0) = r at *
      generalize ldN (gt b 0) = n at *
      have hL : (restL b n).length = n.toNat - 1 := by unfold restL; rw [List.length_take, List.length_drop]; omega
      have hLb : ∀ x ∈ restL b n, 0 ≤ x ∧ x < 256 := fun x hx => hb x (List.mem_of_mem_drop (List.mem_of_mem_take hx))
      have hbd := (runeL_bd (L := restL b n) (r := r) (P := 1) q2 (by omega)).1
      have key := rn_l (L := restL b n) (n := n) (r := r) (vrun Try.prog kn (d + 0 + 2)) (by omega) hLb q2 q3
      have eL : b.tail.take (n.toNat - 1) = restL b n := by unfold restL; rw [List.drop_one]
      rcases key with ⟨hv, hc⟩ | ⟨hv, hc⟩
      · rw [hc]
        have hl0 := fun ks => loop_v (P := Try.prog) (K := kn) (ks := ks) hv
        simp only [loopAt, nthC, bodyC, loops, List.nil_append, List.cons_append, List.append_nil, Try.f70, rnS, Int.natCast_zero, List.cons_append, List.nil_append, List.take_zero, List.take_length] at hl0
        simp only [Bool.true_eq_false, if_false]
        have hrn : runeL r [] = r := rfl
        rw [hrn, hL] at hl0
        have a2 := fun d => isPoint_v d (runeL r (restL b n))
        have a3 := fun d => sizeOf_v d (runeL r (restL b n))
        clear hv hLb hb
        generalize runeL r (restL b n) = R at *
        generalize restL b n = L at *
        by_cases p1 : isPt R = true
        · rw [p1] at a2
          by_cases p2 : szOf R = n
          · rw [if_pos ⟨p1, p2⟩]
            rw [p2] at a3
            rw [vrun_v Try.func70 rfl rfl rfl]; simp only [Try.f70]
            simp (disch := omega) [go_sem, tab70, c1, a1, n0, n1, eL, hL, hl0, a2, a3]
          · rw [if_neg (fun h => p2 h.2)]
            rw [vrun_v Try.func70 rfl rfl rfl]; simp only [Try.f70]
            simp (disch := omega) [go_sem, tab70, c1, a1, n0, n1, eL, hL, hl0, a2, a3, p2]
        · rw [if_neg (fun h => p1 h.1)]
          rw [Bool.not_eq_true] at p1
          rw [p1] at a2
          rw [vrun_v Try.func70 rfl rfl rfl]; simp only [Try.f70]
          simp (disch := omega) [go_sem, tab70, c1, a1, n0, n1, eL, hL, hl0, a2]
      · rw [hc]
        have hl0 := fun ks => loop_v (P := Try.prog) (K := kn) (ks := ks) hv
        simp only [loopAt, nthC, bodyC, loops, List.nil_append, List.cons_append, List.append_nil, Try.f70, rnS, Int.natCast_zero, List.cons_append, List.nil_append, List.take_zero, List.take_length] at hl0
        simp only [if_true]
        have hrn : runeL r [] = r := rfl
        rw [hrn, hL] at hl0
        clear hv hLb hb hbd
        generalize restL b n = L at *
        rw [vrun_v Try.func70 rfl rfl rfl]; simp only [Try.f70]
        simp (disch := omega) [go_sem, tab70, c1, a1, n0, n1, eL, hL, hl0]
end
end
/- Runes: all of a text, program. No conditions. -/
section
open Num
theorem runeF_n {b : List Int} (h0 : 0 < b.length) : 1 ≤ (runeF b).2 ∧ (runeF b).2 ≤ b.length := by
  obtain ⟨q1, -, -⟩ := ld_bd (c := gt b 0)
  unfold runeF
  split
  · exact ⟨by simp, by show (1 : Int) ≤ _; omega⟩
  · split
    · exact ⟨by simp, by show (1 : Int) ≤ _; omega⟩
    · rename_i h
      split
      · exact ⟨by simp, by show (1 : Int) ≤ _; omega⟩
      · split
        · exact ⟨by show (1 : Int) ≤ ldN _; omega, by show ldN _ ≤ _; omega⟩
        · exact ⟨by simp, by show (1 : Int) ≤ _; omega⟩
def runesG : Nat → List Int → List Int
  | 0, _ => []
  | n + 1, b => if b = [] then [] else (runeF b).1 :: runesG n (b.drop (runeF b).2.toNat)
def runesF (b : List Int) : List Int := runesG b.length b
theorem runesG_nil (n : Nat) : runesG n [] = [] := by cases n <;> simp [runesG]
theorem runesG_len : ∀ (n : Nat) (b : List Int), (runesG n b).length ≤ n
  | 0, _ => by simp [runesG]
  | n + 1, b => by
    unfold runesG
    split
    · simp
    · have := runesG_len n (b.drop (runeF b).2.toNat)
      rw [List.length_cons]; omega
theorem runesG_eq : ∀ (n m : Nat) (b : List Int), b.length ≤ n → b.length ≤ m → runesG n b = runesG m b
  | 0, m, b, h, _ => by
    have : b = [] := List.eq_nil_of_length_eq_zero (by omega)
    subst this; rw [runesG_nil, runesG_nil]
  | n + 1, 0, b, _, h => by
    have : b = [] := List.eq_nil_of_length_eq_zero (by omega)
    subst this; rw [runesG_nil, runesG_nil]
  | n + 1, m + 1, b, h, h' => by
    unfold runesG
    split
    · rfl
    · rename_i hb
      have hp : 0 < b.length := List.length_pos_iff.2 hb
      have := (runeF_n hp).1
      rw [runesG_eq n m (b.drop (runeF b).2.toNat) (by rw [List.length_drop]; omega) (by rw [List.length_drop]; omega)]
theorem runesF_cons {b : List Int} (h : b ≠ []) : runesF b = (runeF b).1 :: runesF (b.drop (runeF b).2.toNat) := by
  have hp : 0 < b.length := List.length_pos_iff.2 h
  have := (runeF_n hp).1
  unfold runesF
  obtain ⟨n, hn⟩ : ∃ n, b.length = n + 1 := ⟨b.length - 1, by omega⟩
  rw [hn, runesG, if_neg h, runesG_eq n _ (b.drop (runeF b).2.toNat) (by rw [List.length_drop]; omega) (Nat.le_refl _)]
theorem runesF_nil : runesF [] = [] := rfl
theorem runesF_len (b : List Int) : (runesF b).length ≤ b.length := runesG_len _ _
section
variable {b : List Int}
def roS (r O : List Int) (c : Bool) (x : VE) : VE × VH := ((0, some (.ints .u8 r)) :: (4, some (.sl 0 0 O.length 1)) :: (5, some (.bool c)) :: x, [.ints true .i64 O])
theorem ro_l (d : Nat) (hl : b.length < 1000000) (hb : ∀ x ∈ b, 0 ≤ x ∧ x < 256) :
    ∃ c : Bool, viter (vCode Try.prog kn (vrun Try.prog kn (d + 3)) 42 (loopAt Try.f42 0)) kn.cf.rounds (roS b [] true []).1 (roS b [] true []).2 = some (.exit 0, (roS [] (runesF b) c [(10, some (.bool false))]).1, (roS [] (runesF b) c []).2) :=
  vi_inv (n := kn.cf.rounds) (body := vCode Try.prog kn (vrun Try.prog kn (d + 3)) 42 (loopAt Try.f42 0)) (fun j s => ∃ (r O : List Int) (c : Bool), s = roS r O c [] ∧ O ++ runesF r = runesF b ∧ r.length + j ≤ b.length ∧ O.length ≤ j ∧ ∀ x ∈ r, 0 ≤ x ∧ x < 256)
    (fun x => ∃ c : Bool, x = some (.exit 0, (roS [] (runesF b) c [(10, some (.bool false))]).1, (roS [] (runesF b) c []).2)) b.length (by rw [k_cf, c_rounds]; omega)
    (fun j s hj hI => by
      obtain ⟨r, O, c, rfl, h1, h2, h3, h4⟩ := hI
      by_cases h0 : r = []
      · subst h0
        right; intro m
        refine ⟨c, vi_exit ?_⟩
        rw [runesF_nil, List.append_nil] at h1
        rw [← h1]
        rw [round_v]; simp only [loopAt, nthC, bodyC, loops, List.nil_append, List.cons_append, List.append_nil, Try.f42, roS]
        simp (disch := omega) [go_sem, tab42, nil42]
      · left
        have hp : 0 < r.length := List.length_pos_iff.2 h0
        have a1 := fun d => runeAt_v (b := r) d hp (by omega) h4
        obtain ⟨n1, n2⟩ := runeF_n hp
        rw [runesF_cons h0] at h1
        have hd : ∀ x ∈ r.drop (runeF r).2.toNat, 0 ≤ x ∧ x < 256 := fun x hx => h4 x (List.mem_of_mem_drop hx)
        have hdl : (r.drop (runeF r).2.toNat).length + (j + 1) ≤ b.length := by rw [List.length_drop]; omega
        generalize (runeF r).2 = n at *
        generalize (runeF r).1 = v at *
        refine ⟨roS (r.drop n.toNat) (O ++ [v]) (c && !(decide (v = 65533) && decide (n = 1))) [], ?_, r.drop n.toNat, O ++ [v], _, rfl, by rw [List.append_assoc]; exact h1, hdl, by simp; omega, hd⟩
        have hT : List.take ((r.length : Int) - n).toNat (List.drop n.toNat r) = List.drop n.toNat r := List.take_of_length_le (by rw [List.length_drop]; omega)
        have hT1 : List.take (r.length - 1) r.tail = r.tail := List.take_of_length_le (by rw [List.length_tail]; exact Nat.le_refl _)
        clear hd hdl h1 h4
        rw [round_v]; simp only [loopAt, nthC, bodyC, loops, List.nil_append, List.cons_append, List.append_nil, Try.f42, roS]
        cases c
        · simp (implicitDefEqProofs := false) (disch := omega) [go_sem, tab42, nil42, a1, hT, hT1, h0]
        · by_cases q1 : v = 65533
          · subst q1
            by_cases q2 : n = 1
            · subst q2
              simp (implicitDefEqProofs := false) (disch := omega) [go_sem, tab42, nil42, a1, hT, hT1, h0]
            · simp (implicitDefEqProofs := false) (disch := omega) [go_sem, tab42, nil42, a1, hT, hT1, h0, q2]
          · simp (implicitDefEqProofs := false) (disch := omega) [go_sem, tab42, nil42, a1, hT, hT1, h0, q1])
    (fun s hI m => by
      obtain ⟨r, O, c, rfl, h1, h2, h3, h4⟩ := hI
      have h0 : r = [] := List.eq_nil_of_length_eq_zero (by omega)
      subst h0
      refine ⟨c, vi_exit ?_⟩
      rw [runesF_nil, List.append_nil] at h1
      rw [← h1]
      rw [round_v]; simp only [loopAt, nthC, bodyC, loops, List.nil_append, List.cons_append, List.append_nil, Try.f42, roS]
      simp (disch := omega) [go_sem, tab42, nil42])
    (roS b [] true []) ⟨b, [], true, rfl, rfl, by omega, by simp, hb⟩
theorem runesOf_v (d : Nat) (hl : b.length < 1000000) (hb : ∀ x ∈ b, 0 ≤ x ∧ x < 256) : ∃ c : Bool, vrun Try.prog kn (d + 4) 42 [.ints .u8 b] [] = some (.tup [.sl 0 0 (runesF b).length 1, .bool c], [.ints true .i64 (runesF b)]) := by
  obtain ⟨c, hv⟩ := ro_l (d + 0) hl hb
  have hl0 := fun ks => loop_v (P := Try.prog) (K := kn) (ks := ks) hv
  simp only [loopAt, nthC, bodyC, loops, List.nil_append, List.cons_append, List.append_nil, Try.f42, roS, List.length_nil] at hl0
  refine ⟨c, ?_⟩
  rw [vrun_v Try.func42 rfl rfl rfl]; simp only [Try.f42]
  simp (disch := omega) [go_sem, tab42, nil42, hl0]
theorem Runes_v (d : Nat) (hl : b.length ≤ 400) (hb : ∀ x ∈ b, 0 ≤ x ∧ x < 256) : vrun Try.prog kn (d + 5) 16 [.ints .u8 b] [] = some (.sl 0 0 (runesF b).length 1, [.ints true .i64 (runesF b)]) := by
  obtain ⟨c, a1⟩ := runesOf_v (d + 0) (by omega) hb
  rw [vrun_v Try.func16 rfl rfl rfl]; simp only [Try.f16]
  simp (disch := omega) [go_sem, tab16, nil16, a1]
theorem Runes_l (d : Nat) (hl : 400 < b.length) (hl' : b.length < 1000000000) : vrun Try.prog kn (d + 5) 16 [.ints .u8 b] [] = some (.sl 0 0 0 1, [.ints true .i64 []]) := by
  rw [vrun_v Try.func16 rfl rfl rfl]; simp only [Try.f16]
  simp (disch := omega) [go_sem, tab16, nil16]
end
end
/- Runes: what each becomes in a plain text, program. No conditions. -/
section
open Num
theorem wu8' {x : Int} (h0 : 0 ≤ x) (h1 : x < 256) : IntKind.wrap .u8 x = x := by
  unfold IntKind.wrap; simp [IntKind.signed, IntKind.bits]; omega
theorem b_and63 (P : Program) (t : TypeId) {a : Int} (h0 : 0 ≤ a) (h1 : a < 4294967296) : binE P .and t (.int .i64 a) (.int .i64 63) = some (.int .i64 (a % 64)) := by
  rw [b_and]
  have e : (BitVec.ofInt 64 a &&& BitVec.ofInt 64 63).toNat = (a % 64).toNat := by
    obtain ⟨A, rfl⟩ := Int.eq_ofNat_of_zero_le h0
    have h3 : A &&& 63 = A % 64 := Nat.and_two_pow_sub_one_eq_mod A 6
    rw [BitVec.toNat_and, BitVec.toNat_ofInt, show (BitVec.ofInt 64 63).toNat = 63 from rfl, show ((A : Int) % ((2 ^ 64 : Nat) : Int)).toNat = A by omega, h3]
    omega
  have h2 : IntKind.wrap .i64 (((BitVec.ofInt 64 a &&& BitVec.ofInt 64 63).toNat : Nat) : Int) = a % 64 := by
    rw [e, w64 (by omega) (by omega)]; omega
  exact congrArg (fun q => some (CV.int .i64 q)) h2
/-- The bytes of a rune. -/
def rbF (r : Int) : List Int :=
  if isPt r = false then [] else
  if r < 128 then [r] else
  if r < 2048 then [192 + r / 64, 128 + r % 64] else
  if r < 65536 then [224 + r / 4096, 128 + r / 64 % 64, 128 + r % 64] else
  [240 + r / 262144, 128 + r / 4096 % 64, 128 + r / 64 % 64, 128 + r % 64]
def rbS (r n : Int) (O : List Int) (i : Int) : VE × VH := ([(0, some (.int .i64 r)), (3, some (.int .i64 n)), (4, some (.sl 0 0 O.length 1)), (5, some (.int .i64 i))], [.ints true .u8 O])
theorem rb_r (call : CallV) {r n : Int} {O : List Int} {i : Nat} (h0 : 0 ≤ r) (h1 : r < 4000000) (hi : i + 1 < O.length) (hO : O.length ≤ 4) : vCode Try.prog kn call 66 (loopAt Try.f66 0) (rbS r n O ((i : Int) + 1)).1 (rbS r n O ((i : Int) + 1)).2 = some (.norm, rbS (r / 64) n (O.set (i + 1) (128 + r % 64)) i) := by
  have m1 := fun P t => b_and63 P t h0 (by omega)
  have o1 := fun P t => b_orp P t (a := 128) (b := r % 64) (i := 6) (by omega) (by omega) (by omega) (by omega) ⟨2, by omega⟩ (by omega)
  have w1 := wu8' (x := 128 + r % 64) (by omega) (by omega)
  have e1 : ((i : Int) + 1).toNat = i + 1 := by omega
  have f1 : r.fdiv 64 = r / 64 := Int.fdiv_eq_ediv_of_nonneg _ (by omega)
  rw [round_v]; simp only [loopAt, nthC, bodyC, loops, List.nil_append, List.cons_append, List.append_nil, Try.f66, rbS]
  simp (disch := omega) [go_sem, tab66, nil66, m1, o1, w1, e1, f1]
theorem rb_s (call : CallV) {r r' n k k' : Int} {O O' : List Int} (i : Nat) {m : Nat} (hk : k = (i : Int) + 1) (hk' : k' = i) (h0 : 0 ≤ r) (h1 : r < 4000000) (hi : i + 1 < O.length) (hO : O.length ≤ 4) (hr : r / 64 = r') (hs : O.set (i + 1) (128 + r % 64) = O') : viter (vCode Try.prog kn call 66 (loopAt Try.f66 0)) (m + 1) (rbS r n O k).1 (rbS r n O k).2 = viter (vCode Try.prog kn call 66 (loopAt Try.f66 0)) m (rbS r' n O' k').1 (rbS r' n O' k').2 := by
  subst hk hk' hr hs
  exact vi_norm (rb_r call h0 h1 hi hO)
theorem rb_x (call : CallV) {r n : Int} {O : List Int} : vCode Try.prog kn call 66 (loopAt Try.f66 0) (rbS r n O 0).1 (rbS r n O 0).2 = some (.exit 0, (rbS r n O 0).1 ++ [(21, some (.bool false))], (rbS r n O 0).2) := by
  rw [round_v]; simp only [loopAt, nthC, bodyC, loops, List.nil_append, List.cons_append, List.append_nil, Try.f66, rbS]
  simp (disch := omega) [go_sem, tab66, nil66]
theorem rounds5 : ∃ m, kn.cf.rounds = m + 1 + 1 + 1 + 1 + 1 := ⟨4294967291, by rw [k_cf, c_rounds]⟩
theorem rb_2 (call : CallV) {r : Int} (h0 : 0 ≤ r) (h1 : r < 4000000) : viter (vCode Try.prog kn call 66 (loopAt Try.f66 0)) kn.cf.rounds (rbS r 2 [0, 0] 1).1 (rbS r 2 [0, 0] 1).2 = some (.exit 0, (rbS (r / 64) 2 [0, 128 + r % 64] 0).1 ++ [(21, some (.bool false))], (rbS (r / 64) 2 [0, 128 + r % 64] 0).2) := by
  obtain ⟨m, hm⟩ := rounds5
  rw [hm, rb_s call 0 (by omega) rfl h0 h1 (by simp) (by simp) rfl rfl]
  exact vi_exit (rb_x call)
theorem rb_3 (call : CallV) {r : Int} (h0 : 0 ≤ r) (h1 : r < 4000000) : viter (vCode Try.prog kn call 66 (loopAt Try.f66 0)) kn.cf.rounds (rbS r 3 [0, 0, 0] 2).1 (rbS r 3 [0, 0, 0] 2).2 = some (.exit 0, (rbS (r / 4096) 3 [0, 128 + r / 64 % 64, 128 + r % 64] 0).1 ++ [(21, some (.bool false))], (rbS (r / 4096) 3 [0, 128 + r / 64 % 64, 128 + r % 64] 0).2) := by
  obtain ⟨m, hm⟩ := rounds5
  rw [hm, rb_s call (k' := 1) 1 (by omega) rfl h0 h1 (by simp) (by simp) rfl rfl, rb_s call 0 (k' := 0) (r' := r / 4096) (by omega) rfl (by omega) (by omega) (by simp) (by simp) (by omega) rfl]
  exact vi_exit (rb_x call)
theorem rb_4 (call : CallV) {r : Int} (h0 : 0 ≤ r) (h1 : r < 4000000) : viter (vCode Try.prog kn call 66 (loopAt Try.f66 0)) kn.cf.rounds (rbS r 4 [0, 0, 0, 0] 3).1 (rbS r 4 [0, 0, 0, 0] 3).2 = some (.exit 0, (rbS (r / 262144) 4 [0, 128 + r / 4096 % 64, 128 + r / 64 % 64, 128 + r % 64] 0).1 ++ [(21, some (.bool false))], (rbS (r / 262144) 4 [0, 128 + r / 4096 % 64, 128 + r / 64 % 64, 128 + r % 64] 0).2) := by
  obtain ⟨m, hm⟩ := rounds5
  rw [hm, rb_s call (k' := 2) 2 (by omega) rfl h0 h1 (by simp) (by simp) rfl rfl, rb_s call 1 (k' := 1) (r' := r / 4096) (by omega) rfl (by omega) (by omega) (by simp) (by simp) (by omega) rfl, rb_s call 0 (k' := 0) (r' := r / 262144) (by omega) rfl (by omega) (by omega) (by simp) (by simp) (by omega) rfl]
  exact vi_exit (rb_x call)
theorem gl2 : gt [0, 0, 192, 224, 240] 2 = 192 := rfl
theorem gl3 : gt [0, 0, 192, 224, 240] 3 = 224 := rfl
theorem gl4 : gt [0, 0, 192, 224, 240] 4 = 240 := rfl
theorem isPt_t {r : Int} (h : isPt r = true) : 0 ≤ r ∧ r ≤ 1114111 := by
  unfold isPt at h
  simp only [Bool.and_eq_true, decide_eq_true_eq] at h
  exact h.1
theorem RuneBytes_v (d : Nat) (r : Int) : vrun Try.prog kn (d + 3) 66 [.int .i64 r] [] = some (.sl 0 0 (rbF r).length 1, [.ints true .u8 (rbF r)]) := by
  have a1 := fun d => isPoint_v d r
  have a2 := fun d => sizeOf_v d r
  unfold rbF
  cases hp : isPt r with
  | false =>
    rw [hp] at a1
    rw [vrun_v Try.func66 rfl rfl rfl]; simp only [Try.f66]
    simp (disch := omega) [go_sem, tab66, nil66, a1]
  | true =>
    rw [hp] at a1
    obtain ⟨r0, r1⟩ := isPt_t hp
    simp only [Bool.true_eq_false, if_false]
    unfold szOf at a2
    by_cases c1 : r < 128
    · rw [if_pos c1] at a2 ⊢
      have w1 := wu8' (x := r) (by omega) (by omega)
      rw [vrun_v Try.func66 rfl rfl rfl]; simp only [Try.f66]
      simp (disch := omega) [go_sem, tab66, nil66, a1, a2, w1]
    · rw [if_neg c1] at a2 ⊢
      by_cases c2 : r < 2048
      · rw [if_pos c2] at a2 ⊢
        have hl0 := fun call ks => loop_v (P := Try.prog) (K := kn) (ks := ks) (rb_2 call r0 (by omega) : viter _ _ _ _ = _)
        simp only [loopAt, nthC, bodyC, loops, List.nil_append, List.cons_append, List.append_nil, Try.f66, rbS, List.cons_append, List.nil_append, List.length_cons, List.length_nil, Nat.zero_add, Nat.reduceAdd] at hl0
        have o1 := fun P t => b_orp P t (a := 192) (b := r / 64) (i := 6) (by omega) (by omega) (by omega) (by omega) ⟨3, by omega⟩ (by omega)
        have w1 := wu8' (x := 192 + r / 64) (by omega) (by omega)
        rw [vrun_v Try.func66 rfl rfl rfl]; simp only [Try.f66]
        simp (disch := omega) [go_sem, tab66, nil66, a1, a2, hl0, gl2, gl3, gl4, o1, w1]
      · rw [if_neg c2] at a2 ⊢
        by_cases c3 : r < 65536
        · rw [if_pos c3] at a2 ⊢
          have hl0 := fun call ks => loop_v (P := Try.prog) (K := kn) (ks := ks) (rb_3 call r0 (by omega) : viter _ _ _ _ = _)
          simp only [loopAt, nthC, bodyC, loops, List.nil_append, List.cons_append, List.append_nil, Try.f66, rbS, List.cons_append, List.nil_append, List.length_cons, List.length_nil, Nat.zero_add, Nat.reduceAdd] at hl0
          have o1 := fun P t => b_orp P t (a := 224) (b := r / 4096) (i := 5) (by omega) (by omega) (by omega) (by omega) ⟨7, by omega⟩ (by omega)
          have w1 := wu8' (x := 224 + r / 4096) (by omega) (by omega)
          rw [vrun_v Try.func66 rfl rfl rfl]; simp only [Try.f66]
          simp (disch := omega) [go_sem, tab66, nil66, a1, a2, hl0, gl2, gl3, gl4, o1, w1]
        · rw [if_neg c3] at a2 ⊢
          have hl0 := fun call ks => loop_v (P := Try.prog) (K := kn) (ks := ks) (rb_4 call r0 (by omega) : viter _ _ _ _ = _)
          simp only [loopAt, nthC, bodyC, loops, List.nil_append, List.cons_append, List.append_nil, Try.f66, rbS, List.cons_append, List.nil_append, List.length_cons, List.length_nil, Nat.zero_add, Nat.reduceAdd] at hl0
          have o1 := fun P t => b_orp P t (a := 240) (b := r / 262144) (i := 4) (by omega) (by omega) (by omega) (by omega) ⟨15, by omega⟩ (by omega)
          have w1 := wu8' (x := 240 + r / 262144) (by omega) (by omega)
          rw [vrun_v Try.func66 rfl rfl rfl]; simp only [Try.f66]
          simp (disch := omega) [go_sem, tab66, nil66, a1, a2, hl0, gl2, gl3, gl4, o1, w1]
end
/- Digits, signs, blanks; a plain text, program. No conditions. -/
section
open Num
def zsL : List Int := [48, 1632, 1776, 2406, 65296]
def bkL : List Int := [9, 32, 160, 8201, 12288]
def digG : List Int → Int → Int
  | [], _ => -1
  | z :: zs, r => if z ≤ r ∧ r ≤ z + 9 then r - z else digG zs r
def digF (r : Int) : Int := digG zsL r
def sgnF (r : Int) : Int := if r = 43 ∨ r = 65291 then 1 else if r = 45 ∨ r = 8722 ∨ r = 65293 then -1 else 0
def blkF (r : Int) : Bool := bkL.any fun x => decide (r = x)
def plF (r : Int) : List Int := if 0 ≤ digF r then [48 + digF r] else if 0 < sgnF r then [43] else if sgnF r < 0 then [45] else if blkF r = true then [32] else rbF r
def plainF (b : List Int) : List Int := (runesF b).flatMap plF
theorem digG_bd : ∀ {zs : List Int} {r : Int}, -1 ≤ digG zs r ∧ digG zs r ≤ 9
  | [], r => by simp [digG]
  | z :: zs, r => by
    unfold digG
    split
    · omega
    · exact digG_bd
section
variable {r : Int}
def doF (r : Int) (j : Nat) : VE × VH := ([(0, some (.int .i64 r)), (5, some (.sl 0 0 5 1)), (6, some (.int .i64 5)), (7, some (.int .i64 j))], [.ints true .i64 [48, 1632, 1776, 2406, 65296]])
theorem DigitOf_v (d : Nat) : vrun Try.prog kn (d + 2) 17 [.int .i64 r] [] = some (.int .i64 (digF r), []) := by
  have wn := within_v
  have key := vi_inv (n := kn.cf.rounds) (body := vCode Try.prog kn (vrun Try.prog kn (d + 1)) 17 (loopAt Try.f17 0)) (fun j s => s = doF r j ∧ digG (zsL.drop j) r = digF r)
    (fun x => (x = some (.exit 0, (doF r 5).1 ++ [(8, some (.bool false))], (doF r 5).2) ∧ digF r = -1) ∨ x = some (.ret, [(2, some (.int .i64 (digF r)))], [])) 5 (by rw [k_cf, c_rounds]; omega)
    (fun j s hj hI => by
      obtain ⟨rfl, hI⟩ := hI
      have hz : zsL[j]? = some (gt zsL j) := gt_some (by unfold zsL; simpa using hj)
      have hd : zsL.drop j = gt zsL j :: zsL.drop (j + 1) := by rw [List.drop_eq_getElem_cons (by unfold zsL; simpa using hj), gt_get]
      have hb : 0 ≤ gt zsL j ∧ gt zsL j ≤ 65296 := by
        have : j = 0 ∨ j = 1 ∨ j = 2 ∨ j = 3 ∨ j = 4 := by omega
        rcases this with rfl | rfl | rfl | rfl | rfl <;> decide
      rw [hd, digG] at hI
      have hg : gt [48, 1632, 1776, 2406, 65296] j = gt zsL j := rfl
      generalize gt zsL j = z at *
      by_cases c : z ≤ r ∧ r ≤ z + 9
      · rw [if_pos c] at hI
        right; intro m; right
        refine vi_ret ?_
        rw [← hI]
        have e1 : (decide (z ≤ r) && decide (r ≤ z + 9)) = true := by simp [c]
        have w2 := fun d => wn d r z (z + 9)
        rw [e1] at w2
        rw [round_v]; simp only [loopAt, nthC, bodyC, loops, List.nil_append, List.cons_append, List.append_nil, Try.f17, doF]
        simp (disch := omega) [go_sem, tab17, hg, w2]
      · rw [if_neg c] at hI
        left
        refine ⟨doF r (j + 1), ?_, rfl, hI⟩
        have e1 : (decide (z ≤ r) && decide (r ≤ z + 9)) = false := by simpa using c
        have w2 := fun d => wn d r z (z + 9)
        rw [e1] at w2
        rw [round_v]; simp only [loopAt, nthC, bodyC, loops, List.nil_append, List.cons_append, List.append_nil, Try.f17, doF]
        simp (disch := omega) [go_sem, tab17, hg, w2])
    (fun s hI m => by
      obtain ⟨rfl, hI⟩ := hI
      left
      refine ⟨vi_exit ?_, hI.symm⟩
      rw [round_v]; simp only [loopAt, nthC, bodyC, loops, List.nil_append, List.cons_append, List.append_nil, Try.f17, doF]
      simp (disch := omega) [go_sem, tab17])
    (doF r 0) ⟨rfl, rfl⟩
  rcases key with ⟨hv, hq⟩ | hv
  · have hl0 := fun ks => loop_v (P := Try.prog) (K := kn) (ks := ks) hv
    simp only [loopAt, nthC, bodyC, loops, List.nil_append, List.cons_append, List.append_nil, Try.f17, doF, Int.natCast_zero, List.cons_append, List.nil_append] at hl0
    rw [hq]
    rw [vrun_v Try.func17 rfl rfl rfl]; simp only [Try.f17]
    simp (disch := omega) [go_sem, tab17, hl0]
  · have hl0 := fun ks => loop_v (P := Try.prog) (K := kn) (ks := ks) hv
    simp only [loopAt, nthC, bodyC, loops, List.nil_append, List.cons_append, List.append_nil, Try.f17, doF, Int.natCast_zero, List.cons_append, List.nil_append] at hl0
    rw [vrun_v Try.func17 rfl rfl rfl]; simp only [Try.f17]
    simp (disch := omega) [go_sem, tab17, hl0]
theorem SignOf_v (d : Nat) : vrun Try.prog kn (d + 1) 19 [.int .i64 r] [] = some (.int .i64 (sgnF r), []) := by
  unfold sgnF
  by_cases c1 : r = 43
  · subst c1
    rw [vrun_v Try.func19 rfl rfl rfl]; simp only [Try.f19]
    simp (disch := omega) [go_sem, tab19]
  by_cases c2 : r = 65291
  · subst c2
    rw [vrun_v Try.func19 rfl rfl rfl]; simp only [Try.f19]
    simp (disch := omega) [go_sem, tab19]
  by_cases c3 : r = 45
  · subst c3
    rw [vrun_v Try.func19 rfl rfl rfl]; simp only [Try.f19]
    simp (disch := omega) [go_sem, tab19]
  by_cases c4 : r = 8722
  · subst c4
    rw [vrun_v Try.func19 rfl rfl rfl]; simp only [Try.f19]
    simp (disch := omega) [go_sem, tab19]
  by_cases c5 : r = 65293
  · subst c5
    rw [vrun_v Try.func19 rfl rfl rfl]; simp only [Try.f19]
    simp (disch := omega) [go_sem, tab19]
  rw [vrun_v Try.func19 rfl rfl rfl]; simp only [Try.f19]
  simp (disch := omega) [go_sem, tab19, c1, c2, c3, c4, c5]
def inS (l : List Int) (r : Int) (j : Nat) : VE × VH := ([(0, some (.ints .i64 l)), (1, some (.int .i64 r)), (7, some (.int .i64 l.length)), (8, some (.int .i64 j))], [])
theorem Index_v (d : Nat) {l : List Int} (hl : l.length < 1000000) : ∃ v : Int, vrun Try.prog kn (d + 1) 71 [.ints .i64 l, .int .i64 r] [] = some (.int .i64 v, []) ∧ decide (0 ≤ v) = l.any fun x => decide (r = x) := by
  have key := vi_inv (n := kn.cf.rounds) (body := vCode Try.prog kn (vrun Try.prog kn d) 71 (loopAt Try.f71 0)) (fun j s => s = inS l r j ∧ (l.take j).any (fun x => decide (r = x)) = false)
    (fun x => (x = some (.exit 0, (inS l r l.length).1 ++ [(9, some (.bool false))], []) ∧ l.any (fun x => decide (r = x)) = false) ∨ ∃ k : Nat, x = some (.ret, [(4, some (.int .i64 k))], []) ∧ l.any (fun x => decide (r = x)) = true) l.length (by rw [k_cf, c_rounds]; omega)
    (fun j s hj hI => by
      obtain ⟨rfl, hI⟩ := hI
      by_cases hq : r = gt l j
      · right; intro m; right
        refine ⟨j, vi_ret ?_, List.any_eq_true.2 ⟨_, gt_mem hj, decide_eq_true hq⟩⟩
        rw [round_v]; simp only [loopAt, nthC, bodyC, loops, List.nil_append, List.cons_append, List.append_nil, Try.f71, inS]
        simp (disch := omega) [go_sem, tab71, ← hq]
      · left
        refine ⟨inS l r (j + 1), ?_, rfl, ?_⟩
        · rw [round_v]; simp only [loopAt, nthC, bodyC, loops, List.nil_append, List.cons_append, List.append_nil, Try.f71, inS]
          simp (disch := omega) [go_sem, tab71, hq]
        · rw [List.take_add_one, gt_some hj, List.any_append, hI]; simp [hq])
    (fun s hI m => by
      obtain ⟨rfl, hI⟩ := hI
      left
      refine ⟨vi_exit ?_, by rwa [List.take_length] at hI⟩
      rw [round_v]; simp only [loopAt, nthC, bodyC, loops, List.nil_append, List.cons_append, List.append_nil, Try.f71, inS]
      simp (disch := omega) [go_sem, tab71])
    (inS l r 0) ⟨rfl, by simp⟩
  rcases key with ⟨hv, ha⟩ | ⟨k, hv, ha⟩
  · have hl0 := fun ks => loop_v (P := Try.prog) (K := kn) (ks := ks) hv
    simp only [loopAt, nthC, bodyC, loops, List.nil_append, List.cons_append, List.append_nil, Try.f71, inS, Int.natCast_zero, List.cons_append, List.nil_append] at hl0
    refine ⟨-1, ?_, by rw [ha]; rfl⟩
    rw [vrun_v Try.func71 rfl rfl rfl]; simp only [Try.f71]
    simp (disch := omega) [go_sem, tab71, hl0]
  · have hl0 := fun ks => loop_v (P := Try.prog) (K := kn) (ks := ks) hv
    simp only [loopAt, nthC, bodyC, loops, List.nil_append, List.cons_append, List.append_nil, Try.f71, inS, Int.natCast_zero, List.cons_append, List.nil_append] at hl0
    refine ⟨k, ?_, by rw [ha]; simp⟩
    rw [vrun_v Try.func71 rfl rfl rfl]; simp only [Try.f71]
    simp (disch := omega) [go_sem, tab71, hl0]
theorem IsBlank_v (d : Nat) : vrun Try.prog kn (d + 3) 18 [.int .i64 r] [] = some (.bool (blkF r), []) := by
  obtain ⟨v, hv, ha⟩ := Index_v (r := r) (l := bkL) (d + 0 + 0) (by decide)
  change _ = blkF r at ha
  rw [← ha]
  have h2 : vrun Try.prog kn (d + 0 + 2) 44 [.ints .i64 bkL, .int .i64 r] [] = some (.bool (decide (0 ≤ v)), []) := by
    rw [vrun_v Try.func44 rfl rfl rfl]; simp only [Try.f44]
    simp (disch := omega) [go_sem, tab44, hv]
  unfold bkL at h2
  rw [vrun_v Try.func18 rfl rfl rfl]; simp only [Try.f18]
  simp (disch := omega) [go_sem, tab18, h2]
theorem plainOf_v (d : Nat) : vrun Try.prog kn (d + 4) 36 [.int .i64 r] [] = some (.sl 0 0 (plF r).length 1, [.ints true .u8 (plF r)]) := by
  have a1 := fun d => DigitOf_v (r := r) d
  have a2 := fun d => SignOf_v (r := r) d
  have a3 := fun d => IsBlank_v (r := r) d
  have a4 := fun d => RuneBytes_v d r
  have hb := digG_bd (zs := zsL) (r := r)
  change -1 ≤ digF r ∧ digF r ≤ 9 at hb
  unfold plF
  by_cases c1 : 0 ≤ digF r
  · rw [if_pos c1]
    have w1 := wu8' (x := 48 + digF r) (by omega) (by omega)
    rw [vrun_v Try.func36 rfl rfl rfl]; simp only [Try.f36]
    simp (disch := omega) [go_sem, tab36, nil36, a1, w1]
  rw [if_neg c1]
  by_cases c2 : 0 < sgnF r
  · rw [if_pos c2]
    rw [vrun_v Try.func36 rfl rfl rfl]; simp only [Try.f36]
    simp (disch := omega) [go_sem, tab36, nil36, a1, a2]
  rw [if_neg c2]
  by_cases c3 : sgnF r < 0
  · rw [if_pos c3]
    rw [vrun_v Try.func36 rfl rfl rfl]; simp only [Try.f36]
    simp (disch := omega) [go_sem, tab36, nil36, a1, a2]
  rw [if_neg c3]
  cases c4 : blkF r with
  | true =>
    rw [c4] at a3
    rw [vrun_v Try.func36 rfl rfl rfl]; simp only [Try.f36]
    simp (disch := omega) [go_sem, tab36, nil36, a1, a2, a3]
  | false =>
    rw [c4] at a3
    rw [vrun_v Try.func36 rfl rfl rfl]; simp only [Try.f36]
    simp (disch := omega) [go_sem, tab36, nil36, a1, a2, a3, a4]
end
end
/- Runes of the reference: what may be one, its bytes; digits, signs, blanks; one byte behind the first. No conditions. -/
section
open Num
section
variable {r : Int}
theorem l1may_v (d : Nat) : vrun Try.prog kn (d + 1) 69 [.int .i64 r] [] = some (.bool (isPt r), []) := by
  unfold isPt
  by_cases c1 : 0 ≤ r
  · by_cases c2 : r ≤ 1114111
    · by_cases c3 : r < 55296
      · rw [vrun_v Try.func69 rfl rfl rfl]; simp only [Try.f69]
        have : ¬ 55296 ≤ r := by omega
        simp (disch := omega) [go_sem, tab69, c1, c2, c3, this]
      · rw [vrun_v Try.func69 rfl rfl rfl]; simp only [Try.f69]
        have : 55296 ≤ r := by omega
        by_cases c4 : r ≤ 57343
        · have : ¬ 57343 < r := by omega
          simp (disch := omega) [go_sem, tab69, *]
        · have : 57343 < r := by omega
          simp (disch := omega) [go_sem, tab69, *]
    · rw [vrun_v Try.func69 rfl rfl rfl]; simp only [Try.f69]
      simp (disch := omega) [go_sem, tab69, c1, c2]
  · rw [vrun_v Try.func69 rfl rfl rfl]; simp only [Try.f69]
    simp (disch := omega) [go_sem, tab69, c1]
theorem sSignOf_v (d : Nat) : vrun Try.prog kn (d + 1) 48 [.int .i64 r] [] = some (.int .i64 (sgnF r), []) := by
  unfold sgnF
  by_cases c1 : r = 43
  · subst c1
    rw [vrun_v Try.func48 rfl rfl rfl]; simp only [Try.f48]
    simp (disch := omega) [go_sem, tab48]
  by_cases c2 : r = 65291
  · subst c2
    rw [vrun_v Try.func48 rfl rfl rfl]; simp only [Try.f48]
    simp (disch := omega) [go_sem, tab48]
  by_cases c3 : r = 45
  · subst c3
    rw [vrun_v Try.func48 rfl rfl rfl]; simp only [Try.f48]
    simp (disch := omega) [go_sem, tab48]
  by_cases c4 : r = 8722
  · subst c4
    rw [vrun_v Try.func48 rfl rfl rfl]; simp only [Try.f48]
    simp (disch := omega) [go_sem, tab48]
  by_cases c5 : r = 65293
  · subst c5
    rw [vrun_v Try.func48 rfl rfl rfl]; simp only [Try.f48]
    simp (disch := omega) [go_sem, tab48]
  rw [vrun_v Try.func48 rfl rfl rfl]; simp only [Try.f48]
  simp (disch := omega) [go_sem, tab48, c1, c2, c3, c4, c5]
theorem sIsBlank_v (d : Nat) : vrun Try.prog kn (d + 1) 49 [.int .i64 r] [] = some (.bool (blkF r), []) := by
  have e : blkF r = (decide (r = 9) || (decide (r = 32) || (decide (r = 160) || (decide (r = 8201) || decide (r = 12288))))) := by unfold blkF bkL; simp
  rw [e]
  by_cases c1 : r = 32
  · subst c1
    rw [vrun_v Try.func49 rfl rfl rfl]; simp only [Try.f49]
    simp (disch := omega) [go_sem, tab49]
  by_cases c2 : r = 9
  · subst c2
    rw [vrun_v Try.func49 rfl rfl rfl]; simp only [Try.f49]
    simp (disch := omega) [go_sem, tab49]
  by_cases c3 : r = 160
  · subst c3
    rw [vrun_v Try.func49 rfl rfl rfl]; simp only [Try.f49]
    simp (disch := omega) [go_sem, tab49]
  by_cases c4 : r = 8201
  · subst c4
    rw [vrun_v Try.func49 rfl rfl rfl]; simp only [Try.f49]
    simp (disch := omega) [go_sem, tab49]
  by_cases c5 : r = 12288
  · subst c5
    rw [vrun_v Try.func49 rfl rfl rfl]; simp only [Try.f49]
    simp (disch := omega) [go_sem, tab49]
  rw [vrun_v Try.func49 rfl rfl rfl]; simp only [Try.f49]
  simp (disch := omega) [go_sem, tab49, c1, c2, c3, c4, c5]
theorem sRuneBytes_v (d : Nat) : vrun Try.prog kn (d + 2) 40 [.int .i64 r] [] = some (.ints .u8 (rbF r), []) := by
  have a1 := fun d => l1may_v (r := r) d
  unfold rbF
  cases hp : isPt r with
  | false =>
    rw [hp] at a1
    rw [vrun_v Try.func40 rfl rfl rfl]; simp only [Try.f40]
    simp (disch := omega) [go_sem, tab40, nil40, a1]
  | true =>
    rw [hp] at a1
    obtain ⟨r0, r1⟩ := isPt_t hp
    simp only [Bool.true_eq_false, if_false]
    have w4 := wu8' (x := 128 + r % 64) (by omega) (by omega)
    have w5 := wu8' (x := 128 + r / 64 % 64) (by omega) (by omega)
    have w6 := wu8' (x := 128 + r / 4096 % 64) (by omega) (by omega)
    by_cases c1 : r < 128
    · rw [if_pos c1]
      have w1 := wu8' (x := r) (by omega) (by omega)
      rw [vrun_v Try.func40 rfl rfl rfl]; simp only [Try.f40]
      simp (disch := omega) [go_sem, tab40, nil40, a1, c1, w1]
    · rw [if_neg c1]
      by_cases c2 : r < 2048
      · rw [if_pos c2]
        have w1 := wu8' (x := 192 + r / 64) (by omega) (by omega)
        rw [vrun_v Try.func40 rfl rfl rfl]; simp only [Try.f40]
        simp (disch := omega) [go_sem, tab40, nil40, a1, c1, c2, w1, w4]
      · rw [if_neg c2]
        by_cases c3 : r < 65536
        · rw [if_pos c3]
          have w1 := wu8' (x := 224 + r / 4096) (by omega) (by omega)
          rw [vrun_v Try.func40 rfl rfl rfl]; simp only [Try.f40]
          simp (disch := omega) [go_sem, tab40, nil40, a1, c1, c2, c3, w1, w4, w5]
        · rw [if_neg c3]
          have w1 := wu8' (x := 240 + r / 262144) (by omega) (by omega)
          rw [vrun_v Try.func40 rfl rfl rfl]; simp only [Try.f40]
          simp (disch := omega) [go_sem, tab40, nil40, a1, c1, c2, c3, w1, w4, w5, w6]
/-- A byte behind the first one. -/
def tailF (b : List Int) (i : Nat) : Int := if i < b.length ∧ 128 ≤ gt b i ∧ gt b i ≤ 191 then gt b i % 64 else -1
theorem l1tail_v (d : Nat) {b : List Int} {i : Nat} (hl : b.length < 1000000) (hi : i < 1000000) (hb : ∀ x ∈ b, 0 ≤ x ∧ x < 256) : vrun Try.prog kn (d + 1) 82 [.ints .u8 b, .int .i64 (i : Int)] [] = some (.int .i64 (tailF b i), []) := by
  unfold tailF
  by_cases c1 : i < b.length
  · have hx := hb _ (gt_mem c1)
    have m1 := fun P t => and8_at and8_63 P t hx.1 hx.2
    by_cases c2 : 128 ≤ gt b i
    · by_cases c3 : gt b i ≤ 191
      · rw [if_pos ⟨c1, c2, c3⟩]
        rw [vrun_v Try.func82 rfl rfl rfl]; simp only [Try.f82]
        simp (disch := omega) [go_sem, tab82, m1]
      · rw [if_neg (fun h => c3 h.2.2)]
        rw [vrun_v Try.func82 rfl rfl rfl]; simp only [Try.f82]
        simp (disch := omega) [go_sem, tab82]
    · rw [if_neg (fun h => c2 h.2.1)]
      rw [vrun_v Try.func82 rfl rfl rfl]; simp only [Try.f82]
      simp (disch := omega) [go_sem, tab82]
  · rw [if_neg (fun h => c1 h.1)]
    rw [vrun_v Try.func82 rfl rfl rfl]; simp only [Try.f82]
    simp (disch := omega) [go_sem, tab82]
def sdF (r : Int) (j : Nat) : VE × VH := ([(0, some (.int .i64 r)), (3, some (.sl 0 0 5 1)), (4, some (.int .i64 j))], [.ints true .i64 [48, 1632, 1776, 2406, 65296]])
theorem sDigitOf_v (d : Nat) : vrun Try.prog kn (d + 1) 47 [.int .i64 r] [] = some (.int .i64 (digF r), []) := by
  have key := vi_inv (n := kn.cf.rounds) (body := vCode Try.prog kn (vrun Try.prog kn d) 47 (loopAt Try.f47 0)) (fun j s => s = sdF r j ∧ digG (zsL.drop j) r = digF r)
    (fun x => (x = some (.exit 0, (sdF r 5).1 ++ [(9, some (.bool false))], (sdF r 5).2) ∧ digF r = -1) ∨ x = some (.ret, [(2, some (.int .i64 (digF r)))], [])) 5 (by rw [k_cf, c_rounds]; omega)
    (fun j s hj hI => by
      obtain ⟨rfl, hI⟩ := hI
      have hd : zsL.drop j = gt zsL j :: zsL.drop (j + 1) := by rw [List.drop_eq_getElem_cons (by unfold zsL; simpa using hj), gt_get]
      have hb : 0 ≤ gt zsL j ∧ gt zsL j ≤ 65296 := by
        have : j = 0 ∨ j = 1 ∨ j = 2 ∨ j = 3 ∨ j = 4 := by omega
        rcases this with rfl | rfl | rfl | rfl | rfl <;> decide
      rw [hd, digG] at hI
      have hg : gt [48, 1632, 1776, 2406, 65296] j = gt zsL j := rfl
      generalize gt zsL j = z at *
      by_cases c : z ≤ r ∧ r ≤ z + 9
      · rw [if_pos c] at hI
        obtain ⟨c1, c2⟩ := c
        right; intro m; right
        refine vi_ret ?_
        rw [← hI]
        rw [round_v]; simp only [loopAt, nthC, bodyC, loops, List.nil_append, List.cons_append, List.append_nil, Try.f47, sdF]
        simp (disch := omega) [go_sem, tab47, hg, c1, c2]
      · rw [if_neg c] at hI
        left
        refine ⟨sdF r (j + 1), ?_, rfl, hI⟩
        rw [round_v]; simp only [loopAt, nthC, bodyC, loops, List.nil_append, List.cons_append, List.append_nil, Try.f47, sdF]
        by_cases c1 : z ≤ r
        · have c2 : ¬ r ≤ z + 9 := fun h => c ⟨c1, h⟩
          simp (disch := omega) [go_sem, tab47, hg, c1, c2]
        · simp (disch := omega) [go_sem, tab47, hg, c1])
    (fun s hI m => by
      obtain ⟨rfl, hI⟩ := hI
      left
      refine ⟨vi_exit ?_, hI.symm⟩
      rw [round_v]; simp only [loopAt, nthC, bodyC, loops, List.nil_append, List.cons_append, List.append_nil, Try.f47, sdF]
      simp (disch := omega) [go_sem, tab47])
    (sdF r 0) ⟨rfl, rfl⟩
  rcases key with ⟨hv, hq⟩ | hv
  · have hl0 := fun ks => loop_v (P := Try.prog) (K := kn) (ks := ks) hv
    simp only [loopAt, nthC, bodyC, loops, List.nil_append, List.cons_append, List.append_nil, Try.f47, sdF, Int.natCast_zero, List.cons_append, List.nil_append] at hl0
    rw [hq]
    rw [vrun_v Try.func47 rfl rfl rfl]; simp only [Try.f47]
    simp (disch := omega) [go_sem, tab47, hl0]
  · have hl0 := fun ks => loop_v (P := Try.prog) (K := kn) (ks := ks) hv
    simp only [loopAt, nthC, bodyC, loops, List.nil_append, List.cons_append, List.append_nil, Try.f47, sdF, Int.natCast_zero, List.cons_append, List.nil_append] at hl0
    rw [vrun_v Try.func47 rfl rfl rfl]; simp only [Try.f47]
    simp (disch := omega) [go_sem, tab47, hl0]
end
end
/- Runes of the reference: one rune. No conditions. -/
section
open Num
theorem runeL_bd2 {L : List Int} : ∀ {r M : Int}, 0 ≤ r → r < M → r * 64 ^ L.length ≤ runeL r L ∧ runeL r L < M * 64 ^ L.length := by
  induction L with
  | nil => intro r M h0 h1; simp [runeL]; omega
  | cons t L ih =>
    intro r M h0 h1
    have := ih (r := r * 64 + t % 64) (M := M * 64) (by omega) (by omega)
    have e : ∀ q : Int, q * 64 ^ (L.length + 1) = q * 64 * 64 ^ L.length := fun q => by rw [Int.pow_succ, Int.mul_comm (64 ^ L.length), Int.mul_assoc]
    rw [List.length_cons, e, e]
    have hp : (0 : Int) ≤ 64 ^ L.length := Int.pow_nonneg (by omega)
    have h3 : r * 64 * 64 ^ L.length ≤ (r * 64 + t % 64) * 64 ^ L.length := Int.mul_le_mul_of_nonneg_right (by omega) hp
    exact ⟨Int.le_trans h3 this.1, this.2⟩
def slN (c : Int) : Int := if 194 ≤ c ∧ c ≤ 223 then 2 else if 224 ≤ c ∧ c ≤ 239 then 3 else if 240 ≤ c ∧ c ≤ 244 then 4 else 0
def slM (c : Int) : Int := if 194 ≤ c ∧ c ≤ 223 then 128 else if 224 ≤ c ∧ c ≤ 239 then 2048 else 65536
/-- The same, as the reference tells it. -/
theorem runeF_s {b : List Int} (h1 : ¬ gt b 0 < 128) (h2 : gt b 0 < 256) : runeF b =
    if slN (gt b 0) = 0 ∨ (b.length : Int) < slN (gt b 0) then (65533, 1) else
    if (restL b (slN (gt b 0))).all conB = false then (65533, 1) else
    if slM (gt b 0) ≤ runeL (ldR (gt b 0)) (restL b (slN (gt b 0))) ∧ isPt (runeL (ldR (gt b 0)) (restL b (slN (gt b 0)))) = true then (runeL (ldR (gt b 0)) (restL b (slN (gt b 0))), slN (gt b 0)) else (65533, 1) := by
  unfold runeF
  rw [if_neg h1]
  have hrest : ∀ n : Int, ¬ (b.length : Int) < n → (restL b n).length = n.toNat - 1 := fun n hn => by unfold restL; rw [List.length_take, List.length_drop]; omega
  generalize gt b 0 = c at *
  by_cases k1 : 192 ≤ c ∧ c ≤ 193
  · have e1 : ldN c = 2 := by unfold ldN; rw [if_pos (by omega)]
    have e2 : slN c = 0 := by unfold slN; rw [if_neg (by omega), if_neg (by omega), if_neg (by omega)]
    have e3 : 0 ≤ ldR c ∧ ldR c < 2 := by unfold ldR; rw [if_pos (by omega)]; omega
    rw [e1, e2, if_pos (show (0 : Int) = 0 ∨ (b.length : Int) < 0 from .inl rfl)]
    split
    · rfl
    · split
      · rfl
      · rename_i g1 g2
        have := runeL_bd2 (L := restL b 2) e3.1 e3.2
        rw [hrest 2 (fun h => g1 (.inr h))] at this
        have hs : ¬ szOf (runeL (ldR c) (restL b 2)) = 2 := by
          unfold szOf; rw [if_pos (by have := this.2; simp at this; omega)]; omega
        rw [if_neg (fun h => hs h.2)]
  by_cases k2 : 245 ≤ c ∧ c ≤ 247
  · have e1 : ldN c = 4 := by unfold ldN; rw [if_neg (by omega), if_neg (by omega), if_pos (by omega)]
    have e2 : slN c = 0 := by unfold slN; rw [if_neg (by omega), if_neg (by omega), if_neg (by omega)]
    have e3 : 5 ≤ ldR c ∧ ldR c < 8 := by unfold ldR; rw [if_neg (by omega), if_neg (by omega), if_pos (by omega)]; omega
    rw [e1, e2, if_pos (show (0 : Int) = 0 ∨ (b.length : Int) < 0 from .inl rfl)]
    split
    · rfl
    · split
      · rfl
      · rename_i g1 g2
        have := runeL_bd2 (L := restL b 4) (r := ldR c) (M := 8) (by omega) e3.2
        rw [hrest 4 (fun h => g1 (.inr h))] at this
        have hs : isPt (runeL (ldR c) (restL b 4)) = false := by
          have h5 : 1310720 ≤ runeL (ldR c) (restL b 4) := by have := this.1; simp at this; omega
          unfold isPt
          rw [decide_eq_false (by omega : ¬ runeL (ldR c) (restL b 4) ≤ 1114111)]; simp
        rw [if_neg (fun h => by rw [hs] at h; exact absurd h.1 (by simp))]
  have e1 : ldN c = slN c := by unfold ldN slN; (repeat' split) <;> omega
  rw [e1]
  split
  · rfl
  · rename_i g1
    split
    · rfl
    · have hl := hrest (slN c) (fun h => g1 (.inr h))
      have hn0 : slN c ≠ 0 := fun h => g1 (.inl h)
      have key : szOf (runeL (ldR c) (restL b (slN c))) = slN c ↔ slM c ≤ runeL (ldR c) (restL b (slN c)) := by
        by_cases q1 : 194 ≤ c ∧ c ≤ 223
        · have u1 : slN c = 2 := by unfold slN; rw [if_pos q1]
          have u2 : slM c = 128 := by unfold slM; rw [if_pos q1]
          have u3 : 0 ≤ ldR c ∧ ldR c < 32 := by unfold ldR; rw [if_pos (by omega)]; omega
          have := runeL_bd2 (L := restL b (slN c)) u3.1 u3.2
          rw [hl] at this
          rw [u1] at this ⊢
          rw [u2]
          simp at this
          unfold szOf; (repeat' split) <;> omega
        · by_cases q2 : 224 ≤ c ∧ c ≤ 239
          · have u1 : slN c = 3 := by unfold slN; rw [if_neg q1, if_pos q2]
            have u2 : slM c = 2048 := by unfold slM; rw [if_neg q1, if_pos q2]
            have u3 : 0 ≤ ldR c ∧ ldR c < 16 := by unfold ldR; rw [if_neg (by omega), if_pos (by omega)]; omega
            have := runeL_bd2 (L := restL b (slN c)) u3.1 u3.2
            rw [hl] at this
            rw [u1] at this ⊢
            rw [u2]
            simp at this
            unfold szOf; (repeat' split) <;> omega
          · have q3 : 240 ≤ c ∧ c ≤ 244 := by unfold slN at hn0; rw [if_neg q1, if_neg q2] at hn0; by_cases h : 240 ≤ c ∧ c ≤ 244; · exact h
                                              · rw [if_neg h] at hn0; exact absurd rfl hn0
            have u1 : slN c = 4 := by unfold slN; rw [if_neg q1, if_neg q2, if_pos q3]
            have u2 : slM c = 65536 := by unfold slM; rw [if_neg q1, if_neg q2]
            rw [u1, u2]
            unfold szOf; (repeat' split) <;> omega
      by_cases c1 : isPt (runeL (ldR c) (restL b (slN c))) = true
      · by_cases c2 : slM c ≤ runeL (ldR c) (restL b (slN c))
        · rw [if_pos ⟨c1, key.2 c2⟩, if_pos ⟨c2, c1⟩]
        · rw [if_neg (fun h => c2 (key.1 h.2)), if_neg (fun h => c2 h.1)]
      · rw [if_neg (fun h => c1 h.1), if_neg (fun h => c1 h.2)]
section
variable {b : List Int} {i : Nat} {n r m : Int}
def lnS (b : List Int) (i : Nat) (n r m : Int) (j : Nat) : VE × VH := ([(0, some (.ints .u8 b)), (1, some (.int .i64 i)), (7, some (.int .i64 n)), (8, some (.int .i64 (runeL r (((b.drop i).drop 1).take j)))), (9, some (.int .i64 m)), (10, some (.int .i64 (j + 1)))], [])
theorem con_tail {D : List Int} (hD : ∀ x ∈ D, 0 ≤ x ∧ x < 256) {k : Nat} : (0 ≤ tailF D k ↔ k < D.length ∧ conB (gt D k) = true) ∧ (0 ≤ tailF D k → tailF D k = gt D k % 64) := by
  unfold tailF conB
  by_cases hk : k < D.length
  · have hx := hD _ (gt_mem hk)
    by_cases c : 128 ≤ gt D k ∧ gt D k ≤ 191
    · rw [if_pos ⟨hk, c⟩]
      have : gt D k / 64 = 2 := by omega
      exact ⟨⟨fun _ => ⟨hk, decide_eq_true this⟩, fun _ => by omega⟩, fun _ => rfl⟩
    · rw [if_neg (fun h => c h.2)]
      have : ¬ gt D k / 64 = 2 := by omega
      exact ⟨⟨fun h => by omega, fun h => absurd (of_decide_eq_true h.2) this⟩, fun h => by omega⟩
  · rw [if_neg (fun h => hk h.1)]
    exact ⟨⟨fun h => by omega, fun h => absurd h.1 hk⟩, fun h => by omega⟩
theorem gt_drop (b : List Int) (i k : Nat) : gt (b.drop i) k = gt b (i + k) := by
  unfold gt
  rw [List.getD_eq_getElem?_getD, List.getD_eq_getElem?_getD, List.getElem?_drop]
theorem tail_drop (b : List Int) (i k : Nat) : tailF b (i + k) = tailF (b.drop i) k := by
  unfold tailF
  rw [gt_drop, List.length_drop]
  by_cases h : i + k < b.length
  · have h' : k < b.length - i := by omega
    simp only [h, h', true_and]
  · have h' : ¬ k < b.length - i := by omega
    simp only [h, h', false_and, if_false]
theorem ln_l (d : Nat) (hl : b.length < 1000000) (hi : i < b.length) (hb : ∀ x ∈ b, 0 ≤ x ∧ x < 256) (r0 : 0 ≤ r) (r1 : r < 32) (n0 : 2 ≤ n) (n1 : n ≤ 4) :
    (viter (vCode Try.prog kn (vrun Try.prog kn (d + 1)) 72 (loopAt Try.f72 0)) kn.cf.rounds (lnS b i n r m 0).1 (lnS b i n r m 0).2 = some (.exit 1, (lnS b i n r m (n.toNat - 1)).1 ++ [(49, some (.bool false))], []) ∧ n ≤ ((b.drop i).length : Int) ∧ (restL (b.drop i) n).all conB = true) ∨
    (viter (vCode Try.prog kn (vrun Try.prog kn (d + 1)) 72 (loopAt Try.f72 0)) kn.cf.rounds (lnS b i n r m 0).1 (lnS b i n r m 0).2 = some (.ret, [(4, some (.int .i64 65533)), (5, some (.int .i64 1))], []) ∧ (((b.drop i).length : Int) < n ∨ (restL (b.drop i) n).all conB = false)) := by
  have hDb : ∀ x ∈ b.drop i, 0 ≤ x ∧ x < 256 := fun x hx => hb x (List.mem_of_mem_drop hx)
  have hDl : (b.drop i).length = b.length - i := List.length_drop ..
  refine vi_inv (n := kn.cf.rounds) (body := vCode Try.prog kn (vrun Try.prog kn (d + 1)) 72 (loopAt Try.f72 0)) (fun j s => s = lnS b i n r m j ∧ j + 1 ≤ (b.drop i).length ∧ (((b.drop i).drop 1).take j).all conB = true)
    (fun x => (x = some (.exit 1, (lnS b i n r m (n.toNat - 1)).1 ++ [(49, some (.bool false))], []) ∧ n ≤ ((b.drop i).length : Int) ∧ (restL (b.drop i) n).all conB = true) ∨ (x = some (.ret, [(4, some (.int .i64 65533)), (5, some (.int .i64 1))], []) ∧ (((b.drop i).length : Int) < n ∨ (restL (b.drop i) n).all conB = false))) (n.toNat - 1) (by rw [k_cf, c_rounds]; omega)
    (fun j s hj hI => ?_) (fun s hI mm => ?_) (lnS b i n r m 0) ⟨rfl, by omega, by simp⟩
  · obtain ⟨rfl, h1, hI⟩ := hI
    have a1 := fun d => l1tail_v (b := b) (i := i + (j + 1)) d hl (by omega) hb
    rw [tail_drop] at a1
    have e0 : ((i + (j + 1) : Nat) : Int) = (i : Int) + (j + 1) := by omega
    rw [e0] at a1
    obtain ⟨t1, t2⟩ := con_tail (D := b.drop i) hDb (k := j + 1)
    have hjj : (j : Int) + 1 < n := by omega
    by_cases ht : 0 ≤ tailF (b.drop i) (j + 1)
    · left
      obtain ⟨t3, t4⟩ := t1.1 ht
      have t5 := t2 ht
      have hg : gt ((b.drop i).drop 1) j = gt (b.drop i) (j + 1) := by rw [gt_drop, Nat.add_comm]
      have e1 : ((b.drop i).drop 1).take (j + 1) = ((b.drop i).drop 1).take j ++ [gt (b.drop i) (j + 1)] := by rw [List.take_add_one, gt_some (by rw [List.length_drop]; omega), hg]; rfl
      refine ⟨lnS b i n r m (j + 1), ?_, rfl, by omega, by rw [e1, List.all_append, hI]; simp [t4]⟩
      have e2 : runeL r (((b.drop i).drop 1).take (j + 1)) = runeL r (((b.drop i).drop 1).take j) * 64 + tailF (b.drop i) (j + 1) := by rw [e1, t5]; unfold runeL; rw [List.foldl_append]; rfl
      have hbd := runeL_bd2 (L := ((b.drop i).drop 1).take j) r0 r1
      have hp : (64 : Int) ^ (((b.drop i).drop 1).take j).length ≤ 4096 := by
        have hlen : (((b.drop i).drop 1).take j).length = j := by rw [List.length_take, List.length_drop]; omega
        rw [hlen]
        have : j = 0 ∨ j = 1 ∨ j = 2 := by omega
        rcases this with rfl | rfl | rfl <;> decide
      have hp0 : (0 : Int) ≤ 64 ^ (((b.drop i).drop 1).take j).length := Int.pow_nonneg (by omega)
      have hR0 : 0 ≤ runeL r (((b.drop i).drop 1).take j) := Int.le_trans (Int.mul_nonneg r0 hp0) hbd.1
      have hT : tailF (b.drop i) (j + 1) < 64 := by rw [t5]; omega
      rw [round_v]; simp only [loopAt, nthC, bodyC, loops, List.nil_append, List.cons_append, List.append_nil, Try.f72, lnS, e2]
      generalize runeL r (((b.drop i).drop 1).take j) = R at *
      generalize tailF (b.drop i) (j + 1) = T at *
      clear e1 e2 t1 t2 t4 t5 hg hI
      simp (implicitDefEqProofs := false) (disch := omega) [go_sem, tab72, a1]
    · right; intro mm; right
      refine ⟨vi_ret ?_, ?_⟩
      · have ht' : tailF (b.drop i) (j + 1) < 0 := by omega
        clear t1 t2 hI
        rw [round_v]; simp only [loopAt, nthC, bodyC, loops, List.nil_append, List.cons_append, List.append_nil, Try.f72, lnS]
        generalize runeL r (((b.drop i).drop 1).take j) = R at *
        generalize tailF (b.drop i) (j + 1) = T at *
        simp (implicitDefEqProofs := false) (disch := omega) [go_sem, tab72, a1]
      · by_cases hlen : ((b.drop i).length : Int) < n
        · exact .inl hlen
        · right
          have h3 : conB (gt (b.drop i) (j + 1)) = false := by
            cases h : conB (gt (b.drop i) (j + 1))
            · rfl
            · exact absurd (t1.2 ⟨by omega, h⟩) ht
          rw [List.all_eq_false]
          refine ⟨gt (b.drop i) (j + 1), ?_, by simp [h3]⟩
          unfold restL
          have hg : gt (((b.drop i).drop 1).take (n.toNat - 1)) j = gt (b.drop i) (j + 1) := by
            have h4 := gt_drop (b.drop i) 1 j
            rw [Nat.add_comm 1 j] at h4
            rw [← h4]
            unfold gt
            rw [List.getD_eq_getElem?_getD, List.getD_eq_getElem?_getD, List.getElem?_take_of_lt (by omega)]
          rw [← hg]
          exact gt_mem (by rw [List.length_take, List.length_drop]; omega)
  · obtain ⟨rfl, h1, hI⟩ := hI
    left
    refine ⟨vi_exit ?_, by omega, hI⟩
    have hjj : ((n.toNat - 1 : Nat) : Int) + 1 = n := by omega
    rw [round_v]; simp only [loopAt, nthC, bodyC, loops, List.nil_append, List.cons_append, List.append_nil, Try.f72, lnS, hjj]
    simp (implicitDefEqProofs := false) (disch := omega) [go_sem, tab72]
end
end
/- Runes of the reference: one rune told. No conditions. -/
section
open Num
section
variable {b : List Int} {i : Nat}
set_option maxHeartbeats 2000000 in
theorem l1rune_v (d : Nat) (hl : b.length < 1000000) (hi : i < b.length) (hb : ∀ x ∈ b, 0 ≤ x ∧ x < 256) : vrun Try.prog kn (d + 2) 72 [.ints .u8 b, .int .i64 (i : Int)] [] = some (.tup [.int .i64 (runeF (b.drop i)).1, .int .i64 (runeF (b.drop i)).2], []) := by
  have hx := hb _ (gt_mem hi)
  have hg : gt (b.drop i) 0 = gt b i := by rw [gt_drop, Nat.add_zero]
  by_cases c1 : gt b i < 128
  · have e : runeF (b.drop i) = (gt b i, 1) := by unfold runeF; rw [hg, if_pos c1]
    rw [e]
    rw [vrun_v Try.func72 rfl rfl rfl]; simp only [Try.f72]
    simp (implicitDefEqProofs := false) (disch := omega) [go_sem, tab72, c1]
  rw [runeF_s (by rw [hg]; exact c1) (by rw [hg]; exact hx.2), hg]
  have m1 := fun P t => and8_at and8_31 P t hx.1 hx.2
  have m2 := fun P t => and8_at and8_15 P t hx.1 hx.2
  have m3 := fun P t => and8_at and8_7 P t hx.1 hx.2
  have key : ∀ (n r m : Int), 2 ≤ n → n ≤ 4 → 0 ≤ r → r < 32 → 128 ≤ m → m ≤ 65536 → (∀ ks, xC Try.prog kn (vrun Try.prog kn (d + 0 + 1)) 72 (.loop (loopAt Try.f72 0)) ks (lnS b i n r m 0).1 (lnS b i n r m 0).2 = xN Try.prog kn (vrun Try.prog kn (d + 0 + 1)) 72 (.exit 1) ks ((lnS b i n r m (n.toNat - 1)).1 ++ [(49, some (.bool false))]) []) ∧ n ≤ ((b.drop i).length : Int) ∧ (restL (b.drop i) n).all conB = true ∨
      (∀ ks, xC Try.prog kn (vrun Try.prog kn (d + 0 + 1)) 72 (.loop (loopAt Try.f72 0)) ks (lnS b i n r m 0).1 (lnS b i n r m 0).2 = xN Try.prog kn (vrun Try.prog kn (d + 0 + 1)) 72 .ret ks [(4, some (.int .i64 65533)), (5, some (.int .i64 1))] []) ∧ (((b.drop i).length : Int) < n ∨ (restL (b.drop i) n).all conB = false) := by
    intro n r m n0 n1 r0 r1 _ _
    rcases ln_l (m := m) (d + 0) hl hi hb r0 r1 n0 n1 with ⟨hv, h⟩ | ⟨hv, h⟩
    · exact .inl ⟨fun ks => loop_v (P := Try.prog) (K := kn) (ks := ks) hv, h⟩
    · exact .inr ⟨fun ks => loop_v (P := Try.prog) (K := kn) (ks := ks) hv, h⟩
  by_cases q1 : 194 ≤ gt b i ∧ gt b i ≤ 223
  · have u1 : slN (gt b i) = 2 := by unfold slN; rw [if_pos q1]
    have u2 : slM (gt b i) = 128 := by unfold slM; rw [if_pos q1]
    have u3 : ldR (gt b i) = gt b i % 32 := by unfold ldR; rw [if_pos (by omega)]
    rw [u1, u2, u3]
    clear u1 u2 u3
    obtain ⟨q2, q3⟩ := q1
    rcases key 2 (gt b i % 32) 128 (by omega) (by omega) (by omega) (by omega) (by omega) (by omega) with ⟨hl0, h1, h2⟩ | ⟨hl0, h1⟩
    · rw [if_neg (by omega), h2]
      simp only [Bool.true_eq_false, if_false]
      have eR : runeL (gt b i % 32) (((b.drop i).drop 1).take ((2 : Int).toNat - 1)) = runeL (gt b i % 32) (restL (b.drop i) 2) := rfl
      have hrn : runeL (gt b i % 32) [] = gt b i % 32 := rfl
      simp only [loopAt, nthC, bodyC, loops, List.nil_append, List.cons_append, List.append_nil, Try.f72, lnS, eR, List.take_zero, hrn, Int.natCast_zero, Int.zero_add, List.cons_append, List.nil_append] at hl0
      have a2 := fun d => l1may_v (r := runeL (gt b i % 32) (restL (b.drop i) 2)) d
      clear h1 h2 key eR hrn hb hg
      generalize runeL (gt b i % 32) (restL (b.drop i) 2) = R at *
      by_cases p1 : 128 ≤ R
      · cases p2 : isPt R with
        | true =>
          rw [p2] at a2
          rw [if_pos ⟨p1, rfl⟩]
          rw [vrun_v Try.func72 rfl rfl rfl]; simp only [Try.f72]
          simp (implicitDefEqProofs := false) (disch := omega) [go_sem, tab72, m1, hl0, a2]
        | false =>
          rw [p2] at a2
          rw [if_neg (fun h => by simp at h)]
          rw [vrun_v Try.func72 rfl rfl rfl]; simp only [Try.f72]
          simp (implicitDefEqProofs := false) (disch := omega) [go_sem, tab72, m1, hl0, a2]
      · rw [if_neg (fun h => p1 h.1)]
        have p3 : R < 128 := by omega
        rw [vrun_v Try.func72 rfl rfl rfl]; simp only [Try.f72]
        simp (implicitDefEqProofs := false) (disch := omega) [go_sem, tab72, m1, hl0, p3]
    · have e : (if (2 : Int) = 0 ∨ ((b.drop i).length : Int) < 2 then ((65533, 1) : Int × Int) else if (restL (b.drop i) 2).all conB = false then (65533, 1) else if 128 ≤ runeL (gt b i % 32) (restL (b.drop i) 2) ∧ isPt (runeL (gt b i % 32) (restL (b.drop i) 2)) = true then (runeL (gt b i % 32) (restL (b.drop i) 2), 2) else (65533, 1)) = (65533, 1) := by
        rcases h1 with h | h
        · rw [if_pos (.inr h)]
        · rw [if_pos h]; split <;> rfl
      rw [e]
      have hrn : runeL (gt b i % 32) [] = gt b i % 32 := rfl
      simp only [loopAt, nthC, bodyC, loops, List.nil_append, List.cons_append, List.append_nil, Try.f72, lnS, List.take_zero, hrn, Int.natCast_zero, Int.zero_add, List.cons_append, List.nil_append] at hl0
      clear h1 e key hrn hb hg
      rw [vrun_v Try.func72 rfl rfl rfl]; simp only [Try.f72]
      simp (implicitDefEqProofs := false) (disch := omega) [go_sem, tab72, m1, hl0]
  by_cases q1' : 224 ≤ gt b i ∧ gt b i ≤ 239
  · have u1 : slN (gt b i) = 3 := by unfold slN; rw [if_neg q1, if_pos q1']
    have u2 : slM (gt b i) = 2048 := by unfold slM; rw [if_neg q1, if_pos q1']
    have u3 : ldR (gt b i) = gt b i % 16 := by unfold ldR; rw [if_neg (by omega), if_pos (by omega)]
    rw [u1, u2, u3]
    clear u1 u2 u3
    obtain ⟨q2, q3⟩ := q1'
    rcases key 3 (gt b i % 16) 2048 (by omega) (by omega) (by omega) (by omega) (by omega) (by omega) with ⟨hl0, h1, h2⟩ | ⟨hl0, h1⟩
    · rw [if_neg (by omega), h2]
      simp only [Bool.true_eq_false, if_false]
      have eR : runeL (gt b i % 16) (((b.drop i).drop 1).take ((3 : Int).toNat - 1)) = runeL (gt b i % 16) (restL (b.drop i) 3) := rfl
      have hrn : runeL (gt b i % 16) [] = gt b i % 16 := rfl
      simp only [loopAt, nthC, bodyC, loops, List.nil_append, List.cons_append, List.append_nil, Try.f72, lnS, eR, List.take_zero, hrn, Int.natCast_zero, Int.zero_add, List.cons_append, List.nil_append] at hl0
      have a2 := fun d => l1may_v (r := runeL (gt b i % 16) (restL (b.drop i) 3)) d
      clear h1 h2 key eR hrn hb hg
      generalize runeL (gt b i % 16) (restL (b.drop i) 3) = R at *
      by_cases p1 : 2048 ≤ R
      · cases p2 : isPt R with
        | true =>
          rw [p2] at a2
          rw [if_pos ⟨p1, rfl⟩]
          rw [vrun_v Try.func72 rfl rfl rfl]; simp only [Try.f72]
          simp (implicitDefEqProofs := false) (disch := omega) [go_sem, tab72, m2, hl0, a2]
        | false =>
          rw [p2] at a2
          rw [if_neg (fun h => by simp at h)]
          rw [vrun_v Try.func72 rfl rfl rfl]; simp only [Try.f72]
          simp (implicitDefEqProofs := false) (disch := omega) [go_sem, tab72, m2, hl0, a2]
      · rw [if_neg (fun h => p1 h.1)]
        have p3 : R < 2048 := by omega
        rw [vrun_v Try.func72 rfl rfl rfl]; simp only [Try.f72]
        simp (implicitDefEqProofs := false) (disch := omega) [go_sem, tab72, m2, hl0, p3]
    · have e : (if (3 : Int) = 0 ∨ ((b.drop i).length : Int) < 3 then ((65533, 1) : Int × Int) else if (restL (b.drop i) 3).all conB = false then (65533, 1) else if 2048 ≤ runeL (gt b i % 16) (restL (b.drop i) 3) ∧ isPt (runeL (gt b i % 16) (restL (b.drop i) 3)) = true then (runeL (gt b i % 16) (restL (b.drop i) 3), 3) else (65533, 1)) = (65533, 1) := by
        rcases h1 with h | h
        · rw [if_pos (.inr h)]
        · rw [if_pos h]; split <;> rfl
      rw [e]
      have hrn : runeL (gt b i % 16) [] = gt b i % 16 := rfl
      simp only [loopAt, nthC, bodyC, loops, List.nil_append, List.cons_append, List.append_nil, Try.f72, lnS, List.take_zero, hrn, Int.natCast_zero, Int.zero_add, List.cons_append, List.nil_append] at hl0
      clear h1 e key hrn hb hg
      rw [vrun_v Try.func72 rfl rfl rfl]; simp only [Try.f72]
      simp (implicitDefEqProofs := false) (disch := omega) [go_sem, tab72, m2, hl0]
  by_cases q1'' : 240 ≤ gt b i ∧ gt b i ≤ 244
  · have u1 : slN (gt b i) = 4 := by unfold slN; rw [if_neg q1, if_neg q1', if_pos q1'']
    have u2 : slM (gt b i) = 65536 := by unfold slM; rw [if_neg q1, if_neg q1']
    have u3 : ldR (gt b i) = gt b i % 8 := by unfold ldR; rw [if_neg (by omega), if_neg (by omega), if_pos (by omega)]
    rw [u1, u2, u3]
    clear u1 u2 u3
    obtain ⟨q2, q3⟩ := q1''
    rcases key 4 (gt b i % 8) 65536 (by omega) (by omega) (by omega) (by omega) (by omega) (by omega) with ⟨hl0, h1, h2⟩ | ⟨hl0, h1⟩
    · rw [if_neg (by omega), h2]
      simp only [Bool.true_eq_false, if_false]
      have eR : runeL (gt b i % 8) (((b.drop i).drop 1).take ((4 : Int).toNat - 1)) = runeL (gt b i % 8) (restL (b.drop i) 4) := rfl
      have hrn : runeL (gt b i % 8) [] = gt b i % 8 := rfl
      simp only [loopAt, nthC, bodyC, loops, List.nil_append, List.cons_append, List.append_nil, Try.f72, lnS, eR, List.take_zero, hrn, Int.natCast_zero, Int.zero_add, List.cons_append, List.nil_append] at hl0
      have a2 := fun d => l1may_v (r := runeL (gt b i % 8) (restL (b.drop i) 4)) d
      clear h1 h2 key eR hrn hb hg
      generalize runeL (gt b i % 8) (restL (b.drop i) 4) = R at *
      by_cases p1 : 65536 ≤ R
      · cases p2 : isPt R with
        | true =>
          rw [p2] at a2
          rw [if_pos ⟨p1, rfl⟩]
          rw [vrun_v Try.func72 rfl rfl rfl]; simp only [Try.f72]
          simp (implicitDefEqProofs := false) (disch := omega) [go_sem, tab72, m3, hl0, a2]
        | false =>
          rw [p2] at a2
          rw [if_neg (fun h => by simp at h)]
          rw [vrun_v Try.func72 rfl rfl rfl]; simp only [Try.f72]
          simp (implicitDefEqProofs := false) (disch := omega) [go_sem, tab72, m3, hl0, a2]
      · rw [if_neg (fun h => p1 h.1)]
        have p3 : R < 65536 := by omega
        rw [vrun_v Try.func72 rfl rfl rfl]; simp only [Try.f72]
        simp (implicitDefEqProofs := false) (disch := omega) [go_sem, tab72, m3, hl0, p3]
    · have e : (if (4 : Int) = 0 ∨ ((b.drop i).length : Int) < 4 then ((65533, 1) : Int × Int) else if (restL (b.drop i) 4).all conB = false then (65533, 1) else if 65536 ≤ runeL (gt b i % 8) (restL (b.drop i) 4) ∧ isPt (runeL (gt b i % 8) (restL (b.drop i) 4)) = true then (runeL (gt b i % 8) (restL (b.drop i) 4), 4) else (65533, 1)) = (65533, 1) := by
        rcases h1 with h | h
        · rw [if_pos (.inr h)]
        · rw [if_pos h]; split <;> rfl
      rw [e]
      have hrn : runeL (gt b i % 8) [] = gt b i % 8 := rfl
      simp only [loopAt, nthC, bodyC, loops, List.nil_append, List.cons_append, List.append_nil, Try.f72, lnS, List.take_zero, hrn, Int.natCast_zero, Int.zero_add, List.cons_append, List.nil_append] at hl0
      clear h1 e key hrn hb hg
      rw [vrun_v Try.func72 rfl rfl rfl]; simp only [Try.f72]
      simp (implicitDefEqProofs := false) (disch := omega) [go_sem, tab72, m3, hl0]
  have u1 : slN (gt b i) = 0 := by unfold slN; rw [if_neg q1, if_neg q1', if_neg q1'']
  rw [u1, if_pos (show (0 : Int) = 0 ∨ ((b.drop i).length : Int) < 0 from .inl rfl)]
  clear u1 key hb
  by_cases z1 : 194 ≤ gt b i
  · have z2 : ¬ gt b i ≤ 223 := fun h => q1 ⟨z1, h⟩
    by_cases z3 : gt b i ≤ 239
    · exact absurd ⟨by omega, z3⟩ q1'
    · have z4 : ¬ gt b i ≤ 244 := fun h => q1'' ⟨by omega, h⟩
      rw [vrun_v Try.func72 rfl rfl rfl]; simp only [Try.f72]
      simp (implicitDefEqProofs := false) (disch := omega) [go_sem, tab72]
  · rw [vrun_v Try.func72 rfl rfl rfl]; simp only [Try.f72]
    simp (implicitDefEqProofs := false) (disch := omega) [go_sem, tab72]
end
end
/- Runes of the reference: all of a text. No conditions. -/
section
open Num
section
variable {b : List Int}
def srO (b O : List Int) (i : Nat) (x : VE) : VE × VH := ((0, some (.ints .u8 b)) :: (3, some (.sl 0 0 O.length 1)) :: (4, some (.int .i64 i)) :: x, [.ints true .i64 O])
theorem sro_l (d : Nat) (hl : b.length < 1000000) (hb : ∀ x ∈ b, 0 ≤ x ∧ x < 256) :
    viter (vCode Try.prog kn (vrun Try.prog kn (d + 2)) 46 (loopAt Try.f46 0)) kn.cf.rounds (srO b [] 0 []).1 (srO b [] 0 []).2 = some (.exit 0, (srO b (runesF b) b.length [(13, some (.bool false))]).1, (srO b (runesF b) b.length []).2) :=
  vi_inv (n := kn.cf.rounds) (body := vCode Try.prog kn (vrun Try.prog kn (d + 2)) 46 (loopAt Try.f46 0)) (fun j s => ∃ (O : List Int) (i : Nat), s = srO b O i [] ∧ O ++ runesF (b.drop i) = runesF b ∧ j ≤ i ∧ i ≤ b.length ∧ O.length ≤ j)
    (fun x => x = some (.exit 0, (srO b (runesF b) b.length [(13, some (.bool false))]).1, (srO b (runesF b) b.length []).2)) b.length (by rw [k_cf, c_rounds]; omega)
    (fun j s hj hI => by
      obtain ⟨O, i, rfl, h1, h2, h3, h4⟩ := hI
      by_cases h0 : i < b.length
      · left
        have a1 := fun d => l1rune_v (b := b) (i := i) d hl h0 hb
        have hne : b.drop i ≠ [] := fun h => by have := congrArg List.length h; rw [List.length_drop] at this; simp at this; omega
        obtain ⟨n1, n2⟩ := runeF_n (List.length_pos_iff.2 hne)
        rw [List.length_drop] at n2
        rw [runesF_cons hne, List.drop_drop] at h1
        generalize (runeF (b.drop i)).2 = n at *
        generalize (runeF (b.drop i)).1 = v at *
        refine ⟨srO b (O ++ [v]) (i + n.toNat) [], ?_, O ++ [v], i + n.toNat, rfl, by rw [List.append_assoc]; exact h1, by omega, by omega, by simp; omega⟩
        have e : ((i + n.toNat : Nat) : Int) = (i : Int) + n := by omega
        clear h1 hne
        rw [round_v]; simp only [loopAt, nthC, bodyC, loops, List.nil_append, List.cons_append, List.append_nil, Try.f46, srO, e]
        simp (implicitDefEqProofs := false) (disch := omega) [go_sem, tab46, nil46, a1]
      · right; intro m
        obtain rfl : i = b.length := by omega
        rw [List.drop_length, runesF_nil, List.append_nil] at h1
        refine vi_exit ?_
        rw [← h1]
        rw [round_v]; simp only [loopAt, nthC, bodyC, loops, List.nil_append, List.cons_append, List.append_nil, Try.f46, srO]
        simp (disch := omega) [go_sem, tab46, nil46])
    (fun s hI m => by
      obtain ⟨O, i, rfl, h1, h2, h3, h4⟩ := hI
      obtain rfl : i = b.length := by omega
      rw [List.drop_length, runesF_nil, List.append_nil] at h1
      refine vi_exit ?_
      rw [← h1]
      rw [round_v]; simp only [loopAt, nthC, bodyC, loops, List.nil_append, List.cons_append, List.append_nil, Try.f46, srO]
      simp (disch := omega) [go_sem, tab46, nil46])
    (srO b [] 0 []) ⟨[], 0, rfl, rfl, by omega, by omega, by simp⟩
theorem sRunes_v (d : Nat) (hl : b.length ≤ 400) (hb : ∀ x ∈ b, 0 ≤ x ∧ x < 256) : vrun Try.prog kn (d + 3) 46 [.ints .u8 b] [] = some (.ints .i64 (runesF b), []) := by
  have hl0 := fun ks => loop_v (P := Try.prog) (K := kn) (ks := ks) (sro_l (d + 0) (by omega) hb)
  simp only [loopAt, nthC, bodyC, loops, List.nil_append, List.cons_append, List.append_nil, Try.f46, srO, List.length_nil, Int.natCast_zero] at hl0
  rw [vrun_v Try.func46 rfl rfl rfl]; simp only [Try.f46]
  simp (disch := omega) [go_sem, tab46, nil46, hl0]
end
end
/- A plain text; signs cut; whole numbers read, program. No conditions. -/
section
open Num
theorem plF_len (r : Int) : (plF r).length ≤ 4 := by
  unfold plF rbF
  (repeat' split) <;> simp
theorem flat_len4 : ∀ l : List Int, (l.flatMap plF).length ≤ 4 * l.length
  | [] => by simp
  | x :: l => by
    have h1 := plF_len x
    have h2 := flat_len4 l
    rw [List.flatMap_cons, List.length_append, List.length_cons]; omega
section
variable {b R : List Int}
def pnS (R : List Int) (j : Nat) : VE × VH := ([(3, some (.sl 0 0 ((R.take j).flatMap plF).length 1)), (7, some (.sl 1 0 R.length 1)), (8, some (.int .i64 R.length)), (9, some (.int .i64 j))], [.ints true .u8 ((R.take j).flatMap plF), .ints true .i64 R])
theorem pn_r (d : Nat) (hR : R.length ≤ 1000) {j : Nat} (hj : j < R.length) : vCode Try.prog kn (vrun Try.prog kn (d + 4)) 14 (loopAt Try.f14 0) (pnS R j).1 (pnS R j).2 = some (.norm, pnS R (j + 1)) := by
  have e1 : R.take (j + 1) = R.take j ++ [gt R j] := by rw [List.take_add_one, gt_some hj]; rfl
  have e2 : (R.take (j + 1)).flatMap plF = (R.take j).flatMap plF ++ plF (gt R j) := by rw [e1, List.flatMap_append, List.flatMap_cons, List.flatMap_nil, List.append_nil]
  have a1 := fun d => plainOf_v (r := gt R j) d
  have l1 := plF_len (gt R j)
  have l2 := flat_len4 (R.take j)
  rw [List.length_take] at l2
  unfold pnS
  rw [e2]
  generalize (R.take j).flatMap plF = O at *
  generalize plF (gt R j) = X at *
  have htk : (O ++ X).take (O.length + X.length) = O ++ X := List.take_of_length_le (by rw [List.length_append]; exact Nat.le_refl _)
  rw [round_v]; simp only [loopAt, nthC, bodyC, loops, List.nil_append, List.cons_append, List.append_nil, Try.f14]
  simp (implicitDefEqProofs := false) (disch := omega) [go_sem, tab14, nil14, a1, htk]
theorem pn_x (call : CallV) (hR : R.length ≤ 1000) : vCode Try.prog kn call 14 (loopAt Try.f14 0) (pnS R R.length).1 (pnS R R.length).2 = some (.exit 0, (pnS R R.length).1 ++ [(10, some (.bool false))], (pnS R R.length).2) := by
  rw [round_v]; simp only [loopAt, nthC, bodyC, loops, List.nil_append, List.cons_append, List.append_nil, Try.f14, pnS]
  simp (implicitDefEqProofs := false) (disch := omega) [go_sem, tab14, nil14]
theorem Plain_v (d : Nat) (hl : b.length ≤ 400) (hb : ∀ x ∈ b, 0 ≤ x ∧ x < 256) : vrun Try.prog kn (d + 6) 14 [.ints .u8 b] [] = some (.sl 0 0 (plainF b).length 1, [.ints true .u8 (plainF b)]) := by
  have a1 := fun d => Runes_v (b := b) d hl hb
  have lR := runesF_len b
  have l4 := flat_len4 (runesF b)
  unfold plainF
  generalize runesF b = R at *
  have hl0 := fun ks => loop_v (P := Try.prog) (K := kn) (ks := ks) (vi_for (pnS R) R.length (n := kn.cf.rounds) (by rw [k_cf, c_rounds]; omega) (fun j hj => pn_r (d + 1) (by omega) hj) fun m => vi_exit (pn_x _ (by omega)))
  simp only [loopAt, nthC, bodyC, loops, List.nil_append, List.cons_append, List.append_nil, Try.f14, pnS, Int.natCast_zero, List.cons_append, List.nil_append, List.take_zero, List.take_length, List.flatMap_nil, List.length_nil] at hl0
  generalize R.flatMap plF = O at *
  rw [vrun_v Try.func14 rfl rfl rfl]; simp only [Try.f14]
  simp (implicitDefEqProofs := false) (disch := omega) [go_sem, tab14, nil14, a1, hl0]
theorem Plain_l (d : Nat) (hl : 400 < b.length) (hl' : b.length < 1000000000) : vrun Try.prog kn (d + 6) 14 [.ints .u8 b] [] = some (.sl 0 0 0 1, [.ints true .u8 []]) := by
  have a1 := fun d => Runes_l (b := b) d hl hl'
  have hl0 := fun d ks => loop_v (P := Try.prog) (K := kn) (ks := ks) (vi_for (pnS []) 0 (n := kn.cf.rounds) (by rw [k_cf, c_rounds]; omega) (fun j hj => pn_r d (by simp) (by omega)) fun m => vi_exit (pn_x _ (by simp)))
  simp only [loopAt, nthC, bodyC, loops, List.nil_append, List.cons_append, List.append_nil, Try.f14, pnS, Int.natCast_zero, List.cons_append, List.nil_append, List.take_nil, List.flatMap_nil, List.length_nil] at hl0
  rw [vrun_v Try.func14 rfl rfl rfl]; simp only [Try.f14]
  simp (implicitDefEqProofs := false) (disch := omega) [go_sem, tab14, nil14, a1, hl0]
end
end
/- A plain text, reference. No conditions. -/
section
open Num
section
variable {b R : List Int}
def spS (R : List Int) (j : Nat) : VE × VH := ([(3, some (.ints .i64 R)), (4, some (.sl 0 0 ((R.take j).flatMap plF).length 1)), (5, some (.int .i64 j))], [.ints true .u8 ((R.take j).flatMap plF)])
theorem sp_r (d : Nat) (hR : R.length ≤ 1000) {j : Nat} (hj : j < R.length) : vCode Try.prog kn (vrun Try.prog kn (d + 2)) 22 (loopAt Try.f22 0) (spS R j).1 (spS R j).2 = some (.norm, spS R (j + 1)) := by
  have e1 : R.take (j + 1) = R.take j ++ [gt R j] := by rw [List.take_add_one, gt_some hj]; rfl
  have e2 : (R.take (j + 1)).flatMap plF = (R.take j).flatMap plF ++ plF (gt R j) := by rw [e1, List.flatMap_append, List.flatMap_cons, List.flatMap_nil, List.append_nil]
  have a1 := fun d => sDigitOf_v (r := gt R j) d
  have a2 := fun d => sSignOf_v (r := gt R j) d
  have a3 := fun d => sIsBlank_v (r := gt R j) d
  have a4 := fun d => sRuneBytes_v (r := gt R j) d
  have hb := digG_bd (zs := zsL) (r := gt R j)
  change -1 ≤ digF (gt R j) ∧ digF (gt R j) ≤ 9 at hb
  have l1 := plF_len (gt R j)
  have l2 := flat_len4 (R.take j)
  rw [List.length_take] at l2
  unfold spS
  rw [e2]
  generalize (R.take j).flatMap plF = O at *
  unfold plF at *
  generalize hr : gt R j = r at *
  by_cases c1 : 0 ≤ digF r
  · rw [if_pos c1] at *
    have w1 := wu8' (x := 48 + digF r) (by omega) (by omega)
    rw [round_v]; simp only [loopAt, nthC, bodyC, loops, List.nil_append, List.cons_append, List.append_nil, Try.f22]
    simp (implicitDefEqProofs := false) (disch := omega) [go_sem, tab22, nil22, hr, a1, w1]
  rw [if_neg c1] at *
  by_cases c2 : 0 < sgnF r
  · rw [if_pos c2] at *
    rw [round_v]; simp only [loopAt, nthC, bodyC, loops, List.nil_append, List.cons_append, List.append_nil, Try.f22]
    simp (implicitDefEqProofs := false) (disch := omega) [go_sem, tab22, nil22, hr, a1, a2]
  rw [if_neg c2] at *
  by_cases c3 : sgnF r < 0
  · rw [if_pos c3] at *
    rw [round_v]; simp only [loopAt, nthC, bodyC, loops, List.nil_append, List.cons_append, List.append_nil, Try.f22]
    simp (implicitDefEqProofs := false) (disch := omega) [go_sem, tab22, nil22, hr, a1, a2]
  rw [if_neg c3] at *
  cases c4 : blkF r with
  | true =>
    rw [c4] at a3 l1
    rw [round_v]; simp only [loopAt, nthC, bodyC, loops, List.nil_append, List.cons_append, List.append_nil, Try.f22]
    simp (implicitDefEqProofs := false) (disch := omega) [go_sem, tab22, nil22, hr, a1, a2, a3]
  | false =>
    rw [c4] at a3 l1
    simp only [Bool.false_eq_true, if_false] at l1 ⊢
    generalize rbF r = X at *
    have htk : (O ++ X).take (O.length + X.length) = O ++ X := List.take_of_length_le (by rw [List.length_append]; exact Nat.le_refl _)
    rw [round_v]; simp only [loopAt, nthC, bodyC, loops, List.nil_append, List.cons_append, List.append_nil, Try.f22]
    simp (implicitDefEqProofs := false) (disch := omega) [go_sem, tab22, nil22, hr, a1, a2, a3, a4, htk]
theorem sp_x (call : CallV) (hR : R.length ≤ 1000) : vCode Try.prog kn call 22 (loopAt Try.f22 0) (spS R R.length).1 (spS R R.length).2 = some (.exit 0, (spS R R.length).1 ++ [(11, some (.bool false))], (spS R R.length).2) := by
  rw [round_v]; simp only [loopAt, nthC, bodyC, loops, List.nil_append, List.cons_append, List.append_nil, Try.f22, spS]
  simp (implicitDefEqProofs := false) (disch := omega) [go_sem, tab22, nil22]
theorem sPlain_v (d : Nat) (hl : b.length ≤ 400) (hb : ∀ x ∈ b, 0 ≤ x ∧ x < 256) : vrun Try.prog kn (d + 4) 22 [.ints .u8 b] [] = some (.ints .u8 (plainF b), []) := by
  have a1 := fun d => sRunes_v (b := b) d hl hb
  have lR := runesF_len b
  have l4 := flat_len4 (runesF b)
  unfold plainF
  generalize runesF b = R at *
  have hl0 := fun ks => loop_v (P := Try.prog) (K := kn) (ks := ks) (vi_for (spS R) R.length (n := kn.cf.rounds) (by rw [k_cf, c_rounds]; omega) (fun j hj => sp_r (d + 1) (by omega) hj) fun m => vi_exit (sp_x _ (by omega)))
  simp only [loopAt, nthC, bodyC, loops, List.nil_append, List.cons_append, List.append_nil, Try.f22, spS, Int.natCast_zero, List.cons_append, List.nil_append, List.take_zero, List.take_length, List.flatMap_nil, List.length_nil] at hl0
  generalize R.flatMap plF = O at *
  rw [vrun_v Try.func22 rfl rfl rfl]; simp only [Try.f22]
  simp (implicitDefEqProofs := false) (disch := omega) [go_sem, tab22, nil22, a1, hl0]
end
end
/- The decimal digits of a number, program. No conditions. -/
section
open Num
/-! ### a list turned round in place -/
theorem gt_ext {a b : List Int} (hl : a.length = b.length) (h : ∀ p, p < a.length → gt a p = gt b p) : a = b := by
  refine List.ext_getElem hl fun p h1 h2 => ?_
  have := h p h1
  unfold gt at this
  simpa [h1, h2] using this
theorem gt_st {l : List Int} {i j : Nat} (x : Int) : gt (l.set i x) j = if i = j ∧ i < l.length then x else gt l j := by
  unfold gt
  by_cases e : i = j
  · subst e
    by_cases h : i < l.length
    · simp [h]
    · simp [h]
  · simp [e]
def rvL (L : List Int) (k : Nat) : Nat → List Int
  | 0 => L
  | t + 1 => ((rvL L k t).set t (gt (rvL L k t) (k - 1 - t))).set (k - 1 - t) (gt (rvL L k t) t)
theorem rv_len (L : List Int) (k : Nat) : ∀ t, (rvL L k t).length = L.length
  | 0 => rfl
  | t + 1 => by rw [rvL]; simp [rv_len L k t]
theorem rv_gt {L : List Int} {k : Nat} (hk : k ≤ L.length) : ∀ t, 2 * t ≤ k → ∀ p, gt (rvL L k t) p = if p < k ∧ (p < t ∨ k - t ≤ p) then gt L (k - 1 - p) else gt L p
  | 0, _, p => by
    have : ¬ (p < k ∧ (p < 0 ∨ k - 0 ≤ p)) := by omega
    rw [if_neg this]; rfl
  | t + 1, h, p => by
    have ih := rv_gt hk t (by omega)
    have hl := rv_len L k t
    rw [rvL, gt_st, gt_st, List.length_set, hl]
    by_cases e1 : k - 1 - t = p
    · rw [if_pos ⟨e1, by omega⟩, if_pos (by omega), ih t, if_neg (by omega)]
      congr 1; omega
    · rw [if_neg (fun q => e1 q.1)]
      by_cases e2 : t = p
      · rw [if_pos ⟨e2, by omega⟩, if_pos (by omega), ih (k - 1 - t), if_neg (by omega)]
        congr 1; omega
      · rw [if_neg (fun q => e2 q.1), ih p]
        by_cases c : p < k ∧ (p < t ∨ k - t ≤ p)
        · rw [if_pos c, if_pos (by omega)]
        · rw [if_neg c, if_neg (by omega)]
theorem rv_end {L : List Int} {k : Nat} (hk : k ≤ L.length) : rvL L k (k / 2) = (L.take k).reverse ++ L.drop k := by
  have hl : (rvL L k (k / 2)).length = ((L.take k).reverse ++ L.drop k).length := by rw [rv_len]; simp; omega
  refine gt_ext hl fun p hp => ?_
  rw [rv_len] at hp
  rw [rv_gt hk _ (by omega)]
  unfold gt
  by_cases h : p < k
  · have e1 : ((L.take k).reverse ++ L.drop k)[p]? = L[k - 1 - p]? := by
      rw [List.getElem?_append_left (by simp; omega), List.getElem?_reverse (by simp; omega), List.length_take, Nat.min_eq_left hk, List.getElem?_take_of_lt (by omega)]
    rw [List.getD_eq_getElem?_getD, List.getD_eq_getElem?_getD, List.getD_eq_getElem?_getD, e1]
    by_cases c : p < k / 2 ∨ k - k / 2 ≤ p
    · rw [if_pos ⟨h, c⟩]
    · rw [if_neg (by omega)]
      have : k - 1 - p = p := by omega
      rw [this]
  · have e1 : ((L.take k).reverse ++ L.drop k)[p]? = L[p]? := by
      rw [List.getElem?_append_right (by simp; omega), List.getElem?_drop]
      congr 1; simp; omega
    rw [if_neg (by omega), List.getD_eq_getElem?_getD, List.getD_eq_getElem?_getD, e1]
section
variable {h : VH} {i k : Nat} {L : List Int}
def rvS (h : VH) (i k : Nat) (L : List Int) (t : Nat) : VE × VH := ([(0, some (.sl i 0 k 1)), (2, some (.int .i64 t)), (3, some (.int .i64 ((k : Int) - 1 - t)))], h.set i (.ints true .u8 (rvL L k t)))
end
/-! ### digits -/
section
variable {n : Nat}
def dgI (n j q : Nat) : VE × VH := ([(3, some (.sl 0 0 (4 * j + q) 1)), (4, some (.sl 1 0 (D (n / 10 ^ (4 * (j + 1)))).length 1)), (5, some (.int .i64 ((n / 10 ^ (4 * j) % 10000 / 10 ^ q : Nat) : Int))), (19, some (.int .i64 q))], [.ints true .u8 (lsd n (4 * j + q)), .ints true .i64 (D (n / 10 ^ (4 * (j + 1))))])
theorem lsd_low (n j q : Nat) (hq : q < 4) : lsd n (4 * j + (q + 1)) = lsd n (4 * j + q) ++ [48 + ((n / 10 ^ (4 * j) % 10000 / 10 ^ q : Nat) : Int) % 10] := by
  have e : n / 10 ^ (4 * j + q) % 10 = n / 10 ^ (4 * j) % 10000 / 10 ^ q % 10 := by
    rw [Nat.pow_add, ← Nat.div_div_eq_div_mul]
    generalize n / 10 ^ (4 * j) = a
    rcases (by omega : q = 0 ∨ q = 1 ∨ q = 2 ∨ q = 3) with rfl | rfl | rfl | rfl <;> simp <;> omega
  rw [show 4 * j + (q + 1) = (4 * j + q) + 1 by omega, lsd, e]
  congr 2
def dgO (n j : Nat) : VE × VH := if j = 0 then ([(0, some (.ints .i64 (D n))), (3, some (.sl 0 0 0 1))], [.ints true .u8 []]) else ([(0, some (.sl 0 0 (D (n / 10 ^ (4 * j))).length 1)), (3, some (.sl 1 0 (4 * j) 1))], [.ints true .i64 (D (n / 10 ^ (4 * j))), .ints true .u8 (lsd n (4 * j))])
/-- Noughts at the high end are taken away. -/
def dgT (E : VE × VH) (L : List Int) (k j : Nat) : VE × VH := if j = 0 then E else ([(3, some (.sl 0 0 (k - j) 1))], [.ints true .u8 L])
theorem nd_len (h : (D n).length < 10000) : nd n < 100000 := by
  by_cases h0 : n = 0
  · subst h0; rw [nd_zero]; omega
  · obtain ⟨h1, h2⟩ := nd_le h0
    have h3 := lt_len_D n
    have h4 : 65536 ^ (D n).length ≤ 10 ^ (5 * (D n).length) := by
      rw [Nat.pow_mul]; exact Nat.pow_le_pow_left (by omega) _
    have h5 : nd n - 1 < 5 * (D n).length := (Nat.pow_lt_pow_iff_right (by omega : 1 < 10)).1 (Nat.lt_of_le_of_lt h1 (Nat.lt_of_lt_of_le h3 h4))
    omega
end
end
/- Decimal texts: whether there are digits alone, the number that they stand for, program; the digits, reference. No conditions. -/
section
open Num
section
variable {l : List Int} {g : Nat} {caps : List V} {p : Int → Bool} {call : CallV}
def ixB (l : List Int) (g : Nat) (caps : List V) (j : Nat) : VE × VH := ([(0, some (.ints .u8 l)), (1, some (.fn (.func g) [] caps)), (7, some (.int .i64 l.length)), (8, some (.int .i64 j))], [])
theorem ixfB_v (hl : l.length < 1000000000) {d : Nat} (hg : kn.cf.pure g = true) (hg2 : kn.ali g = false) (hc : ∀ h, omap (vfrz h 6) caps = some caps) (hp : ∀ x ∈ l, vrun Try.prog kn d g (vnrmAs (kn.args g) (.int .u8 x :: caps)) [] = some (.bool (p x), [])) :
    ∃ v : Int, vrun Try.prog kn (d + 1) 83 [.ints .u8 l, .fn (.func g) [] caps] [] = some (.int .i64 v, []) ∧ decide (0 ≤ v) = l.any p := by
  rw [k_cf] at hg
  have key := vi_inv (n := kn.cf.rounds) (body := vCode Try.prog kn (vrun Try.prog kn d) 83 (loopAt Try.f83 0)) (fun j s => s = ixB l g caps j ∧ (l.take j).any p = false)
    (fun r => (r = some (.exit 0, (ixB l g caps l.length).1 ++ [(9, some (.bool false))], []) ∧ l.any p = false) ∨ ∃ k : Nat, r = some (.ret, [(4, some (.int .i64 k))], []) ∧ l.any p = true) l.length (by rw [k_cf, c_rounds]; omega)
    (fun j s hj hI => by
      obtain ⟨rfl, hI⟩ := hI
      have hpp := hp _ (gt_mem hj)
      cases hq : p (gt l j) with
      | true =>
        right; intro m; right
        refine ⟨j, vi_ret ?_, List.any_eq_true.2 ⟨_, gt_mem hj, hq⟩⟩
        rw [hq] at hpp
        rw [round_v]; simp only [loopAt, nthC, bodyC, loops, List.nil_append, List.cons_append, List.append_nil, Try.f83, ixB]
        simp (disch := omega) [go_sem, tab83, hg, hg2, hc, hpp]
      | false =>
        left
        refine ⟨ixB l g caps (j + 1), ?_, rfl, ?_⟩
        · rw [hq] at hpp
          rw [round_v]; simp only [loopAt, nthC, bodyC, loops, List.nil_append, List.cons_append, List.append_nil, Try.f83, ixB]
          simp (disch := omega) [go_sem, tab83, hg, hg2, hc, hpp]
        · rw [List.take_add_one, gt_some hj, List.any_append, hI]; simp [hq])
    (fun s hI m => by
      obtain ⟨rfl, hI⟩ := hI
      left
      refine ⟨vi_exit ?_, by rwa [List.take_length] at hI⟩
      rw [round_v]; simp only [loopAt, nthC, bodyC, loops, List.nil_append, List.cons_append, List.append_nil, Try.f83, ixB]
      simp (disch := omega) [go_sem, tab83])
    (ixB l g caps 0) ⟨rfl, by simp⟩
  rcases key with ⟨hv, ha⟩ | ⟨k, hv, ha⟩
  · have hl0 := fun ks => loop_v (P := Try.prog) (K := kn) (ks := ks) hv
    simp only [loopAt, nthC, bodyC, loops, List.nil_append, List.cons_append, List.append_nil, Try.f83, ixB, Int.natCast_zero, List.cons_append, List.nil_append] at hl0
    refine ⟨-1, ?_, by rw [ha]; rfl⟩
    rw [vrun_v Try.func83 rfl rfl rfl]; simp only [Try.f83]
    simp (disch := omega) [go_sem, tab83, hc, hl0]
  · have hl0 := fun ks => loop_v (P := Try.prog) (K := kn) (ks := ks) hv
    simp only [loopAt, nthC, bodyC, loops, List.nil_append, List.cons_append, List.append_nil, Try.f83, ixB, Int.natCast_zero, List.cons_append, List.nil_append] at hl0
    refine ⟨k, ?_, by rw [ha]; simp⟩
    rw [vrun_v Try.func83 rfl rfl rfl]; simp only [Try.f83]
    simp (disch := omega) [go_sem, tab83, hc, hl0]
theorem allB_v (hl : l.length < 1000000000) {d : Nat} (hg : kn.cf.pure g = true) (hg2 : kn.ali g = false) (ha : kn.args g = []) (hp : ∀ x ∈ l, vrun Try.prog kn d g [.int .u8 x] [] = some (.bool (p x), [])) :
    vrun Try.prog kn (d + 4) 54 [.ints .u8 l, .fn (.func g) [] []] [] = some (.bool (l.all p), []) := by
  have hg' := hg
  rw [k_cf] at hg'
  have h1 : ∀ x ∈ l, vrun Try.prog kn (d + 1) 74 (vnrmAs (kn.args 74) [.int .u8 x, .fptr [.fn (.func g) [] []]]) [] = some (.bool (!p x), []) := fun x hx => by
    have := hp x hx
    simp only [go_sem, k_args74]
    rw [vrun_v Try.func74 rfl rfl rfl]; simp only [Try.f74]
    simp (disch := omega) [go_sem, tab74, hg', hg2, ha, this]
  obtain ⟨v, hv, hany⟩ := ixfB_v (caps := [.fptr [.fn (.func g) [] []]]) hl (c_pure74) rfl (fun h => by simp [go_sem]) h1
  have e : l.all p = !decide (0 ≤ v) := by
    rw [hany, List.not_any_eq_all_not]; simp
  rw [e]
  have h2 : vrun Try.prog kn (d + 3) 73 [.ints .u8 l, .fn (.func 74) [] [.fptr [.fn (.func g) [] []]]] [] = some (.bool (decide (0 ≤ v)), []) := by
    rw [vrun_v Try.func73 rfl rfl rfl]; simp only [Try.f73]
    simp (disch := omega) [go_sem, tab73, hv]
  rw [vrun_v Try.func54 rfl rfl rfl]; simp only [Try.f54]
  simp (disch := omega) [go_sem, tab54, h2]
end

def digB (x : Int) : Bool := decide (48 ≤ x) && decide (x ≤ 57)
def areDigB (b : List Int) : Bool := decide (0 < b.length) && b.all digB
theorem dig_v (d : Nat) (x : Int) : vrun Try.prog kn (d + 1) 55 [.int .u8 x] [] = some (.bool (digB x), []) := by
  unfold digB
  by_cases h : 48 ≤ x
  all_goals
    rw [vrun_v Try.func55 rfl rfl rfl]; simp only [Try.f55]
    simp (disch := omega) [go_sem, tab55, h]
section
variable {b : List Int}
theorem areDigits_v (d : Nat) (hb : b.length < 1000000) : vrun Try.prog kn (d + 6) 28 [.ints .u8 b] [] = some (.bool (areDigB b), []) := by
  have h1 := fun d => allB_v (g := 55) (l := b) (p := digB) (d := d + 1) (by omega) c_pure55 rfl rfl (fun x _ => dig_v d x)
  unfold areDigB
  by_cases h : 0 < b.length
  · rw [vrun_v Try.func28 rfl rfl rfl]; simp only [Try.f28]
    simp (disch := omega) [go_sem, tab28, h1, h]
  · have : b = [] := List.eq_nil_of_length_eq_zero (by omega)
    subst this
    rw [vrun_v Try.func28 rfl rfl rfl]; simp only [Try.f28]
    simp (disch := omega) [go_sem, tab28]
theorem digs_of (h : areDigB b = true) : 0 < b.length ∧ ∀ x ∈ b, 48 ≤ x ∧ x ≤ 57 := by
  unfold areDigB at h
  rw [Bool.and_eq_true, decide_eq_true_eq, List.all_eq_true] at h
  refine ⟨h.1, fun x hx => ?_⟩
  have := h.2 x hx
  unfold digB at this
  simpa using this
theorem rdd_lt : ∀ {l : List Int}, (∀ x ∈ l, 48 ≤ x ∧ x ≤ 57) → ∀ v k : Nat, v < 10 ^ k → rdd v l < 10 ^ (k + l.length)
  | [], _, v, k, h => h
  | x :: r, hl, v, k, h => by
    have hx := hl x List.mem_cons_self
    have := rdd_lt (l := r) (fun y hy => hl y (List.mem_cons_of_mem _ hy)) (v * 10 + (x - 48).toNat) (k + 1) (by rw [Nat.pow_succ]; omega)
    rw [List.length_cons, show k + (r.length + 1) = k + 1 + r.length by omega]; exact this
theorem rdd_len {l : List Int} (hl : ∀ x ∈ l, 48 ≤ x ∧ x ≤ 57) : (D (rdd 0 l)).length ≤ l.length := by
  have h := rdd_lt hl 0 0 (by simp)
  rw [Nat.zero_add] at h
  exact len_D_le.2 (Nat.lt_of_lt_of_le h (Nat.pow_le_pow_left (by omega) _))
theorem rdd_100 {l : List Int} (hl : ∀ x ∈ l, 48 ≤ x ∧ x ≤ 57) (h4 : l.length ≤ 400) : (D (rdd 0 l)).length ≤ 100 := by
  have h := rdd_lt hl 0 0 (by simp)
  rw [Nat.zero_add] at h
  obtain ⟨k, hk⟩ : ∃ k : Nat, k = 100 := ⟨_, rfl⟩
  have h5 : (10 : Nat) ^ l.length ≤ 10 ^ (4 * k) := Nat.pow_le_pow_right (by omega) (by omega)
  have h6 : (10 : Nat) ^ (4 * k) ≤ 65536 ^ k := by rw [Nat.pow_mul]; exact Nat.pow_le_pow_left (by omega) k
  have h7 : (D (rdd 0 l)).length ≤ k := len_D_le.2 (Nat.lt_of_lt_of_le h (Nat.le_trans h5 h6))
  omega
def fdS (b : List Int) (j : Nat) : VE × VH := ([(3, some (.sl 0 0 (D (rdd 0 (b.take j))).length 1)), (6, some (.ints .u8 b)), (7, some (.int .i64 b.length)), (8, some (.int .i64 j))], [.ints true .i64 (D (rdd 0 (b.take j)))])
theorem fd_r (d : Nat) (hb : b.length ≤ 10000) (hl : ∀ x ∈ b, 48 ≤ x ∧ x ≤ 57) {j : Nat} (hj : j < b.length) : vCode Try.prog kn (vrun Try.prog kn (d + 2)) 30 (loopAt Try.f30 0) (fdS b j).1 (fdS b j).2 = some (.norm, fdS b (j + 1)) := by
  have hx := hl _ (gt_mem hj)
  have hlen := rdd_len (l := b.take j) (fun x hx => hl x (List.mem_of_mem_take hx))
  rw [List.length_take] at hlen
  have e1 : b.take (j + 1) = b.take j ++ [gt b j] := by rw [List.take_add_one, gt_some hj]; rfl
  have e2 : rdd 0 (b.take (j + 1)) = rdd 0 (b.take j) * 10 + (gt b j - 48).toNat := by rw [e1, rdd_snoc]
  unfold fdS
  rw [e2]
  generalize rdd 0 (b.take j) = v at *
  have hc : ((gt b j - 48).toNat : Int) = gt b j - 48 := by omega
  have l10 : (D 10).length ≤ 4 := len_small (by omega)
  have lc : (D (gt b j - 48).toNat).length ≤ 4 := len_small (by omega)
  have lm := len_mul v 10
  have a1 := fun d => small_v (n := 10) d (by omega)
  have a2 := fun d => times_v (x := v) (y := 10) d (by omega) (by omega)
  have a3 := fun d => small_v (n := (gt b j - 48).toNat) d (by omega)
  have a4 := fun d => plus_v (x := v * 10) (y := (gt b j - 48).toNat) d (by omega) (by omega)
  rw [hc] at a3
  rw [show ((10 : Nat) : Int) = 10 from rfl] at a1
  have hw : IntKind.wrap .u8 (gt b j - 48) = gt b j - 48 := by
    unfold IntKind.wrap; simp [IntKind.signed, IntKind.bits]; omega
  generalize D 10 = T at *
  generalize D (gt b j - 48).toNat = C at *
  generalize D (v * 10 + (gt b j - 48).toNat) = R at *
  generalize D (v * 10) = M at *
  generalize D v = V at *
  rw [round_v]; simp only [loopAt, nthC, bodyC, loops, List.nil_append, List.cons_append, List.append_nil, Try.f30]
  simp (implicitDefEqProofs := false) (disch := omega) [go_sem, tab30, nil30, a1, a2, a3, a4, hw]
theorem fd_x (call : CallV) (hb : b.length ≤ 10000) : vCode Try.prog kn call 30 (loopAt Try.f30 0) (fdS b b.length).1 (fdS b b.length).2 = some (.exit 0, (fdS b b.length).1 ++ [(9, some (.bool false))], (fdS b b.length).2) := by
  rw [round_v]; simp only [loopAt, nthC, bodyC, loops, List.nil_append, List.cons_append, List.append_nil, Try.f30, fdS]
  simp (implicitDefEqProofs := false) (disch := omega) [go_sem, tab30, nil30]
theorem fromDigits_v (d : Nat) (hb : b.length ≤ 10000) (hl : ∀ x ∈ b, 48 ≤ x ∧ x ≤ 57) : vrun Try.prog kn (d + 3) 30 [.ints .u8 b] [] = some (.sl 0 0 (D (rdd 0 b)).length 1, [.ints true .i64 (D (rdd 0 b))]) := by
  have hl0 := fun ks => loop_v (P := Try.prog) (K := kn) (ks := ks) (vi_for (fdS b) b.length (n := kn.cf.rounds) (by rw [k_cf, c_rounds]; omega) (fun j hj => fd_r (d + 0) hb hl hj) fun m => vi_exit (fd_x _ hb))
  have e0 : rdd 0 [] = 0 := rfl
  simp only [loopAt, nthC, bodyC, loops, List.nil_append, List.cons_append, List.append_nil, Try.f30, fdS, Int.natCast_zero, List.cons_append, List.nil_append, List.take_zero, List.take_length, e0, D_zero, List.length_nil] at hl0
  generalize D (rdd 0 b) = R at *
  rw [vrun_v Try.func30 rfl rfl rfl]; simp only [Try.f30]
  simp (implicitDefEqProofs := false) (disch := omega) [go_sem, tab30, nil30, hl0]
/-! ### NatRead, NatText -/
def rdOk (b : List Int) : Bool := decide (b.length ≤ 400) && areDigB b && !(decide (1 < b.length) && decide (gt b 0 = 48))
def rdR (b : List Int) : List Int := if rdOk b then D (rdd 0 b) else []
theorem rdR_len (b : List Int) : (rdR b).length ≤ 100 := by
  unfold rdR
  split
  · rename_i h
    unfold rdOk at h
    rw [Bool.and_eq_true, Bool.and_eq_true, decide_eq_true_eq] at h
    exact rdd_100 (digs_of h.1.2).2 h.1.1
  · simp
def txR (l : List Int) : List Int := if natOkB l then text (nN l) else []
theorem text_le {n : Nat} (h : (D n).length ≤ 100) : (text n).length ≤ 100000 := by
  by_cases h0 : n = 0
  · subst h0; simp [text]
  · rw [text_len h0]; have := nd_len (n := n) (by omega); omega
theorem txR_len (l : List Int) : (txR l).length ≤ 100000 := by
  unfold txR
  split
  · rename_i h; exact text_le (okN h).2
  · simp
/-! ### the reference's digits -/
def ltS (n j : Nat) : VE × VH := ([(1, some (.ptr 0 0)), (3, some (.sl 1 0 j 1))], [.vals true [.ints .i64 (D (n / 10 ^ j))], .ints true .u8 (lsd n j)])
def lrS (L : List Int) (j : Nat) : VE × VH := ([(3, some (.sl 0 0 L.length 1)), (6, some (.sl 1 0 j 1)), (7, some (.int .i64 ((L.length : Int) - 1 - j)))], [.ints true .u8 L, .ints true .u8 (L.reverse.take j)])
end
end
/- Digits read, reference: under way. -/
section
open Num
section
variable {b : List Int}
def idS (b : List Int) (j : Nat) : VE × VH := ([(0, some (.ints .u8 b)), (3, some (.int .i64 j))], [])
theorem l2isDigits_v (d : Nat) (hl : b.length < 1000000) : vrun Try.prog kn (d + 1) 23 [.ints .u8 b] [] = some (.bool (areDigB b), []) := by
  have key := vi_inv (n := kn.cf.rounds) (body := vCode Try.prog kn (vrun Try.prog kn d) 23 (loopAt Try.f23 0)) (fun j s => s = idS b j ∧ (b.take j).all digB = true)
    (fun x => (x = some (.exit 0, (idS b b.length).1 ++ [(7, some (.bool false))], []) ∧ b.all digB = true) ∨ (x = some (.ret, [(2, some (.bool false))], []) ∧ b.all digB = false)) b.length (by rw [k_cf, c_rounds]; omega)
    (fun j s hj hI => by
      obtain ⟨rfl, hI⟩ := hI
      by_cases c1 : 48 ≤ gt b j ∧ gt b j ≤ 57
      · left
        refine ⟨idS b (j + 1), ?_, rfl, ?_⟩
        · rw [round_v]; simp only [loopAt, nthC, bodyC, loops, List.nil_append, List.cons_append, List.append_nil, Try.f23, idS]
          simp (disch := omega) [go_sem, tab23]
        · rw [List.take_add_one, gt_some hj, List.all_append, hI]; unfold digB; simp [c1]
      · right; intro m; right
        refine ⟨vi_ret ?_, ?_⟩
        · rw [round_v]; simp only [loopAt, nthC, bodyC, loops, List.nil_append, List.cons_append, List.append_nil, Try.f23, idS]
          by_cases c2 : gt b j < 48
          · simp (disch := omega) [go_sem, tab23]
          · simp (disch := omega) [go_sem, tab23]
        · rw [List.all_eq_false]; exact ⟨_, gt_mem hj, by unfold digB; simp; omega⟩)
    (fun s hI m => by
      obtain ⟨rfl, hI⟩ := hI
      left
      refine ⟨vi_exit ?_, by rwa [List.take_length] at hI⟩
      rw [round_v]; simp only [loopAt, nthC, bodyC, loops, List.nil_append, List.cons_append, List.append_nil, Try.f23, idS]
      simp (disch := omega) [go_sem, tab23])
    (idS b 0) ⟨rfl, by simp⟩
  unfold areDigB
  rcases key with ⟨hv, ha⟩ | ⟨hv, ha⟩
  · have hl0 := fun ks => loop_v (P := Try.prog) (K := kn) (ks := ks) hv
    simp only [loopAt, nthC, bodyC, loops, List.nil_append, List.cons_append, List.append_nil, Try.f23, idS, Int.natCast_zero, List.cons_append, List.nil_append] at hl0
    rw [ha]
    by_cases h : 0 < b.length
    · rw [vrun_v Try.func23 rfl rfl rfl]; simp only [Try.f23]
      simp (disch := omega) [go_sem, tab23, hl0, h]
    · rw [vrun_v Try.func23 rfl rfl rfl]; simp only [Try.f23]
      simp (disch := omega) [go_sem, tab23, hl0, h]
  · have hl0 := fun ks => loop_v (P := Try.prog) (K := kn) (ks := ks) hv
    simp only [loopAt, nthC, bodyC, loops, List.nil_append, List.cons_append, List.append_nil, Try.f23, idS, Int.natCast_zero, List.cons_append, List.nil_append] at hl0
    rw [ha, Bool.and_false]
    rw [vrun_v Try.func23 rfl rfl rfl]; simp only [Try.f23]
    simp (disch := omega) [go_sem, tab23, hl0]
def ldS (b : List Int) (v : V) (j : Nat) : VE × VH := ([(0, some (.ints .u8 b)), (2, some (.ptr 0 0)), (3, some (.ptr 1 0)), (4, some (.int .i64 j))], [.vals true [.nil], .vals true [v]])
theorem ld_r (d : Nat) (hb : b.length ≤ 10000) (hl : ∀ x ∈ b, 48 ≤ x ∧ x ≤ 57) {j : Nat} (hj : j < b.length) {v : V} (hv : (v = .nil ∧ rdd 0 (b.take j) = 0) ∨ v = .ints .i64 (D (rdd 0 (b.take j)))) : vCode Try.prog kn (vrun Try.prog kn (d + 2)) 26 (loopAt Try.f26 0) (ldS b v j).1 (ldS b v j).2 = some (.norm, ldS b (.ints .i64 (D (rdd 0 (b.take (j + 1))))) (j + 1)) := by
  have hx := hl _ (gt_mem hj)
  have hlen := rdd_len (l := b.take j) (fun x hx => hl x (List.mem_of_mem_take hx))
  rw [List.length_take] at hlen
  have e1 : b.take (j + 1) = b.take j ++ [gt b j] := by rw [List.take_add_one, gt_some hj]; rfl
  have e2 : rdd 0 (b.take (j + 1)) = rdd 0 (b.take j) * 10 + (gt b j - 48).toNat := by rw [e1, rdd_snoc]
  rw [e2]
  generalize rdd 0 (b.take j) = w at *
  have hc : ((gt b j - 48).toNat : Int) = gt b j - 48 := by omega
  have l10 : (D 10).length ≤ 4 := len_small (by omega)
  have lc : (D (gt b j - 48).toNat).length ≤ 4 := len_small (by omega)
  have lm := len_mul w 10
  have a1 := fun d => l2of_v (n := 10) d (by omega)
  have a2 := fun d => l2mul_v (x := w) (y := 10) d (by omega) (by omega)
  have a3 := fun d => l2of_v (n := (gt b j - 48).toNat) d (by omega)
  have a4 := fun d => l2add_v (x := w * 10) (y := (gt b j - 48).toNat) d (by omega) (by omega)
  rw [hc] at a3
  rw [show ((10 : Nat) : Int) = 10 from rfl] at a1
  have hw : IntKind.wrap .u8 (gt b j - 48) = gt b j - 48 := wu8' (by omega) (by omega)
  rcases hv with ⟨rfl, hz⟩ | rfl
  · subst hz
    simp only [Nat.zero_mul, Nat.zero_add, D_zero] at a2 a4 ⊢
    generalize D 10 = T at *
    generalize D (gt b j - 48).toNat = C at *
    rw [round_v]; simp only [loopAt, nthC, bodyC, loops, List.nil_append, List.cons_append, List.append_nil, Try.f26, ldS]
    simp (implicitDefEqProofs := false) (disch := omega) [go_sem, tab26, a1, a2, a3, a4, hw]
  · generalize D 10 = T at *
    generalize D (gt b j - 48).toNat = C at *
    generalize D (w * 10 + (gt b j - 48).toNat) = R at *
    generalize D (w * 10) = M at *
    generalize D w = W at *
    rw [round_v]; simp only [loopAt, nthC, bodyC, loops, List.nil_append, List.cons_append, List.append_nil, Try.f26, ldS]
    simp (implicitDefEqProofs := false) (disch := omega) [go_sem, tab26, a1, a2, a3, a4, hw]
theorem ld_x2 (call : CallV) (hb : b.length ≤ 10000) {v : V} (hv : v = .nil ∨ ∃ l, v = .ints .i64 l) : vCode Try.prog kn call 26 (loopAt Try.f26 0) (ldS b v b.length).1 (ldS b v b.length).2 = some (.exit 0, (ldS b v b.length).1 ++ [(8, some (.bool false))], (ldS b v b.length).2) := by
  rw [round_v]; simp only [loopAt, nthC, bodyC, loops, List.nil_append, List.cons_append, List.append_nil, Try.f26, ldS]
  rcases hv with rfl | ⟨l, rfl⟩
  all_goals
    simp (implicitDefEqProofs := false) (disch := omega) [go_sem, tab26]
theorem l2digits_v (d : Nat) (h0 : 0 < b.length) (hb : b.length ≤ 10000) (hl : ∀ x ∈ b, 48 ≤ x ∧ x ≤ 57) : vrun Try.prog kn (d + 3) 26 [.ints .u8 b] [] = some (.agg [.ints .i64 (D (rdd 0 b))], []) := by
  have hrun : viter (vCode Try.prog kn (vrun Try.prog kn (d + 0 + 2)) 26 (loopAt Try.f26 0)) kn.cf.rounds (ldS b .nil 0).1 (ldS b .nil 0).2 = some (.exit 0, (ldS b (.ints .i64 (D (rdd 0 b))) b.length).1 ++ [(8, some (.bool false))], (ldS b (.ints .i64 (D (rdd 0 b))) b.length).2) :=
    vi_for (n := kn.cf.rounds) (fun j => ldS b (if j = 0 then .nil else .ints .i64 (D (rdd 0 (b.take j)))) j) b.length (by rw [k_cf, c_rounds]; omega)
      (fun j hj => by
        have := ld_r (d + 0) hb hl hj (v := if j = 0 then .nil else .ints .i64 (D (rdd 0 (b.take j)))) (by
          by_cases h : j = 0
          · subst h; exact .inl ⟨rfl, rfl⟩
          · rw [if_neg h]; exact .inr rfl)
        rw [if_neg (by omega : ¬ j + 1 = 0)]
        exact this)
      (fun m => by
        rw [if_neg (by omega : ¬ b.length = 0), List.take_length]
        exact vi_exit (ld_x2 _ hb (.inr ⟨_, rfl⟩)))
  have hl0 := fun ks => loop_v (P := Try.prog) (K := kn) (ks := ks) hrun
  simp only [loopAt, nthC, bodyC, loops, List.nil_append, List.cons_append, List.append_nil, Try.f26, ldS, Int.natCast_zero, List.cons_append, List.nil_append] at hl0
  generalize D (rdd 0 b) = R at *
  rw [vrun_v Try.func26 rfl rfl rfl]; simp only [Try.f26]
  simp (implicitDefEqProofs := false) (disch := omega) [go_sem, tab26, hl0]
end
end
/- Dyadics: alignment and comparison, program and reference. No conditions. -/
section
open Num
def alE (a : Nat) (ex : Int) (b : Nat) (ey : Int) : Int := if b = 0 then ex else if a = 0 then ey else if ey < ex then ey else ex
def alA (a : Nat) (ex : Int) (b : Nat) (ey : Int) : Nat := a * 2 ^ (ex - alE a ex b ey).toNat
def alB (a : Nat) (ex : Int) (b : Nat) (ey : Int) : Nat := b * 2 ^ (ey - alE a ex b ey).toNat
def scmp (n : Bool) (a : Nat) (m : Bool) (b : Nat) : Int := if n && !m then -1 else if !n && m then 1 else if n then cmpI b a else cmpI a b
section
variable {a b : Nat} {ex ey : Int} {n m : Bool}
theorem alE_bd (he : -100000 ≤ ex) (he' : ex ≤ 100000) (hf : -100000 ≤ ey) (hf' : ey ≤ 100000) : -100000 ≤ alE a ex b ey ∧ alE a ex b ey ≤ 100000 := by
  unfold alE
  by_cases h1 : b = 0
  · rw [if_pos h1]; omega
  · rw [if_neg h1]
    by_cases h2 : a = 0
    · rw [if_pos h2]; omega
    · rw [if_neg h2]; split <;> omega
theorem al_len (ha : (D a).length < 100000) (hb : (D b).length < 100000) (he : -100000 ≤ ex) (he' : ex ≤ 100000) (hf : -100000 ≤ ey) (hf' : ey ≤ 100000) : (D (alA a ex b ey)).length < 200000 ∧ (D (alB a ex b ey)).length < 200000 := by
  have := alE_bd (a := a) (b := b) he he' hf hf'
  unfold alA alB
  have h1 := len_shl a (ex - alE a ex b ey).toNat
  have h2 := len_shl b (ey - alE a ex b ey).toNat
  omega
theorem l3make_v (d : Nat) (ha : (D a).length < 1000000) : vrun Try.prog kn (d + 2) 25 [.bool n, .agg [.ints .i64 (D a)]] [] = some (.agg [.bool (n && decide (a ≠ 0)), .ints .i64 (D a)], []) := by
  have h1 := fun d => l2norm_v d (l := D a) (v := a) (by omega) (good_D a) (val_D a)
  by_cases h0 : a = 0
  · subst h0
    rw [D_zero] at h1 ⊢
    rw [vrun_v Try.func25 rfl rfl rfl]; simp only [Try.f25]
    cases n <;> simp (disch := omega) [go_sem, tab25, h1]
  · have hn : ¬ D a = [] := fun h => h0 (D_nil_iff.1 h)
    have hp : 0 < (D a).length := List.length_pos_iff.2 hn
    rw [vrun_v Try.func25 rfl rfl rfl]; simp only [Try.f25]
    cases n <;> simp (disch := omega) [go_sem, tab25, h1, h0, hn]
def alE2 (a : Nat) (ex : Int) (b : Nat) (ey : Int) : Int := if a = 0 then ey else if b = 0 then ex else if ey < ex then ey else ex
end
end
/- The reference's trailing noughts, and its one form of a dyadic. No conditions. -/
section
open Num
section
variable {x : Nat}
def trS (x j : Nat) : VE × VH := ([(1, some (.ptr 0 0)), (3, some (.int .i64 j))], [.vals true [.ints .i64 (D x)]])
end
end
/- The reference's one form of a dyadic number. No conditions. -/
section
open Num
section
variable {a : Nat} {n : Bool} {e : Int}
/-- The one form. -/
def mkD (n : Bool) (a : Nat) (e : Int) : DyT := if a = 0 then ⟨false, [], 0⟩ else ⟨n, D (a / 2 ^ tz a), e + tz a⟩
end
end
/- Trailing noughts of a limb, as the library counts them. No conditions. -/
section
open Num
theorem wu64' {x : Int} (h1 : 0 ≤ x) (h2 : x ≤ 18446744073709551615) : IntKind.wrap .u64 x = x := by
  simp [IntKind.wrap, IntKind.bits, IntKind.signed]; omega
theorem negu {x : Nat} (h0 : x ≠ 0) (hx : x < 65536) : IntKind.wrap .u64 (-(x : Int)) = ((2 ^ 64 - x : Nat) : Int) := by
  simp [IntKind.wrap, IntKind.bits, IntKind.signed]; omega
theorem andneg (P : Program) (ty : TypeId) {x t o : Nat} (h0 : x ≠ 0) (hx : x < 65536) (h : x = 2 ^ t * (2 * o + 1)) : binE P .and ty (.int .u64 (x : Int)) (.int .u64 ((2 ^ 64 - x : Nat) : Int)) = some (.int .u64 ((2 ^ t : Nat) : Int)) := by
  rw [b_and]
  have e : (BitVec.ofInt (IntKind.bits .u64) (x : Int) &&& BitVec.ofInt (IntKind.bits .u64) ((2 ^ 64 - x : Nat) : Int)).toNat = 2 ^ t := by
    show (BitVec.ofInt 64 (x : Int) &&& BitVec.ofInt 64 ((2 ^ 64 - x : Nat) : Int)).toNat = 2 ^ t
    rw [BitVec.toNat_and, BitVec.ofInt_natCast, BitVec.ofInt_natCast, BitVec.toNat_ofNat, BitVec.toNat_ofNat, Nat.mod_eq_of_lt (by omega), Nat.mod_eq_of_lt (by omega)]
    exact land_neg h (by omega)
  rw [e]
  have hle : 2 ^ t ≤ x := by rw [h]; exact Nat.le_mul_of_pos_right _ (by omega)
  rw [wu64' (by omega) (by omega)]
theorem tz16 {x t o : Nat} (hx : x < 65536) (h : x = 2 ^ t * (2 * o + 1)) : t < 16 := by
  have hle : 2 ^ t ≤ x := by rw [h]; exact Nat.le_mul_of_pos_right _ (by omega)
  exact (Nat.pow_lt_pow_iff_right (a := 2) (by omega)).1 (by omega : 2 ^ t < 2 ^ 16)
end
/- Numbers of any size: their one form, products; trailing noughts. No conditions. -/
section
open Num
theorem low_zero {x j : Nat} (h : 16 * j ≤ tz x) : x % 65536 ^ j = 0 := by
  by_cases h0 : x = 0
  · subst h0; simp
  obtain ⟨o, ho⟩ := tz_spec h0
  have e : (65536 : Nat) ^ j = 2 ^ (16 * j) := by rw [show (65536 : Nat) = 2 ^ 16 from rfl, ← Nat.pow_mul]
  have e2 : 2 ^ tz x = 2 ^ (16 * j) * 2 ^ (tz x - 16 * j) := by rw [← Nat.pow_add]; congr 1; omega
  rw [e]
  conv => lhs; lhs; rw [ho, e2, Nat.mul_assoc]
  exact Nat.mul_mod_right _ _
theorem dig_zero {x j : Nat} (h : 16 * (j + 1) ≤ tz x) : x / 65536 ^ j % 65536 = 0 := by
  have h1 := low_zero h
  rw [mod_pow_succ] at h1
  have hp := powN_pos j
  rcases Nat.eq_zero_or_pos (x / 65536 ^ j % 65536) with h2 | h2
  · exact h2
  · have := Nat.mul_pos hp h2; omega
theorem dig_nz {x : Nat} (h0 : x ≠ 0) : x / 65536 ^ (tz x / 16) % 65536 ≠ 0 := by
  intro h
  have hb := tz_bit h0
  have e : 2 ^ tz x = 65536 ^ (tz x / 16) * 2 ^ (tz x % 16) := pow_split _
  rw [e, ← Nat.div_div_eq_div_mul] at hb
  generalize x / 65536 ^ (tz x / 16) = a at *
  have e2 : (65536 : Nat) = 2 ^ (tz x % 16) * (2 * 2 ^ (15 - tz x % 16)) := by
    rw [← Nat.mul_assoc, Nat.mul_right_comm, ← Nat.pow_add, show tz x % 16 + (15 - tz x % 16) = 15 by omega]
  have h2 : a = 65536 * (a / 65536) := by omega
  rw [h2, e2, Nat.mul_assoc, Nat.mul_div_cancel_left _ (Nat.two_pow_pos _), Nat.mul_assoc] at hb
  omega
section
variable {x : Nat}
def toS (x j : Nat) : VE × VH := ([(5, some (.ints .i64 (D x))), (6, some (.int .i64 (D x).length)), (7, some (.int .i64 j))], [])
end
section
variable {a b : Nat} {n m : Bool} {e ex ey : Int}
/-- May it be told? -/
def dyFit (r : DyT) : Bool := decide (r.l.length ≤ 100) && decide (-3000 ≤ r.e) && decide (r.e ≤ 3000)
def zT : DyT := ⟨false, [], 0⟩
def fitT (r : DyT) : DyT := if dyFit r then r else zT
theorem mkD_neg : (mkD n a e).neg = ((mkD n a e).neg && !decide ((mkD n a e).l.length = 0)) := by
  unfold mkD
  by_cases h0 : a = 0
  · rw [if_pos h0]; rfl
  · rw [if_neg h0]
    have hb := tz_bit h0
    have hX : a / 2 ^ tz a ≠ 0 := fun h => by rw [h] at hb; simp at hb
    have : ¬ (D (a / 2 ^ tz a)).length = 0 := fun h => hX (D_nil_iff.1 (List.eq_nil_of_length_eq_zero h))
    simp [this]
theorem mkD_len : (mkD n a e).l.length ≤ (D a).length := by
  unfold mkD
  split
  · simp
  · exact len_D_mono (Nat.div_le_self _ _)
theorem mkD_e (he : -1000000000 ≤ e) (he' : e ≤ 1000000000) (ha : (D a).length < 60000) : -1000000000 ≤ (mkD n a e).e ∧ (mkD n a e).e ≤ 1001000000 := by
  unfold mkD
  by_cases h0 : a = 0
  · rw [if_pos h0]; simp
  · rw [if_neg h0]
    have := tz_lt h0
    simp only; omega
/-- What is in its one form is valid where it fits. -/
theorem dyOkB_mkD : dyOkB (mkD n a e) = dyFit (mkD n a e) := by
  unfold mkD
  by_cases h0 : a = 0
  · rw [if_pos h0]; rfl
  · rw [if_neg h0]
    have hb := tz_bit h0
    generalize a / 2 ^ tz a = X at *
    have hX : X ≠ 0 := fun h => by rw [h] at hb; simp at hb
    have hl : ¬ (D X).length = 0 := fun h => hX (D_nil_iff.1 (List.eq_nil_of_length_eq_zero h))
    have hg : gt (D X) 0 % 2 = 1 := by rw [gt_D]; unfold dg; rw [Nat.pow_zero, Nat.div_one]; omega
    unfold dyOkB dyFit wholeOkB
    simp only [natOkB_D, hl, hg, decide_false, Bool.and_false, Bool.not_false, Bool.and_true, if_false, decide_true, Bool.and_assoc]
theorem mkD_and : mkD (n && decide (a ≠ 0)) a e = mkD n a e := by
  unfold mkD
  by_cases h0 : a = 0
  · rw [if_pos h0, if_pos h0]
  · rw [if_neg h0, if_neg h0]; simp [h0]
end
end
/- Intervals: validity and membership, program and reference. No conditions. -/
section
open Num
def DyT.n (x : DyT) : Nat := (val x.l).toNat
def dcmp (x y : DyT) : Int := scmp x.neg (alA x.n x.e y.n y.e) y.neg (alB x.n x.e y.n y.e)
structure IvT where
  lo : DyT
  hi : DyT
def IvT.v (x : IvT) : List V := [.bool x.lo.neg, .ints .i64 x.lo.l, .int .i64 x.lo.e, .bool x.hi.neg, .ints .i64 x.hi.l, .int .i64 x.hi.e]
def ivOkB (x : IvT) : Bool := dyOkB x.lo && dyOkB x.hi && decide (dcmp x.lo x.hi ≤ 0)
def ivHasB (v : IvT) (x : DyT) : Bool := decide (dcmp v.lo x ≤ 0) && decide (dcmp x v.hi ≤ 0)
theorem ok_D {x : DyT} (hx : dyOkB x = true) : x.l = D (x.n) ∧ (D (x.n)).length < 100000 ∧ -100000 ≤ x.e ∧ x.e ≤ 100000 ∧ (x.n = 0 → x.neg = false) := by
  obtain ⟨n, h1, h2, h3, h4, h5⟩ := (dyOkB_iff x).1 hx
  have : x.n = n := by unfold DyT.n; rw [h1, val_D]; rfl
  rw [this]
  refine ⟨h1, by omega, by omega, by omega, fun h => ?_⟩
  rcases h5 with ⟨_, h, _⟩ | h5
  · exact h
  · omega
section
variable {x y : DyT}
end
section
variable {x : DyT} {v : IvT}
end
end
/- Numbers of any size: products, sums, differences. No conditions. -/
section
open Num
def ssN (n : Bool) (a : Nat) (m : Bool) (b : Nat) : Bool := if n = m then n else if b ≤ a then n else m
def ssV (n : Bool) (a : Nat) (m : Bool) (b : Nat) : Nat := if n = m then a + b else if b ≤ a then a - b else b - a
section
variable {a b : Nat} {n m : Bool} {e ex ey : Int}
theorem cmpI_ge : (0 ≤ cmpI a b) = (b ≤ a) := by
  unfold cmpI
  by_cases h : a < b
  · rw [if_pos h]; simp; omega
  · rw [if_neg h]; split <;> (simp; omega)
theorem ssV_len {k : Nat} (ha : (D a).length < k) (hb : (D b).length < k) : (D (ssV n a m b)).length < k + 1 := by
  unfold ssV
  by_cases h : n = m
  · rw [if_pos h]; have := len_add (x := a) (y := b) (n := k - 1) (by omega) (by omega); omega
  · rw [if_neg h]
    split
    · have := len_D_mono (Nat.sub_le a b); omega
    · have := len_D_mono (Nat.sub_le b a); omega
theorem D_ne {x : Nat} : (D x = []) = (x = 0) := propext D_nil_iff
end
end
/- Dyadic numbers: products, sums, differences, program and reference. No conditions. -/
section
open Num
def mulR (x y : DyT) : DyT := mkD (x.neg != y.neg) (x.n * y.n) (x.e + y.e)
def addR (x y : DyT) : DyT := mkD (ssN x.neg (alA x.n x.e y.n y.e) y.neg (alB x.n x.e y.n y.e)) (ssV x.neg (alA x.n x.e y.n y.e) y.neg (alB x.n x.e y.n y.e)) (alE x.n x.e y.n y.e)
def negT (y : DyT) : DyT := ⟨!y.neg && decide (y.n ≠ 0), y.l, y.e⟩
def subR (x y : DyT) : DyT := addR x (negT y)
/-- What an operation answers. -/
def res2 (R : DyT → DyT → DyT) (x y : DyT) : DyT := if dyOkB x && dyOkB y && dyFit (R x y) then R x y else zT
def ok2 (R : DyT → DyT → DyT) (x y : DyT) : Bool := dyOkB x && dyOkB y && dyFit (R x y)
theorem res2_ok {R : DyT → DyT → DyT} {x y : DyT} (h : dyOkB x = true) (h' : dyOkB y = true) : res2 R x y = fitT (R x y) ∧ ok2 R x y = dyFit (R x y) := by
  unfold res2 ok2 fitT; rw [h, h']; simp
theorem res2_no {R : DyT → DyT → DyT} {x y : DyT} (h : (dyOkB x && dyOkB y) = false) : res2 R x y = zT ∧ ok2 R x y = false := by
  unfold res2 ok2; rw [h]; simp
theorem fitT_len (r : DyT) : (fitT r).l.length ≤ 100 := by
  unfold fitT
  cases h : dyFit r with
  | false => simp [zT]
  | true => unfold dyFit at h; simp at h; simp only [if_true]; omega
theorem res2_len {R : DyT → DyT → DyT} {x y : DyT} : (res2 R x y).l.length ≤ 100 := by
  cases h : (dyOkB x && dyOkB y) with
  | false => rw [(res2_no h).1]; simp [zT]
  | true => rw [Bool.and_eq_true] at h; rw [(res2_ok h.1 h.2).1]; exact fitT_len _
/-- A valid one, whole. -/
theorem okD {x : DyT} (hx : dyOkB x = true) : x.l = D x.n ∧ (D x.n).length ≤ 100 ∧ -3000 ≤ x.e ∧ x.e ≤ 3000 ∧ (x.n = 0 → x.neg = false) := by
  obtain ⟨n, h1, h2, h3, h4, h5⟩ := (dyOkB_iff x).1 hx
  have : x.n = n := by unfold DyT.n; rw [h1, val_D]; rfl
  rw [this]
  refine ⟨h1, by omega, by omega, by omega, fun h => ?_⟩
  rcases h5 with ⟨_, h, _⟩ | h5
  · exact h
  · omega
section
variable {x y : DyT}
theorem neg_dbl {b : Nat} {m : Bool} (h : b = 0 → m = false) : (!(!m && decide (b ≠ 0)) && decide (b ≠ 0)) = m := by
  by_cases h0 : b = 0
  · rw [h h0]; simp [h0]
  · cases m <;> simp [h0]
theorem al_small {a b : Nat} {ex ey : Int} (ha : (D a).length ≤ 100) (hb : (D b).length ≤ 100) (he : -3000 ≤ ex) (he' : ex ≤ 3000) (hf : -3000 ≤ ey) (hf' : ey ≤ 3000) : (D (alA a ex b ey)).length < 1000 ∧ (D (alB a ex b ey)).length < 1000 ∧ -3000 ≤ alE a ex b ey ∧ alE a ex b ey ≤ 3000 := by
  have q1 : -3000 ≤ alE a ex b ey ∧ alE a ex b ey ≤ 3000 := by unfold alE; split <;> (try split) <;> (try split) <;> omega
  have h1 := len_shl a (ex - alE a ex b ey).toNat
  have h2 := len_shl b (ey - alE a ex b ey).toNat
  unfold alA alB
  omega
end
end
/- Comparison of dyadics is comparison of numbers. Plain law. No conditions. -/
section
open Num
def sg (n : Bool) (a : Nat) : Int := if n then -(a : Int) else a
theorem cmpI_le (a b : Nat) : cmpI a b ≤ 0 ↔ a ≤ b := by
  unfold cmpI
  split
  · omega
  · split <;> omega
theorem cmpI_eq (a b : Nat) : cmpI a b = 0 ↔ a = b := by
  unfold cmpI
  split
  · omega
  · split <;> omega
theorem scmp_le {n m : Bool} {a b : Nat} (ha : a = 0 → n = false) (hb : b = 0 → m = false) : scmp n a m b ≤ 0 ↔ sg n a ≤ sg m b := by
  unfold scmp sg
  cases n <;> cases m <;> simp [cmpI_le] <;> simp at ha hb <;> omega
theorem scmp_eq {n m : Bool} {a b : Nat} (ha : a = 0 → n = false) (hb : b = 0 → m = false) : scmp n a m b = 0 ↔ sg n a = sg m b := by
  unfold scmp sg
  cases n <;> cases m <;> simp [cmpI_eq] <;> simp at ha hb <;> omega
theorem sg_mul (n : Bool) (a k : Nat) : sg n (a * k) = sg n a * k := by
  unfold sg; cases n <;> simp [Int.neg_mul]
/-- The number, scaled. -/
def DyT.sv (K : Int) (x : DyT) : Int := sg x.neg x.n * (2 ^ (x.e - K).toNat : Nat)
theorem al_sv {a : Nat} {ex ey K : Int} {b : Nat} (hx : K ≤ ex) (hy : K ≤ ey) : a * 2 ^ (ex - K).toNat = alA a ex b ey * 2 ^ (alE a ex b ey - K).toNat ∧ b * 2 ^ (ey - K).toNat = alB a ex b ey * 2 ^ (alE a ex b ey - K).toNat := by
  unfold alA alB alE
  by_cases hb : b = 0
  · subst hb
    simp
  · by_cases ha : a = 0
    · subst ha
      simp [hb]
    · rw [if_neg hb, if_neg ha]
      by_cases h : ey < ex
      · rw [if_pos h, Nat.mul_assoc, ← Nat.pow_add, Int.sub_self]
        refine ⟨by rw [show (ex - ey).toNat + (ey - K).toNat = (ex - K).toNat by omega], by simp⟩
      · rw [if_neg h, Nat.mul_assoc b, ← Nat.pow_add, Int.sub_self]
        refine ⟨by simp, by rw [show (ey - ex).toNat + (ex - K).toNat = (ey - K).toNat by omega]⟩
theorem al_zero {a : Nat} {ex ey : Int} {b : Nat} : (alA a ex b ey = 0 ↔ a = 0) ∧ (alB a ex b ey = 0 ↔ b = 0) := by
  unfold alA alB
  have h1 := Nat.two_pow_pos (ex - alE a ex b ey).toNat
  have h2 := Nat.two_pow_pos (ey - alE a ex b ey).toNat
  refine ⟨⟨fun h => ?_, fun h => by rw [h, Nat.zero_mul]⟩, ⟨fun h => ?_, fun h => by rw [h, Nat.zero_mul]⟩⟩
  · rcases Nat.mul_eq_zero.1 h with h | h <;> omega
  · rcases Nat.mul_eq_zero.1 h with h | h <;> omega
theorem dcmp_sv {x y : DyT} {K : Int} (hx : dyOkB x = true) (hy : dyOkB y = true) (h1 : K ≤ x.e) (h2 : K ≤ y.e) : (dcmp x y ≤ 0 ↔ x.sv K ≤ y.sv K) ∧ (dcmp x y = 0 ↔ x.sv K = y.sv K) := by
  obtain ⟨_, _, _, _, a4⟩ := ok_D hx
  obtain ⟨_, _, _, _, b4⟩ := ok_D hy
  unfold dcmp DyT.sv
  have z := al_zero (a := x.n) (ex := x.e) (ey := y.e) (b := y.n)
  have za : alA x.n x.e y.n y.e = 0 → x.neg = false := fun h => a4 (z.1.1 h)
  have zb : alB x.n x.e y.n y.e = 0 → y.neg = false := fun h => b4 (z.2.1 h)
  rw [scmp_le za zb, scmp_eq za zb, ← sg_mul, ← sg_mul, (al_sv h1 h2).1, (al_sv h1 h2).2, sg_mul, sg_mul]
  have hp : (0 : Int) < (2 ^ (alE x.n x.e y.n y.e - K).toNat : Nat) := by exact_mod_cast Nat.two_pow_pos _
  exact ⟨⟨fun h => Int.mul_le_mul_of_nonneg_right h (Int.le_of_lt hp), fun h => Int.le_of_mul_le_mul_right h hp⟩, ⟨fun h => by rw [h], fun h => Int.eq_of_mul_eq_mul_right (by omega) h⟩⟩
theorem dyOk_e {x : DyT} (hx : dyOkB x = true) : -3000 ≤ x.e := by
  obtain ⟨_, _, _, h, _⟩ := (dyOkB_iff x).1 hx
  exact h
theorem dcmp_le {x y : DyT} (hx : dyOkB x = true) (hy : dyOkB y = true) : dcmp x y ≤ 0 ↔ x.sv (-3000) ≤ y.sv (-3000) := (dcmp_sv hx hy (dyOk_e hx) (dyOk_e hy)).1
theorem dcmp_eq {x y : DyT} (hx : dyOkB x = true) (hy : dyOkB y = true) : dcmp x y = 0 ↔ x.sv (-3000) = y.sv (-3000) := (dcmp_sv hx hy (dyOk_e hx) (dyOk_e hy)).2
theorem dcmp_trans {x y z : DyT} (hx : dyOkB x = true) (hy : dyOkB y = true) (hz : dyOkB z = true) (h1 : dcmp x y ≤ 0) (h2 : dcmp y z ≤ 0) : dcmp x z ≤ 0 :=
  (dcmp_le hx hz).2 (Int.le_trans ((dcmp_le hx hy).1 h1) ((dcmp_le hy hz).1 h2))
end
/- The laws of a ring for dyadic numbers. Plain law. No conditions. -/
section
open Num
theorem sg_zero (n : Bool) (a : Nat) : sg n a = 0 ↔ a = 0 := by unfold sg; cases n <;> simp
theorem sg_inj {n m : Bool} {a b : Nat} (h0 : a ≠ 0) (h : sg n a = sg m b) : n = m ∧ a = b := by
  unfold sg at h; cases n <;> cases m <;> simp at h ⊢ <;> omega
theorem sg_pow (n : Bool) (a k : Nat) : sg n a * ((2 ^ k : Nat) : Int) = sg n (a * 2 ^ k) := (sg_mul n a (2 ^ k)).symm
theorem oddq : ∀ (i j : Nat) {a b : Nat}, a % 2 = 1 → b % 2 = 1 → a * 2 ^ i = b * 2 ^ j → a = b ∧ i = j
  | 0, 0, a, b, _, _, h => by simpa using h
  | 0, j + 1, a, b, ha, _, h => by
    rw [Nat.pow_zero, Nat.mul_one, Nat.pow_succ, ← Nat.mul_assoc] at h; omega
  | i + 1, 0, a, b, _, hb, h => by
    rw [Nat.pow_zero, Nat.mul_one, Nat.pow_succ, ← Nat.mul_assoc] at h; omega
  | i + 1, j + 1, a, b, ha, hb, h => by
    rw [Nat.pow_succ, ← Nat.mul_assoc, Nat.pow_succ, ← Nat.mul_assoc] at h
    obtain ⟨h1, h2⟩ := oddq i j ha hb (Nat.eq_of_mul_eq_mul_right (by omega) h)
    exact ⟨h1, by omega⟩
theorem tz_split {a : Nat} (h : a ≠ 0) : a = a / 2 ^ tz a * 2 ^ tz a := by
  obtain ⟨o, ho⟩ := tz_spec h
  have hd : a / 2 ^ tz a = 2 * o + 1 := by
    conv => lhs; lhs; rw [ho]
    exact Nat.mul_div_cancel_left _ (Nat.two_pow_pos _)
  rw [hd, Nat.mul_comm]; exact ho
theorem mkD_uniq {n m : Bool} {a b : Nat} {e f K : Int} (he : K ≤ e) (hf : K ≤ f) (h : sg n a * ((2 ^ (e - K).toNat : Nat) : Int) = sg m b * ((2 ^ (f - K).toNat : Nat) : Int)) : mkD n a e = mkD m b f := by
  rw [sg_pow, sg_pow] at h
  by_cases h0 : a = 0
  · subst h0
    rw [Nat.zero_mul] at h
    have hb : b = 0 := by
      have := (sg_zero m (b * 2 ^ (f - K).toNat)).1 (by rw [← h]; exact (sg_zero n 0).2 rfl)
      rcases Nat.mul_eq_zero.1 this with h | h
      · exact h
      · have := Nat.two_pow_pos (f - K).toNat; omega
    subst hb
    unfold mkD
    rw [if_pos rfl, if_pos rfl]
  · have hp := Nat.two_pow_pos (e - K).toNat
    obtain ⟨h1, h2⟩ := sg_inj (Nat.mul_ne_zero h0 (by omega)) h
    have hb : b ≠ 0 := by
      rintro rfl
      rw [Nat.zero_mul] at h2
      rcases Nat.mul_eq_zero.1 h2 with h | h <;> omega
    subst h1
    unfold mkD
    rw [if_neg h0, if_neg hb]
    have ha2 := tz_split h0
    have hb2 := tz_split hb
    have oa := tz_bit h0
    have ob := tz_bit hb
    generalize a / 2 ^ tz a = A at *
    generalize b / 2 ^ tz b = B at *
    rw [ha2, hb2, Nat.mul_assoc, Nat.mul_assoc, ← Nat.pow_add, ← Nat.pow_add] at h2
    obtain ⟨h3, h4⟩ := oddq _ _ oa ob h2
    rw [h3]
    have h5 : e + (tz a : Int) = f + (tz b : Int) := by omega
    rw [h5]
theorem ss_sum (n m : Bool) (a b : Nat) : sg (ssN n a m b) (ssV n a m b) = sg n a + sg m b := by
  unfold ssN ssV sg
  by_cases h : b ≤ a <;> cases n <;> cases m <;> simp [h] <;> omega
section
variable {x y z : DyT}
/-- A valid one is its own one form. -/
theorem mkD_self (hx : dyOkB x = true) : mkD x.neg x.n x.e = x := by
  obtain ⟨n, h1, h2, h3, h4, h5⟩ := (dyOkB_iff x).1 hx
  have hn : x.n = n := by unfold DyT.n; rw [h1, val_D]; rfl
  rw [hn]
  unfold mkD
  rcases h5 with ⟨k1, k2, k3⟩ | k
  · subst k1
    rw [if_pos rfl]
    cases x
    simp only at h1 k2 k3
    rw [D_zero] at h1
    rw [h1, k2, k3]
  · have h0 : n ≠ 0 := by omega
    rw [if_neg h0]
    have ha2 := tz_split h0
    have ob := tz_bit h0
    have hz : n / 2 ^ tz n = n ∧ tz n = 0 := oddq (tz n) 0 ob k (by rw [Nat.pow_zero, Nat.mul_one]; exact ha2.symm)
    rw [hz.1, hz.2, ← h1]
    cases x
    simp
theorem addR_sv (hx : dyOkB x = true) (hy : dyOkB y = true) (K : Int) (hK : K ≤ -3000) : ∃ n a e, addR x y = mkD n a e ∧ -3000 ≤ e ∧ sg n a * ((2 ^ (e - K).toNat : Nat) : Int) = x.sv K + y.sv K := by
  obtain ⟨_, x1, x2, x3, _⟩ := okD hx
  obtain ⟨_, y1, y2, y3, _⟩ := okD hy
  obtain ⟨_, _, e3, _⟩ := al_small x1 y1 x2 x3 y2 y3
  refine ⟨_, _, _, rfl, e3, ?_⟩
  rw [ss_sum, Int.add_mul, sg_pow, sg_pow]
  obtain ⟨h1, h2⟩ := al_sv (a := x.n) (ex := x.e) (ey := y.e) (b := y.n) (K := K) (by omega) (by omega)
  rw [← h1, ← h2, ← sg_pow, ← sg_pow]
  rfl
theorem addR_comm (hx : dyOkB x = true) (hy : dyOkB y = true) : addR x y = addR y x := by
  obtain ⟨n, a, e, h1, h2, h3⟩ := addR_sv hx hy (-3000) (by omega)
  obtain ⟨m, b, f, k1, k2, k3⟩ := addR_sv hy hx (-3000) (by omega)
  rw [h1, k1]
  exact mkD_uniq h2 k2 (by rw [h3, k3, Int.add_comm])
theorem mulR_comm : mulR x y = mulR y x := by
  unfold mulR
  rw [Nat.mul_comm, Int.add_comm, show (x.neg != y.neg) = (y.neg != x.neg) by cases x.neg <;> cases y.neg <;> rfl]
theorem negT_ok (hy : dyOkB y = true) : dyOkB (negT y) = true ∧ ∀ K, (negT y).sv K = -(y.sv K) := by
  obtain ⟨n, h1, h2, h3, h4, h5⟩ := (dyOkB_iff y).1 hy
  have hn : y.n = n := by unfold DyT.n; rw [h1, val_D]; rfl
  have hn' : (negT y).n = y.n := rfl
  refine ⟨(dyOkB_iff _).2 ⟨n, h1, h2, h3, h4, ?_⟩, fun K => ?_⟩
  · rcases h5 with ⟨k1, k2, k3⟩ | k
    · exact .inl ⟨k1, by unfold negT; simp [hn, k1], k3⟩
    · exact .inr k
  · unfold DyT.sv
    rw [hn']
    have e1 : (negT y).e = y.e := rfl
    rw [e1]
    have : sg (negT y).neg y.n = -(sg y.neg y.n) := by
      unfold negT sg
      by_cases h0 : y.n = 0
      · rw [h0]; cases y.neg <;> simp
      · cases y.neg <;> simp [h0]
    rw [this, Int.neg_mul]
theorem mkD_sv {n : Bool} {a : Nat} {e K : Int} (h : K ≤ e) : (mkD n a e).sv K = sg n a * ((2 ^ (e - K).toNat : Nat) : Int) := by
  unfold mkD
  by_cases h0 : a = 0
  · subst h0
    rw [if_pos rfl]
    unfold DyT.sv DyT.n
    rw [(sg_zero n 0).2 rfl]
    simp [sg, val]
  · rw [if_neg h0]
    have ha2 := tz_split h0
    have hv : (DyT.n ⟨n, D (a / 2 ^ tz a), e + tz a⟩) = a / 2 ^ tz a := by unfold DyT.n; rw [val_D]; rfl
    unfold DyT.sv
    rw [hv]
    simp only
    rw [sg_pow, sg_pow]
    generalize a / 2 ^ tz a = A at *
    rw [show (e + (tz a : Int) - K).toNat = tz a + (e - K).toNat by omega, Nat.pow_add, ← Nat.mul_assoc, ← ha2]
theorem subR_addR (hx : dyOkB x = true) (hy : dyOkB y = true) (hs : dyFit (addR x y) = true) : subR (addR x y) y = x := by
  obtain ⟨n, a, e, h1, h2, h3⟩ := addR_sv hx hy (-3000) (by omega)
  have hok : dyOkB (addR x y) = true := by rw [h1] at hs ⊢; rw [dyOkB_mkD]; exact hs
  obtain ⟨q1, q2⟩ := negT_ok hy
  obtain ⟨m, b, f, k1, k2, k3⟩ := addR_sv hok q1 (-3000) (by omega)
  unfold subR
  rw [k1, ← mkD_self hx]
  refine mkD_uniq k2 (dyOk_e hx) ?_
  rw [k3, q2, h1, mkD_sv h2, h3]
  unfold DyT.sv
  omega
theorem mulR_sv (hx : dyOkB x = true) (hy : dyOkB y = true) : ∃ n a e, mulR x y = mkD n a e ∧ -6000 ≤ e ∧ sg n a * ((2 ^ (e - (-6000)).toNat : Nat) : Int) = x.sv (-3000) * y.sv (-3000) := by
  have x2 := dyOk_e hx
  have y2 := dyOk_e hy
  refine ⟨_, _, _, rfl, by omega, ?_⟩
  unfold DyT.sv
  rw [sg_pow, sg_pow, sg_pow, show (x.e + y.e - -6000).toNat = (x.e - -3000).toNat + (y.e - -3000).toNat by omega, Nat.pow_add]
  generalize 2 ^ (x.e - -3000).toNat = P
  generalize 2 ^ (y.e - -3000).toNat = Q
  generalize x.n = A
  generalize y.n = B
  unfold sg
  have e1 : ((A * B * (P * Q) : Nat) : Int) = ((A * P : Nat) : Int) * ((B * Q : Nat) : Int) := by
    rw [← Int.natCast_mul]; congr 1
    rw [Nat.mul_mul_mul_comm]
  cases x.neg <;> cases y.neg <;> simp only [bne, Bool.false_eq_true, if_false, if_true, Bool.not_true, Bool.not_false, BEq.rfl, show (false == true) = false from rfl, show (true == false) = false from rfl] <;> rw [e1]
  · rw [Int.mul_neg]
  · rw [Int.neg_mul]
  · rw [Int.neg_mul_neg]
theorem sv_shift (hx : dyOkB x = true) : x.sv (-6000) = x.sv (-3000) * ((2 ^ 3000 : Nat) : Int) := by
  have x2 := dyOk_e hx
  unfold DyT.sv
  rw [show (x.e - -6000).toNat = (x.e - -3000).toNat + 3000 by omega, Nat.pow_add, Int.natCast_mul, Int.mul_assoc]
theorem distr (hx : dyOkB x = true) (hy : dyOkB y = true) (hz : dyOkB z = true) (hs : dyFit (addR x y) = true) (h1 : dyFit (mulR x z) = true) (h2 : dyFit (mulR y z) = true) : mulR (addR x y) z = addR (mulR x z) (mulR y z) := by
  obtain ⟨n, a, e, s1, s2, s3⟩ := addR_sv hx hy (-3000) (by omega)
  have hok : dyOkB (addR x y) = true := by rw [s1] at hs ⊢; rw [dyOkB_mkD]; exact hs
  obtain ⟨n1, a1, e1, p1, p2, p3⟩ := mulR_sv hok hz
  obtain ⟨n2, a2, e2, q1, q2, q3⟩ := mulR_sv hx hz
  obtain ⟨n3, a3, e3, r1, r2, r3⟩ := mulR_sv hy hz
  have ok2 : dyOkB (mulR x z) = true := by rw [q1] at h1 ⊢; rw [dyOkB_mkD]; exact h1
  have ok3 : dyOkB (mulR y z) = true := by rw [r1] at h2 ⊢; rw [dyOkB_mkD]; exact h2
  obtain ⟨n4, a4, e4, t1, t2, t3⟩ := addR_sv ok2 ok3 (-6000) (by omega)
  rw [p1, t1]
  refine mkD_uniq p2 (by omega) ?_
  rw [p3, t3, s1, mkD_sv s2, s3, q1, r1, mkD_sv q2, mkD_sv r2, q3, r3, Int.add_mul]
end
end
/- Whole numbers: sums, differences, products, opposites, comparison, program. No conditions. -/
section
open Num
structure WhT where
  neg : Bool
  l : List Int
def WhT.z (w : WhT) : Int := sg w.neg (nN w.l)
def wOk (w : WhT) : Bool := wholeOkB w.neg w.l
/-- The one form of an integer. -/
def wz (z : Int) : WhT := ⟨decide (z < 0), D z.natAbs⟩
theorem wOk_t {w : WhT} (h : wOk w = true) : w = wz w.z ∧ (D w.z.natAbs).length ≤ 100 ∧ w.l = D (nN w.l) ∧ (D (nN w.l)).length ≤ 100 ∧ (nN w.l = 0 → w.neg = false) := by
  unfold wOk wholeOkB at h
  rw [Bool.and_eq_true] at h
  obtain ⟨e, hl⟩ := okN h.1
  have hz : nN w.l = 0 → w.neg = false := fun h0 => by
    have : w.l = [] := by rw [e, h0, D_zero]
    have h2 := h.2
    rw [this] at h2; simpa using h2
  have hn : w.z.natAbs = nN w.l := by unfold WhT.z sg; split <;> omega
  have hs : decide (w.z < 0) = w.neg := by
    unfold WhT.z sg
    cases hw : w.neg with
    | false => simp
    | true =>
      have : nN w.l ≠ 0 := fun h0 => by rw [hz h0] at hw; cases hw
      simp; omega
  refine ⟨?_, by rw [hn]; exact hl, e, hl, hz⟩
  unfold wz
  rw [hs, hn, ← e]
theorem wz_z (z : Int) : (wz z).z = z := by
  unfold WhT.z wz
  simp only
  rw [nN_D]
  unfold sg
  by_cases h : z < 0 <;> simp [h] <;> omega
theorem wz_ok {z : Int} (h : (D z.natAbs).length ≤ 100) : wOk (wz z) = true := by
  unfold wOk wz wholeOkB
  rw [natOk_D h]
  by_cases h0 : z = 0
  · subst h0; simp
  · have : ¬ (D z.natAbs).length = 0 := fun e => by
      have := D_nil_iff.1 (List.eq_nil_of_length_eq_zero e); omega
    simp [this]
theorem sg_abs {n : Bool} {a : Nat} {z : Int} (h : sg n a = z) : a = z.natAbs ∧ (n && decide (a ≠ 0)) = decide (z < 0) := by
  subst h
  unfold sg
  cases n with
  | false => simp
  | true =>
    refine ⟨by simp, ?_⟩
    by_cases h0 : a = 0
    · subst h0; simp
    · simp [h0]; omega
def wfitB (z : Int) : Bool := decide ((D z.natAbs).length ≤ 100)
def wfit (z : Int) : WhT := if wfitB z then wz z else ⟨false, []⟩
theorem wfit_len (z : Int) : (wfit z).l.length ≤ 100 := by
  unfold wfit
  split
  · rename_i h; unfold wfitB at h; exact of_decide_eq_true h
  · simp
/-- What an operation answers. -/
def wf2 (op : Int → Int → Int) (a b : WhT) : Bool := wOk a && wOk b && wfitB (op a.z b.z)
def wr2 (op : Int → Int → Int) (a b : WhT) : WhT := if wOk a && wOk b then wfit (op a.z b.z) else ⟨false, []⟩
theorem wr2_len {op : Int → Int → Int} {a b : WhT} : (wr2 op a b).l.length ≤ 100 := by
  unfold wr2
  split
  · exact wfit_len _
  · simp
theorem wf2_t {op : Int → Int → Int} {a b : WhT} (h : wf2 op a b = true) : wOk a = true ∧ wOk b = true ∧ wr2 op a b = wz (op a.z b.z) ∧ (D (op a.z b.z).natAbs).length ≤ 100 := by
  unfold wf2 at h
  rw [Bool.and_eq_true, Bool.and_eq_true] at h
  refine ⟨h.1.1, h.1.2, ?_, of_decide_eq_true h.2⟩
  unfold wr2 wfit
  rw [h.1.1, h.1.2, h.2]; rfl
theorem wr2_comm {op : Int → Int → Int} (hc : ∀ x y, op x y = op y x) (a b : WhT) : wr2 op a b = wr2 op b a ∧ wf2 op a b = wf2 op b a := by
  unfold wr2 wf2
  rw [hc, Bool.and_comm (wOk a)]; exact ⟨rfl, rfl⟩
section
variable {a b : WhT}
/-- A sign and a magnitude, made a whole number, of an integer. -/
theorem wholeZ_v (d : Nat) {n : Bool} {v : Nat} {z : Int} (h : sg n v = z) (hl : (D v).length < 1000000000) : vrun Try.prog kn (d + 3) 29 [.bool n, .ints .i64 (D v)] [] = some (.tup [.agg [.bool (wfit z).neg, .sl 0 0 (wfit z).l.length 1], .bool (wfitB z)], [.ints true .i64 (wfit z).l]) := by
  obtain ⟨h1, h2⟩ := sg_abs h
  have hw := wholeOf_v d n (l := D v) hl
  rw [hw]
  unfold wfit wfitB
  rw [← h1]
  by_cases hc : (D v).length ≤ 100
  · have e : fitL (D v) = D v := by unfold fitL; rw [if_pos hc]
    rw [e, decide_eq_true hc]
    have e2 : (n && !decide ((D v).length = 0) && true) = (wz z).neg := by
      show _ = decide (z < 0)
      rw [← h2]
      by_cases h0 : v = 0
      · subst h0; rw [D_zero]; simp
      · have : ¬ (D v).length = 0 := fun e => h0 (D_nil_iff.1 (List.eq_nil_of_length_eq_zero e))
        simp [this, h0]
    have e3 : (wz z).l = D v := by show D z.natAbs = D v; rw [← h1]
    rw [e2]
    simp only [if_true, e3]
  · have e : fitL (D v) = [] := by unfold fitL; rw [if_neg hc]
    rw [e, decide_eq_false hc]
    simp
def wneg (a : WhT) : WhT := if wOk a then wz (-a.z) else ⟨false, []⟩
theorem wneg_len : (wneg a).l.length ≤ 100 := by
  unfold wneg
  split
  · rename_i h
    obtain ⟨_, h2, _⟩ := wOk_t h
    show (D (-a.z).natAbs).length ≤ 100
    rw [Int.natAbs_neg]; exact h2
  · simp
def icmp (x y : Int) : Int := if x < y then -1 else if x = y then 0 else 1
def wcmp (a b : WhT) : Int := if wOk a && wOk b then icmp a.z b.z else 0
theorem scmp_icmp {n m : Bool} {x y : Nat} (ha : x = 0 → n = false) (hb : y = 0 → m = false) : scmp n x m y = icmp (sg n x) (sg m y) := by
  unfold scmp icmp sg cmpI
  cases n <;> cases m <;> simp at ha hb ⊢ <;> (repeat' split) <;> omega
end
end
/- Whole numbers read, program. No conditions. -/
section
open Num
def cutF (b : List Int) : List Int × Bool := if gt b 0 = 43 ∨ gt b 0 = 45 then (b.tail, decide (gt b 0 = 45)) else (b, false)
section
variable {b : List Int}
theorem cutSign_v (d : Nat) (hl : b.length < 1000000) : vrun Try.prog kn (d + 1) 27 [.ints .u8 b] [] = some (.tup [.ints .u8 (cutF b).1, .bool (cutF b).2], []) := by
  unfold cutF
  by_cases h0 : b = []
  · subst h0
    have e : ¬ (gt [] 0 = 43 ∨ gt [] 0 = 45) := by decide
    rw [if_neg e]
    rw [vrun_v Try.func27 rfl rfl rfl]; simp only [Try.f27]
    simp (implicitDefEqProofs := false) (disch := omega) [go_sem, tab27, nil27]
  · have hp : 0 < b.length := List.length_pos_iff.2 h0
    have ht : b.tail.take (b.length - 1) = b.tail := List.take_of_length_le (by rw [List.length_tail]; exact Nat.le_refl _)
    by_cases c1 : gt b 0 = 43
    · rw [if_pos (.inl c1)]
      rw [vrun_v Try.func27 rfl rfl rfl]; simp only [Try.f27]
      simp (implicitDefEqProofs := false) (disch := omega) [go_sem, tab27, nil27, c1, h0, ht]
    · by_cases c2 : gt b 0 = 45
      · rw [if_pos (.inr c2)]
        rw [vrun_v Try.func27 rfl rfl rfl]; simp only [Try.f27]
        simp (implicitDefEqProofs := false) (disch := omega) [go_sem, tab27, nil27, c2, h0, ht]
      · rw [if_neg (fun h => h.elim c1 c2)]
        rw [vrun_v Try.func27 rfl rfl rfl]; simp only [Try.f27]
        simp (implicitDefEqProofs := false) (disch := omega) [go_sem, tab27, nil27, c1, c2, h0]
def wrF (b : List Int) : Bool := decide (b.length ≤ 400) && areDigB (cutF (plainF b)).1 && wfitB (sg (cutF (plainF b)).2 (rdd 0 (cutF (plainF b)).1))
def wrT (b : List Int) : WhT := if decide (b.length ≤ 400) && areDigB (cutF (plainF b)).1 then wfit (sg (cutF (plainF b)).2 (rdd 0 (cutF (plainF b)).1)) else ⟨false, []⟩
theorem wrT_len (b : List Int) : (wrT b).l.length ≤ 100 := by
  unfold wrT
  split
  · exact wfit_len _
  · simp
theorem plainF_len (b : List Int) : (plainF b).length ≤ 4 * b.length := Nat.le_trans (flat_len4 _) (Nat.mul_le_mul_left 4 (runesF_len b))
theorem cutF_len (b : List Int) : (cutF b).1.length ≤ b.length := by
  unfold cutF
  split
  · rw [List.length_tail]; omega
  · exact Nat.le_refl _
set_option maxHeartbeats 1000000 in
theorem WholeRead_v (d : Nat) (hl : b.length < 1000000000) (hb : ∀ x ∈ b, 0 ≤ x ∧ x < 256) : vrun Try.prog kn (d + 7) 7 [.ints .u8 b] [] = some (.tup [.agg [.bool (wrT b).neg, .sl 0 0 (wrT b).l.length 1], .bool (wrF b)], [.ints true .i64 (wrT b).l]) := by
  unfold wrF wrT
  by_cases h4 : b.length ≤ 400
  · have a1 := fun d => Plain_v (b := b) d h4 hb
    have l1 := plainF_len b
    have l2 := cutF_len (plainF b)
    have a2 := fun d => cutSign_v (b := plainF b) d (by omega)
    have a3 := fun d => areDigits_v (b := (cutF (plainF b)).1) d (by omega)
    rw [decide_eq_true h4]
    generalize plainF b = p at *
    generalize (cutF p).2 = ng at *
    generalize (cutF p).1 = q at *
    cases hd : areDigB q with
    | false =>
      rw [hd] at a3
      rw [vrun_v Try.func7 rfl rfl rfl]; simp only [Try.f7]
      simp (implicitDefEqProofs := false) (disch := omega) [go_sem, tab7, a1, a2, a3]
    | true =>
      rw [hd] at a3
      obtain ⟨_, hq⟩ := digs_of hd
      have a4 := fun d => fromDigits_v (b := q) d (by omega) hq
      have l3 := rdd_len hq
      have a5 := fun d => wholeZ_v (n := ng) (v := rdd 0 q) d rfl (by omega)
      have l4 := wfit_len (sg ng (rdd 0 q))
      generalize wfit (sg ng (rdd 0 q)) = W at *
      generalize wfitB (sg ng (rdd 0 q)) = F at *
      generalize D (rdd 0 q) = Z at *
      simp only [Bool.true_and, if_true]
      clear hq hd hb
      rw [vrun_v Try.func7 rfl rfl rfl]; simp only [Try.f7]
      simp (implicitDefEqProofs := false) (disch := omega) [go_sem, tab7, a1, a2, a3, a4, a5]
  · rw [decide_eq_false h4]
    rw [vrun_v Try.func7 rfl rfl rfl]; simp only [Try.f7]
    simp (implicitDefEqProofs := false) (disch := omega) [go_sem, tab7]
def wtxR (w : WhT) : List Int := if w.neg then 45 :: text (nN w.l) else text (nN w.l)
variable {a : WhT}
def wtx (a : WhT) : List Int := if wOk a then wtxR a else []
end
end
/- Quotients of the reference: naturals. No conditions. -/
section
open Num
section
variable {x y R : Nat} {out : List Int} {L lo hi i : Nat}
def svE (L : Nat) (i : Int) (lo hi : Nat) (x : VE) : VE := (2, some (.ptr 0 0)) :: (3, some (.ptr 1 0)) :: (4, some (.ptr 2 0)) :: (5, some (.ptr 3 0)) :: (8, some (.sl 4 0 L 1)) :: (9, some (.ptr 5 0)) :: (10, some (.int .i64 i)) :: (11, some (.int .i64 lo)) :: (12, some (.int .i64 hi)) :: x
def svH (x y R : Nat) (out : List Int) : VH := [.vals true [.ints .i64 (D x)], .vals true [.ints .i64 (D y)], .vals true [.nil], .vals true [.nil], .ints true .i64 out, .vals true [.sl 6 0 (D R).length 1], .ints true .i64 (D R)]
end
section
variable {x y : Nat}
def svO (x y : Nat) (r : V) (i : Nat) : VE × VH := ([(2, some (.ptr 0 0)), (3, some (.ptr 1 0)), (4, some (.ptr 2 0)), (5, some (.ptr 3 0)), (8, some (.sl 4 0 (D x).length 1)), (9, some (.ptr 5 0)), (10, some (.int .i64 ((i : Int) - 1)))], [.vals true [.ints .i64 (D x)], .vals true [.ints .i64 (D y)], .vals true [.nil], .vals true [.nil], .ints true .i64 (hi (x / y) (D x).length i), .vals true [r]])
end
end
/- Whole numbers: quotients and rests, program. No conditions. -/
section
open Num
/-- Quotient and rest, in signs and magnitudes. -/
def dvQ (n : Bool) (A B : Nat) : Nat := if n && decide (A % B ≠ 0) then A / B + 1 else A / B
def dvR (n : Bool) (A B : Nat) : Nat := if n && decide (A % B ≠ 0) then B - A % B else A % B
theorem dv_sg {n m : Bool} {A B : Nat} (h0 : B ≠ 0) : sg (n != m) (dvQ n A B) = sg n A / sg m B ∧ (dvR n A B : Int) = sg n A % sg m B := by
  have hd := Nat.div_add_mod A B
  have hl : A % B < B := Nat.mod_lt _ (by omega)
  have hb : (sg m B).natAbs = B := by unfold sg; split <;> omega
  have e1 : sg n A = sg m B * sg (n != m) (dvQ n A B) + dvR n A B := by
    have hdz : (A : Int) = (B : Int) * (A / B : Nat) + (A % B : Nat) := by exact_mod_cast hd.symm
    unfold dvQ dvR
    by_cases hr : A % B = 0
    · rw [hr] at hdz ⊢
      generalize A / B = Q at *
      unfold sg
      cases n <;> cases m <;> simp <;> rw [hdz] <;> simp [Int.neg_mul, Int.mul_neg]
    · have hs : ((B - A % B : Nat) : Int) = B - (A % B : Nat) := by omega
      have hp : ((A / B + 1 : Nat) : Int) = (A / B : Nat) + 1 := by omega
      generalize hR : A % B = R at *
      generalize hQ : A / B = Q at *
      unfold sg
      cases n <;> cases m <;> simp only [hr, ne_eq, not_false_eq_true, decide_true, Bool.false_and, Bool.true_and, if_true, if_false, Bool.false_eq_true, bne_self_eq_false, Bool.bne_true, Bool.bne_false, Bool.not_true, Bool.not_false, hs, hp] <;> rw [hdz] <;> simp only [Int.neg_mul, Int.mul_neg, Int.neg_neg, Int.mul_add] <;> omega
  have h1 : (dvR n A B : Int) < (sg m B).natAbs := by
    rw [hb]; unfold dvR
    split <;> rename_i hc
    · simp at hc; omega
    · omega
  have hne : sg m B ≠ 0 := by intro h; rw [h] at hb; simp at hb; omega
  generalize sg (n != m) (dvQ n A B) = q at *
  generalize sg m B = b at *
  generalize sg n A = a at *
  have hr0 : (0 : Int) ≤ dvR n A B := by omega
  generalize (dvR n A B : Int) = r at *
  have hm : a % b = r := by
    rw [e1, Int.add_comm, Int.add_mul_emod_self_left]
    rcases Int.natAbs_eq b with h | h
    · rw [h, Int.emod_eq_of_lt hr0 h1]
    · rw [h, Int.emod_neg, Int.emod_eq_of_lt hr0 h1]
  have hq := Int.mul_ediv_add_emod a b
  rw [hm] at hq
  exact ⟨Int.eq_of_mul_eq_mul_left hne (by omega), hm.symm⟩
section
variable {a b : WhT}
def wdF (a b : WhT) : Bool := wOk a && wOk b && decide (b.l ≠ []) && wfitB (a.z / b.z)
def wdQ (a b : WhT) : WhT := if wdF a b then wz (a.z / b.z) else ⟨false, []⟩
def wdR (a b : WhT) : WhT := if wdF a b then wz (a.z % b.z) else ⟨false, []⟩
theorem wOk_nN {w : WhT} (h : wOk w = true) : w.z.natAbs = nN w.l ∧ (w.l ≠ [] → w.z ≠ 0 ∧ nN w.l ≠ 0) := by
  obtain ⟨_, _, e, _, _⟩ := wOk_t h
  have hn : w.z.natAbs = nN w.l := by unfold WhT.z sg; split <;> omega
  refine ⟨hn, fun hne => ?_⟩
  have : nN w.l ≠ 0 := fun h0 => hne (by rw [e, h0, D_zero])
  exact ⟨fun hz => this (by rw [← hn, hz]; rfl), this⟩
theorem wdF_t (h : wdF a b = true) : wOk a = true ∧ wOk b = true ∧ b.l ≠ [] ∧ (D (a.z / b.z).natAbs).length ≤ 100 ∧ (D (a.z % b.z).natAbs).length ≤ 100 := by
  unfold wdF at h
  simp only [Bool.and_eq_true, decide_eq_true_eq] at h
  obtain ⟨⟨⟨h1, h2⟩, h3⟩, h4⟩ := h
  refine ⟨h1, h2, h3, of_decide_eq_true h4, ?_⟩
  obtain ⟨hn, hz⟩ := wOk_nN h2
  have := Int.emod_lt a.z (hz h3).1
  have h0 := Int.emod_nonneg a.z (hz h3).1
  exact Nat.le_trans (len_D_mono (by omega)) (wOk_t h2).2.1
theorem wdQ_len : (wdQ a b).l.length ≤ 100 ∧ (wdR a b).l.length ≤ 100 := by
  unfold wdQ wdR
  cases h : wdF a b with
  | false => simp
  | true =>
    obtain ⟨_, _, _, l1, l2⟩ := wdF_t h
    exact ⟨l1, l2⟩
set_option maxHeartbeats 2000000 in
end
end
/- Quotients of the reference: whole numbers. No conditions. -/
section
open Num
section
variable {A B : Nat} {n m : Bool}
theorem l3fits_w (d : Nat) {l : List Int} (hl : l.length < 1000000000) : vrun Try.prog kn (d + 1) 24 [.agg [.bool n, .ints .i64 l]] [] = some (.tup [.agg [.bool (n && decide (l.length ≤ 100)), .ints .i64 (fitL l)], .bool (decide (l.length ≤ 100))], []) := by
  unfold fitL
  by_cases h : l.length ≤ 100
  · rw [vrun_v Try.func24 rfl rfl rfl]; simp only [Try.f24]
    simp (disch := omega) [go_sem, tab24, h]
  · rw [vrun_v Try.func24 rfl rfl rfl]; simp only [Try.f24]
    simp (disch := omega) [go_sem, tab24, h]
set_option maxHeartbeats 2000000 in
end
section
variable {a b : WhT}
set_option maxHeartbeats 2000000 in
end
end
/- Whole numbers read, reference. No conditions. -/
section
open Num
section
variable {b : List Int}
set_option maxHeartbeats 1000000 in
theorem sWholeRead_v (d : Nat) (hl : b.length < 1000000000) (hb : ∀ x ∈ b, 0 ≤ x ∧ x < 256) : vrun Try.prog kn (d + 5) 5 [.ints .u8 b] [] = some (.tup [.agg [.bool (wrT b).neg, .ints .i64 (wrT b).l], .bool (wrF b)], []) := by
  unfold wrF wrT
  by_cases h4 : b.length ≤ 400
  · have a1 := fun d => sPlain_v (b := b) d h4 hb
    have l1 := plainF_len b
    have l2 := cutF_len (plainF b)
    have a3 := fun d => l2isDigits_v (b := (cutF (plainF b)).1) d (by omega)
    rw [decide_eq_true h4]
    generalize plainF b = p at *
    have key : ∀ (q : List Int) (ng : Bool), q.length ≤ 1600 → areDigB q = true → (∀ d, vrun Try.prog kn (d + 3) 26 [.ints .u8 q] [] = some (.agg [.ints .i64 (D (rdd 0 q))], [])) ∧ (∀ d, vrun Try.prog kn (d + 2) 25 [.bool ng, .agg [.ints .i64 (D (rdd 0 q))]] [] = some (.agg [.bool (ng && decide (rdd 0 q ≠ 0)), .ints .i64 (D (rdd 0 q))], [])) ∧ (∀ d, vrun Try.prog kn (d + 1) 24 [.agg [.bool (ng && decide (rdd 0 q ≠ 0)), .ints .i64 (D (rdd 0 q))]] [] = some (.tup [.agg [.bool (wfit (sg ng (rdd 0 q))).neg, .ints .i64 (wfit (sg ng (rdd 0 q))).l], .bool (wfitB (sg ng (rdd 0 q)))], [])) := by
      intro q ng hq hd
      obtain ⟨h0, hq'⟩ := digs_of hd
      have l3 := rdd_len hq'
      refine ⟨fun d => l2digits_v d h0 (by omega) hq', fun d => l3make_v (n := ng) d (by omega), fun d => ?_⟩
      obtain ⟨s1, s2⟩ := sg_abs (n := ng) (a := rdd 0 q) rfl
      have := l3fits_w (n := ng && decide (rdd 0 q ≠ 0)) (l := D (rdd 0 q)) d (by omega)
      rw [this]
      unfold wfit wfitB fitL
      rw [← s1]
      by_cases hf : (D (rdd 0 q)).length ≤ 100
      · rw [if_pos hf, decide_eq_true hf, if_pos rfl]
        unfold wz
        rw [← s1, ← s2, Bool.and_true]
      · rw [if_neg hf, decide_eq_false hf, if_neg (by simp), Bool.and_false]
    have ht : p.tail.take (p.length - 1) = p.tail := List.take_of_length_le (by rw [List.length_tail]; exact Nat.le_refl _)
    unfold cutF at *
    by_cases c1 : gt p 0 = 43 ∨ gt p 0 = 45
    · rw [if_pos c1] at *
      have hp : 0 < p.length := by
        rcases Nat.eq_zero_or_pos p.length with h | h
        · have : p = [] := List.eq_nil_of_length_eq_zero h
          subst this
          exact absurd c1 (by decide)
        · exact h
      have k := key p.tail (decide (gt p 0 = 45)) (by simp; omega)
      simp only at a3 l2 ⊢
      have hne : p ≠ [] := List.length_pos_iff.1 hp
      cases hd : areDigB p.tail with
      | false =>
        rw [hd] at a3
        clear key k
        rcases c1 with c1 | c1
        all_goals
          generalize hqt : p.tail = q at *
          rw [vrun_v Try.func5 rfl rfl rfl]; simp only [Try.f5]
          simp (implicitDefEqProofs := false) (disch := omega) [go_sem, tab5, a1, c1, hqt, ht, hne, a3]
      | true =>
        rw [hd] at a3
        obtain ⟨k1, k2, k3⟩ := k hd
        simp only [Bool.true_and, if_true]
        clear key k hd
        rcases c1 with c1 | c1
        · simp only [c1, show ¬ (43 : Int) = 45 by omega, decide_false, Bool.false_and] at k2 k3 ⊢
          generalize wfit (sg false (rdd 0 p.tail)) = W at *
          generalize wfitB (sg false (rdd 0 p.tail)) = F at *
          generalize D (rdd 0 p.tail) = Z at *
          generalize hqt : p.tail = q at *
          rw [vrun_v Try.func5 rfl rfl rfl]; simp only [Try.f5]
          simp (implicitDefEqProofs := false) (disch := omega) [go_sem, tab5, a1, c1, hqt, ht, hne, a3, k1, k2, k3]
        · simp only [c1, decide_true, Bool.true_and] at k2 k3 ⊢
          generalize wfit (sg true (rdd 0 p.tail)) = W at *
          generalize wfitB (sg true (rdd 0 p.tail)) = F at *
          generalize decide (rdd 0 p.tail ≠ 0) = S at *
          generalize D (rdd 0 p.tail) = Z at *
          generalize hqt : p.tail = q at *
          rw [vrun_v Try.func5 rfl rfl rfl]; simp only [Try.f5]
          simp (implicitDefEqProofs := false) (disch := omega) [go_sem, tab5, a1, c1, hqt, ht, hne, a3, k1, k2, k3]
    · rw [if_neg c1] at *
      have k := key p false (by omega)
      simp only at a3 l2 ⊢
      have c2 : ¬ gt p 0 = 43 := fun h => c1 (.inl h)
      have c3 : ¬ gt p 0 = 45 := fun h => c1 (.inr h)
      cases hd : areDigB p with
      | false =>
        rw [hd] at a3
        clear key k
        by_cases hp : p = []
        · subst hp
          rw [vrun_v Try.func5 rfl rfl rfl]; simp only [Try.f5]
          simp (implicitDefEqProofs := false) (disch := omega) [go_sem, tab5, a1, a3]
        · have hpl : 0 < p.length := List.length_pos_iff.2 hp
          rw [vrun_v Try.func5 rfl rfl rfl]; simp only [Try.f5]
          simp (implicitDefEqProofs := false) (disch := omega) [go_sem, tab5, a1, c2, c3, hp, a3]
      | true =>
        rw [hd] at a3
        have hpl := (digs_of hd).1
        have hp : p ≠ [] := List.length_pos_iff.1 hpl
        obtain ⟨k1, k2, k3⟩ := k hd
        simp only [Bool.true_and, if_true, Bool.false_and] at k2 k3 ⊢
        clear key k hd
        generalize wfit (sg false (rdd 0 p)) = W at *
        generalize wfitB (sg false (rdd 0 p)) = F at *
        generalize D (rdd 0 p) = Z at *
        rw [vrun_v Try.func5 rfl rfl rfl]; simp only [Try.f5]
        simp (implicitDefEqProofs := false) (disch := omega) [go_sem, tab5, a1, c2, c3, hp, a3, k1, k2, k3]
  · rw [decide_eq_false h4]
    rw [vrun_v Try.func5 rfl rfl rfl]; simp only [Try.f5]
    simp (implicitDefEqProofs := false) (disch := omega) [go_sem, tab5]
end
end
/- What the exact laws do beside: sizes and equality of whole numbers' lists, naturals, wholes, dyadics. No conditions. -/
section
open Num
section
variable {l a b : List Int} {left e : Int} {n : Bool}
def eqIS (a b : List Int) (j : Nat) : VE × VH := ([(0, some (.ints .i64 a)), (1, some (.ints .i64 b)), (5, some (.int .i64 j))], [])
theorem eqIntS_v (d : Nat) (ha : a.length < 1000000000) (hb : b.length < 1000000000) : vrun Try.prog kn (d + 1) 60 [.ints .i64 a, .ints .i64 b] [] = some (.bool (decide (a = b)), []) := by
  by_cases hl : ¬ a.length = b.length
  · have : ¬ a = b := fun h => hl (by rw [h])
    have h' : ¬ (a.length : Int) = b.length := by omega
    rw [vrun_v Try.func60 rfl rfl rfl]; simp only [Try.f60]
    simp (disch := omega) [go_sem, tab60, h', this, hl]
  rw [Decidable.not_not] at hl
  have key := vi_inv (n := kn.cf.rounds) (body := vCode Try.prog kn (vrun Try.prog kn d) 60 (loopAt Try.f60 0)) (fun j s => s = eqIS a b j ∧ a.take j = b.take j)
    (fun r => (r = some (.exit 0, (eqIS a b a.length).1 ++ [(14, some (.bool false))], []) ∧ a = b) ∨ (r = some (.ret, [(4, some (.bool false))], []) ∧ ¬ a = b)) a.length (by rw [k_cf, c_rounds]; omega)
    (fun j s hj hI => by
      obtain ⟨rfl, hI⟩ := hI
      have hja : a[j]? = some (gt a j) := by rw [gt]; simp [hj]
      have hjb : b[j]? = some (gt b j) := by rw [gt]; simp [show j < b.length by omega]
      by_cases hq : gt a j = gt b j
      · left
        refine ⟨eqIS a b (j + 1), ?_, rfl, ?_⟩
        · rw [round_v]; simp only [loopAt, nthC, bodyC, loops, List.nil_append, List.cons_append, List.append_nil, Try.f60, eqIS]
          simp (disch := omega) [go_sem, tab60, hq]
        · rw [List.take_add_one, List.take_add_one, hI, hja, hjb, hq]
      · right; intro m; right
        refine ⟨vi_ret ?_, fun h => hq (by rw [h])⟩
        rw [round_v]; simp only [loopAt, nthC, bodyC, loops, List.nil_append, List.cons_append, List.append_nil, Try.f60, eqIS]
        simp (disch := omega) [go_sem, tab60, hq])
    (fun s hI m => by
      obtain ⟨rfl, hI⟩ := hI
      left
      refine ⟨vi_exit ?_, by rwa [List.take_length, hl, List.take_length] at hI⟩
      rw [round_v]; simp only [loopAt, nthC, bodyC, loops, List.nil_append, List.cons_append, List.append_nil, Try.f60, eqIS]
      simp (disch := omega) [go_sem, tab60])
    (eqIS a b 0) ⟨rfl, by simp⟩
  rcases key with ⟨hv, hq⟩ | ⟨hv, hq⟩
  · rw [decide_eq_true hq]
    have hl0 := fun ks => loop_v (P := Try.prog) (K := kn) (ks := ks) hv
    simp only [loopAt, nthC, bodyC, loops, List.nil_append, List.cons_append, List.append_nil, Try.f60, eqIS, Int.natCast_zero, List.cons_append, List.nil_append] at hl0
    rw [vrun_v Try.func60 rfl rfl rfl]; simp only [Try.f60]
    simp (disch := omega) [go_sem, tab60, hl, hl0]
  · rw [decide_eq_false hq]
    have hl0 := fun ks => loop_v (P := Try.prog) (K := kn) (ks := ks) hv
    simp only [loopAt, nthC, bodyC, loops, List.nil_append, List.cons_append, List.append_nil, Try.f60, eqIS, Int.natCast_zero, List.cons_append, List.nil_append] at hl0
    rw [vrun_v Try.func60 rfl rfl rfl]; simp only [Try.f60]
    simp (disch := omega) [go_sem, tab60, hl, hl0]
theorem eqNat_v (d : Nat) (ha : a.length < 1000000000) (hb : b.length < 1000000000) : vrun Try.prog kn (d + 2) 31 [.agg [.ints .i64 a], .agg [.ints .i64 b]] [] = some (.bool (decide (a = b)), []) := by
  have h1 := fun d => eqIntS_v d ha hb
  by_cases h : a = b <;> simp only [h, decide_true, decide_false] at h1 ⊢
  all_goals
    rw [vrun_v Try.func31 rfl rfl rfl]; simp only [Try.f31]
    simp (disch := omega) [go_sem, tab31, h1]
theorem eqWhole_v (d : Nat) {n1 n2 : Bool} (ha : a.length < 1000000000) (hb : b.length < 1000000000) : vrun Try.prog kn (d + 3) 8 [.agg [.bool n1, .ints .i64 a], .agg [.bool n2, .ints .i64 b]] [] = some (.bool (decide (n1 = n2) && decide (a = b)), []) := by
  have h1 := fun d => eqNat_v d ha hb
  by_cases h : a = b <;> simp only [h, decide_true, decide_false, Bool.and_true, Bool.and_false] at h1 ⊢
  all_goals
    rw [vrun_v Try.func8 rfl rfl rfl]; simp only [Try.f8]
    cases n1 <;> cases n2 <;> simp (disch := omega) [go_sem, tab8, h1]
end
end
/- The exact laws copy an argument (each in memory of its own): lists, naturals, wholes, dyadics. No conditions. -/
section
open Num
section
variable {l : List Int}
def cpL (l : List Int) (j : Nat) : List Int := l.take j ++ List.replicate (l.length - j) 0
theorem cpL_len {j : Nat} (h : j ≤ l.length) : (cpL l j).length = l.length := by unfold cpL; simp; omega
theorem cpL_set {j : Nat} (h : j < l.length) : (cpL l j).set j (gt l j) = cpL l (j + 1) := by
  have hj : l[j]? = some (gt l j) := by rw [gt]; simp [h]
  unfold cpL
  rw [List.set_append_right _ _ (by simp; omega), List.take_add_one, hj, show l.length - j = (l.length - (j + 1)) + 1 by omega, List.replicate_succ]
  simp [show j - min j l.length = 0 by omega]
theorem cpL_end : cpL l l.length = l := by unfold cpL; simp
theorem cpL_0 : cpL l 0 = List.replicate l.length 0 := by unfold cpL; simp
def toIS (l : List Int) (j : Nat) : VE × VH := ([(0, some (.ints .i64 l)), (3, some (.sl 0 0 l.length 1)), (4, some (.int .i64 j))], [.ints true .i64 (cpL l j)])
end
end
/- The exact laws write marks into what they hold, and look whether the marks stand: lists, naturals, wholes, dyadics. No conditions. -/
section
open Num
section
variable {h : VH} {i : Nat} {l : List Int} {k : Int}
def mkL (l : List Int) (k : Int) (j : Nat) : List Int := iota k j ++ l.drop j
theorem mkL_len {j : Nat} (hj : j ≤ l.length) : (mkL l k j).length = l.length := by unfold mkL; rw [List.length_append, iota_len, List.length_drop]; omega
theorem mkL_set {j : Nat} (hj : j < l.length) : (mkL l k j).set j (k + j) = mkL l k (j + 1) := by
  unfold mkL
  rw [List.set_append_right _ _ (by rw [iota_len]; omega), iota_len, Nat.sub_self, List.drop_eq_getElem_cons hj, iota, List.append_assoc]; rfl
theorem mkL_end : mkL l k l.length = iota k l.length := by unfold mkL; simp
theorem mkL_0 : mkL l k 0 = l := by unfold mkL; simp [iota]
theorem set_self (hi : h[i]? = some (.ints true .i64 l)) : h.set i (.ints true .i64 l) = h := by
  obtain ⟨h1, h2⟩ := List.getElem?_eq_some_iff.1 hi
  rw [← h2]; exact List.set_getElem_self _
def mkS (h : VH) (i : Nat) (l : List Int) (k : Int) (j : Nat) : VE × VH := ([(0, some (.sl i 0 l.length 1)), (1, some (.int .i64 (k + j))), (5, some (.int .i64 j))], h.set i (.ints true .i64 (mkL l k j)))
theorem mkI_r (call : CallV) (hi : i < h.length) (hl : l.length < 100000000) (hk : 0 ≤ k) (hk' : k < 1000000000) {j : Nat} (hj : j < l.length) :
    vCode Try.prog kn call 61 (loopAt Try.f61 0) (mkS h i l k j).1 (mkS h i l k j).2 = some (.norm, mkS h i l k (j + 1)) := by
  have h1 := mkL_len (k := k) (Nat.le_of_lt hj)
  have h2 := mkL_set (k := k) hj
  have h3 : k + j + 1 = k + ((j + 1 : Nat) : Int) := by omega
  have hs : ∀ a : VO, (h.set i a)[i]? = some a := fun a => by simp [hi]
  rw [round_v]; simp only [loopAt, nthC, bodyC, loops, List.nil_append, List.cons_append, List.append_nil, Try.f61, mkS, ← h3, ← h2]
  simp (disch := omega) [go_sem, tab61, h1, hs, List.set_set]
theorem mkI_x (call : CallV) (hl : l.length < 100000000) :
    vCode Try.prog kn call 61 (loopAt Try.f61 0) (mkS h i l k l.length).1 (mkS h i l k l.length).2 = some (.exit 0, (mkS h i l k l.length).1 ++ [(9, some (.bool false))], (mkS h i l k l.length).2) := by
  rw [round_v]; simp only [loopAt, nthC, bodyC, loops, List.nil_append, List.cons_append, List.append_nil, Try.f61, mkS]
  simp (disch := omega) [go_sem, tab61]
theorem markIntS_v (d : Nat) (hi : h[i]? = some (.ints true .i64 l)) (hl : l.length < 100000000) (hk : 0 ≤ k) (hk' : k < 1000000000) :
    vrun Try.prog kn (d + 1) 61 [.sl i 0 l.length 1, .int .i64 k] h = some (.int .i64 (k + l.length), h.set i (.ints true .i64 (iota k l.length))) := by
  have hi' : i < h.length := (List.getElem?_eq_some_iff.1 hi).1
  have hl0 := fun ks => loop_v (P := Try.prog) (K := kn) (ks := ks) (vi_for (mkS h i l k) l.length (n := kn.cf.rounds) (by rw [k_cf, c_rounds]; omega) (fun j hj => mkI_r (vrun Try.prog kn d) hi' hl hk hk' hj) fun m => vi_exit (mkI_x _ hl))
  simp only [loopAt, nthC, bodyC, loops, List.nil_append, List.cons_append, List.append_nil, Try.f61, mkS, Int.natCast_zero, Int.add_zero, List.cons_append, List.nil_append, mkL_0, mkL_end, set_self hi] at hl0
  rw [vrun_v Try.func61 rfl rfl rfl]; simp only [Try.f61]
  simp (disch := omega) [go_sem, tab61, hl0]
theorem ge_app {n : Nat} {o : VO} (a : List VO) (hn : h[n]? = some o) : (h ++ a)[n]? = some o := by
  rw [List.getElem?_append_left (List.getElem?_eq_some_iff.1 hn).1]; exact hn
theorem set_app {n : Nat} {o : VO} (a : List VO) (q : VO) (hn : h[n]? = some o) : (h ++ a).set n q = h.set n q ++ a := List.set_append_left _ _ (List.getElem?_eq_some_iff.1 hn).1
theorem markNat_v (d : Nat) (hi : h[i]? = some (.ints true .i64 l)) (hl : l.length < 100000000) (hk : 0 ≤ k) (hk' : k < 1000000000) :
    vrun Try.prog kn (d + 2) 32 [.agg [.sl i 0 l.length 1], .int .i64 k] h = some (.int .i64 (k + l.length), h.set i (.ints true .i64 (iota k l.length)) ++ [.vals true [.sl i 0 l.length 1]]) := by
  have h1 := markIntS_v (h := h ++ [.vals true [.sl i 0 l.length 1]]) d (ge_app _ hi) hl hk hk'
  rw [set_app _ _ hi] at h1
  rw [vrun_v Try.func32 rfl rfl rfl]; simp only [Try.f32]
  simp (disch := omega) [go_sem, tab32, h1, List.getElem?_concat_length]
theorem markWhole_v (d : Nat) {n : Bool} (hi : h[i]? = some (.ints true .i64 l)) (hl : l.length < 100000000) (hk : 0 ≤ k) (hk' : k < 1000000000) :
    vrun Try.prog kn (d + 3) 11 [.agg [.bool n, .sl i 0 l.length 1], .int .i64 k] h = some (.int .i64 (k + l.length), h.set i (.ints true .i64 (iota k l.length)) ++ [.vals true [.bool n, .sl i 0 l.length 1], .vals true [.sl i 0 l.length 1]]) := by
  have h1 := markNat_v (h := h ++ [.vals true [.bool n, .sl i 0 l.length 1]]) d (ge_app _ hi) hl hk hk'
  rw [set_app _ _ hi, List.append_assoc] at h1
  rw [vrun_v Try.func11 rfl rfl rfl]; simp only [Try.f11]
  simp (disch := omega) [go_sem, tab11, h1, List.getElem?_concat_length]
/-! ### as rules that read the heap -/
def mkStep (r : Option (V × VH)) (i m : Nat) (k : Int) (h : VH) (tail : List VO) : Option VO → Option (V × VH)
  | some (.ints true .i64 l) => if l.length = m ∧ l.length < 100000000 ∧ 0 ≤ k ∧ k < 1000000000 then some (.int .i64 (k + m), h.set i (.ints true .i64 (iota k m)) ++ tail) else r
  | _ => r
theorem mkStep_i (r : Option (V × VH)) (i m : Nat) (k : Int) (h : VH) (tail : List VO) (l : List Int) : mkStep r i m k h tail (some (.ints true .i64 l)) = if l.length = m ∧ l.length < 100000000 ∧ 0 ≤ k ∧ k < 1000000000 then some (.int .i64 (k + m), h.set i (.ints true .i64 (iota k m)) ++ tail) else r := rfl
theorem mkStep_of {r : Option (V × VH)} {i m : Nat} {k : Int} {h : VH} {tail : List VO} (hr : ∀ l, h[i]? = some (.ints true .i64 l) → l.length = m → l.length < 100000000 → 0 ≤ k → k < 1000000000 → r = some (.int .i64 (k + m), h.set i (.ints true .i64 (iota k m)) ++ tail)) : r = mkStep r i m k h tail h[i]? := by
  unfold mkStep
  split
  · rename_i l hl
    split
    · rename_i hc
      exact hr l hl hc.1 hc.2.1 hc.2.2.1 hc.2.2.2
    · rfl
  · rfl
noncomputable def xMarkIntS (d i m : Nat) (k : Int) (h : VH) := vrun Try.prog kn (d + 1) 61 [.sl i 0 m 1, .int .i64 k] h
noncomputable def xMarkNat (d i m : Nat) (k : Int) (h : VH) := vrun Try.prog kn (d + 2) 32 [.agg [.sl i 0 m 1], .int .i64 k] h
noncomputable def xMarkWhole (d : Nat) (n : Bool) (i m : Nat) (k : Int) (h : VH) := vrun Try.prog kn (d + 3) 11 [.agg [.bool n, .sl i 0 m 1], .int .i64 k] h
theorem markIntS_s (d i m : Nat) (k : Int) (h : VH) : vrun Try.prog kn (d + 1) 61 [.sl i 0 m 1, .int .i64 k] h = mkStep (xMarkIntS d i m k h) i m k h [] h[i]? :=
  mkStep_of (r := xMarkIntS d i m k h) fun l hi hm h1 h2 h3 => by subst hm; rw [List.append_nil]; exact markIntS_v d hi h1 h2 h3
theorem markNat_s (d i m : Nat) (k : Int) (h : VH) : vrun Try.prog kn (d + 2) 32 [.agg [.sl i 0 m 1], .int .i64 k] h = mkStep (xMarkNat d i m k h) i m k h [.vals true [.sl i 0 m 1]] h[i]? :=
  mkStep_of (r := xMarkNat d i m k h) fun l hi hm h1 h2 h3 => by subst hm; exact markNat_v d hi h1 h2 h3
theorem markWhole_s (d : Nat) (n : Bool) (i m : Nat) (k : Int) (h : VH) : vrun Try.prog kn (d + 3) 11 [.agg [.bool n, .sl i 0 m 1], .int .i64 k] h = mkStep (xMarkWhole d n i m k h) i m k h [.vals true [.bool n, .sl i 0 m 1], .vals true [.sl i 0 m 1]] h[i]? :=
  mkStep_of (r := xMarkWhole d n i m k h) fun l hi hm h1 h2 h3 => by subst hm; exact markWhole_v d hi h1 h2 h3
end
section
variable {k : Int} {n : Nat}
def heS (k : Int) (n j : Nat) : VE × VH := ([(0, some (.ints .i64 (iota k n))), (1, some (.int .i64 (k + j))), (5, some (.int .i64 j))], [])
theorem he_r (call : CallV) (hn : n < 100000000) (hk : 0 ≤ k) (hk' : k < 1000000000) {j : Nat} (hj : j < n) : vCode Try.prog kn call 62 (loopAt Try.f62 0) (heS k n j).1 (heS k n j).2 = some (.norm, heS k n (j + 1)) := by
  have h1 := gt_iota (k := k) hj
  have h2 := iota_len k n
  have h3 : k + j + 1 = k + ((j + 1 : Nat) : Int) := by omega
  rw [round_v]; simp only [loopAt, nthC, bodyC, loops, List.nil_append, List.cons_append, List.append_nil, Try.f62, heS, ← h3]
  simp (disch := omega) [go_sem, tab62, h1, h2]
theorem he_x (call : CallV) (hn : n < 100000000) : vCode Try.prog kn call 62 (loopAt Try.f62 0) (heS k n n).1 (heS k n n).2 = some (.exit 0, (heS k n n).1 ++ [(9, some (.bool false))], (heS k n n).2) := by
  have h2 := iota_len k n
  rw [round_v]; simp only [loopAt, nthC, bodyC, loops, List.nil_append, List.cons_append, List.append_nil, Try.f62, heS]
  simp (disch := omega) [go_sem, tab62, h2]
theorem heldIntS_v (d : Nat) (hn : n < 100000000) (hk : 0 ≤ k) (hk' : k < 1000000000) : vrun Try.prog kn (d + 1) 62 [.ints .i64 (iota k n), .int .i64 k] [] = some (.int .i64 (k + n), []) := by
  have hl0 := fun ks => loop_v (P := Try.prog) (K := kn) (ks := ks) (vi_for (heS k n) n (n := kn.cf.rounds) (by rw [k_cf, c_rounds]; omega) (fun j hj => he_r (vrun Try.prog kn d) hn hk hk' hj) fun m => vi_exit (he_x _ hn))
  simp only [loopAt, nthC, bodyC, loops, List.nil_append, List.cons_append, List.append_nil, Try.f62, heS, Int.natCast_zero, Int.add_zero, List.cons_append, List.nil_append] at hl0
  rw [vrun_v Try.func62 rfl rfl rfl]; simp only [Try.f62]
  simp (disch := omega) [go_sem, tab62, hl0]
theorem heldNat_v (d : Nat) (hn : n < 100000000) (hk : 0 ≤ k) (hk' : k < 1000000000) : vrun Try.prog kn (d + 2) 33 [.agg [.ints .i64 (iota k n)], .int .i64 k] [] = some (.int .i64 (k + n), []) := by
  have h1 := fun d => heldIntS_v d hn hk hk'
  rw [vrun_v Try.func33 rfl rfl rfl]; simp only [Try.f33]
  simp (disch := omega) [go_sem, tab33, h1]
theorem heldWhole_v (d : Nat) {b : Bool} (hn : n < 100000000) (hk : 0 ≤ k) (hk' : k < 1000000000) : vrun Try.prog kn (d + 3) 12 [.agg [.bool b, .ints .i64 (iota k n)], .int .i64 k] [] = some (.int .i64 (k + n), []) := by
  have h1 := fun d => heldNat_v d hn hk hk'
  rw [vrun_v Try.func12 rfl rfl rfl]; simp only [Try.f12]
  simp (disch := omega) [go_sem, tab12, h1]
end
end
/- The exact laws copy, compare and mark lists of bytes. No conditions. -/
section
open Num
section
variable {l a b : List Int} {h : VH} {i : Nat} {k : Int}
def eqBS (a b : List Int) (j : Nat) : VE × VH := ([(0, some (.ints .u8 a)), (1, some (.ints .u8 b)), (5, some (.int .i64 j))], [])
theorem eqByteS_v (d : Nat) (ha : a.length < 1000000000) (hb : b.length < 1000000000) : vrun Try.prog kn (d + 1) 9 [.ints .u8 a, .ints .u8 b] [] = some (.bool (decide (a = b)), []) := by
  by_cases hl : ¬ a.length = b.length
  · have : ¬ a = b := fun h => hl (by rw [h])
    have h' : ¬ (a.length : Int) = b.length := by omega
    rw [vrun_v Try.func9 rfl rfl rfl]; simp only [Try.f9]
    simp (disch := omega) [go_sem, tab9, h', this, hl]
  rw [Decidable.not_not] at hl
  have key := vi_inv (n := kn.cf.rounds) (body := vCode Try.prog kn (vrun Try.prog kn d) 9 (loopAt Try.f9 0)) (fun j s => s = eqBS a b j ∧ a.take j = b.take j)
    (fun r => (r = some (.exit 0, (eqBS a b a.length).1 ++ [(14, some (.bool false))], []) ∧ a = b) ∨ (r = some (.ret, [(4, some (.bool false))], []) ∧ ¬ a = b)) a.length (by rw [k_cf, c_rounds]; omega)
    (fun j s hj hI => by
      obtain ⟨rfl, hI⟩ := hI
      have hja : a[j]? = some (gt a j) := by rw [gt]; simp [hj]
      have hjb : b[j]? = some (gt b j) := by rw [gt]; simp [show j < b.length by omega]
      by_cases hq : gt a j = gt b j
      · left
        refine ⟨eqBS a b (j + 1), ?_, rfl, ?_⟩
        · rw [round_v]; simp only [loopAt, nthC, bodyC, loops, List.nil_append, List.cons_append, List.append_nil, Try.f9, eqBS]
          simp (disch := omega) [go_sem, tab9, hq]
        · rw [List.take_add_one, List.take_add_one, hI, hja, hjb, hq]
      · right; intro m; right
        refine ⟨vi_ret ?_, fun h => hq (by rw [h])⟩
        rw [round_v]; simp only [loopAt, nthC, bodyC, loops, List.nil_append, List.cons_append, List.append_nil, Try.f9, eqBS]
        simp (disch := omega) [go_sem, tab9, hq])
    (fun s hI m => by
      obtain ⟨rfl, hI⟩ := hI
      left
      refine ⟨vi_exit ?_, by rwa [List.take_length, hl, List.take_length] at hI⟩
      rw [round_v]; simp only [loopAt, nthC, bodyC, loops, List.nil_append, List.cons_append, List.append_nil, Try.f9, eqBS]
      simp (disch := omega) [go_sem, tab9])
    (eqBS a b 0) ⟨rfl, by simp⟩
  rcases key with ⟨hv, hq⟩ | ⟨hv, hq⟩
  · rw [decide_eq_true hq]
    have hl0 := fun ks => loop_v (P := Try.prog) (K := kn) (ks := ks) hv
    simp only [loopAt, nthC, bodyC, loops, List.nil_append, List.cons_append, List.append_nil, Try.f9, eqBS, Int.natCast_zero, List.cons_append, List.nil_append] at hl0
    rw [vrun_v Try.func9 rfl rfl rfl]; simp only [Try.f9]
    simp (disch := omega) [go_sem, tab9, hl, hl0]
  · rw [decide_eq_false hq]
    have hl0 := fun ks => loop_v (P := Try.prog) (K := kn) (ks := ks) hv
    simp only [loopAt, nthC, bodyC, loops, List.nil_append, List.cons_append, List.append_nil, Try.f9, eqBS, Int.natCast_zero, List.cons_append, List.nil_append] at hl0
    rw [vrun_v Try.func9 rfl rfl rfl]; simp only [Try.f9]
    simp (disch := omega) [go_sem, tab9, hl, hl0]
def toBS (l : List Int) (j : Nat) : VE × VH := ([(0, some (.ints .u8 l)), (3, some (.sl 0 0 l.length 1)), (4, some (.int .i64 j))], [.ints true .u8 (cpL l j)])
theorem toB_r (d : Nat) {j : Nat} (hl : l.length < 1000000000) (hj : j < l.length) : vCode Try.prog kn (vrun Try.prog kn d) 6 (loopAt Try.f6 0) (toBS l j).1 (toBS l j).2 = some (.norm, toBS l (j + 1)) := by
  have h1 := cpL_len (l := l) (Nat.le_of_lt hj)
  rw [round_v]; simp only [loopAt, nthC, bodyC, loops, List.nil_append, List.cons_append, List.append_nil, Try.f6, toBS]
  simp (disch := omega) [go_sem, tab6, nil6, h1, cpL_set hj]
theorem toB_x (d : Nat) (hl : l.length < 1000000000) : vCode Try.prog kn (vrun Try.prog kn d) 6 (loopAt Try.f6 0) (toBS l l.length).1 (toBS l l.length).2 = some (.exit 0, (toBS l l.length).1 ++ [(11, some (.bool false))], (toBS l l.length).2) := by
  rw [round_v]; simp only [loopAt, nthC, bodyC, loops, List.nil_append, List.cons_append, List.append_nil, Try.f6, toBS]
  simp (disch := omega) [go_sem, tab6, nil6]
theorem toByteS_v (d : Nat) (hl : l.length < 1000000000) : vrun Try.prog kn (d + 1) 6 [.ints .u8 l] [] = some (.sl 0 0 l.length 1, [.ints true .u8 l]) := by
  have hl0 := fun ks => loop_v (P := Try.prog) (K := kn) (ks := ks) (vi_for (toBS l) l.length (n := kn.cf.rounds) (by rw [k_cf, c_rounds]; omega) (fun j hj => toB_r d hl hj) fun m => vi_exit (toB_x d hl))
  simp only [loopAt, nthC, bodyC, loops, List.nil_append, List.cons_append, List.append_nil, Try.f6, toBS, Int.natCast_zero, List.cons_append, List.nil_append, cpL_0, cpL_end] at hl0
  rw [vrun_v Try.func6 rfl rfl rfl]; simp only [Try.f6]
  simp (disch := omega) [go_sem, tab6, nil6, hl0]

def wiota (k : Int) (n : Nat) : List Int := (iota k n).map (IntKind.wrap .u8)
theorem wiota_len (k : Int) (n : Nat) : (wiota k n).length = n := by unfold wiota; simp [iota_len]
def mkLB (l : List Int) (k : Int) (j : Nat) : List Int := wiota k j ++ l.drop j
theorem mkLB_len {j : Nat} (hj : j ≤ l.length) : (mkLB l k j).length = l.length := by unfold mkLB; rw [List.length_append, wiota_len, List.length_drop]; omega
theorem mkLB_set {j : Nat} (hj : j < l.length) : (mkLB l k j).set j (IntKind.wrap .u8 (k + j)) = mkLB l k (j + 1) := by
  unfold mkLB
  rw [List.set_append_right _ _ (by rw [wiota_len]; omega), wiota_len, Nat.sub_self, List.drop_eq_getElem_cons hj]
  unfold wiota
  rw [iota, List.map_append, List.append_assoc]; rfl
theorem mkLB_end : mkLB l k l.length = wiota k l.length := by unfold mkLB; simp
theorem mkLB_0 : mkLB l k 0 = l := by unfold mkLB wiota; simp [iota]
theorem set_selfB (hi : h[i]? = some (.ints true .u8 l)) : h.set i (.ints true .u8 l) = h := by
  obtain ⟨h1, h2⟩ := List.getElem?_eq_some_iff.1 hi
  rw [← h2]; exact List.set_getElem_self _
def mkSB (h : VH) (i : Nat) (l : List Int) (k : Int) (j : Nat) : VE × VH := ([(0, some (.sl i 0 l.length 1)), (1, some (.int .i64 (k + j))), (5, some (.int .i64 j))], h.set i (.ints true .u8 (mkLB l k j)))
theorem mkB_r (call : CallV) (hi : i < h.length) (hl : l.length < 100000000) (hk : 0 ≤ k) (hk' : k < 1000000000) {j : Nat} (hj : j < l.length) :
    vCode Try.prog kn call 10 (loopAt Try.f10 0) (mkSB h i l k j).1 (mkSB h i l k j).2 = some (.norm, mkSB h i l k (j + 1)) := by
  have h1 := mkLB_len (k := k) (Nat.le_of_lt hj)
  have h2 := mkLB_set (k := k) hj
  have h3 : k + j + 1 = k + ((j + 1 : Nat) : Int) := by omega
  have hs : ∀ a : VO, (h.set i a)[i]? = some a := fun a => by simp [hi]
  rw [round_v]; simp only [loopAt, nthC, bodyC, loops, List.nil_append, List.cons_append, List.append_nil, Try.f10, mkSB, ← h3, ← h2]
  simp (disch := omega) [go_sem, tab10, h1, hs, List.set_set]
theorem mkB_x (call : CallV) (hl : l.length < 100000000) :
    vCode Try.prog kn call 10 (loopAt Try.f10 0) (mkSB h i l k l.length).1 (mkSB h i l k l.length).2 = some (.exit 0, (mkSB h i l k l.length).1 ++ [(9, some (.bool false))], (mkSB h i l k l.length).2) := by
  rw [round_v]; simp only [loopAt, nthC, bodyC, loops, List.nil_append, List.cons_append, List.append_nil, Try.f10, mkSB]
  simp (disch := omega) [go_sem, tab10]
theorem markByteS_v (d : Nat) (hi : h[i]? = some (.ints true .u8 l)) (hl : l.length < 100000000) (hk : 0 ≤ k) (hk' : k < 1000000000) :
    vrun Try.prog kn (d + 1) 10 [.sl i 0 l.length 1, .int .i64 k] h = some (.int .i64 (k + l.length), h.set i (.ints true .u8 (wiota k l.length))) := by
  have hi' : i < h.length := (List.getElem?_eq_some_iff.1 hi).1
  have hl0 := fun ks => loop_v (P := Try.prog) (K := kn) (ks := ks) (vi_for (mkSB h i l k) l.length (n := kn.cf.rounds) (by rw [k_cf, c_rounds]; omega) (fun j hj => mkB_r (vrun Try.prog kn d) hi' hl hk hk' hj) fun m => vi_exit (mkB_x _ hl))
  simp only [loopAt, nthC, bodyC, loops, List.nil_append, List.cons_append, List.append_nil, Try.f10, mkSB, Int.natCast_zero, Int.add_zero, List.cons_append, List.nil_append, mkLB_0, mkLB_end, set_selfB hi] at hl0
  rw [vrun_v Try.func10 rfl rfl rfl]; simp only [Try.f10]
  simp (disch := omega) [go_sem, tab10, hl0]
def mkStepB (r : Option (V × VH)) (i m : Nat) (k : Int) (h : VH) : Option VO → Option (V × VH)
  | some (.ints true .u8 l) => if l.length = m ∧ l.length < 100000000 ∧ 0 ≤ k ∧ k < 1000000000 then some (.int .i64 (k + m), h.set i (.ints true .u8 (wiota k m))) else r
  | _ => r
theorem mkStepB_i (r : Option (V × VH)) (i m : Nat) (k : Int) (h : VH) (l : List Int) : mkStepB r i m k h (some (.ints true .u8 l)) = if l.length = m ∧ l.length < 100000000 ∧ 0 ≤ k ∧ k < 1000000000 then some (.int .i64 (k + m), h.set i (.ints true .u8 (wiota k m))) else r := rfl
noncomputable def xMarkByteS (d i m : Nat) (k : Int) (h : VH) := vrun Try.prog kn (d + 1) 10 [.sl i 0 m 1, .int .i64 k] h
theorem markByteS_s (d i m : Nat) (k : Int) (h : VH) : vrun Try.prog kn (d + 1) 10 [.sl i 0 m 1, .int .i64 k] h = mkStepB (xMarkByteS d i m k h) i m k h h[i]? := by
  unfold mkStepB
  split
  · rename_i l hl
    split
    · rename_i hc
      obtain ⟨hm, h1, h2, h3⟩ := hc
      subst hm; exact markByteS_v d hl h1 h2 h3
    · rfl
  · rfl
end
end
/- The laws' types as values. No conditions. -/
section
open Go.Proofs Num
def DyT.row (x : DyT) : Prop := x.l.length ≤ 9223372036854775807 ∧ (∀ y ∈ x.l, (Lit.int .i64 y).wf = true) ∧ (Lit.int .i64 x.e).wf = true
def TInt (vs : List V) : Prop := ∃ x : Int, vs = [.int .i64 x] ∧ (Lit.int .i64 x).wf = true
def TBool (vs : List V) : Prop := ∃ x : Bool, vs = [.bool x]
def TInts (vs : List V) : Prop := ∃ l : List Int, vs = [.ints .i64 l] ∧ l.length ≤ 9223372036854775807 ∧ ∀ x ∈ l, (Lit.int .i64 x).wf = true
def TDys (vs : List V) : Prop := ∃ ds : List DyT, vs = [.cells 3 ds.length (flat DyT.v ds)] ∧ ds.length ≤ 9223372036854775807 ∧ ∀ x ∈ ds, x.row
theorem opInt : OpV Try.prog 3 1 TInt := OpV.int Try.underlying3 (by kernel_rfl)
theorem opBool : OpV Try.prog 4 1 TBool := OpV.bool Try.underlying4 (by kernel_rfl)
theorem opInts : OpV Try.prog 23 1 TInts := OpV.ints Try.underlying23 (by kernel_rfl) Try.underlying3 (by kernel_rfl)
theorem opBytes : OpV Try.prog 22 1 (fun vs => ∃ l : List Int, vs = [.ints .u8 l] ∧ l.length ≤ 9223372036854775807 ∧ ∀ x ∈ l, (Lit.int .u8 x).wf = true) := OpV.ints Try.underlying22 (by kernel_rfl) Try.underlying5 (by kernel_rfl)
end
end Go.Eng
