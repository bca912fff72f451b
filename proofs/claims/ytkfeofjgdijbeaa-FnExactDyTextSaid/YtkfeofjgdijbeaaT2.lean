/- What the functions of this seat do, one after another, told by plain values. No conditions. -/
import Derived.Test.YtkfeofjgdijbeaaSeat
import Derived.Test.YtkfeofjgdijbeaaVb
import Derived.Test.YtkfeofjgdijbeaaT1
set_option linter.unusedVariables false
set_option linter.unusedSimpArgs false
namespace Go.Eng
open Go.Proofs
set_option maxRecDepth 100000
set_option linter.unusedSimpArgs false
attribute [local go_sem] r_seq r_skip r_retC r_exitC r_label r_block r_region r_or0 r_regionW r_xWt r_xW r_cond r_Bt r_Bf r_Ncode r_Nret r_Nexit r_Nblk r_Nblkr r_Nblke r_Nnil r_Es r_Onil r_Oop r_Oif r_Xs r_Gt r_Gf r_wtt r_wtf r_wft r_wff r_wu r_gO r_putS r_putN r_get r_keepN r_keepC r_fr r_fn r_fi r_ff r_fo r_l1 r_l2t r_cun r_cul r_cub r_cui r_cus r_cuis r_cuc r_cusl r_cuti r_cutv r_ven r_vec r_l2f r_l3 r_t1 r_t2 r_t0 r_rt r_rc r_en r_ec r_cM r_oN r_oC r_end r_endt r_endf r_nob0 r_nobN r_nobC r_nobE r_nb0 r_nbi r_nbs r_nbsl r_nbin r_nbce r_nLn r_nLv r_nLc r_nAa r_nAn r_nAk_b r_nAk_i r_nAk_s r_nAk_n r_nAk_is r_nAk_ce r_nAk_fp r_nAk_sl r_nAk_pt r_nAk_fn r_nsn r_nsv r_nsc r_m0 r_mi r_ms r_msl r_min r_mce r_mLn r_mLv r_mLc r_mAa r_mAn r_mAk_b r_mAk_i r_mAk_s r_mAk_n r_mAk_is r_mAk_ce r_mAk_fp r_mAk_sl r_mAk_pt r_mAk_fn r_msn r_msv r_msc r_atb r_ati r_ats r_atn r_atis r_atc r_atf r_atl r_atp r_atfn r_gcn r_gcc r_gLn r_gLc r_gIt r_ndn r_ndc r_gcB r_gLB r_two r_rea r_rea0 r_re1n r_re1c r_ori r_orv r_ord r_orn r_adn r_adc r_ad1 r_ern r_ers r_er0 r_rsl r_rptr r_rb r_ri r_rs r_rn r_ris r_rce r_rfp r_ra4 r_ra3 r_rt4 r_rf4 r_rf3 r_idS r_idc r_nS r_nP r_nF r_nT r_vsl r_vptr r_vb r_vi r_vs r_vn r_vis r_vce r_vfp r_va4 r_va3 r_vt4 r_vf4 r_vf3 r_rV r_Oi r_Ov r_Od r_rE r_rE0 r_En r_Ec r_E0 r_pO r_pk r_agL r_cO r_fO r_fSi r_fSv r_fPv r_fsl r_fptr r_ffn r_fag r_fb r_fint r_fstr r_fnil r_fis r_fce r_ffp r_res r_move r_assign r_pick r_pickt r_pickf r_alloc r_box r_al r_build r_bslice r_load r_store r_nlc r_nl1 r_nl2 r_bin r_un r_conv r_mkf r_mks r_slc r_fad r_fld r_iad r_idx r_ext r_ex1 r_callf r_callt r_callen r_calapp r_calcp r_calmax r_calmin r_vt r_vcb r_vci r_vcs r_vcnp r_vcn r_vca r_vcf r_vcg r_ofb r_ofi r_ofs r_ofn r_evs r_pn r_prt r_pc r_one_a r_one_b r_one_i r_one_s r_one_n r_one_is r_one_ce r_one_fp r_one_sl r_one_pt r_one_fn r_cs_a r_cs_b r_cs_i r_cs_s r_cs_n r_cs_is r_cs_ce r_cs_fp r_cs_sl r_cs_pt r_cs_fn r_tov r_tovA r_toc r_toa r_tb r_ti r_ts r_tn r_bd r_bd2 r_filn r_fp1 r_filc r_fsn r_fsc r_san r_sac r_bs2 r_bs1 r_nE r_newO r_mkq r_mkI r_mkOi r_mkOv r_tIn r_tIc r_repz r_repn r_ldp r_ldf r_l1t r_l1f r_lFt r_lFf r_aggO r_obj r_at r_ati' r_atv r_celli r_cellv r_subi r_subv r_sto r_sto1 r_sto2 r_sets r_setR r_setn r_setc r_s1i r_s1v r_bin1 r_bin2 r_tv1 r_cb r_ci r_cst r_cn r_csl r_cis r_cce r_uni r_unb r_cv r_cvO r_cvN r_cv0 r_cvS r_wB r_cvi r_cvs r_cvb r_cvl r_sO r_rdn r_rdi r_rdl r_rdO r_vsub r_vfn r_mk r_mk1 r_mk2 r_zoi r_zov r_leni r_lenv r_bn r_bndV r_bo r_sl0 r_sl1 r_vsz r_ct1 r_cts r_cti r_ctc r_ctn r_lnl r_lni r_lnc r_lnn r_fa r_fap r_faf r_fi1 r_fit r_fif r_ixi r_ixs r_ixc r_ixf r_ixF r_ixF2 r_ix1 r_ixsl r_ixin r_ixce r_len1 r_lenA r_lTs r_lTn r_lTl r_lTi r_lTc r_cp0 r_cp1 r_cp2 r_cp3 r_cp4 r_nts r_nti r_ntn r_app0 r_app9 r_paf r_pat r_pal r_son r_soe r_sos r_frn r_fre r_tt1 r_tt2 r_tt3 r_app r_app1 r_app2 r_app3 r_catO r_cati r_catv r_newt r_newf r_pair r_pairK r_trip r_kis r_kiv r_srn r_srl r_sri r_src r_srs r_oln r_ole r_oll r_vw r_wi r_wv r_mm r_max r_min' r_str r_cF r_c2t r_c3f r_c3t r_ab r_c2f r_cV r_p1 r_la r_la2t r_la2f r_la3 r_sh r_z_is r_z_ce r_z_fp r_z_b r_z_i r_z_s r_z_n r_z_l r_z_p r_z_a4 r_z_a3 r_z_t4 r_zoI r_zoV r_roN r_roC r_roi r_rod r_zod r_rov r_aR r_trOi r_trOv r_trPv r_trl r_trp r_trf r_tra r_trb r_tri r_trs r_trn r_tris r_trce r_trfp r_vJ r_vJs r_vJn
attribute [local go_sem] b_add b_sub b_mul b_quo b_rem b_shl b_shr b_eql b_neq b_lss b_leq b_gtr b_geq eqB_s b_eqB b_neB u_neg u_not b_nn b_nn' eqS_s zerosT_s zerosT_n zt_i zt_sl zt_st dstOf_z dstOf_n iltT iltF ileT ileF ieqT ieqF nltT nltF nleT nleF neqT neqF tdiv_pos tmod_pos w64 idx0 List.take_of_length_le
/- Digits, signs, blanks; a plain text, program. No conditions. -/
section
open Num
def zsL : List Int := [48, 1632, 1776, 2406, 65296]
def bkL : List Int := [9, 32, 160, 8201, 12288]
def digG : List Int → Int → Int
  | [], _ => -1
  | z :: zs, r => if z ≤ r ∧ r ≤ z + 9 then r - z else digG zs r
def digF (r : Int) : Int := digG zsL r
def sgnF (r : Int) : Int := if r = 43 ∨ r = 65291 then 1 else if r = 45 ∨ r = 8722 ∨ r = 65293 then -1 else 0
def blkF (r : Int) : Bool := bkL.any fun x => decide (r = x)
def plF (r : Int) : List Int := if 0 ≤ digF r then [48 + digF r] else if 0 < sgnF r then [43] else if sgnF r < 0 then [45] else if blkF r = true then [32] else rbF r
def plainF (b : List Int) : List Int := (runesF b).flatMap plF
theorem digG_bd : ∀ {zs : List Int} {r : Int}, -1 ≤ digG zs r ∧ digG zs r ≤ 9
  | [], r => by simp [digG]
  | z :: zs, r => by
    unfold digG
    split
    · omega
    · exact digG_bd
section
variable {r : Int}
def doF (r : Int) (j : Nat) : VE × VH := ([(0, some (.int .i64 r)), (5, some (.sl 0 0 5 1)), (6, some (.int .i64 5)), (7, some (.int .i64 j))], [.ints true .i64 [48, 1632, 1776, 2406, 65296]])
def inS (l : List Int) (r : Int) (j : Nat) : VE × VH := ([(0, some (.ints .i64 l)), (1, some (.int .i64 r)), (7, some (.int .i64 l.length)), (8, some (.int .i64 j))], [])
end
end
/- A plain text; signs cut; whole numbers read, program. No conditions. -/
section
open Num
theorem plF_len (r : Int) : (plF r).length ≤ 4 := by
  unfold plF rbF
  (repeat' split) <;> simp
theorem flat_len4 : ∀ l : List Int, (l.flatMap plF).length ≤ 4 * l.length
  | [] => by simp
  | x :: l => by
    have h1 := plF_len x
    have h2 := flat_len4 l
    rw [List.flatMap_cons, List.length_append, List.length_cons]; omega
section
variable {b R : List Int}
def pnS (R : List Int) (j : Nat) : VE × VH := ([(3, some (.sl 0 0 ((R.take j).flatMap plF).length 1)), (7, some (.sl 1 0 R.length 1)), (8, some (.int .i64 R.length)), (9, some (.int .i64 j))], [.ints true .u8 ((R.take j).flatMap plF), .ints true .i64 R])
end
end
/- Numbers: down, and the reference's l2small, l2shl, l2shr. No conditions. -/
section
open Num
theorem fdiv_m (a : Int) (m : Nat) : a.fdiv (m : Int) = a / m := Int.fdiv_eq_ediv_of_nonneg _ (by omega)
section
variable {x k : Nat}
def downS (z m : Nat) (k : Int) (j : Nat) : VE × VH := ([(1, some (.int .i64 k)), (5, some (.ints .i64 (D z))), (6, some (.sl 0 0 j 1)), (21, some (.ints .i64 (D z))), (22, some (.int .i64 (D z).length)), (23, some (.int .i64 j))], [.ints true .i64 (dgs (z / m) j)])
theorem down_r (call : CallV) {z : Nat} (hx : (D z).length < 1000000) (j : Nat) (hj : j < (D z).length) :
    vCode Try.prog kn call 89 (loopAt Try.f89 0) (downS z (2 ^ (k % 16)) k j).1 (downS z (2 ^ (k % 16)) k j).2 = some (.norm, downS z (2 ^ (k % 16)) k (j + 1)) := by
  have b1 := dg_bd z j
  have b2 := dg_bd z (j + 1)
  have e := shl_m k
  rw [round_v]; simp only [loopAt, nthC, bodyC, loops, List.nil_append, List.cons_append, List.append_nil, Try.f89, downS, dgs_succ, dg_shr z (k % 16) j (by omega)]
  generalize 2 ^ (k % 16) = m at *
  have e2 : ((j : Int) + 1).toNat = j + 1 := by omega
  have b3 : 0 ≤ (dg z j + dg z (j + 1) * 65536) / (m : Int) := Int.ediv_nonneg (by omega) (by omega)
  by_cases h1 : j + 1 < (D z).length
  · simp (disch := omega) [go_sem, tab89, nil89, gt_D, e, e2, fdiv_m, dgs_len, dgs_take]
  · have h2 := dg_len (x := z) (i := j + 1) (by omega)
    rw [h2] at b3 ⊢
    simp only [Int.zero_mul, Int.add_zero] at b3 ⊢
    simp (disch := omega) [go_sem, tab89, nil89, gt_D, e, fdiv_m, dgs_len, dgs_take]
theorem down_x (call : CallV) {z m : Nat} (hx : (D z).length < 1000000) (c : Int) :
    vCode Try.prog kn call 89 (loopAt Try.f89 0) (downS z m c (D z).length).1 (downS z m c (D z).length).2 = some (.exit 0, (downS z m c (D z).length).1 ++ [(24, some (.bool false))], (downS z m c (D z).length).2) := by
  rw [round_v]; simp only [loopAt, nthC, bodyC, loops, List.nil_append, List.cons_append, List.append_nil, Try.f89, downS]
  simp (disch := omega) [go_sem, tab89, nil89]
theorem cut_D (x k : Nat) (h : k / 16 < (D x).length) : ((D x).drop ((k : Int) / 16).toNat).take (((D x).length : Int) - (k : Int) / 16).toNat = D (x / 65536 ^ (k / 16)) := by
  rw [show ((k : Int) / 16).toNat = k / 16 by omega, D_drop, List.take_of_length_le]
  rw [← D_drop, List.length_drop]; omega
theorem down_v (d : Nat) (hx : (D x).length < 1000000) (hk : k < 1000000) :
    vrun Try.prog kn (d + 2) 89 [.ints .i64 (D x), .int .i64 (k : Int)] [] = some (.sl 0 0 (D (x / 2 ^ k)).length 1, [.ints true .i64 (D (x / 2 ^ k))]) := by
  by_cases h0 : (D x).length ≤ k / 16
  · have e0 : x / 2 ^ k = 0 := Nat.div_eq_of_lt (Nat.lt_of_lt_of_le (len_D_le.1 h0) (by rw [pow_split k]; exact Nat.le_mul_of_pos_right _ (Nat.two_pow_pos _)))
    rw [e0]
    rw [vrun_v Try.func89 rfl rfl rfl]; simp only [Try.f89]
    simp (disch := omega) [go_sem, tab89, nil89, D_zero]
  · have hz : (D (x / 65536 ^ (k / 16))).length < 1000000 := by have := len_mono (Nat.div_le_self x (65536 ^ (k / 16))); omega
    have hl0 := fun ks => loop_v (P := Try.prog) (K := kn) (ks := ks) (vi_for (downS (x / 65536 ^ (k / 16)) (2 ^ (k % 16)) k) (D (x / 65536 ^ (k / 16))).length (by rw [k_cf, c_rounds]; omega) (down_r (vrun Try.prog kn (d + 1)) hz) fun m => vi_exit (down_x _ hz _))
    simp only [loopAt, nthC, bodyC, loops, List.nil_append, List.cons_append, List.append_nil, Try.f89, downS, dgs, Int.natCast_zero, List.cons_append, List.nil_append] at hl0
    have ec := cut_D x k (by omega)
    have ev : x / 2 ^ k = x / 65536 ^ (k / 16) / 2 ^ (k % 16) := by rw [Nat.div_div_eq_div_mul, ← pow_split]
    rw [ev]
    have hlen : ((D x).length : Int) - (k : Int) / 16 = ((D (x / 65536 ^ (k / 16))).length : Nat) := by rw [← D_drop, List.length_drop]; omega
    generalize x / 65536 ^ (k / 16) = z at *
    have c2 : z / 2 ^ (k % 16) < 65536 ^ (D z).length := Nat.lt_of_le_of_lt (Nat.div_le_self _ _) (lt_len_D z)
    have ht := trim0_v d (l := dgs (z / 2 ^ (k % 16)) (D z).length) (n := (D z).length) (v := z / 2 ^ (k % 16)) (by rw [dgs_len]; omega) (by rw [dgs_len]) (dgs_good _ _) (by rw [dgs_val, lo_len (lt_pow_len c2)])
    have ht2 := (dgs_tl c2).2
    rw [vrun_v Try.func89 rfl rfl rfl]; simp only [Try.f89]
    simp (disch := omega) [go_sem, tab89, nil89, ec, hl0, dgs_len, ht, ht2]
end
section
def hi (q n i : Nat) : List Int := List.replicate i 0 ++ (dgs q n).drop i
theorem hi_len {q n i : Nat} (h : i ≤ n) : (hi q n i).length = n := by unfold hi; rw [List.length_append, List.length_replicate, List.length_drop, dgs_len]; omega
theorem gt_dgs : ∀ {q n i : Nat}, i < n → gt (dgs q n) i = dg q i
  | q, n + 1, i, h => by
    rw [dgs_succ]
    by_cases h1 : i < n
    · rw [gt_app_lt (by rw [dgs_len]; exact h1)]; exact gt_dgs h1
    · obtain rfl : i = n := by omega
      have := gt_snoc (dgs q i) (dg q i)
      rwa [dgs_len] at this
theorem hi_set {q n i : Nat} (h : i < n) : (hi q n (i + 1)).set i (dg q i) = hi q n i := by
  unfold hi
  have e : (dgs q n).drop i = dg q i :: (dgs q n).drop (i + 1) := by
    rw [List.drop_eq_getElem_cons (by rw [dgs_len]; exact h), gt_get, gt_dgs h]
  rw [e, List.replicate_succ', List.append_assoc, List.set_append_right _ _ (by simp)]
  simp
variable {z m : Nat}
def smS (z m : Nat) (i : Nat) : VE × VH := ([(1, some (.int .i64 m)), (2, some (.ptr 0 0)), (4, some (.ptr 1 0)), (6, some (.sl 2 0 (D z).length 1)), (7, some (.int .i64 ((z / 65536 ^ i % m : Nat) : Int))), (8, some (.int .i64 ((i : Int) - 1)))], [.vals true [.ints .i64 (D z)], .vals true [.nil], .ints true .i64 (hi (z / m) (D z).length i)])
theorem sm_r (call : CallV) (hm : 0 < m) (hm2 : m ≤ 65536) (hx : (D z).length < 1000000) (i : Nat) (hi' : i < (D z).length) :
    vCode Try.prog kn call 108 (loopAt Try.f108 0) (smS z m (i + 1)).1 (smS z m (i + 1)).2 = some (.norm, smS z m i) := by
  have b1 := dg_bd z i
  obtain ⟨e1, e2⟩ := divs_nat (x := z) (j := i) (d := m) hm
  have b3 := Nat.mod_lt (z / 65536 ^ (i + 1)) hm
  have b4 := divs_lt (d := m) b3 (Nat.mod_lt (z / 65536 ^ i) (by omega : 0 < 65536))
  have hd : dg (z / m) i = (((z / 65536 ^ (i + 1) % m * 65536 + z / 65536 ^ i % 65536) / m : Nat) : Int) := by
    unfold dg
    rw [Nat.div_div_eq_div_mul, Nat.mul_comm, ← Nat.div_div_eq_div_mul, e1, Nat.mul_add_mod, Nat.mod_eq_of_lt b4]
  have hq : (((z / 65536 ^ (i + 1) % m : Nat) : Int) * 65536 + dg z i) / (m : Int) = dg (z / m) i := by
    rw [hd, Int.natCast_ediv, Int.natCast_add, Int.natCast_mul]; rfl
  have hr : (((z / 65536 ^ (i + 1) % m : Nat) : Int) * 65536 + dg z i) % (m : Int) = ((z / 65536 ^ i % m : Nat) : Int) := by
    rw [e2]
    refine Eq.trans ?_ (Int.natCast_emod _ _).symm
    congr 1
  rw [round_v]; simp only [loopAt, nthC, bodyC, loops, List.nil_append, List.cons_append, List.append_nil, Try.f108, smS, ← hi_set hi']
  have e0 : (((i + 1 : Nat) : Int) - 1) = i := by omega
  have hl := hi_len (q := z / m) (n := (D z).length) (i := i + 1) (by omega)
  have b5 := dg_bd (z / m) i
  generalize hr0 : ((z / 65536 ^ (i + 1) % m : Nat) : Int) = r at *
  have b6 : 0 ≤ r := by rw [← hr0]; exact Int.natCast_nonneg _
  have b7 : r < m := by rw [← hr0]; exact Int.ofNat_lt.2 b3
  rw [e0]
  generalize hi (z / m) (D z).length (i + 1) = H at *
  generalize dg (z / m) i = q at *
  simp (disch := omega) [go_sem, tab108, gt_D, hl, hq, hr]
theorem sm_x (call : CallV) :
    vCode Try.prog kn call 108 (loopAt Try.f108 0) (smS z m 0).1 (smS z m 0).2 = some (.exit 0, (smS z m 0).1 ++ [(19, some (.bool false))], (smS z m 0).2) := by
  rw [round_v]; simp only [loopAt, nthC, bodyC, loops, List.nil_append, List.cons_append, List.append_nil, Try.f108, smS]
  simp (disch := omega) [go_sem, tab108]
theorem l2small_v (d : Nat) (hm : 0 < m) (hm2 : m ≤ 65536) (hx : (D z).length < 1000000) :
    vrun Try.prog kn (d + 2) 108 [.agg [.ints .i64 (D z)], .int .i64 (m : Int)] [] = some (.tup [.agg [.ints .i64 (D (z / m))], .int .i64 ((z % m : Nat) : Int)], []) := by
  have key : ∀ i n, i ≤ (D z).length → i < n → viter (vCode Try.prog kn (vrun Try.prog kn (d + 1)) 108 (loopAt Try.f108 0)) n (smS z m i).1 (smS z m i).2 = some (.exit 0, (smS z m 0).1 ++ [(19, some (.bool false))], (smS z m 0).2) := by
    intro i
    induction i with
    | zero => intro n _ hn; obtain ⟨n, rfl⟩ : ∃ q, n = q + 1 := ⟨n - 1, by omega⟩; exact vi_exit (sm_x _)
    | succ i ih => intro n h1 hn; obtain ⟨n, rfl⟩ : ∃ q, n = q + 1 := ⟨n - 1, by omega⟩; rw [vi_norm (sm_r _ hm hm2 hx i (by omega))]; exact ih n (by omega) (by omega)
  have hl0 := fun ks => loop_v (P := Try.prog) (K := kn) (ks := ks) (key (D z).length kn.cf.rounds (Nat.le_refl _) (by rw [k_cf, c_rounds]; omega))
  have h0 : hi (z / m) (D z).length (D z).length = List.replicate (D z).length 0 := by unfold hi; rw [List.drop_eq_nil_of_le (by rw [dgs_len]; omega), List.append_nil]
  have h1 : hi (z / m) (D z).length 0 = dgs (z / m) (D z).length := by unfold hi; rw [List.replicate_zero, List.nil_append, List.drop_zero]
  simp only [loopAt, nthC, bodyC, loops, List.nil_append, List.cons_append, List.append_nil, Try.f108, smS, h0, h1, quo_end, Nat.zero_mod, Nat.pow_zero, Nat.div_one, Int.natCast_zero, List.cons_append, List.nil_append] at hl0
  have c2 : z / m < 65536 ^ (D z).length := Nat.lt_of_le_of_lt (Nat.div_le_self _ _) (lt_len_D z)
  have hn := l2norm_v d (l := dgs (z / m) (D z).length) (v := z / m) (by rw [dgs_len]; omega) (dgs_good _ _) (by rw [dgs_val, lo_len (lt_pow_len c2)])
  rw [vrun_v Try.func108 rfl rfl rfl]; simp only [Try.f108]
  simp (disch := omega) [go_sem, tab108, hl0, dgs_len, dgs_take, hn]
end
section
variable {x k : Nat}
theorem l2shl_v (d : Nat) (hx : (D x).length < 400000) (hk : k < 1000000) :
    vrun Try.prog kn (d + 3) 81 [.agg [.ints .i64 (D x)], .int .i64 (k : Int)] [] = some (.agg [.ints .i64 (D (x * 2 ^ k))], []) := by
  by_cases h0 : x = 0
  · subst h0
    rw [vrun_v Try.func81 rfl rfl rfl]; simp only [Try.f81]
    simp (disch := omega) [go_sem, tab81, D_zero]
  · have hm := pow16_le k
    have h1 := l2of_v (d + (2 - 1)) (n := 2 ^ (k % 16)) (by omega)
    have hs := D_shift h0 (k / 16)
    have hlen : (D (x * 65536 ^ (k / 16))).length = k / 16 + (D x).length := by rw [← hs, List.length_append, List.length_replicate]
    have hl2 : (D (2 ^ (k % 16))).length ≤ 1 := len_small (by omega)
    have h2 := l2mul_v d (x := x * 65536 ^ (k / 16)) (y := 2 ^ (k % 16)) (by omega) (by omega)
    have ev : x * 2 ^ k = x * 65536 ^ (k / 16) * 2 ^ (k % 16) := by rw [Nat.mul_assoc, ← pow_split]
    rw [ev]
    have hne : ¬ D x = [] := fun e => h0 (D_nil_iff.1 e)
    have e := shl_m k
    have e1 : ((k : Int) / 16).toNat = k / 16 := by omega
    have hz : (List.replicate (k / 16) (0 : Int)).length = k / 16 := List.length_replicate
    rw [vrun_v Try.func81 rfl rfl rfl]; simp only [Try.f81]
    generalize 2 ^ (k % 16) = m at *
    generalize hZ : List.replicate (k / 16) (0 : Int) = Z at *
    simp (disch := omega) [go_sem, tab81, hne, e, e1, hZ, hz, hs, h1, h2, hlen]
end
end
/- Bits; what is valid. No conditions. -/
section
open Num
section
variable {x k : Nat}
theorem bit_dg (x k : Nat) : dg x (k / 16) / ((2 ^ (k % 16) : Nat) : Int) % 2 = ((x / 2 ^ k % 2 : Nat) : Int) := by
  unfold dg
  have e : x / 2 ^ k = x / 65536 ^ (k / 16) / 2 ^ (k % 16) := by rw [Nat.div_div_eq_div_mul, ← pow_split]
  rw [e]
  generalize x / 65536 ^ (k / 16) = a
  have h1 : a % 65536 / 2 ^ (k % 16) % 2 = a / 2 ^ (k % 16) % 2 := by
    have e2 : 2 ^ (k % 16) * (2 ^ (15 - k % 16) * 2) = 65536 := by
      rw [← Nat.pow_succ, ← Nat.pow_add, show k % 16 + (15 - k % 16).succ = 16 by omega]
    have h2 : a = 2 ^ (k % 16) * (2 ^ (15 - k % 16) * 2) * (a / 65536) + a % 65536 := by rw [e2]; omega
    conv => rhs; lhs; lhs; rw [h2, Nat.mul_assoc]
    rw [Nat.mul_add_div (Nat.two_pow_pos _), Nat.mul_comm (2 ^ (15 - k % 16)) 2, Nat.mul_assoc]
    omega
  rw [← h1]
  generalize a % 65536 = b
  omega
theorem bitOf_v (d : Nat) (hx : (D x).length < 1000000) (hk : k < 16000000) :
    vrun Try.prog kn (d + 1) 86 [.ints .i64 (D x), .int .i64 (k : Int)] [] = some (.int .i64 ((x / 2 ^ k % 2 : Nat) : Int), []) := by
  have e := shl_m k
  rw [← bit_dg x k]
  have b1 := dg_bd x (k / 16)
  have hm := pow16_le k
  generalize 2 ^ (k % 16) = m at *
  have h1 : 0 ≤ dg x (k / 16) / (m : Int) := Int.ediv_nonneg b1.1 (by omega)
  have h2 : dg x (k / 16) / (m : Int) ≤ dg x (k / 16) := Int.ediv_le_self _ b1.1
  have e1 : ((k : Int) / 16).toNat = k / 16 := by omega
  rw [vrun_v Try.func86 rfl rfl rfl]; simp only [Try.f86]
  by_cases h0 : k / 16 < (D x).length
  · have h3 := fun t => b_and1 Try.prog t (dg x (k / 16) / (m : Int)) h1 (by omega)
    simp (disch := omega) [go_sem, tab86, gt_D, e, e1, fdiv_m, h3]
  · have e0 := dg_len (x := x) (i := k / 16) (by omega)
    rw [e0]
    simp (disch := omega) [go_sem, tab86]
theorem l2bit_v (d : Nat) (hx : (D x).length < 1000000) (hk : k < 16000000) :
    vrun Try.prog kn (d + 1) 80 [.agg [.ints .i64 (D x)], .int .i64 (k : Int)] [] = some (.int .i64 ((x / 2 ^ k % 2 : Nat) : Int), []) := by
  have e := shl_m k
  rw [← bit_dg x k]
  have b1 := dg_bd x (k / 16)
  have hm := pow16_le k
  generalize 2 ^ (k % 16) = m at *
  have h1 : 0 ≤ dg x (k / 16) / (m : Int) := Int.ediv_nonneg b1.1 (by omega)
  have h2 : dg x (k / 16) / (m : Int) ≤ dg x (k / 16) := Int.ediv_le_self _ b1.1
  have e1 : ((k : Int) / 16).toNat = k / 16 := by omega
  rw [vrun_v Try.func80 rfl rfl rfl]; simp only [Try.f80]
  by_cases h0 : k / 16 < (D x).length
  · have h3 := fun t => b_and1 Try.prog t (dg x (k / 16) / (m : Int)) h1 (by omega)
    simp (disch := omega) [go_sem, tab80, gt_D, e, e1, fdiv_m, h3]
  · have e0 := dg_len (x := x) (i := k / 16) (by omega)
    rw [e0]
    simp (disch := omega) [go_sem, tab80]
end
section
variable {l : List Int} {g : Nat} {caps : List V} {p : Int → Bool} {call : CallV}
def ixS (l : List Int) (g : Nat) (caps : List V) (j : Nat) : VE × VH := ([(0, some (.ints .i64 l)), (1, some (.fn (.func g) [] caps)), (7, some (.int .i64 l.length)), (8, some (.int .i64 j))], [])
theorem ixf_v (hl : l.length < 1000000000) {d : Nat} (hg : kn.cf.pure g = true) (hg2 : kn.ali g = false) (hc : ∀ h, omap (vfrz h 6) caps = some caps) (hp : ∀ x ∈ l, vrun Try.prog kn d g (vnrmAs (kn.args g) (.int .i64 x :: caps)) [] = some (.bool (p x), [])) :
    ∃ v : Int, vrun Try.prog kn (d + 1) 155 [.ints .i64 l, .fn (.func g) [] caps] [] = some (.int .i64 v, []) ∧ decide (0 ≤ v) = l.any p := by
  rw [k_cf] at hg
  have key := vi_inv (n := kn.cf.rounds) (body := vCode Try.prog kn (vrun Try.prog kn d) 155 (loopAt Try.f155 0)) (fun j s => s = ixS l g caps j ∧ (l.take j).any p = false)
    (fun r => (r = some (.exit 0, (ixS l g caps l.length).1 ++ [(9, some (.bool false))], []) ∧ l.any p = false) ∨ ∃ k : Nat, r = some (.ret, [(4, some (.int .i64 k))], []) ∧ l.any p = true) l.length (by rw [k_cf, c_rounds]; omega)
    (fun j s hj hI => by
      obtain ⟨rfl, hI⟩ := hI
      have hpp := hp _ (gt_mem hj)
      cases hq : p (gt l j) with
      | true =>
        right; intro m; right
        refine ⟨j, vi_ret ?_, List.any_eq_true.2 ⟨_, gt_mem hj, hq⟩⟩
        rw [hq] at hpp
        rw [round_v]; simp only [loopAt, nthC, bodyC, loops, List.nil_append, List.cons_append, List.append_nil, Try.f155, ixS]
        simp (disch := omega) [go_sem, tab155, hg, hg2, hc, hpp]
      | false =>
        left
        refine ⟨ixS l g caps (j + 1), ?_, rfl, ?_⟩
        · rw [hq] at hpp
          rw [round_v]; simp only [loopAt, nthC, bodyC, loops, List.nil_append, List.cons_append, List.append_nil, Try.f155, ixS]
          simp (disch := omega) [go_sem, tab155, hg, hg2, hc, hpp]
        · rw [List.take_add_one, gt_some hj, List.any_append, hI]; simp [hq])
    (fun s hI m => by
      obtain ⟨rfl, hI⟩ := hI
      left
      refine ⟨vi_exit ?_, by rwa [List.take_length] at hI⟩
      rw [round_v]; simp only [loopAt, nthC, bodyC, loops, List.nil_append, List.cons_append, List.append_nil, Try.f155, ixS]
      simp (disch := omega) [go_sem, tab155])
    (ixS l g caps 0) ⟨rfl, by simp⟩
  rcases key with ⟨hv, ha⟩ | ⟨k, hv, ha⟩
  · have hl0 := fun ks => loop_v (P := Try.prog) (K := kn) (ks := ks) hv
    simp only [loopAt, nthC, bodyC, loops, List.nil_append, List.cons_append, List.append_nil, Try.f155, ixS, Int.natCast_zero, List.cons_append, List.nil_append] at hl0
    refine ⟨-1, ?_, by rw [ha]; rfl⟩
    rw [vrun_v Try.func155 rfl rfl rfl]; simp only [Try.f155]
    simp (disch := omega) [go_sem, tab155, hc, hl0]
  · have hl0 := fun ks => loop_v (P := Try.prog) (K := kn) (ks := ks) hv
    simp only [loopAt, nthC, bodyC, loops, List.nil_append, List.cons_append, List.append_nil, Try.f155, ixS, Int.natCast_zero, List.cons_append, List.nil_append] at hl0
    refine ⟨k, ?_, by rw [ha]; simp⟩
    rw [vrun_v Try.func155 rfl rfl rfl]; simp only [Try.f155]
    simp (disch := omega) [go_sem, tab155, hc, hl0]
theorem all_v (hl : l.length < 1000000000) {d : Nat} (hg : kn.cf.pure g = true) (hg2 : kn.ali g = false) (ha : kn.args g = []) (hp : ∀ x ∈ l, vrun Try.prog kn d g [.int .i64 x] [] = some (.bool (p x), [])) :
    vrun Try.prog kn (d + 4) 133 [.ints .i64 l, .fn (.func g) [] []] [] = some (.bool (l.all p), []) := by
  have hg' := hg
  rw [k_cf] at hg'
  have h1 : ∀ x ∈ l, vrun Try.prog kn (d + 1) 147 (vnrmAs (kn.args 147) [.int .i64 x, .fptr [.fn (.func g) [] []]]) [] = some (.bool (!p x), []) := fun x hx => by
    have := hp x hx
    simp only [go_sem, k_args147]
    rw [vrun_v Try.func147 rfl rfl rfl]; simp only [Try.f147]
    simp (disch := omega) [go_sem, tab147, hg', hg2, ha, this]
  obtain ⟨v, hv, hany⟩ := ixf_v (caps := [.fptr [.fn (.func g) [] []]]) hl (c_pure147) rfl (fun h => by simp [go_sem]) h1
  have e : l.all p = !decide (0 ≤ v) := by
    rw [hany, List.not_any_eq_all_not]; simp
  rw [e]
  have h2 : vrun Try.prog kn (d + 3) 146 [.ints .i64 l, .fn (.func 147) [] [.fptr [.fn (.func g) [] []]]] [] = some (.bool (decide (0 ≤ v)), []) := by
    rw [vrun_v Try.func146 rfl rfl rfl]; simp only [Try.f146]
    simp (disch := omega) [go_sem, tab146, hv]
  rw [vrun_v Try.func133 rfl rfl rfl]; simp only [Try.f133]
  simp (disch := omega) [go_sem, tab133, h2]
end
theorem limb_v (d : Nat) (n : Int) : vrun Try.prog kn (d + 2) 134 [.int .i64 n] [] = some (.bool (limbB n), []) := by
  rw [vrun_v Try.func134 rfl rfl rfl]; simp only [Try.f134]
  simp (disch := omega) [go_sem, tab134, within_v, limbB]
theorem NatOk_v (d : Nat) {l : List Int} (hl : l.length < 1000000000) : vrun Try.prog kn (d + 7) 119 [.agg [.ints .i64 l]] [] = some (.bool (natOkB l), []) := by
  have h1 := all_v (g := 134) (d := d + 2) hl c_pure134 rfl rfl (fun x _ => limb_v d x)
  rw [vrun_v Try.func119 rfl rfl rfl]; simp only [Try.f119]
  by_cases q1 : l.length ≤ 100
  · by_cases q2 : l.all limbB = true
    · by_cases q3 : l.length = 0
      · simp (disch := omega) [go_sem, tab119, h1, q2, q3, natOkB]
      · have e : ((l.length : Int) - 1).toNat = l.length - 1 := by omega
        have q5 : ¬ l = [] := fun e => q3 (by rw [e]; rfl)
        by_cases q4 : gt l (l.length - 1) = 0
        · simp (disch := omega) [go_sem, tab119, h1, q2, q3, q4, q5, natOkB, e]
        · simp (disch := omega) [go_sem, tab119, h1, q2, q3, q4, q5, natOkB, e]
    · rw [Bool.not_eq_true] at q2
      simp (disch := omega) [go_sem, tab119, h1, q2, natOkB]
  · simp (disch := omega) [go_sem, tab119, natOkB, q1]
end
/- What is valid; copies. No conditions. -/
section
open Num
section
variable {l : List Int}
def nokS (l : List Int) (j : Nat) : VE × VH := ([(1, some (.ptr 0 0)), (3, some (.int .i64 j))], [.vals true [.ints .i64 l]])
theorem sNatOk_v (d : Nat) (hl : l.length < 1000000000) : vrun Try.prog kn (d + 1) 117 [.agg [.ints .i64 l]] [] = some (.bool (natOkB l), []) := by
  by_cases q1 : l.length ≤ 100
  · have key := vi_inv (n := kn.cf.rounds) (body := vCode Try.prog kn (vrun Try.prog kn d) 117 (loopAt Try.f117 0)) (fun j s => s = nokS l j ∧ (l.take j).all limbB = true)
      (fun r => (r = some (.exit 0, (nokS l l.length).1 ++ [(12, some (.bool false))], (nokS l l.length).2) ∧ l.all limbB = true) ∨ (r = some (.ret, [(2, some (.bool false))], []) ∧ l.all limbB = false)) l.length (by rw [k_cf, c_rounds]; omega)
      (fun j s hj hI => by
        obtain ⟨rfl, hI⟩ := hI
        cases hq : limbB (gt l j) with
        | false =>
          right; intro m; right
          refine ⟨vi_ret ?_, ?_⟩
          · rw [round_v]; simp only [loopAt, nthC, bodyC, loops, List.nil_append, List.cons_append, List.append_nil, Try.f117, nokS]
            by_cases h0 : gt l j < 0
            · simp (disch := omega) [go_sem, tab117]
            · have h2 : 65536 ≤ gt l j := by unfold limbB at hq; simp at hq; omega
              simp (disch := omega) [go_sem, tab117]
          · cases ha : l.all limbB with
            | false => rfl
            | true => rw [List.all_eq_true.1 ha _ (gt_mem hj)] at hq; simp at hq
        | true =>
          left
          have h2 := (limbB_iff _).1 hq
          refine ⟨nokS l (j + 1), ?_, rfl, ?_⟩
          · rw [round_v]; simp only [loopAt, nthC, bodyC, loops, List.nil_append, List.cons_append, List.append_nil, Try.f117, nokS]
            simp (disch := omega) [go_sem, tab117]
          · rw [List.take_add_one, gt_some hj, List.all_append, hI]; simp [hq])
      (fun s hI m => by
        obtain ⟨rfl, hI⟩ := hI
        left
        refine ⟨vi_exit ?_, by rwa [List.take_length] at hI⟩
        rw [round_v]; simp only [loopAt, nthC, bodyC, loops, List.nil_append, List.cons_append, List.append_nil, Try.f117, nokS]
        simp (disch := omega) [go_sem, tab117])
      (nokS l 0) ⟨rfl, by simp⟩
    rcases key with ⟨hv, ha⟩ | ⟨hv, ha⟩
    · have hl0 := fun ks => loop_v (P := Try.prog) (K := kn) (ks := ks) hv
      simp only [loopAt, nthC, bodyC, loops, List.nil_append, List.cons_append, List.append_nil, Try.f117, nokS, Int.natCast_zero, List.cons_append, List.nil_append] at hl0
      rw [vrun_v Try.func117 rfl rfl rfl]; simp only [Try.f117]
      by_cases q3 : l = []
      · subst q3
        simp (disch := omega) [go_sem, tab117, hl0, natOkB] at hl0 ⊢
      · have q4 : 0 < l.length := List.length_pos_iff.2 q3
        have e : ((l.length : Int) - 1).toNat = l.length - 1 := by omega
        have hb := (limbB_iff _).1 (List.all_eq_true.1 ha _ (gt_mem (l := l) (j := l.length - 1) (by omega)))
        by_cases q5 : gt l (l.length - 1) = 0
        · simp (disch := omega) [go_sem, tab117, hl0, q3, q5, natOkB, ha, q1, e]
        · simp (disch := omega) [go_sem, tab117, hl0, q3, q5, natOkB, ha, q1, e]
    · have hl0 := fun ks => loop_v (P := Try.prog) (K := kn) (ks := ks) hv
      simp only [loopAt, nthC, bodyC, loops, List.nil_append, List.cons_append, List.append_nil, Try.f117, nokS, Int.natCast_zero] at hl0
      rw [vrun_v Try.func117 rfl rfl rfl]; simp only [Try.f117]
      simp (disch := omega) [go_sem, tab117, hl0, natOkB, ha]
  · rw [vrun_v Try.func117 rfl rfl rfl]; simp only [Try.f117]
    simp (disch := omega) [go_sem, tab117, natOkB, q1]
end
theorem WholeOk_v (d : Nat) (n : Bool) {l : List Int} (hl : l.length < 1000000000) : vrun Try.prog kn (d + 8) 85 [.agg [.bool n, .ints .i64 l]] [] = some (.bool (wholeOkB n l), []) := by
  have h1 := fun d => NatOk_v d hl
  rw [vrun_v Try.func85 rfl rfl rfl]; simp only [Try.f85]
  by_cases h0 : l = []
  · subst h0
    cases q : natOkB [] <;> rw [q] at h1 <;> cases n <;> simp (disch := omega) [go_sem, tab85, h1, q, wholeOkB]
  · cases q : natOkB l <;> rw [q] at h1 <;> cases n <;> simp (disch := omega) [go_sem, tab85, h1, q, h0, wholeOkB]
theorem sWholeOk_v (d : Nat) (n : Bool) {l : List Int} (hl : l.length < 1000000000) : vrun Try.prog kn (d + 2) 79 [.agg [.bool n, .ints .i64 l]] [] = some (.bool (wholeOkB n l), []) := by
  have h1 := fun d => sNatOk_v d hl
  rw [vrun_v Try.func79 rfl rfl rfl]; simp only [Try.f79]
  by_cases h0 : l = []
  · subst h0
    cases q : natOkB [] <;> rw [q] at h1 <;> cases n <;> simp (disch := omega) [go_sem, tab79, h1, q, wholeOkB]
  · have h2 : 0 < l.length := List.length_pos_iff.2 h0
    cases q : natOkB l <;> rw [q] at h1 <;> cases n <;> simp (disch := omega) [go_sem, tab79, h1, q, h0, wholeOkB]
theorem bit0 (x : Nat) : x / 2 ^ 0 % 2 = x % 2 := by rw [Nat.pow_zero, Nat.div_one]
theorem DyOk_v (d : Nat) (n : Bool) {l : List Int} (e : Int) (hl : l.length < 1000000000) : vrun Try.prog kn (d + 9) 50 [.agg [.bool n, .ints .i64 l, .int .i64 e]] [] = some (.bool (dyOkB ⟨n, l, e⟩), []) := by
  have h1 := fun d => WholeOk_v d n hl
  have h3 := within_v
  rw [vrun_v Try.func50 rfl rfl rfl]; simp only [Try.f50]
  unfold dyOkB
  cases q : wholeOkB n l with
  | false => rw [q] at h1; simp (disch := omega) [go_sem, tab50, h1, q]
  | true =>
    rw [q] at h1
    have hn : natOkB l = true := by unfold wholeOkB at q; simp at q; exact q.1
    obtain ⟨x, rfl, hx⟩ := (natOkB_iff l).1 hn
    have h2 := fun d => bitOf_v d (x := x) (k := 0) (by omega) (by omega)
    simp only [bit0, Int.natCast_zero] at h2
    have hg : gt (D x) 0 % 2 = ((x % 2 : Nat) : Int) := by rw [gt_D]; unfold dg; rw [Nat.pow_zero, Nat.div_one]; omega
    by_cases q1 : -3000 ≤ e
    · by_cases q2 : e ≤ 3000
      · by_cases q3 : x = 0
        · subst q3
          simp only [D_zero] at h1 h2 q hn hg ⊢
          by_cases q4 : e = 0 <;> simp (disch := omega) [go_sem, tab50, h1, h2, h3, q, q1, q2, q4]
        · have q5 : ¬ D x = [] := fun e => q3 (D_nil_iff.1 e)
          by_cases q4 : x % 2 = 1
          · simp (disch := omega) [go_sem, tab50, h1, h2, h3, q, q1, q2, q5, q4, hg]
          · have q6 : x % 2 = 0 := by omega
            simp (disch := omega) [go_sem, tab50, h1, h2, h3, q, q1, q2, q5, q6, hg]
      · simp (disch := omega) [go_sem, tab50, h1, h3, q, q1, q2]
    · simp (disch := omega) [go_sem, tab50, h1, h3, q, q1]
theorem sDyOk_v (d : Nat) (n : Bool) {l : List Int} (e : Int) (hl : l.length < 1000000000) : vrun Try.prog kn (d + 3) 47 [.agg [.bool n, .ints .i64 l, .int .i64 e]] [] = some (.bool (dyOkB ⟨n, l, e⟩), []) := by
  have h1 := fun d => sWholeOk_v d n hl
  rw [vrun_v Try.func47 rfl rfl rfl]; simp only [Try.f47]
  unfold dyOkB
  cases q : wholeOkB n l with
  | false => rw [q] at h1; simp (disch := omega) [go_sem, tab47, h1, q]
  | true =>
    rw [q] at h1
    have hn : natOkB l = true := by unfold wholeOkB at q; simp at q; exact q.1
    obtain ⟨x, rfl, hx⟩ := (natOkB_iff l).1 hn
    have h2 := fun d => l2bit_v d (x := x) (k := 0) (by omega) (by omega)
    simp only [bit0, Int.natCast_zero] at h2
    have hg : gt (D x) 0 % 2 = ((x % 2 : Nat) : Int) := by rw [gt_D]; unfold dg; rw [Nat.pow_zero, Nat.div_one]; omega
    by_cases q1 : -3000 ≤ e
    · by_cases q2 : e ≤ 3000
      · by_cases q3 : x = 0
        · subst q3
          simp only [D_zero] at h1 h2 q hn hg ⊢
          by_cases q4 : e = 0 <;> simp (disch := omega) [go_sem, tab47, h1, h2, q, q1, q2, q4]
        · have q5 : ¬ D x = [] := fun e => q3 (D_nil_iff.1 e)
          by_cases q4 : x % 2 = 1
          · simp (disch := omega) [go_sem, tab47, h1, h2, q, q1, q2, q5, q4, hg]
          · have q6 : x % 2 = 0 := by omega
            simp (disch := omega) [go_sem, tab47, h1, h2, q, q1, q2, q5, q6, hg]
      · simp (disch := omega) [go_sem, tab47, h1, q, q1, q2]
    · simp (disch := omega) [go_sem, tab47, h1, q, q1]
end
/- natOf, wholeOf; all of some dyadic numbers are valid. No conditions. -/
section
open Num
def fitL (l : List Int) : List Int := if l.length ≤ 100 then l else []
theorem fitL_len (l : List Int) : (fitL l).length ≤ 100 := by unfold fitL; split <;> simp_all
section
variable {ds : List DyT} {g : Nat} {caps : List V} {p : DyT → Bool} {call : CallV}
def ixDS (ds : List DyT) (g : Nat) (caps : List V) (j : Nat) : VE × VH := ([(0, some (.cells 3 ds.length (flat DyT.v ds))), (1, some (.fn (.func g) [] caps)), (7, some (.int .i64 ds.length)), (8, some (.int .i64 j))], [])
end
end
/- Natural numbers: sums, differences, products of what is told, program. No conditions. -/
section
open Num
/-- The number that digits stand for. -/
def nN (l : List Int) : Nat := (val l).toNat
theorem nN_D (n : Nat) : nN (D n) = n := by unfold nN; rw [val_D]; rfl
theorem okN {l : List Int} (h : natOkB l = true) : l = D (nN l) ∧ (D (nN l)).length ≤ 100 := by
  obtain ⟨n, h1, h2⟩ := (natOkB_iff l).1 h
  rw [h1, nN_D]; exact ⟨rfl, h2⟩
theorem natOk_D {n : Nat} (h : (D n).length ≤ 100) : natOkB (D n) = true := (natOkB_iff _).2 ⟨n, rfl, h⟩
/-- What an operation answers. -/
def nres (op : Nat → Nat → Nat) (a b : List Int) : List Int := if natOkB a && natOkB b then fitL (D (op (nN a) (nN b))) else []
def nok (op : Nat → Nat → Nat) (a b : List Int) : Bool := natOkB a && natOkB b && decide ((D (op (nN a) (nN b))).length ≤ 100)
def nresS (a b : List Int) : List Int := if natOkB a && natOkB b && decide (nN b ≤ nN a) then D (nN a - nN b) else []
def nokSub (a b : List Int) : Bool := natOkB a && natOkB b && decide (nN b ≤ nN a)
theorem nres_len {op : Nat → Nat → Nat} {a b : List Int} : (nres op a b).length ≤ 100 := by
  unfold nres; split
  · exact fitL_len _
  · simp
theorem nres_ok {op : Nat → Nat → Nat} {a b : List Int} : natOkB (nres op a b) = true := by
  unfold nres fitL; split
  · split
    · exact natOk_D ‹_›
    · rfl
  · rfl
theorem nres_t {op : Nat → Nat → Nat} {a b : List Int} (h : nok op a b = true) : natOkB a = true ∧ natOkB b = true ∧ nres op a b = D (op (nN a) (nN b)) ∧ (D (op (nN a) (nN b))).length ≤ 100 := by
  unfold nok at h
  rw [Bool.and_eq_true, Bool.and_eq_true, decide_eq_true_eq] at h
  refine ⟨h.1.1, h.1.2, ?_, h.2⟩
  unfold nres fitL
  rw [h.1.1, h.1.2, if_pos h.2]; rfl
theorem nres_comm {op : Nat → Nat → Nat} (hc : ∀ x y, op x y = op y x) (a b : List Int) : nres op a b = nres op b a ∧ nok op a b = nok op b a := by
  unfold nres nok
  rw [hc, Bool.and_comm (natOkB a)]; exact ⟨rfl, rfl⟩
theorem nresS_len {a b : List Int} : (nresS a b).length ≤ 100 := by
  unfold nresS; split
  · rename_i h
    rw [Bool.and_eq_true, Bool.and_eq_true] at h
    obtain ⟨e, h1⟩ := okN h.1.1
    exact Nat.le_trans (len_D_mono (Nat.sub_le _ _)) h1
  · simp
section
variable {a b : List Int}
end
end
/- Dyadics: alignment and comparison, program and reference. No conditions. -/
section
open Num
def alE (a : Nat) (ex : Int) (b : Nat) (ey : Int) : Int := if b = 0 then ex else if a = 0 then ey else if ey < ex then ey else ex
def alA (a : Nat) (ex : Int) (b : Nat) (ey : Int) : Nat := a * 2 ^ (ex - alE a ex b ey).toNat
def alB (a : Nat) (ex : Int) (b : Nat) (ey : Int) : Nat := b * 2 ^ (ey - alE a ex b ey).toNat
def scmp (n : Bool) (a : Nat) (m : Bool) (b : Nat) : Int := if n && !m then -1 else if !n && m then 1 else if n then cmpI b a else cmpI a b
section
variable {a b : Nat} {ex ey : Int} {n m : Bool}
theorem alE_bd (he : -100000 ≤ ex) (he' : ex ≤ 100000) (hf : -100000 ≤ ey) (hf' : ey ≤ 100000) : -100000 ≤ alE a ex b ey ∧ alE a ex b ey ≤ 100000 := by
  unfold alE
  by_cases h1 : b = 0
  · rw [if_pos h1]; omega
  · rw [if_neg h1]
    by_cases h2 : a = 0
    · rw [if_pos h2]; omega
    · rw [if_neg h2]; split <;> omega
theorem al_len (ha : (D a).length < 100000) (hb : (D b).length < 100000) (he : -100000 ≤ ex) (he' : ex ≤ 100000) (hf : -100000 ≤ ey) (hf' : ey ≤ 100000) : (D (alA a ex b ey)).length < 200000 ∧ (D (alB a ex b ey)).length < 200000 := by
  have := alE_bd (a := a) (b := b) he he' hf hf'
  unfold alA alB
  have h1 := len_shl a (ex - alE a ex b ey).toNat
  have h2 := len_shl b (ey - alE a ex b ey).toNat
  omega
def alE2 (a : Nat) (ex : Int) (b : Nat) (ey : Int) : Int := if a = 0 then ey else if b = 0 then ex else if ey < ex then ey else ex
end
end
/- The reference's trailing noughts, and its one form of a dyadic. No conditions. -/
section
open Num
section
variable {x : Nat}
def trS (x j : Nat) : VE × VH := ([(1, some (.ptr 0 0)), (3, some (.int .i64 j))], [.vals true [.ints .i64 (D x)]])
end
end
/- The reference's one form of a dyadic number. No conditions. -/
section
open Num
section
variable {a : Nat} {n : Bool} {e : Int}
/-- The one form. -/
def mkD (n : Bool) (a : Nat) (e : Int) : DyT := if a = 0 then ⟨false, [], 0⟩ else ⟨n, D (a / 2 ^ tz a), e + tz a⟩
end
end
/- Trailing noughts of a limb, as the library counts them. No conditions. -/
section
open Num
theorem wu64' {x : Int} (h1 : 0 ≤ x) (h2 : x ≤ 18446744073709551615) : IntKind.wrap .u64 x = x := by
  simp [IntKind.wrap, IntKind.bits, IntKind.signed]; omega
theorem negu {x : Nat} (h0 : x ≠ 0) (hx : x < 65536) : IntKind.wrap .u64 (-(x : Int)) = ((2 ^ 64 - x : Nat) : Int) := by
  simp [IntKind.wrap, IntKind.bits, IntKind.signed]; omega
theorem andneg (P : Program) (ty : TypeId) {x t o : Nat} (h0 : x ≠ 0) (hx : x < 65536) (h : x = 2 ^ t * (2 * o + 1)) : binE P .and ty (.int .u64 (x : Int)) (.int .u64 ((2 ^ 64 - x : Nat) : Int)) = some (.int .u64 ((2 ^ t : Nat) : Int)) := by
  rw [b_and]
  have e : (BitVec.ofInt (IntKind.bits .u64) (x : Int) &&& BitVec.ofInt (IntKind.bits .u64) ((2 ^ 64 - x : Nat) : Int)).toNat = 2 ^ t := by
    show (BitVec.ofInt 64 (x : Int) &&& BitVec.ofInt 64 ((2 ^ 64 - x : Nat) : Int)).toNat = 2 ^ t
    rw [BitVec.toNat_and, BitVec.ofInt_natCast, BitVec.ofInt_natCast, BitVec.toNat_ofNat, BitVec.toNat_ofNat, Nat.mod_eq_of_lt (by omega), Nat.mod_eq_of_lt (by omega)]
    exact land_neg h (by omega)
  rw [e]
  have hle : 2 ^ t ≤ x := by rw [h]; exact Nat.le_mul_of_pos_right _ (by omega)
  rw [wu64' (by omega) (by omega)]
theorem tz16 {x t o : Nat} (hx : x < 65536) (h : x = 2 ^ t * (2 * o + 1)) : t < 16 := by
  have hle : 2 ^ t ≤ x := by rw [h]; exact Nat.le_mul_of_pos_right _ (by omega)
  exact (Nat.pow_lt_pow_iff_right (a := 2) (by omega)).1 (by omega : 2 ^ t < 2 ^ 16)
end
/- Numbers of any size: their one form, products; trailing noughts. No conditions. -/
section
open Num
theorem low_zero {x j : Nat} (h : 16 * j ≤ tz x) : x % 65536 ^ j = 0 := by
  by_cases h0 : x = 0
  · subst h0; simp
  obtain ⟨o, ho⟩ := tz_spec h0
  have e : (65536 : Nat) ^ j = 2 ^ (16 * j) := by rw [show (65536 : Nat) = 2 ^ 16 from rfl, ← Nat.pow_mul]
  have e2 : 2 ^ tz x = 2 ^ (16 * j) * 2 ^ (tz x - 16 * j) := by rw [← Nat.pow_add]; congr 1; omega
  rw [e]
  conv => lhs; lhs; rw [ho, e2, Nat.mul_assoc]
  exact Nat.mul_mod_right _ _
theorem dig_zero {x j : Nat} (h : 16 * (j + 1) ≤ tz x) : x / 65536 ^ j % 65536 = 0 := by
  have h1 := low_zero h
  rw [mod_pow_succ] at h1
  have hp := powN_pos j
  rcases Nat.eq_zero_or_pos (x / 65536 ^ j % 65536) with h2 | h2
  · exact h2
  · have := Nat.mul_pos hp h2; omega
theorem dig_nz {x : Nat} (h0 : x ≠ 0) : x / 65536 ^ (tz x / 16) % 65536 ≠ 0 := by
  intro h
  have hb := tz_bit h0
  have e : 2 ^ tz x = 65536 ^ (tz x / 16) * 2 ^ (tz x % 16) := pow_split _
  rw [e, ← Nat.div_div_eq_div_mul] at hb
  generalize x / 65536 ^ (tz x / 16) = a at *
  have e2 : (65536 : Nat) = 2 ^ (tz x % 16) * (2 * 2 ^ (15 - tz x % 16)) := by
    rw [← Nat.mul_assoc, Nat.mul_right_comm, ← Nat.pow_add, show tz x % 16 + (15 - tz x % 16) = 15 by omega]
  have h2 : a = 65536 * (a / 65536) := by omega
  rw [h2, e2, Nat.mul_assoc, Nat.mul_div_cancel_left _ (Nat.two_pow_pos _), Nat.mul_assoc] at hb
  omega
section
variable {x : Nat}
def toS (x j : Nat) : VE × VH := ([(5, some (.ints .i64 (D x))), (6, some (.int .i64 (D x).length)), (7, some (.int .i64 j))], [])
end
section
variable {a b : Nat} {n m : Bool} {e ex ey : Int}
/-- May it be told? -/
def dyFit (r : DyT) : Bool := decide (r.l.length ≤ 100) && decide (-3000 ≤ r.e) && decide (r.e ≤ 3000)
def zT : DyT := ⟨false, [], 0⟩
def fitT (r : DyT) : DyT := if dyFit r then r else zT
theorem mkD_neg : (mkD n a e).neg = ((mkD n a e).neg && !decide ((mkD n a e).l.length = 0)) := by
  unfold mkD
  by_cases h0 : a = 0
  · rw [if_pos h0]; rfl
  · rw [if_neg h0]
    have hb := tz_bit h0
    have hX : a / 2 ^ tz a ≠ 0 := fun h => by rw [h] at hb; simp at hb
    have : ¬ (D (a / 2 ^ tz a)).length = 0 := fun h => hX (D_nil_iff.1 (List.eq_nil_of_length_eq_zero h))
    simp [this]
theorem mkD_len : (mkD n a e).l.length ≤ (D a).length := by
  unfold mkD
  split
  · simp
  · exact len_D_mono (Nat.div_le_self _ _)
theorem mkD_e (he : -1000000000 ≤ e) (he' : e ≤ 1000000000) (ha : (D a).length < 60000) : -1000000000 ≤ (mkD n a e).e ∧ (mkD n a e).e ≤ 1001000000 := by
  unfold mkD
  by_cases h0 : a = 0
  · rw [if_pos h0]; simp
  · rw [if_neg h0]
    have := tz_lt h0
    simp only; omega
/-- What is in its one form is valid where it fits. -/
theorem dyOkB_mkD : dyOkB (mkD n a e) = dyFit (mkD n a e) := by
  unfold mkD
  by_cases h0 : a = 0
  · rw [if_pos h0]; rfl
  · rw [if_neg h0]
    have hb := tz_bit h0
    generalize a / 2 ^ tz a = X at *
    have hX : X ≠ 0 := fun h => by rw [h] at hb; simp at hb
    have hl : ¬ (D X).length = 0 := fun h => hX (D_nil_iff.1 (List.eq_nil_of_length_eq_zero h))
    have hg : gt (D X) 0 % 2 = 1 := by rw [gt_D]; unfold dg; rw [Nat.pow_zero, Nat.div_one]; omega
    unfold dyOkB dyFit wholeOkB
    simp only [natOkB_D, hl, hg, decide_false, Bool.and_false, Bool.not_false, Bool.and_true, if_false, decide_true, Bool.and_assoc]
theorem mkD_and : mkD (n && decide (a ≠ 0)) a e = mkD n a e := by
  unfold mkD
  by_cases h0 : a = 0
  · rw [if_pos h0, if_pos h0]
  · rw [if_neg h0, if_neg h0]; simp [h0]
end
end
/- Intervals: validity and membership, program and reference. No conditions. -/
section
open Num
def DyT.n (x : DyT) : Nat := (val x.l).toNat
def dcmp (x y : DyT) : Int := scmp x.neg (alA x.n x.e y.n y.e) y.neg (alB x.n x.e y.n y.e)
structure IvT where
  lo : DyT
  hi : DyT
def IvT.v (x : IvT) : List V := [.bool x.lo.neg, .ints .i64 x.lo.l, .int .i64 x.lo.e, .bool x.hi.neg, .ints .i64 x.hi.l, .int .i64 x.hi.e]
def ivOkB (x : IvT) : Bool := dyOkB x.lo && dyOkB x.hi && decide (dcmp x.lo x.hi ≤ 0)
def ivHasB (v : IvT) (x : DyT) : Bool := decide (dcmp v.lo x ≤ 0) && decide (dcmp x v.hi ≤ 0)
theorem ok_D {x : DyT} (hx : dyOkB x = true) : x.l = D (x.n) ∧ (D (x.n)).length < 100000 ∧ -100000 ≤ x.e ∧ x.e ≤ 100000 ∧ (x.n = 0 → x.neg = false) := by
  obtain ⟨n, h1, h2, h3, h4, h5⟩ := (dyOkB_iff x).1 hx
  have : x.n = n := by unfold DyT.n; rw [h1, val_D]; rfl
  rw [this]
  refine ⟨h1, by omega, by omega, by omega, fun h => ?_⟩
  rcases h5 with ⟨_, h, _⟩ | h5
  · exact h
  · omega
section
variable {x y : DyT}
end
section
variable {x : DyT} {v : IvT}
end
end
/- Numbers of any size: products, sums, differences. No conditions. -/
section
open Num
def ssN (n : Bool) (a : Nat) (m : Bool) (b : Nat) : Bool := if n = m then n else if b ≤ a then n else m
def ssV (n : Bool) (a : Nat) (m : Bool) (b : Nat) : Nat := if n = m then a + b else if b ≤ a then a - b else b - a
section
variable {a b : Nat} {n m : Bool} {e ex ey : Int}
theorem cmpI_ge : (0 ≤ cmpI a b) = (b ≤ a) := by
  unfold cmpI
  by_cases h : a < b
  · rw [if_pos h]; simp; omega
  · rw [if_neg h]; split <;> (simp; omega)
theorem ssV_len {k : Nat} (ha : (D a).length < k) (hb : (D b).length < k) : (D (ssV n a m b)).length < k + 1 := by
  unfold ssV
  by_cases h : n = m
  · rw [if_pos h]; have := len_add (x := a) (y := b) (n := k - 1) (by omega) (by omega); omega
  · rw [if_neg h]
    split
    · have := len_D_mono (Nat.sub_le a b); omega
    · have := len_D_mono (Nat.sub_le b a); omega
theorem D_ne {x : Nat} : (D x = []) = (x = 0) := propext D_nil_iff
end
end
/- Dyadic numbers: products, sums, differences, program and reference. No conditions. -/
section
open Num
def mulR (x y : DyT) : DyT := mkD (x.neg != y.neg) (x.n * y.n) (x.e + y.e)
def addR (x y : DyT) : DyT := mkD (ssN x.neg (alA x.n x.e y.n y.e) y.neg (alB x.n x.e y.n y.e)) (ssV x.neg (alA x.n x.e y.n y.e) y.neg (alB x.n x.e y.n y.e)) (alE x.n x.e y.n y.e)
def negT (y : DyT) : DyT := ⟨!y.neg && decide (y.n ≠ 0), y.l, y.e⟩
def subR (x y : DyT) : DyT := addR x (negT y)
/-- What an operation answers. -/
def res2 (R : DyT → DyT → DyT) (x y : DyT) : DyT := if dyOkB x && dyOkB y && dyFit (R x y) then R x y else zT
def ok2 (R : DyT → DyT → DyT) (x y : DyT) : Bool := dyOkB x && dyOkB y && dyFit (R x y)
theorem res2_ok {R : DyT → DyT → DyT} {x y : DyT} (h : dyOkB x = true) (h' : dyOkB y = true) : res2 R x y = fitT (R x y) ∧ ok2 R x y = dyFit (R x y) := by
  unfold res2 ok2 fitT; rw [h, h']; simp
theorem res2_no {R : DyT → DyT → DyT} {x y : DyT} (h : (dyOkB x && dyOkB y) = false) : res2 R x y = zT ∧ ok2 R x y = false := by
  unfold res2 ok2; rw [h]; simp
theorem fitT_len (r : DyT) : (fitT r).l.length ≤ 100 := by
  unfold fitT
  cases h : dyFit r with
  | false => simp [zT]
  | true => unfold dyFit at h; simp at h; simp only [if_true]; omega
theorem res2_len {R : DyT → DyT → DyT} {x y : DyT} : (res2 R x y).l.length ≤ 100 := by
  cases h : (dyOkB x && dyOkB y) with
  | false => rw [(res2_no h).1]; simp [zT]
  | true => rw [Bool.and_eq_true] at h; rw [(res2_ok h.1 h.2).1]; exact fitT_len _
/-- A valid one, whole. -/
theorem okD {x : DyT} (hx : dyOkB x = true) : x.l = D x.n ∧ (D x.n).length ≤ 100 ∧ -3000 ≤ x.e ∧ x.e ≤ 3000 ∧ (x.n = 0 → x.neg = false) := by
  obtain ⟨n, h1, h2, h3, h4, h5⟩ := (dyOkB_iff x).1 hx
  have : x.n = n := by unfold DyT.n; rw [h1, val_D]; rfl
  rw [this]
  refine ⟨h1, by omega, by omega, by omega, fun h => ?_⟩
  rcases h5 with ⟨_, h, _⟩ | h5
  · exact h
  · omega
section
variable {x y : DyT}
theorem neg_dbl {b : Nat} {m : Bool} (h : b = 0 → m = false) : (!(!m && decide (b ≠ 0)) && decide (b ≠ 0)) = m := by
  by_cases h0 : b = 0
  · rw [h h0]; simp [h0]
  · cases m <;> simp [h0]
theorem al_small {a b : Nat} {ex ey : Int} (ha : (D a).length ≤ 100) (hb : (D b).length ≤ 100) (he : -3000 ≤ ex) (he' : ex ≤ 3000) (hf : -3000 ≤ ey) (hf' : ey ≤ 3000) : (D (alA a ex b ey)).length < 1000 ∧ (D (alB a ex b ey)).length < 1000 ∧ -3000 ≤ alE a ex b ey ∧ alE a ex b ey ≤ 3000 := by
  have q1 : -3000 ≤ alE a ex b ey ∧ alE a ex b ey ≤ 3000 := by unfold alE; split <;> (try split) <;> (try split) <;> omega
  have h1 := len_shl a (ex - alE a ex b ey).toNat
  have h2 := len_shl b (ey - alE a ex b ey).toNat
  unfold alA alB
  omega
end
end
/- Comparison of dyadics is comparison of numbers. Plain law. No conditions. -/
section
open Num
def sg (n : Bool) (a : Nat) : Int := if n then -(a : Int) else a
theorem cmpI_le (a b : Nat) : cmpI a b ≤ 0 ↔ a ≤ b := by
  unfold cmpI
  split
  · omega
  · split <;> omega
theorem cmpI_eq (a b : Nat) : cmpI a b = 0 ↔ a = b := by
  unfold cmpI
  split
  · omega
  · split <;> omega
theorem scmp_le {n m : Bool} {a b : Nat} (ha : a = 0 → n = false) (hb : b = 0 → m = false) : scmp n a m b ≤ 0 ↔ sg n a ≤ sg m b := by
  unfold scmp sg
  cases n <;> cases m <;> simp [cmpI_le] <;> simp at ha hb <;> omega
theorem scmp_eq {n m : Bool} {a b : Nat} (ha : a = 0 → n = false) (hb : b = 0 → m = false) : scmp n a m b = 0 ↔ sg n a = sg m b := by
  unfold scmp sg
  cases n <;> cases m <;> simp [cmpI_eq] <;> simp at ha hb <;> omega
theorem sg_mul (n : Bool) (a k : Nat) : sg n (a * k) = sg n a * k := by
  unfold sg; cases n <;> simp [Int.neg_mul]
/-- The number, scaled. -/
def DyT.sv (K : Int) (x : DyT) : Int := sg x.neg x.n * (2 ^ (x.e - K).toNat : Nat)
theorem al_sv {a : Nat} {ex ey K : Int} {b : Nat} (hx : K ≤ ex) (hy : K ≤ ey) : a * 2 ^ (ex - K).toNat = alA a ex b ey * 2 ^ (alE a ex b ey - K).toNat ∧ b * 2 ^ (ey - K).toNat = alB a ex b ey * 2 ^ (alE a ex b ey - K).toNat := by
  unfold alA alB alE
  by_cases hb : b = 0
  · subst hb
    simp
  · by_cases ha : a = 0
    · subst ha
      simp [hb]
    · rw [if_neg hb, if_neg ha]
      by_cases h : ey < ex
      · rw [if_pos h, Nat.mul_assoc, ← Nat.pow_add, Int.sub_self]
        refine ⟨by rw [show (ex - ey).toNat + (ey - K).toNat = (ex - K).toNat by omega], by simp⟩
      · rw [if_neg h, Nat.mul_assoc b, ← Nat.pow_add, Int.sub_self]
        refine ⟨by simp, by rw [show (ey - ex).toNat + (ex - K).toNat = (ey - K).toNat by omega]⟩
theorem al_zero {a : Nat} {ex ey : Int} {b : Nat} : (alA a ex b ey = 0 ↔ a = 0) ∧ (alB a ex b ey = 0 ↔ b = 0) := by
  unfold alA alB
  have h1 := Nat.two_pow_pos (ex - alE a ex b ey).toNat
  have h2 := Nat.two_pow_pos (ey - alE a ex b ey).toNat
  refine ⟨⟨fun h => ?_, fun h => by rw [h, Nat.zero_mul]⟩, ⟨fun h => ?_, fun h => by rw [h, Nat.zero_mul]⟩⟩
  · rcases Nat.mul_eq_zero.1 h with h | h <;> omega
  · rcases Nat.mul_eq_zero.1 h with h | h <;> omega
theorem dcmp_sv {x y : DyT} {K : Int} (hx : dyOkB x = true) (hy : dyOkB y = true) (h1 : K ≤ x.e) (h2 : K ≤ y.e) : (dcmp x y ≤ 0 ↔ x.sv K ≤ y.sv K) ∧ (dcmp x y = 0 ↔ x.sv K = y.sv K) := by
  obtain ⟨_, _, _, _, a4⟩ := ok_D hx
  obtain ⟨_, _, _, _, b4⟩ := ok_D hy
  unfold dcmp DyT.sv
  have z := al_zero (a := x.n) (ex := x.e) (ey := y.e) (b := y.n)
  have za : alA x.n x.e y.n y.e = 0 → x.neg = false := fun h => a4 (z.1.1 h)
  have zb : alB x.n x.e y.n y.e = 0 → y.neg = false := fun h => b4 (z.2.1 h)
  rw [scmp_le za zb, scmp_eq za zb, ← sg_mul, ← sg_mul, (al_sv h1 h2).1, (al_sv h1 h2).2, sg_mul, sg_mul]
  have hp : (0 : Int) < (2 ^ (alE x.n x.e y.n y.e - K).toNat : Nat) := by exact_mod_cast Nat.two_pow_pos _
  exact ⟨⟨fun h => Int.mul_le_mul_of_nonneg_right h (Int.le_of_lt hp), fun h => Int.le_of_mul_le_mul_right h hp⟩, ⟨fun h => by rw [h], fun h => Int.eq_of_mul_eq_mul_right (by omega) h⟩⟩
theorem dyOk_e {x : DyT} (hx : dyOkB x = true) : -3000 ≤ x.e := by
  obtain ⟨_, _, _, h, _⟩ := (dyOkB_iff x).1 hx
  exact h
theorem dcmp_le {x y : DyT} (hx : dyOkB x = true) (hy : dyOkB y = true) : dcmp x y ≤ 0 ↔ x.sv (-3000) ≤ y.sv (-3000) := (dcmp_sv hx hy (dyOk_e hx) (dyOk_e hy)).1
theorem dcmp_eq {x y : DyT} (hx : dyOkB x = true) (hy : dyOkB y = true) : dcmp x y = 0 ↔ x.sv (-3000) = y.sv (-3000) := (dcmp_sv hx hy (dyOk_e hx) (dyOk_e hy)).2
theorem dcmp_trans {x y z : DyT} (hx : dyOkB x = true) (hy : dyOkB y = true) (hz : dyOkB z = true) (h1 : dcmp x y ≤ 0) (h2 : dcmp y z ≤ 0) : dcmp x z ≤ 0 :=
  (dcmp_le hx hz).2 (Int.le_trans ((dcmp_le hx hy).1 h1) ((dcmp_le hy hz).1 h2))
end
end Go.Eng
