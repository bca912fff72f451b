/- Numbers: times, l2add, l2sub, l2mul. No conditions. -/
import Derived.Test.YtnkhamahhgfbhaaDoorCore4
set_option linter.unusedVariables false
set_option linter.unusedSimpArgs false
namespace Go.Eng
open Go.Proofs
set_option maxRecDepth 100000
set_option linter.unusedSimpArgs false
attribute [local go_sem] r_seq r_skip r_retC r_exitC r_label r_block r_region r_regionW r_xWt r_xW r_cond r_Bt r_Bf r_Ncode r_Nret r_Nexit r_Nblk r_Nblkr r_Nblke r_Nnil r_Es r_Onil r_Oop r_Oif r_Xs r_Gt r_Gf r_wtt r_wtf r_wft r_wff r_wu r_gO r_putS r_putN r_get r_keepN r_keepC r_fr r_fn r_fi r_ff r_fo r_l1 r_l2t r_cun r_cul r_cub r_cui r_cus r_cuis r_cuc r_cusl r_cuti r_cutv r_ven r_vec r_l2f r_l3 r_t1 r_t2 r_t0 r_rt r_rc r_en r_ec r_cM r_oN r_oC r_end r_endt r_endf r_nob0 r_nobN r_nobC r_nobE r_nb0 r_nbi r_nbs r_nbsl r_nbin r_nbce r_nLn r_nLv r_nLc r_nAa r_nAn r_nAk_b r_nAk_i r_nAk_s r_nAk_n r_nAk_is r_nAk_ce r_nAk_fp r_nAk_sl r_nAk_pt r_nAk_fn r_nsn r_nsv r_nsc r_m0 r_mi r_ms r_msl r_min r_mce r_mLn r_mLv r_mLc r_mAa r_mAn r_mAk_b r_mAk_i r_mAk_s r_mAk_n r_mAk_is r_mAk_ce r_mAk_fp r_mAk_sl r_mAk_pt r_mAk_fn r_msn r_msv r_msc r_atb r_ati r_ats r_atn r_atis r_atc r_atf r_atl r_atp r_atfn r_gcn r_gcc r_gLn r_gLc r_gIt r_ndn r_ndc r_gcB r_gLB r_two r_rea r_rea0 r_re1n r_re1c r_ori r_orv r_ord r_orn r_adn r_adc r_ad1 r_ern r_ers r_er0 r_rsl r_rptr r_rb r_ri r_rs r_rn r_ris r_rce r_rfp r_ra4 r_ra3 r_rt4 r_rf4 r_rf3 r_idS r_idc r_nS r_nP r_nF r_nT r_vsl r_vptr r_vb r_vi r_vs r_vn r_vis r_vce r_vfp r_va4 r_va3 r_vt4 r_vf4 r_vf3 r_rV r_Oi r_Ov r_Od r_rE r_rE0 r_En r_Ec r_E0 r_pO r_pk r_agL r_cO r_fO r_fSi r_fSv r_fPv r_fsl r_fptr r_ffn r_fag r_fb r_fint r_fstr r_fnil r_fis r_fce r_ffp r_res r_move r_assign r_pick r_pickt r_pickf r_alloc r_box r_al r_build r_bslice r_load r_store r_nlc r_nl1 r_nl2 r_bin r_un r_conv r_mkf r_mks r_slc r_fad r_fld r_iad r_idx r_ext r_ex1 r_callf r_callt r_callen r_calapp r_calmax r_calmin r_vt r_vcb r_vci r_vcs r_vcn r_vca r_vcf r_vcg r_ofb r_ofi r_ofs r_ofn r_evs r_pn r_prt r_pc r_one_a r_one_b r_one_i r_one_s r_one_n r_one_is r_one_ce r_one_fp r_one_sl r_one_pt r_one_fn r_cs_a r_cs_b r_cs_i r_cs_s r_cs_n r_cs_is r_cs_ce r_cs_fp r_cs_sl r_cs_pt r_cs_fn r_tov r_tovA r_toc r_toa r_tb r_ti r_ts r_tn r_bd r_bd2 r_filn r_fp1 r_filc r_fsn r_fsc r_san r_sac r_bs2 r_bs1 r_newO r_mkq r_mkI r_mkOi r_mkOv r_tIn r_tIc r_repz r_repn r_ldp r_ldf r_l1t r_l1f r_lFt r_lFf r_aggO r_obj r_at r_ati' r_atv r_celli r_cellv r_subi r_subv r_sto r_sto1 r_sto2 r_sets r_setR r_setn r_setc r_s1i r_s1v r_bin1 r_bin2 r_tv1 r_cb r_ci r_cst r_cn r_csl r_cis r_cce r_uni r_unb r_cv r_cvi r_cvs r_cvb r_cvl r_sO r_rdn r_rdi r_rdl r_rdO r_vsub r_vfn r_mk r_mk1 r_mk2 r_zoi r_zov r_leni r_lenv r_bn r_bndV r_bo r_sl0 r_sl1 r_vsz r_ct1 r_cts r_cti r_ctc r_ctn r_lnl r_lni r_lnc r_lnn r_fa r_fap r_faf r_fi1 r_fit r_fif r_ixi r_ixs r_ixc r_ixf r_ixF r_ixF2 r_ix1 r_ixsl r_ixin r_ixce r_len1 r_lenA r_lTs r_lTn r_lTl r_lTi r_lTc r_app0 r_app r_app1 r_app2 r_app3 r_catO r_cati r_catv r_newt r_newf r_pair r_pairK r_trip r_kis r_kiv r_srn r_srl r_sri r_src r_srs r_oln r_oll r_vw r_wi r_wv r_mm r_max r_min' r_str r_cF r_c2t r_c3f r_c3t r_ab r_c2f r_cV r_p1 r_la r_la2t r_la2f r_la3 r_sh r_z_is r_z_ce r_z_fp r_z_b r_z_i r_z_s r_z_n r_z_l r_z_p r_z_a4 r_z_a3 r_z_t4 r_zoI r_zoV r_roN r_roC r_roi r_rod r_zod r_rov r_aR r_trOi r_trOv r_trPv r_trl r_trp r_trf r_tra r_trb r_tri r_trs r_trn r_tris r_trce r_trfp
attribute [local go_sem] b_add b_sub b_mul b_quo b_rem b_shl b_shr b_eql b_neq b_lss b_leq b_gtr b_geq eqB_s b_eqB b_neB u_neg u_not b_nn b_nn' eqS_s zerosT_s zerosT_n zt_i zt_sl zt_st dstOf_z dstOf_n iltT iltF ileT ileF ieqT ieqF nltT nltF nleT nleF neqT neqF tdiv_pos tmod_pos w64 idx0 List.take_of_length_le
open Num
section
variable {x y : Nat}
theorem add_go {x y j : Nat} (h : j < (D (x + y)).length) : j < (D x).length ∨ (¬ j < (D x).length ∧ j < (D y).length) ∨ (¬ j < (D x).length ∧ ¬ j < (D y).length ∧ 0 < carry x y j) := by
  by_cases h1 : j < (D x).length
  · exact .inl h1
  · by_cases h2 : j < (D y).length
    · exact .inr (.inl ⟨h1, h2⟩)
    · refine .inr (.inr ⟨h1, h2, ?_⟩)
      have hx : x < 65536 ^ j := len_D_le.1 (by omega)
      have hy : y < 65536 ^ j := len_D_le.1 (by omega)
      have hp : 65536 ^ j ≤ x + y := len_D_lt.1 h
      unfold carry
      rw [Nat.mod_eq_of_lt hx, Nat.mod_eq_of_lt hy]
      have := Nat.div_pos hp (powN_pos j)
      omega
theorem add_end (x y : Nat) : (D x).length ≤ (D (x + y)).length ∧ (D y).length ≤ (D (x + y)).length ∧ carry x y (D (x + y)).length = 0 := by
  refine ⟨len_mono (by omega), len_mono (by omega), ?_⟩
  have h := lt_len_D (x + y)
  unfold carry
  rw [Nat.mod_eq_of_lt (by omega), Nat.mod_eq_of_lt (by omega), Nat.div_eq_of_lt h]; rfl
def addS (x y j : Nat) : VE × VH := ([(2, some (.ptr 0 0)), (3, some (.ptr 1 0)), (4, some (.ptr 2 0)), (5, some (.sl 3 0 j 1)), (6, some (.int .i64 (carry x y j))), (7, some (.int .i64 j))], [.vals true [.ints .i64 (D x)], .vals true [.ints .i64 (D y)], .vals true [.nil], .ints true .i64 (dgs (x + y) j)])
theorem add_r (call : CallV) (hx : (D x).length < 1000000) (hy : (D y).length < 1000000) (j : Nat) (hj : j < (D (x + y)).length) :
    vCode Tryd.prog kn call 73 (loopAt Tryd.f73 0) (addS x y j).1 (addS x y j).2 = some (.norm, addS x y (j + 1)) := by
  have b1 := dg_bd x j
  have b2 := dg_bd y j
  have b3 := carry_bd x y j
  have hl := len_add (x := x) (y := y) (n := 1000000) (by omega) (by omega)
  rw [round_v]; simp only [loopAt, nthC, bodyC, loops, List.nil_append, List.cons_append, List.append_nil, Tryd.f73, addS, dgs_succ, carry_succ, dg_add]
  rcases add_go hj with h1 | ⟨h1, h2⟩ | ⟨h1, h2, h3⟩
  · by_cases h2 : j < (D y).length
    · simp (disch := omega) [go_sem, tab73, nil73, gt_D, dgs_len, dgs_take]
    · have e2 := dg_len (x := y) (i := j) (by omega)
      simp (disch := omega) [go_sem, tab73, nil73, gt_D, dgs_len, dgs_take, e2]
  · have e1 := dg_len (x := x) (i := j) (by omega)
    simp (disch := omega) [go_sem, tab73, nil73, gt_D, dgs_len, dgs_take, e1]
  · have e1 := dg_len (x := x) (i := j) (by omega)
    have e2 := dg_len (x := y) (i := j) (by omega)
    simp (disch := omega) [go_sem, tab73, nil73, gt_D, dgs_len, dgs_take, e1, e2]
theorem add_x (call : CallV) (hx : (D x).length < 1000000) (hy : (D y).length < 1000000) (hl : (D (x + y)).length < 1000002) :
    vCode Tryd.prog kn call 73 (loopAt Tryd.f73 0) (addS x y (D (x + y)).length).1 (addS x y (D (x + y)).length).2 = some (.exit 0, (addS x y (D (x + y)).length).1 ++ [(24, some (.bool false))], (addS x y (D (x + y)).length).2) := by
  obtain ⟨h1, h2, h3⟩ := add_end x y
  rw [round_v]; simp only [loopAt, nthC, bodyC, loops, List.nil_append, List.cons_append, List.append_nil, Tryd.f73, addS, h3]
  simp (disch := omega) [go_sem, tab73, nil73, dgs_len]
theorem l2add_v (d : Nat) (hx : (D x).length < 1000000) (hy : (D y).length < 1000000) :
    vrun Tryd.prog kn (d + 2) 73 [.agg [.ints .i64 (D x)], .agg [.ints .i64 (D y)]] [] = some (.agg [.ints .i64 (D (x + y))], []) := by
  have hl : (D (x + y)).length < 1000002 := by
    have := len_add (x := x) (y := y) (n := 1000000) (by omega) (by omega); omega
  have hl0 := fun ks => loop_v (P := Tryd.prog) (K := kn) (ks := ks) (vi_for (addS x y) (D (x + y)).length (by rw [k_cf, c_rounds]; omega) (add_r (vrun Tryd.prog kn (d + 1)) hx hy) fun m => vi_exit (add_x _ hx hy hl))
  simp only [loopAt, nthC, bodyC, loops, List.nil_append, List.cons_append, List.append_nil, Tryd.f73, addS, dgs, carry_zero, Int.natCast_zero] at hl0
  have hn := l2norm_v d (l := D (x + y)) (v := x + y) (by omega) (good_D _) (val_D _)
  rw [vrun_v Tryd.func73 rfl rfl rfl]; simp only [Tryd.f73]
  simp (disch := omega) [go_sem, tab73, nil73, hl0, dgs_len, dgs_D, hn]
def subS (x y j : Nat) : VE × VH := ([(2, some (.ptr 0 0)), (3, some (.ptr 1 0)), (4, some (.ptr 2 0)), (5, some (.sl 3 0 j 1)), (6, some (.int .i64 (borrow x y j))), (7, some (.int .i64 j))], [.vals true [.ints .i64 (D x)], .vals true [.ints .i64 (D y)], .vals true [.nil], .ints true .i64 (dgs (x - y) j)])
theorem sub_r (call : CallV) (hxy : y ≤ x) (hx : (D x).length < 1000000) (j : Nat) (hj : j < (D x).length) :
    vCode Tryd.prog kn call 120 (loopAt Tryd.f120 0) (subS x y j).1 (subS x y j).2 = some (.norm, subS x y (j + 1)) := by
  have b1 := dg_bd x j
  have b2 := dg_bd y j
  have b3 := borrow_bd x y j
  rw [round_v]; simp only [loopAt, nthC, bodyC, loops, List.nil_append, List.cons_append, List.append_nil, Tryd.f120, subS, dgs_succ, borrow_succ hxy, dg_sub hxy]
  by_cases hlt : j < (D y).length
  · by_cases hb : dg x j - borrow x y j - dg y j < 0
    · simp (disch := omega) [go_sem, tab120, nil120, gt_D, dgs_len, dgs_take, hb]
    · simp (disch := omega) [go_sem, tab120, nil120, gt_D, dgs_len, dgs_take, hb]
  · have := dg_len (x := y) (i := j) (by omega)
    rw [this]
    by_cases hb : dg x j - borrow x y j - 0 < 0
    · simp (disch := omega) [go_sem, tab120, nil120, gt_D, dgs_len, dgs_take]
    · simp (disch := omega) [go_sem, tab120, nil120, gt_D, dgs_len, dgs_take]
theorem sub_x (call : CallV) (hx : (D x).length < 1000000) :
    vCode Tryd.prog kn call 120 (loopAt Tryd.f120 0) (subS x y (D x).length).1 (subS x y (D x).length).2 = some (.exit 0, (subS x y (D x).length).1 ++ [(13, some (.bool false))], (subS x y (D x).length).2) := by
  rw [round_v]; simp only [loopAt, nthC, bodyC, loops, List.nil_append, List.cons_append, List.append_nil, Tryd.f120, subS]
  simp (disch := omega) [go_sem, tab120, nil120, dgs_len]
theorem l2sub_v (d : Nat) (hxy : y ≤ x) (hx : (D x).length < 1000000) :
    vrun Tryd.prog kn (d + 2) 120 [.agg [.ints .i64 (D x)], .agg [.ints .i64 (D y)]] [] = some (.agg [.ints .i64 (D (x - y))], []) := by
  have hl0 := fun ks => loop_v (P := Tryd.prog) (K := kn) (ks := ks) (vi_for (subS x y) (D x).length (by rw [k_cf, c_rounds]; omega) (sub_r (vrun Tryd.prog kn (d + 1)) hxy hx) fun m => vi_exit (sub_x _ hx))
  simp only [loopAt, nthC, bodyC, loops, List.nil_append, List.cons_append, List.append_nil, Tryd.f120, subS, dgs, borrow_zero, Int.natCast_zero] at hl0
  have c2 : x - y < 65536 ^ (D x).length := Nat.lt_of_le_of_lt (Nat.sub_le _ _) (lt_len_D x)
  have hn := l2norm_v d (l := dgs (x - y) (D x).length) (v := x - y) (by rw [dgs_len]; omega) (dgs_good _ _) (by rw [dgs_val, lo_len (lt_pow_len c2)])
  rw [vrun_v Tryd.func120 rfl rfl rfl]; simp only [Tryd.f120]
  simp (disch := omega) [go_sem, tab120, nil120, hl0, dgs_len, dgs_take, hn]
end
section
variable {x y : Nat}
/-- A row of a product. -/
theorem mul_in {body : VE → VH → Option (AX × VE × VH)} {S : List Int → Int → Nat → VE × VH} {E : List Int → Int → VE × VH} {ex i N : Nat}
    (hs : ∀ (out : List Int) (c : Int) (j : Nat), j < (D y).length → out.length = N → 0 ≤ c → c < 65536 → 0 ≤ gt out (i + j) → gt out (i + j) < 65536 → 0 ≤ dg x i * dg y j → dg x i * dg y j ≤ 4294836225 →
      body (S out c j).1 (S out c j).2 = some (.norm, S (out.set (i + j) ((c + (gt out (i + j) + dg x i * dg y j)) % 65536)) ((c + (gt out (i + j) + dg x i * dg y j)) / 65536) (j + 1)))
    (hx : ∀ (out : List Int) (c : Int), out.length = N → body (S out c (D y).length).1 (S out c (D y).length).2 = some (.exit ex, E out c)) (hN : i + (D y).length < N) (v0 : Int) (d : Nat) :
    ∀ (j n : Nat) (out : List Int) (c : Int), j + d = (D y).length → d < n → GoodL out → out.length = N → 0 ≤ c → c < 65536 → out.getD (i + (D y).length) 0 = 0 →
      val out + 65536 ^ i * 65536 ^ j * c = v0 + 65536 ^ i * dg x i * lo y j →
    ∃ out' c', viter body n (S out c j).1 (S out c j).2 = some (.exit ex, E out' c') ∧ out'.length = N ∧ gt out' (i + (D y).length) = 0 ∧ 0 ≤ c' ∧ c' < 65536 ∧ GoodL (out'.set (i + (D y).length) c') ∧ val (out'.set (i + (D y).length) c') = v0 + 65536 ^ i * dg x i * y := by
  induction d with
  | zero =>
    intro j n out c hj hn hg hl h0 h1 hz hv
    obtain ⟨n, rfl⟩ : ∃ m, n = m + 1 := ⟨n - 1, by omega⟩
    obtain rfl : j = (D y).length := by omega
    refine ⟨out, c, vi_exit (hx out c hl), hl, hz, h0, h1, hg.set _ h0 h1, ?_⟩
    rw [val_set (by omega), hz, Int.pow_add]
    rw [lo_len (by omega)] at hv
    grind
  | succ d ih =>
    intro j n out c hj hn hg hl h0 h1 hz hv
    obtain ⟨n, rfl⟩ : ∃ m, n = m + 1 := ⟨n - 1, by omega⟩
    have b1 := dg_bd x i
    have b2 := dg_bd y j
    have e2 := lo_succ y j
    have bm := mul_bd b1 b2
    have bo := hg.getD (i + j)
    have bo0 : 0 ≤ gt out (i + j) := bo.1
    have bo1 : gt out (i + j) < 65536 := bo.2
    rw [vi_norm (hs out c j (by omega) hl h0 h1 bo0 bo1 bm.1 bm.2)]
    exact ih (j + 1) n (out.set (i + j) ((c + (gt out (i + j) + dg x i * dg y j)) % 65536)) ((c + (gt out (i + j) + dg x i * dg y j)) / 65536) (by omega) (by omega) (hg.set _ (by omega) (by omega)) (by rw [List.length_set]; exact hl) (by omega) (by omega) (by rw [getD_set_ne_ (by omega)]; exact hz) (by
      rw [e2, Int.pow_succ]
      refine step_mul hv rfl ?_
      rw [val_set (by omega), Int.pow_add]; rfl)
theorem row_zero {x y i : Nat} {out : List Int} (hg : GoodL out) (hv : val out = lo x i * y) : out.getD (i + (D y).length) 0 = 0 := by
  refine getD_zero_of_lt hg ?_
  rw [hv, Int.pow_add]
  have h1 := lo_lt x i
  have h2 : (y : Int) < 65536 ^ (D y).length := by rw [← pow_cast]; exact Int.ofNat_lt.2 (lt_len_D y)
  have h3 := lo_nonneg x i
  have h4 := pow_pos' i
  exact Int.lt_of_le_of_lt (Int.mul_le_mul_of_nonneg_right (Int.le_of_lt h1) (by omega)) (Int.mul_lt_mul_of_pos_left h2 h4)
theorem mul_out {body : VE → VH → Option (AX × VE × VH)} {S : List Int → Nat → VE × VH} {E : List Int → VE × VH} {ex N : Nat}
    (hs : ∀ (out : List Int) (j : Nat), j < (D x).length → GoodL out → out.length = N → val out = lo x j * y → ∃ out', body (S out j).1 (S out j).2 = some (.norm, S out' (j + 1)) ∧ GoodL out' ∧ out'.length = N ∧ val out' = lo x (j + 1) * y)
    (hx : ∀ (out : List Int), out.length = N → body (S out (D x).length).1 (S out (D x).length).2 = some (.exit ex, E out)) (d : Nat) :
    ∀ (j n : Nat) (out : List Int), j + d = (D x).length → d < n → GoodL out → out.length = N → val out = lo x j * y →
    ∃ out', viter body n (S out j).1 (S out j).2 = some (.exit ex, E out') ∧ GoodL out' ∧ out'.length = N ∧ val out' = ((x * y : Nat) : Int) := by
  induction d with
  | zero =>
    intro j n out hj hn hg hl hv
    obtain ⟨n, rfl⟩ : ∃ m, n = m + 1 := ⟨n - 1, by omega⟩
    obtain rfl : j = (D x).length := by omega
    exact ⟨out, vi_exit (hx out hl), hg, hl, by rw [hv, lo_len (by omega), ← Int.natCast_mul]⟩
  | succ d ih =>
    intro j n out hj hn hg hl hv
    obtain ⟨n, rfl⟩ : ∃ m, n = m + 1 := ⟨n - 1, by omega⟩
    obtain ⟨out', hr, hg', hl', hv'⟩ := hs out j (by omega) hg hl hv
    rw [vi_norm hr]
    exact ih (j + 1) n out' (by omega) (by omega) hg' hl' hv'
def timesI (x y i : Nat) (out : List Int) (c : Int) (j : Nat) : VE × VH := ([(1, some (.ints .i64 (D y))), (5, some (.sl 0 0 ((D x).length + (D y).length) 1)), (6, some (.int .i64 i)), (7, some (.int .i64 (dg x i))), (8, some (.int .i64 c)), (17, some (.ints .i64 (D x))), (18, some (.int .i64 (D x).length)), (19, some (.int .i64 i)), (24, some (.ints .i64 (D y))), (25, some (.int .i64 (D y).length)), (26, some (.int .i64 j))], [.ints true .i64 out])
def timesS (x y : Nat) (out : List Int) (j : Nat) : VE × VH := ([(1, some (.ints .i64 (D y))), (5, some (.sl 0 0 ((D x).length + (D y).length) 1)), (17, some (.ints .i64 (D x))), (18, some (.int .i64 (D x).length)), (19, some (.int .i64 j))], [.ints true .i64 out])
theorem times_v (d : Nat) (hx : (D x).length < 1000000) (hy : (D y).length < 1000000) :
    vrun Tryd.prog kn (d + 2) 69 [.ints .i64 (D x), .ints .i64 (D y)] [] = some (.sl 0 0 (D (x * y)).length 1, [.ints true .i64 (D (x * y))]) := by
  obtain ⟨out, hl, hg, hol, hv⟩ := mul_out (x := x) (y := y) (N := (D x).length + (D y).length) (ex := 0) (S := timesS x y) (E := fun out => ((timesS x y out (D x).length).1 ++ [(20, some (.bool false))], [.ints true .i64 out])) (body := vCode Tryd.prog kn (vrun Tryd.prog kn (d + 1)) 69 (loopAt Tryd.f69 0))
    (fun out i hi hg hol hv => by
      obtain ⟨out', c', hl, hol', hz', hc0, hc1, hg', hv'⟩ := mul_in (x := x) (y := y) (i := i) (ex := 2) (N := (D x).length + (D y).length) (S := timesI x y i) (E := fun out c => ((timesI x y i out c (D y).length).1 ++ [(27, some (.bool false))], [.ints true .i64 out])) (body := vCode Tryd.prog kn (vrun Tryd.prog kn (d + 1)) 69 (loopAt Tryd.f69 1))
        (fun out c j hj hol h0 h1 o0 o1 p0 p1 => by
          rw [round_v]; simp only [loopAt, nthC, bodyC, loops, List.nil_append, List.cons_append, List.append_nil, Tryd.f69, timesI]
          have e : ((i : Int) + (j : Int)).toNat = i + j := by omega
          simp (disch := omega) [go_sem, tab69, nil69, gt_D, hol, e])
        (fun out c hol => by
          rw [round_v]; simp only [loopAt, nthC, bodyC, loops, List.nil_append, List.cons_append, List.append_nil, Tryd.f69, timesI]
          simp (disch := omega) [go_sem, tab69, nil69, hol])
        (by omega) (lo x i * y) (D y).length 0 kn.cf.rounds out 0 (by omega) (by rw [k_cf, c_rounds]; omega) hg hol (by omega) (by omega) (row_zero hg hv) (by rw [lo_zero, hv]; grind)
      have hl0 := fun ks => loop_v (P := Tryd.prog) (K := kn) (ks := ks) hl
      simp only [loopAt, nthC, bodyC, loops, List.nil_append, List.cons_append, List.append_nil, Tryd.f69, timesI, Int.natCast_zero, List.cons_append, List.nil_append] at hl0
      refine ⟨_, ?_, hg', by rw [List.length_set]; exact hol', by rw [hv', lo_succ]; grind⟩
      rw [round_v]; simp only [loopAt, nthC, bodyC, loops, List.nil_append, List.cons_append, List.append_nil, Tryd.f69, timesS]
      have e : ((i : Int) + ((D y).length : Int)).toNat = i + (D y).length := by omega
      simp (disch := omega) [go_sem, tab69, nil69, gt_D, hl0, hol, hol', e])
    (fun out hol => by
      rw [round_v]; simp only [loopAt, nthC, bodyC, loops, List.nil_append, List.cons_append, List.append_nil, Tryd.f69, timesS]
      simp (disch := omega) [go_sem, tab69, nil69, hol])
    (D x).length 0 kn.cf.rounds (List.replicate ((D x).length + (D y).length) 0) (by omega) (by rw [k_cf, c_rounds]; omega) (GoodL.zeros _) (by simp) (by rw [val_zeros, lo_zero]; simp)
  have hl0 := fun ks => loop_v (P := Tryd.prog) (K := kn) (ks := ks) hl
  simp only [loopAt, nthC, bodyC, loops, List.nil_append, List.cons_append, List.append_nil, Tryd.f69, timesS, Int.natCast_zero, List.cons_append, List.nil_append] at hl0
  have ht := trim0_v d (l := out) (n := (D x).length + (D y).length) (v := x * y) (by omega) (by omega) hg hv
  obtain ⟨-, htk, hle⟩ := tl_D hg (l := out) (v := x * y) hv
  have e : ((D x).length + (D y).length : Int).toNat = (D x).length + (D y).length := by omega
  rw [vrun_v Tryd.func69 rfl rfl rfl]; simp only [Tryd.f69]
  simp (disch := omega) [go_sem, tab69, nil69, hl0, ht, htk, hol, e]
def mulI (x y i : Nat) (out : List Int) (c : Int) (j : Nat) : VE × VH := ([(2, some (.ptr 0 0)), (3, some (.ptr 1 0)), (4, some (.ptr 2 0)), (5, some (.sl 3 0 ((D x).length + (D y).length) 1)), (6, some (.int .i64 i)), (7, some (.int .i64 c)), (8, some (.int .i64 j))], [.vals true [.ints .i64 (D x)], .vals true [.ints .i64 (D y)], .vals true [.nil], .ints true .i64 out])
def mulS (x y : Nat) (out : List Int) (j : Nat) : VE × VH := ([(2, some (.ptr 0 0)), (3, some (.ptr 1 0)), (4, some (.ptr 2 0)), (5, some (.sl 3 0 ((D x).length + (D y).length) 1)), (6, some (.int .i64 j))], [.vals true [.ints .i64 (D x)], .vals true [.ints .i64 (D y)], .vals true [.nil], .ints true .i64 out])
theorem l2mul_v (d : Nat) (hx : (D x).length < 1000000) (hy : (D y).length < 1000000) :
    vrun Tryd.prog kn (d + 2) 117 [.agg [.ints .i64 (D x)], .agg [.ints .i64 (D y)]] [] = some (.agg [.ints .i64 (D (x * y))], []) := by
  obtain ⟨out, hl, hg, hol, hv⟩ := mul_out (x := x) (y := y) (N := (D x).length + (D y).length) (ex := 0) (S := mulS x y) (E := fun out => ((mulS x y out (D x).length).1 ++ [(22, some (.bool false))], (mulS x y out 0).2)) (body := vCode Tryd.prog kn (vrun Tryd.prog kn (d + 1)) 117 (loopAt Tryd.f117 0))
    (fun out i hi hg hol hv => by
      obtain ⟨out', c', hl, hol', hz', hc0, hc1, hg', hv'⟩ := mul_in (x := x) (y := y) (i := i) (ex := 2) (N := (D x).length + (D y).length) (S := mulI x y i) (E := fun out c => ((mulI x y i out c (D y).length).1 ++ [(29, some (.bool false))], (mulI x y i out c 0).2)) (body := vCode Tryd.prog kn (vrun Tryd.prog kn (d + 1)) 117 (loopAt Tryd.f117 1))
        (fun out c j hj hol h0 h1 o0 o1 p0 p1 => by
          rw [round_v]; simp only [loopAt, nthC, bodyC, loops, List.nil_append, List.cons_append, List.append_nil, Tryd.f117, mulI]
          have e : ((i : Int) + (j : Int)).toNat = i + j := by omega
          have e3 : gt out (i + j) + dg x i * dg y j + c = c + (gt out (i + j) + dg x i * dg y j) := by omega
          simp (disch := omega) [go_sem, tab117, gt_D, hol, e, e3])
        (fun out c hol => by
          rw [round_v]; simp only [loopAt, nthC, bodyC, loops, List.nil_append, List.cons_append, List.append_nil, Tryd.f117, mulI]
          simp (disch := omega) [go_sem, tab117, hol])
        (by omega) (lo x i * y) (D y).length 0 kn.cf.rounds out 0 (by omega) (by rw [k_cf, c_rounds]; omega) hg hol (by omega) (by omega) (row_zero hg hv) (by rw [lo_zero, hv]; grind)
      have hl0 := fun ks => loop_v (P := Tryd.prog) (K := kn) (ks := ks) hl
      simp only [loopAt, nthC, bodyC, loops, List.nil_append, List.cons_append, List.append_nil, Tryd.f117, mulI, Int.natCast_zero, List.cons_append, List.nil_append] at hl0
      refine ⟨_, ?_, hg', by rw [List.length_set]; exact hol', by rw [hv', lo_succ]; grind⟩
      rw [round_v]; simp only [loopAt, nthC, bodyC, loops, List.nil_append, List.cons_append, List.append_nil, Tryd.f117, mulS]
      have e : ((i : Int) + ((D y).length : Int)).toNat = i + (D y).length := by omega
      simp (disch := omega) [go_sem, tab117, gt_D, hl0, hol, hol', e, hz'])
    (fun out hol => by
      rw [round_v]; simp only [loopAt, nthC, bodyC, loops, List.nil_append, List.cons_append, List.append_nil, Tryd.f117, mulS]
      simp (disch := omega) [go_sem, tab117, hol])
    (D x).length 0 kn.cf.rounds (List.replicate ((D x).length + (D y).length) 0) (by omega) (by rw [k_cf, c_rounds]; omega) (GoodL.zeros _) (by simp) (by rw [val_zeros, lo_zero]; simp)
  have hl0 := fun ks => loop_v (P := Tryd.prog) (K := kn) (ks := ks) hl
  simp only [loopAt, nthC, bodyC, loops, List.nil_append, List.cons_append, List.append_nil, Tryd.f117, mulS, Int.natCast_zero, List.cons_append, List.nil_append] at hl0
  have hn := l2norm_v d (l := out) (v := x * y) (by omega) hg hv
  have e : ((D x).length + (D y).length : Int).toNat = (D x).length + (D y).length := by omega
  have htk : out.take ((D x).length + (D y).length) = out := List.take_of_length_le (by omega)
  rw [vrun_v Tryd.func117 rfl rfl rfl]; simp only [Tryd.f117]
  simp (disch := omega) [go_sem, tab117, hl0, hn, hol, e, htk]
end
end Go.Eng
