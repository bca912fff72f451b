/- Division: the whole. No conditions. -/
import Derived.Test.YtnkhamahhgfbhaaDoorDiv4
set_option linter.unusedVariables false
set_option linter.unusedSimpArgs false
namespace Go.Eng
open Go.Proofs
set_option maxRecDepth 100000
set_option linter.unusedSimpArgs false
attribute [local go_sem] r_seq r_skip r_retC r_exitC r_label r_block r_region r_regionW r_xWt r_xW r_cond r_Bt r_Bf r_Ncode r_Nret r_Nexit r_Nblk r_Nblkr r_Nblke r_Nnil r_Es r_Onil r_Oop r_Oif r_Xs r_Gt r_Gf r_wtt r_wtf r_wft r_wff r_wu r_gO r_putS r_putN r_get r_keepN r_keepC r_fr r_fn r_fi r_ff r_fo r_l1 r_l2t r_cun r_cul r_cub r_cui r_cus r_cuis r_cuc r_cusl r_cuti r_cutv r_ven r_vec r_l2f r_l3 r_t1 r_t2 r_t0 r_rt r_rc r_en r_ec r_cM r_oN r_oC r_end r_endt r_endf r_nob0 r_nobN r_nobC r_nobE r_nb0 r_nbi r_nbs r_nbsl r_nbin r_nbce r_nLn r_nLv r_nLc r_nAa r_nAn r_nAk_b r_nAk_i r_nAk_s r_nAk_n r_nAk_is r_nAk_ce r_nAk_fp r_nAk_sl r_nAk_pt r_nAk_fn r_nsn r_nsv r_nsc r_m0 r_mi r_ms r_msl r_min r_mce r_mLn r_mLv r_mLc r_mAa r_mAn r_mAk_b r_mAk_i r_mAk_s r_mAk_n r_mAk_is r_mAk_ce r_mAk_fp r_mAk_sl r_mAk_pt r_mAk_fn r_msn r_msv r_msc r_atb r_ati r_ats r_atn r_atis r_atc r_atf r_atl r_atp r_atfn r_gcn r_gcc r_gLn r_gLc r_gIt r_ndn r_ndc r_gcB r_gLB r_two r_rea r_rea0 r_re1n r_re1c r_ori r_orv r_ord r_orn r_adn r_adc r_ad1 r_ern r_ers r_er0 r_rsl r_rptr r_rb r_ri r_rs r_rn r_ris r_rce r_rfp r_ra4 r_ra3 r_rt4 r_rf4 r_rf3 r_idS r_idc r_nS r_nP r_nF r_nT r_vsl r_vptr r_vb r_vi r_vs r_vn r_vis r_vce r_vfp r_va4 r_va3 r_vt4 r_vf4 r_vf3 r_rV r_Oi r_Ov r_Od r_rE r_rE0 r_En r_Ec r_E0 r_pO r_pk r_agL r_cO r_fO r_fSi r_fSv r_fPv r_fsl r_fptr r_ffn r_fag r_fb r_fint r_fstr r_fnil r_fis r_fce r_ffp r_res r_move r_assign r_pick r_pickt r_pickf r_alloc r_box r_al r_build r_bslice r_load r_store r_nlc r_nl1 r_nl2 r_bin r_un r_conv r_mkf r_mks r_slc r_fad r_fld r_iad r_idx r_ext r_ex1 r_callf r_callt r_callen r_calapp r_calmax r_calmin r_vt r_vcb r_vci r_vcs r_vcn r_vca r_vcf r_vcg r_ofb r_ofi r_ofs r_ofn r_evs r_pn r_prt r_pc r_one_a r_one_b r_one_i r_one_s r_one_n r_one_is r_one_ce r_one_fp r_one_sl r_one_pt r_one_fn r_cs_a r_cs_b r_cs_i r_cs_s r_cs_n r_cs_is r_cs_ce r_cs_fp r_cs_sl r_cs_pt r_cs_fn r_tov r_tovA r_toc r_toa r_tb r_ti r_ts r_tn r_bd r_bd2 r_filn r_fp1 r_filc r_fsn r_fsc r_san r_sac r_bs2 r_bs1 r_newO r_mkq r_mkI r_mkOi r_mkOv r_tIn r_tIc r_repz r_repn r_ldp r_ldf r_l1t r_l1f r_lFt r_lFf r_aggO r_obj r_at r_ati' r_atv r_celli r_cellv r_subi r_subv r_sto r_sto1 r_sto2 r_sets r_setR r_setn r_setc r_s1i r_s1v r_bin1 r_bin2 r_tv1 r_cb r_ci r_cst r_cn r_csl r_cis r_cce r_uni r_unb r_cv r_cvi r_cvs r_cvb r_cvl r_sO r_rdn r_rdi r_rdl r_rdO r_vsub r_vfn r_mk r_mk1 r_mk2 r_zoi r_zov r_leni r_lenv r_bn r_bndV r_bo r_sl0 r_sl1 r_vsz r_ct1 r_cts r_cti r_ctc r_ctn r_lnl r_lni r_lnc r_lnn r_fa r_fap r_faf r_fi1 r_fit r_fif r_ixi r_ixs r_ixc r_ixf r_ixF r_ixF2 r_ix1 r_ixsl r_ixin r_ixce r_len1 r_lenA r_lTs r_lTn r_lTl r_lTi r_lTc r_app0 r_app r_app1 r_app2 r_app3 r_catO r_cati r_catv r_newt r_newf r_pair r_pairK r_trip r_kis r_kiv r_srn r_srl r_sri r_src r_srs r_oln r_oll r_vw r_wi r_wv r_mm r_max r_min' r_str r_cF r_c2t r_c3f r_c3t r_ab r_c2f r_cV r_p1 r_la r_la2t r_la2f r_la3 r_sh r_z_is r_z_ce r_z_fp r_z_b r_z_i r_z_s r_z_n r_z_l r_z_p r_z_a4 r_z_a3 r_z_t4 r_zoI r_zoV r_roN r_roC r_roi r_rod r_zod r_rov r_aR r_trOi r_trOv r_trPv r_trl r_trp r_trf r_tra r_trb r_tri r_trs r_trn r_tris r_trce r_trfp
attribute [local go_sem] b_add b_sub b_mul b_quo b_rem b_shl b_shr b_eql b_neq b_lss b_leq b_gtr b_geq eqB_s b_eqB b_neB u_neg u_not b_nn b_nn' eqS_s zerosT_s zerosT_n zt_i zt_sl zt_st dstOf_z dstOf_n iltT iltF ileT ileF ieqT ieqF nltT nltF nleT nleF neqT neqF tdiv_pos tmod_pos w64 idx0 List.take_of_length_le
open Num
section
variable {X V n L M j : Nat} {s : Int}
def divS (X V L M : Nat) (s : Int) (j : Nat) : VE × VH := ([(8, some (.int .i64 s)), (9, some (.sl 0 0 (D V).length 1)), (10, some (.sl 1 0 L 1)), (11, some (.sl 2 0 M 1)), (12, some (.int .i64 ((j : Int) - 1)))], [.ints true .i64 (D V), .ints true .i64 (dgs (X % (V * 65536 ^ j)) L), .ints true .i64 (hi (X / V) M j)])
theorem div_r (d : Nat) (h : Rdv X V n L j) (hL : L < 1000000) (hM : M < 1000000) (hj : j < M) :
    vCode Tryd.prog kn (vrun Tryd.prog kn (d + 2 + 1)) 129 (loopAt Tryd.f129 0) (divS X V L M s (j + 1)).1 (divS X V L M s (j + 1)).2 = some (.norm, divS X V L M s j) := by
  have hjl := h.jl
  have hvl := h.Vl
  have hn2 := h.n2
  have hul : (dgs (X % (V * 65536 ^ (j + 1))) L).length = L := dgs_len _ _
  have hgu : GoodL (dgs (X % (V * 65536 ^ (j + 1))) L) := dgs_good _ _
  obtain ⟨q, hq, q0, q1, g1, g2⟩ := digitOf_v (u := dgs (X % (V * 65536 ^ (j + 1))) L) (v := D V) (j := j) (n := n) (d + 2) hn2 hvl (by omega) (by omega) hgu (good_D V) h.kt
  have hg := h.gs g1 g2
  have ht := takeAway_v (u := dgs (X % (V * 65536 ^ (j + 1))) L) (v := D V) (j := j) (q := q) (d + 2) (o := hi (X / V) M (j + 1)) hgu (good_D V) q0 q1 (by omega) (by omega)
  obtain ⟨o1, o2, o3, o4, o5, o6⟩ := h.out q0 q1 hg rfl rfl rfl
  rw [← hvl] at o1 o2 o3 o4 o5 o6
  have hb := dg_bd (X / V) j
  have hol := hi_len (q := X / V) (n := M) (i := j + 1) (by omega)
  have hset := hi_set (q := X / V) (n := M) (i := j) hj
  clear g1 g2 hg
  generalize hz : gt (dgs (X % (V * 65536 ^ (j + 1))) L) (j + (D V).length) - (tkS (dgs (X % (V * 65536 ^ (j + 1))) L) (D V) j q (D V).length).2 = z at *
  generalize hZ : (tkS (dgs (X % (V * 65536 ^ (j + 1))) L) (D V) j q (D V).length).1.set (j + (D V).length) z = Z at *
  have e0 : (((j + 1 : Nat) : Int) - 1) = j := by omega
  rw [hul] at ht
  rw [round_v]; simp only [loopAt, nthC, bodyC, loops, List.nil_append, List.cons_append, List.append_nil, Tryd.f129, divS, e0]
  rcases o6 with ⟨r1, r2, r3⟩ | ⟨r1, r2, r3⟩
  · rw [← r3]
    rw [← r1] at hset
    generalize dgs (X % (V * 65536 ^ (j + 1))) L = u at *
    generalize hi (X / V) M (j + 1) = o at *
    generalize hi (X / V) M j = o' at *
    generalize D V = v at *
    rw [decide_eq_false r2] at ht
    clear r3 o2
    simp (implicitDefEqProofs := false) (disch := omega) [go_sem, tab129, nil129, hul, hq, ht, hol, hset]
  · rw [← r3]
    rw [← r1] at hset
    have ha := addBack_v (u := Z) (v := D V) (j := j) (d + 2) (o := hi (X / V) M (j + 1)) o2 (good_D V) (by omega) (by omega) (by omega) (by omega)
    rw [o3, o1] at ha
    generalize hY : (adS Z (D V) j (D V).length).1.set (j + (D V).length) (z + (adS Z (D V) j (D V).length).2) = Y at *
    generalize dgs (X % (V * 65536 ^ (j + 1))) L = u at *
    generalize hi (X / V) M (j + 1) = o at *
    generalize hi (X / V) M j = o' at *
    generalize D V = v at *
    rw [decide_eq_true r2] at ht
    clear r3 o2 hY
    simp (implicitDefEqProofs := false) (disch := omega) [go_sem, tab129, nil129, hul, hq, ht, ha, hol, hset]
theorem div_x (call : CallV) :
    vCode Tryd.prog kn call 129 (loopAt Tryd.f129 0) (divS X V L M s 0).1 (divS X V L M s 0).2 = some (.exit 0, (divS X V L M s 0).1 ++ [(68, some (.bool false))], (divS X V L M s 0).2) := by
  rw [round_v]; simp only [loopAt, nthC, bodyC, loops, List.nil_append, List.cons_append, List.append_nil, Tryd.f129, divS]
  simp (implicitDefEqProofs := false) (disch := omega) [go_sem, tab129, nil129]
end
theorem trim1_v (d : Nat) {l : List Int} {n v : Nat} (hl : l.length < 1000000000) (hn : n = l.length) (hg : GoodL l) (hv : val l = v) (a b : VO) :
    vrun Tryd.prog kn (d + 1) 106 [.sl 1 0 n 1] [a, .ints false .i64 l, b] = some (.sl 1 0 (D v).length 1, [a, .ints false .i64 l, b]) := by
  rw [trim_v d (h := [a, .ints false .i64 l, b]) (i := 1) (w := false) (l := l) rfl hl n hn, (tl_D hg hv).1]
section
variable {x y : Nat}
theorem dgs_pad {X L : Nat} (h : X < 65536 ^ L) : D X ++ List.replicate (L - (D X).length) 0 = dgs X L := by
  have hl : (D X).length ≤ L := len_D_le.2 h
  refine good_dgs ((good_D X).append (GoodL.zeros _)) (by simp; omega) ?_
  rw [val_append, val_zeros, val_D]; omega
set_option maxHeartbeats 4000000 in
theorem divide_v (d : Nat) (hx : (D x).length < 400000) (hy : (D y).length < 400000) (h0 : y ≠ 0) :
    vrun Tryd.prog kn (d + 4) 129 [.ints .i64 (D x), .ints .i64 (D y)] [] = some (.tup [.sl 0 0 (D (x / y)).length 1, .sl 1 0 (D (x % y)).length 1], [.ints true .i64 (D (x / y)), .ints true .i64 (D (x % y))]) := by
  have h1 := fun d => compare_v (x := x) (y := y) d (by omega) (by omega)
  have hc := fun d => clone_v d (l := D x) (by omega)
  have hyl : 0 < (D y).length := List.length_pos_iff.2 fun e => h0 (D_nil_iff.1 e)
  by_cases hlt : x < y
  · have e1 : cmpI x y = -1 := by unfold cmpI; rw [if_pos hlt]
    rw [Nat.div_eq_of_lt hlt, Nat.mod_eq_of_lt hlt, D_zero]
    rw [e1] at h1
    rw [vrun_v Tryd.func129 rfl rfl rfl]; simp only [Tryd.f129]
    simp (implicitDefEqProofs := false) (disch := omega) [go_sem, tab129, nil129, h1, hc]
  have hge : ¬ cmpI x y < 0 := by unfold cmpI; rw [if_neg hlt]; split <;> omega
  by_cases hn1 : (D y).length = 1
  · have hy1 : y < 65536 := by have := lt_len_D y; rw [hn1] at this; omega
    have hd : D y = [(y : Int)] := by
      rw [D_pos h0, Nat.mod_eq_of_lt hy1, Nat.div_eq_of_lt hy1, D_zero]
    have h2 := fun d => divideSmall_v (z := x) (m := y) d (by omega) (by omega) (by omega)
    have h3 := fun d => small_v (n := x % y) d (by have := Nat.mod_lt x (show 0 < y by omega); omega)
    have hl1 := len_D_mono (Nat.div_le_self x y)
    have hl2 := len_D_mono (Nat.mod_le x y)
    rw [hd] at h1 ⊢
    generalize D (x / y) = Q at *
    generalize D (x % y) = R at *
    generalize ((x % y : Nat) : Int) = r at *
    generalize cmpI x y = c at *
    generalize D x = l at *
    have hg0 : gt [(y : Int)] 0 = y := rfl
    rw [vrun_v Tryd.func129 rfl rfl rfl]; simp only [Tryd.f129]
    simp (implicitDefEqProofs := false) (disch := omega) [go_sem, tab129, nil129, h1, h2, h3, hg0]
  -- the long way
  have hn2 : 2 ≤ (D y).length := by omega
  generalize hn : (D y).length = n at *
  generalize htop : y / 65536 ^ (n - 1) = top
  have hyn : y < 65536 ^ n := by rw [← hn]; exact lt_len_D y
  have hpn : 65536 ^ n = 65536 ^ (n - 1) * 65536 := by rw [← Nat.pow_succ]; congr 1; omega
  have htl : top < 65536 := by rw [← htop, Nat.div_lt_iff_lt_mul (powN_pos _), Nat.mul_comm, ← hpn]; exact hyn
  have hyl1 : 65536 ^ (n - 1) ≤ y := by have := le_of_len_D h0; rwa [hn] at this
  have ht0 : top ≠ 0 := by rw [← htop]; have := Nat.div_pos hyl1 (powN_pos (n - 1)); omega
  obtain ⟨hb1, hb2⟩ := nb_le ht0
  have hb3 := nb_lt top
  have hb4 := nb_16 htl
  generalize hk : nb top = k at *
  generalize hs : 16 - k = s
  have hsk : 2 ^ k * 2 ^ s = 65536 := by rw [← Nat.pow_add, show k + s = 16 by omega]
  have hsk1 : 2 ^ (k - 1) * 2 ^ s = 32768 := by rw [← Nat.pow_add, show k - 1 + s = 15 by omega]
  have htm : top * 2 ^ s < 65536 := by rw [← hsk]; exact Nat.mul_lt_mul_of_pos_right hb3 (Nat.two_pow_pos _)
  have htm2 : 32768 ≤ top * 2 ^ s := by rw [← hsk1]; exact Nat.mul_le_mul_right _ hb1
  have hyd := Nat.div_add_mod y (65536 ^ (n - 1))
  rw [htop] at hyd
  have hym := Nat.mod_lt y (powN_pos (n - 1))
  have hVl : y * 2 ^ s < 65536 ^ n := by
    have h5 : (y + 1) * 2 ^ s ≤ (65536 ^ (n - 1) * (top + 1)) * 2 ^ s := Nat.mul_le_mul_right _ (by rw [Nat.mul_add, Nat.mul_one]; omega)
    have h6 : (65536 ^ (n - 1) * (top + 1)) * 2 ^ s ≤ 65536 ^ (n - 1) * 65536 := by
      rw [Nat.mul_assoc]; refine Nat.mul_le_mul_left _ ?_
      rw [← hsk]; exact Nat.mul_le_mul_right _ hb3
    have h7 := Nat.two_pow_pos s
    rw [Nat.add_mul, Nat.one_mul] at h5
    rw [hpn]; omega
  have hVy : y ≤ y * 2 ^ s := Nat.le_mul_of_pos_right _ (Nat.two_pow_pos _)
  have hVlen : (D (y * 2 ^ s)).length = n := by
    have a1 := len_D_le.2 hVl
    have a2 := len_D_mono hVy
    omega
  have hVtop : 32768 ≤ dg (y * 2 ^ s) (n - 1) := by
    have h5 : 32768 ≤ y * 2 ^ s / 65536 ^ (n - 1) := by
      rw [Nat.le_div_iff_mul_le (powN_pos _)]
      refine Nat.le_trans (Nat.mul_le_mul_right _ htm2) ?_
      rw [Nat.mul_right_comm]
      refine Nat.mul_le_mul_right _ ?_
      rw [Nat.mul_comm]; omega
    have h6 : y * 2 ^ s / 65536 ^ (n - 1) < 65536 := by rw [Nat.div_lt_iff_lt_mul (powN_pos _), Nat.mul_comm 65536, ← hpn]; exact hVl
    unfold dg; omega
  have hmn : n ≤ (D x).length := by have := len_D_mono (show y ≤ x by omega); omega
  generalize hm : (D x).length = m at *
  have hxm : x < 65536 ^ m := by rw [← hm]; exact lt_len_D x
  have hXl : x * 2 ^ s < 65536 ^ (m + 1) := by
    rw [Nat.pow_succ]
    refine Nat.mul_lt_mul_of_lt_of_le hxm ?_ (by omega)
    rw [← hsk]; exact Nat.le_mul_of_pos_left _ (Nat.two_pow_pos _)
  have hXV : x * 2 ^ s < y * 2 ^ s * 65536 ^ (m - n + 1) := by
    rw [Nat.mul_right_comm]
    refine Nat.mul_lt_mul_of_pos_right ?_ (Nat.two_pow_pos _)
    refine Nat.lt_of_lt_of_le hxm ?_
    refine Nat.le_trans ?_ (Nat.mul_le_mul_right _ hyl1)
    rw [← Nat.pow_add]; exact Nat.pow_le_pow_right (by omega) (by omega)
  have hQ : x * 2 ^ s / (y * 2 ^ s) = x / y := Nat.mul_div_mul_right _ _ (Nat.two_pow_pos _)
  have hR : x * 2 ^ s % (y * 2 ^ s) / 2 ^ s = x % y := by rw [Nat.mul_mod_mul_right, Nat.mul_div_cancel _ (Nat.two_pow_pos _)]
  have hRl : x * 2 ^ s % (y * 2 ^ s) < 65536 ^ (m + 1) := Nat.lt_of_le_of_lt (Nat.mod_le _ _) hXl
  have hQl : x / y < 65536 ^ (m - n + 1) := by
    rw [Nat.div_lt_iff_lt_mul (by omega)]
    refine Nat.lt_of_lt_of_le hxm ?_
    refine Nat.le_trans ?_ (Nat.mul_le_mul_left _ hyl1)
    rw [← Nat.pow_add]; exact Nat.pow_le_pow_right (by omega) (by omega)
  have u1 := fun d => up_v (x := y) (k := s) d (by omega) (by omega)
  have u2 := fun d => up_v (x := x) (k := s) d (by omega) (by omega)
  have hXlen : (D (x * 2 ^ s)).length ≤ m + 1 := len_D_le.2 hXl
  have hpad := dgs_pad hXl
  have hlen := fun d => Len_v (x := top) d htl
  rw [hk] at hlen
  have hdt : gt (D y) (n - 1) = (top : Int) := by rw [gt_D]; unfold dg; rw [htop, Nat.mod_eq_of_lt htl]
  have hwu : IntKind.wrap .u64 (top : Int) = top := by simp [IntKind.wrap, IntKind.bits, IntKind.signed]; omega
  have hl0 := fun ks => loop_v (P := Tryd.prog) (K := kn) (ks := ks) (e := (divS (x * 2 ^ s) (y * 2 ^ s) (m + 1) (m - n + 1) s (m - n + 1)).1) (h := (divS (x * 2 ^ s) (y * 2 ^ s) (m + 1) (m - n + 1) s (m - n + 1)).2) (c := loopAt Tryd.f129 0) (call := vrun Tryd.prog kn (d + 2 + 1)) (f := 129) (x := .exit 0) (e' := (divS (x * 2 ^ s) (y * 2 ^ s) (m + 1) (m - n + 1) s 0).1 ++ [(68, some (.bool false))]) (h' := (divS (x * 2 ^ s) (y * 2 ^ s) (m + 1) (m - n + 1) s 0).2) (by
    have key : ∀ i N, i ≤ m - n + 1 → i < N → viter (vCode Tryd.prog kn (vrun Tryd.prog kn (d + 2 + 1)) 129 (loopAt Tryd.f129 0)) N (divS (x * 2 ^ s) (y * 2 ^ s) (m + 1) (m - n + 1) s i).1 (divS (x * 2 ^ s) (y * 2 ^ s) (m + 1) (m - n + 1) s i).2 = some (.exit 0, (divS (x * 2 ^ s) (y * 2 ^ s) (m + 1) (m - n + 1) s 0).1 ++ [(68, some (.bool false))], (divS (x * 2 ^ s) (y * 2 ^ s) (m + 1) (m - n + 1) s 0).2) := by
      intro i
      induction i with
      | zero => intro N _ hN; obtain ⟨N, rfl⟩ : ∃ q, N = q + 1 := ⟨N - 1, by omega⟩; exact vi_exit (div_x _)
      | succ i ih =>
        intro N h1 hN
        obtain ⟨N, rfl⟩ : ∃ q, N = q + 1 := ⟨N - 1, by omega⟩
        rw [vi_norm (div_r (n := n) d ⟨hn2, hVlen, hVtop, by omega, Nat.lt_of_le_of_lt (Nat.mod_le _ _) hXl⟩ (by omega) (by omega) (by omega))]
        exact ih N (by omega) (by omega)
    exact key _ _ (Nat.le_refl _) (by rw [k_cf, c_rounds]; omega))
  have hM0 : hi (x * 2 ^ s / (y * 2 ^ s)) (m - n + 1) (m - n + 1) = List.replicate (m - n + 1) 0 := by unfold hi; rw [List.drop_eq_nil_of_le (by rw [dgs_len]; omega), List.append_nil]
  have hM1 : hi (x * 2 ^ s / (y * 2 ^ s)) (m - n + 1) 0 = dgs (x / y) (m - n + 1) := by unfold hi; rw [List.replicate_zero, List.nil_append, List.drop_zero, hQ]
  simp only [loopAt, nthC, bodyC, loops, List.nil_append, List.cons_append, List.append_nil, Tryd.f129, divS, hM0, hM1, Nat.mod_eq_of_lt hXV, Nat.pow_zero, Nat.mul_one, hVlen, List.cons_append, List.nil_append, Int.natCast_zero, Int.zero_sub] at hl0
  have t2 := fun a b => trim2_v (a := a) (b := b) (d + 2) (l := dgs (x / y) (m - n + 1)) (n := m - n + 1) (v := x / y) (by rw [dgs_len]; omega) (by rw [dgs_len]) (dgs_good _ _) (by rw [dgs_val, lo_len (lt_pow_len hQl)])
  have t1 := fun a b => trim1_v (a := a) (b := b) (d + 2) (l := dgs (x * 2 ^ s % (y * 2 ^ s)) (m + 1)) (n := m + 1) (v := x * 2 ^ s % (y * 2 ^ s)) (by rw [dgs_len]; omega) (by rw [dgs_len]) (dgs_good _ _) (by rw [dgs_val, lo_len (lt_pow_len hRl)])
  have k1 := (dgs_tl hRl).2
  have k2 := (dgs_tl hQl).2
  have u3 := fun d => down_v (x := x * 2 ^ s % (y * 2 ^ s)) (k := s) d (by have := k1.2; omega) (by omega)
  rw [hR] at u3
  have e1 : ((n : Int) - 1).toNat = n - 1 := by omega
  have e2 : (16 : Int) - (k : Nat) = (s : Nat) := by omega
  have e3 : ((m : Int) + 1 - ((D (x * 2 ^ s)).length : Nat)).toNat = m + 1 - (D (x * 2 ^ s)).length := by omega
  have e4 : ((m : Int) - (n : Nat) + 1).toNat = m - n + 1 := by omega
  have d1 : (dgs (x / y) (m - n + 1)).length = m - n + 1 := dgs_len _ _
  have d2 : (dgs (x * 2 ^ s % (y * 2 ^ s)) (m + 1)).length = m + 1 := dgs_len _ _
  have d3 := len_D_mono (Nat.mod_le x y)
  have d4 : (List.replicate (m + 1 - (D (x * 2 ^ s)).length) (0 : Int)).length = m + 1 - (D (x * 2 ^ s)).length := List.length_replicate
  have d5 : (List.replicate (m - n + 1) (0 : Int)).length = m - n + 1 := List.length_replicate
  clear hXV hXl hsk hsk1 htm htm2 hyd hym hVl hVy hVtop hyn hpn hyl1 hQl hRl hxm hb1 hb3 hM0 hM1 hQ hR
  generalize hMM : m - n + 1 = M at *
  generalize cmpI x y = c at *
  generalize x * 2 ^ s % (y * 2 ^ s) = R at *
  generalize x * 2 ^ s = X at *
  generalize y * 2 ^ s = V at *
  generalize x / y = Q at *
  generalize x % y = r at *
  rw [vrun_v Tryd.func129 rfl rfl rfl]; simp only [Tryd.f129]
  simp (implicitDefEqProofs := false) (disch := omega) [go_sem, tab129, nil129, h1, hm, hn, hdt, hwu, hlen, e1, e2, e3, e4, u1, u2, hpad, hl0, t1, t2, k1, k2, u3, hVlen, d1, d2, d4, d5]
end
end Go.Eng
