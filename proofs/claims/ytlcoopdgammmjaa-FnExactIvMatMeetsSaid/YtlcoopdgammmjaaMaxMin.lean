/- The greatest and the least of some numbers. No conditions. -/
import Derived.Test.YtlcoopdgammmjaaIv2
set_option linter.unusedVariables false
set_option linter.unusedSimpArgs false
namespace Go.Eng
open Go.Proofs
set_option maxRecDepth 100000
set_option linter.unusedSimpArgs false
attribute [local go_sem] r_seq r_skip r_retC r_exitC r_label r_block r_region r_regionW r_xWt r_xW r_cond r_Bt r_Bf r_Ncode r_Nret r_Nexit r_Nblk r_Nblkr r_Nblke r_Nnil r_Es r_Onil r_Oop r_Oif r_Xs r_Gt r_Gf r_wtt r_wtf r_wft r_wff r_wu r_gO r_putS r_putN r_get r_keepN r_keepC r_fr r_fn r_fi r_ff r_fo r_l1 r_l2t r_cun r_cul r_cub r_cui r_cus r_cuis r_cuc r_cusl r_cuti r_cutv r_ven r_vec r_l2f r_l3 r_t1 r_t2 r_t0 r_rt r_rc r_en r_ec r_cM r_oN r_oC r_end r_endt r_endf r_nob0 r_nobN r_nobC r_nobE r_nb0 r_nbi r_nbs r_nbsl r_nbin r_nbce r_nLn r_nLv r_nLc r_nAa r_nAn r_nAk_b r_nAk_i r_nAk_s r_nAk_n r_nAk_is r_nAk_ce r_nAk_fp r_nAk_sl r_nAk_pt r_nAk_fn r_nsn r_nsv r_nsc r_m0 r_mi r_ms r_msl r_min r_mce r_mLn r_mLv r_mLc r_mAa r_mAn r_mAk_b r_mAk_i r_mAk_s r_mAk_n r_mAk_is r_mAk_ce r_mAk_fp r_mAk_sl r_mAk_pt r_mAk_fn r_msn r_msv r_msc r_atb r_ati r_ats r_atn r_atis r_atc r_atf r_atl r_atp r_atfn r_gcn r_gcc r_gLn r_gLc r_gIt r_ndn r_ndc r_gcB r_gLB r_two r_rea r_rea0 r_re1n r_re1c r_ori r_orv r_ord r_orn r_adn r_adc r_ad1 r_ern r_ers r_er0 r_rsl r_rptr r_rb r_ri r_rs r_rn r_ris r_rce r_rfp r_ra4 r_ra3 r_rt4 r_rf4 r_rf3 r_idS r_idc r_nS r_nP r_nF r_nT r_vsl r_vptr r_vb r_vi r_vs r_vn r_vis r_vce r_vfp r_va4 r_va3 r_vt4 r_vf4 r_vf3 r_rV r_Oi r_Ov r_Od r_rE r_rE0 r_En r_Ec r_E0 r_pO r_pk r_agL r_cO r_fO r_fSi r_fSv r_fPv r_fsl r_fptr r_ffn r_fag r_fb r_fint r_fstr r_fnil r_fis r_fce r_ffp r_res r_move r_assign r_pick r_pickt r_pickf r_alloc r_box r_al r_build r_bslice r_load r_store r_nlc r_nl1 r_nl2 r_bin r_un r_conv r_mkf r_mks r_slc r_fad r_fld r_iad r_idx r_ext r_ex1 r_callf r_callt r_callen r_calapp r_calmax r_calmin r_vt r_vcb r_vci r_vcs r_vcn r_vca r_vcf r_vcg r_ofb r_ofi r_ofs r_ofn r_evs r_pn r_prt r_pc r_one_a r_one_b r_one_i r_one_s r_one_n r_one_is r_one_ce r_one_fp r_one_sl r_one_pt r_one_fn r_cs_a r_cs_b r_cs_i r_cs_s r_cs_n r_cs_is r_cs_ce r_cs_fp r_cs_sl r_cs_pt r_cs_fn r_tov r_tovA r_toc r_toa r_tb r_ti r_ts r_tn r_bd r_bd2 r_filn r_fp1 r_filc r_fsn r_fsc r_san r_sac r_bs2 r_bs1 r_newO r_mkq r_mkI r_mkOi r_mkOv r_tIn r_tIc r_repz r_repn r_ldp r_ldf r_l1t r_l1f r_lFt r_lFf r_aggO r_obj r_at r_ati' r_atv r_celli r_cellv r_subi r_subv r_sto r_sto1 r_sto2 r_sets r_setR r_setn r_setc r_s1i r_s1v r_bin1 r_bin2 r_tv1 r_cb r_ci r_cst r_cn r_csl r_cis r_cce r_uni r_unb r_cv r_cvi r_cvs r_cvb r_cvl r_sO r_rdn r_rdi r_rdl r_rdO r_vsub r_vfn r_mk r_mk1 r_mk2 r_zoi r_zov r_leni r_lenv r_bn r_bndV r_bo r_sl0 r_sl1 r_vsz r_ct1 r_cts r_cti r_ctc r_ctn r_lnl r_lni r_lnc r_lnn r_fa r_fap r_faf r_fi1 r_fit r_fif r_ixi r_ixs r_ixc r_ixf r_ixF r_ixF2 r_ix1 r_ixsl r_ixin r_ixce r_len1 r_lenA r_lTs r_lTn r_lTl r_lTi r_lTc r_app0 r_app r_app1 r_app2 r_app3 r_catO r_cati r_catv r_newt r_newf r_pair r_pairK r_trip r_kis r_kiv r_srn r_srl r_sri r_src r_srs r_oln r_oll r_vw r_wi r_wv r_mm r_max r_min' r_str r_cF r_c2t r_c3f r_c3t r_ab r_c2f r_cV r_p1 r_la r_la2t r_la2f r_la3 r_sh r_z_is r_z_ce r_z_fp r_z_b r_z_i r_z_s r_z_n r_z_l r_z_p r_z_a4 r_z_a3 r_z_t4 r_zoI r_zoV r_roN r_roC r_roi r_rod r_zod r_rov r_aR r_trOi r_trOv r_trPv r_trl r_trp r_trf r_tra r_trb r_tri r_trs r_trn r_tris r_trce r_trfp
attribute [local go_sem] b_add b_sub b_mul b_quo b_rem b_shl b_shr b_eql b_neq b_lss b_leq b_gtr b_geq eqB_s b_eqB b_neB u_neg u_not b_nn b_nn' eqS_s zerosT_s zerosT_n zt_i zt_sl zt_st dstOf_z dstOf_n iltT iltF ileT ileF ieqT ieqF nltT nltF nleT nleF neqT neqF tdiv_pos tmod_pos w64 idx0 List.take_of_length_le
open Num
def exOk (x : DyT) : Prop := x.l = D x.n ∧ (D x.n).length < 100000 ∧ -100000 ≤ x.e ∧ x.e ≤ 100000
theorem exOk_of {x : DyT} (h : dyOkB x = true) : exOk x := by obtain ⟨h1, h2, h3, h4, _⟩ := ok_D h; exact ⟨h1, h2, h3, h4⟩
def mxF (m x : DyT) : DyT := if 0 < dcmp x m then x else m
def mnF (m x : DyT) : DyT := if dcmp x m < 0 then x else m
theorem mxF_ok {m x : DyT} (h : exOk m) (h' : exOk x) : exOk (mxF m x) := by unfold mxF; split <;> assumption
theorem mnF_ok {m x : DyT} (h : exOk m) (h' : exOk x) : exOk (mnF m x) := by unfold mnF; split <;> assumption
theorem fold_ok {f : DyT → DyT → DyT} (hf : ∀ {m x}, exOk m → exOk x → exOk (f m x)) : ∀ {r : List DyT} {a : DyT}, exOk a → (∀ x ∈ r, exOk x) → exOk (r.foldl f a)
  | [], _, h, _ => h
  | b :: r, a, h, hr => fold_ok hf (r := r) (hf h (hr b (by simp))) fun x hx => hr x (by simp [hx])
theorem dcmpE_v (d : Nat) {x y : DyT} (hx : exOk x) (hy : exOk y) : vrun Try.prog kn (d + 5) 37 [.agg [.bool x.neg, .ints .i64 x.l, .int .i64 x.e], .agg [.bool y.neg, .ints .i64 y.l, .int .i64 y.e]] [] = some (.int .i64 (dcmp x y), []) := by
  obtain ⟨e1, a1, a2, a3⟩ := hx
  obtain ⟨e2, b1, b2, b3⟩ := hy
  have := cmp_v (n := x.neg) (m := y.neg) d a1 b1 a2 a3 b2 b3
  rw [← e1, ← e2] at this
  exact this
section
variable {a : DyT} {r : List DyT}
def mxS (a : DyT) (r : List DyT) (i : Nat) : VE × VH := ([(0, some (.cells 3 (r.length + 1) (flat DyT.v (a :: r)))), (1, some (.fn (.func 37) [] [])), (4, some (.ptr 0 0)), (5, some (.ptr 1 0)), (6, some (.int .i64 ((i : Int) + 1)))], [.vals true [.bool false, .nil, .int .i64 0], .vals true ((r.take i).foldl mxF a).v])
theorem mx_r (d : Nat) (hr : r.length < 100000000) (ha : exOk a) (ho : ∀ x ∈ r, exOk x) {i : Nat} (hi : i < r.length) : vCode Try.prog kn (vrun Try.prog kn (d + 5)) 86 (loopAt Try.f86 0) (mxS a r i).1 (mxS a r i).2 = some (.norm, mxS a r (i + 1)) := by
  have hget : (a :: r)[i + 1]? = some r[i] := by simp
  have hsub : ((flat DyT.v (a :: r)).drop ((i + 1) * 3)).take 3 = [.bool r[i].neg, .ints .i64 r[i].l, .int .i64 r[i].e] := flat_sub DyT.len (a :: r) (i + 1) _ hget
  have hm : exOk ((r.take i).foldl mxF a) := fold_ok mxF_ok ha fun x hx => ho x (List.mem_of_mem_take hx)
  have c1 := dcmpE_v d (ho _ (List.getElem_mem hi)) hm
  have hfl : (r.take (i + 1)).foldl mxF a = mxF ((r.take i).foldl mxF a) r[i] := by
    rw [List.take_add_one, List.getElem?_eq_getElem hi, List.foldl_append]; rfl
  rw [round_v]; simp only [loopAt, nthC, bodyC, loops, List.nil_append, List.cons_append, List.append_nil, Try.f86, mxS, hfl]
  generalize (r.take i).foldl mxF a = m at *
  generalize r[i] = x at *
  have hlen := flat_len DyT.len (a :: r)
  simp only [List.length_cons] at hlen
  generalize flat DyT.v (a :: r) = F at *
  unfold mxF DyT.v
  by_cases hq : 0 < dcmp x m
  · simp (disch := omega) [go_sem, tab86, hsub, c1, hq, hlen]
  · simp (disch := omega) [go_sem, tab86, hsub, c1, hq, hlen]
theorem mx_x (d : Nat) (hr : r.length < 100000000) : vCode Try.prog kn (vrun Try.prog kn d) 86 (loopAt Try.f86 0) (mxS a r r.length).1 (mxS a r r.length).2 = some (.exit 0, (mxS a r r.length).1 ++ [(17, some (.bool false))], (mxS a r r.length).2) := by
  rw [round_v]; simp only [loopAt, nthC, bodyC, loops, List.nil_append, List.cons_append, List.append_nil, Try.f86, mxS]
  generalize flat DyT.v (a :: r) = F
  generalize (r.take r.length).foldl mxF a = m
  unfold DyT.v
  simp (disch := omega) [go_sem, tab86]
theorem MaxFunc_v (d : Nat) (hr : r.length < 100000000) (ha : exOk a) (ho : ∀ x ∈ r, exOk x) : vrun Try.prog kn (d + 1 + 5) 86 [.cells 3 (r.length + 1) (flat DyT.v (a :: r)), .fn (.func 37) [] []] [] = some (.agg (r.foldl mxF a).v, []) := by
  have hl0 := fun ks => loop_v (P := Try.prog) (K := kn) (ks := ks) (vi_for (mxS a r) r.length (n := kn.cf.rounds) (by rw [k_cf, c_rounds]; omega) (fun j hj => mx_r d hr ha ho hj) fun m => vi_exit (mx_x _ hr))
  have hsub : ((flat DyT.v (a :: r)).drop (0 * 3)).take 3 = [.bool a.neg, .ints .i64 a.l, .int .i64 a.e] := flat_sub DyT.len (a :: r) 0 _ (by simp)
  simp only [loopAt, nthC, bodyC, loops, List.nil_append, List.cons_append, List.append_nil, Try.f86, mxS, Int.natCast_zero, List.cons_append, List.nil_append, List.take_zero, List.foldl_nil, List.take_length, Int.zero_add] at hl0
  have hlen := flat_len DyT.len (a :: r)
  simp only [List.length_cons] at hlen
  rw [Nat.zero_mul, List.drop_zero] at hsub
  generalize flat DyT.v (a :: r) = F at *
  generalize r.foldl mxF a = m at *
  unfold DyT.v at hl0 ⊢
  rw [vrun_v Try.func86 rfl rfl rfl]; simp only [Try.f86]
  simp (disch := omega) [go_sem, tab86, hl0, hsub, hlen]
theorem most_v (d : Nat) (hr : r.length < 100000000) (ha : exOk a) (ho : ∀ x ∈ r, exOk x) : vrun Try.prog kn (d + 7) 70 [.cells 3 (r.length + 1) (flat DyT.v (a :: r))] [] = some (.agg (r.foldl mxF a).v, []) := by
  have h1 := fun d => MaxFunc_v d hr ha ho
  generalize flat DyT.v (a :: r) = F at *
  generalize r.foldl mxF a = m at *
  unfold DyT.v at h1 ⊢
  rw [vrun_v Try.func70 rfl rfl rfl]; simp only [Try.f70]
  simp (disch := omega) [go_sem, tab70, h1]
def mnS (a : DyT) (r : List DyT) (i : Nat) : VE × VH := ([(0, some (.cells 3 (r.length + 1) (flat DyT.v (a :: r)))), (1, some (.fn (.func 37) [] [])), (4, some (.ptr 0 0)), (5, some (.ptr 1 0)), (6, some (.int .i64 ((i : Int) + 1)))], [.vals true [.bool false, .nil, .int .i64 0], .vals true ((r.take i).foldl mnF a).v])
theorem mn_r (d : Nat) (hr : r.length < 100000000) (ha : exOk a) (ho : ∀ x ∈ r, exOk x) {i : Nat} (hi : i < r.length) : vCode Try.prog kn (vrun Try.prog kn (d + 5)) 87 (loopAt Try.f87 0) (mnS a r i).1 (mnS a r i).2 = some (.norm, mnS a r (i + 1)) := by
  have hget : (a :: r)[i + 1]? = some r[i] := by simp
  have hsub : ((flat DyT.v (a :: r)).drop ((i + 1) * 3)).take 3 = [.bool r[i].neg, .ints .i64 r[i].l, .int .i64 r[i].e] := flat_sub DyT.len (a :: r) (i + 1) _ hget
  have hm : exOk ((r.take i).foldl mnF a) := fold_ok mnF_ok ha fun x hx => ho x (List.mem_of_mem_take hx)
  have c1 := dcmpE_v d (ho _ (List.getElem_mem hi)) hm
  have hfl : (r.take (i + 1)).foldl mnF a = mnF ((r.take i).foldl mnF a) r[i] := by
    rw [List.take_add_one, List.getElem?_eq_getElem hi, List.foldl_append]; rfl
  rw [round_v]; simp only [loopAt, nthC, bodyC, loops, List.nil_append, List.cons_append, List.append_nil, Try.f87, mnS, hfl]
  generalize (r.take i).foldl mnF a = m at *
  generalize r[i] = x at *
  have hlen := flat_len DyT.len (a :: r)
  simp only [List.length_cons] at hlen
  generalize flat DyT.v (a :: r) = F at *
  unfold mnF DyT.v
  by_cases hq : dcmp x m < 0
  · simp (disch := omega) [go_sem, tab87, hsub, c1, hq, hlen]
  · simp (disch := omega) [go_sem, tab87, hsub, c1, hq, hlen]
theorem mn_x (d : Nat) (hr : r.length < 100000000) : vCode Try.prog kn (vrun Try.prog kn d) 87 (loopAt Try.f87 0) (mnS a r r.length).1 (mnS a r r.length).2 = some (.exit 0, (mnS a r r.length).1 ++ [(17, some (.bool false))], (mnS a r r.length).2) := by
  rw [round_v]; simp only [loopAt, nthC, bodyC, loops, List.nil_append, List.cons_append, List.append_nil, Try.f87, mnS]
  generalize flat DyT.v (a :: r) = F
  generalize (r.take r.length).foldl mnF a = m
  unfold DyT.v
  simp (disch := omega) [go_sem, tab87]
theorem MinFunc_v (d : Nat) (hr : r.length < 100000000) (ha : exOk a) (ho : ∀ x ∈ r, exOk x) : vrun Try.prog kn (d + 1 + 5) 87 [.cells 3 (r.length + 1) (flat DyT.v (a :: r)), .fn (.func 37) [] []] [] = some (.agg (r.foldl mnF a).v, []) := by
  have hl0 := fun ks => loop_v (P := Try.prog) (K := kn) (ks := ks) (vi_for (mnS a r) r.length (n := kn.cf.rounds) (by rw [k_cf, c_rounds]; omega) (fun j hj => mn_r d hr ha ho hj) fun m => vi_exit (mn_x _ hr))
  have hsub : ((flat DyT.v (a :: r)).drop (0 * 3)).take 3 = [.bool a.neg, .ints .i64 a.l, .int .i64 a.e] := flat_sub DyT.len (a :: r) 0 _ (by simp)
  simp only [loopAt, nthC, bodyC, loops, List.nil_append, List.cons_append, List.append_nil, Try.f87, mnS, Int.natCast_zero, List.cons_append, List.nil_append, List.take_zero, List.foldl_nil, List.take_length, Int.zero_add] at hl0
  have hlen := flat_len DyT.len (a :: r)
  simp only [List.length_cons] at hlen
  rw [Nat.zero_mul, List.drop_zero] at hsub
  generalize flat DyT.v (a :: r) = F at *
  generalize r.foldl mnF a = m at *
  unfold DyT.v at hl0 ⊢
  rw [vrun_v Try.func87 rfl rfl rfl]; simp only [Try.f87]
  simp (disch := omega) [go_sem, tab87, hl0, hsub, hlen]
theorem least_v (d : Nat) (hr : r.length < 100000000) (ha : exOk a) (ho : ∀ x ∈ r, exOk x) : vrun Try.prog kn (d + 7) 71 [.cells 3 (r.length + 1) (flat DyT.v (a :: r))] [] = some (.agg (r.foldl mnF a).v, []) := by
  have h1 := fun d => MinFunc_v d hr ha ho
  generalize flat DyT.v (a :: r) = F at *
  generalize r.foldl mnF a = m at *
  unfold DyT.v at h1 ⊢
  rw [vrun_v Try.func71 rfl rfl rfl]; simp only [Try.f71]
  simp (disch := omega) [go_sem, tab71, h1]
end
end Go.Eng
