/- What the functions of this seat do, one after another, told by plain values. No conditions. -/
import Derived.Test.YtkfeofjgdijbeaaSeat
import Derived.Test.YtkfeofjgdijbeaaVb
import Derived.Test.YtkfeofjgdijbeaaVc
import Derived.Test.YtkfeofjgdijbeaaT4
set_option linter.unusedVariables false
set_option linter.unusedSimpArgs false
namespace Go.Eng
open Go.Proofs
set_option maxRecDepth 100000
set_option linter.unusedSimpArgs false
attribute [local go_sem] r_seq r_skip r_retC r_exitC r_label r_block r_region r_regionW r_xWt r_xW r_cond r_Bt r_Bf r_Ncode r_Nret r_Nexit r_Nblk r_Nblkr r_Nblke r_Nnil r_Es r_Onil r_Oop r_Oif r_Xs r_Gt r_Gf r_wtt r_wtf r_wft r_wff r_wu r_gO r_putS r_putN r_get r_keepN r_keepC r_fr r_fn r_fi r_ff r_fo r_l1 r_l2t r_cun r_cul r_cub r_cui r_cus r_cuis r_cuc r_cusl r_cuti r_cutv r_ven r_vec r_l2f r_l3 r_t1 r_t2 r_t0 r_rt r_rc r_en r_ec r_cM r_oN r_oC r_end r_endt r_endf r_nob0 r_nobN r_nobC r_nobE r_nb0 r_nbi r_nbs r_nbsl r_nbin r_nbce r_nLn r_nLv r_nLc r_nAa r_nAn r_nAk_b r_nAk_i r_nAk_s r_nAk_n r_nAk_is r_nAk_ce r_nAk_fp r_nAk_sl r_nAk_pt r_nAk_fn r_nsn r_nsv r_nsc r_m0 r_mi r_ms r_msl r_min r_mce r_mLn r_mLv r_mLc r_mAa r_mAn r_mAk_b r_mAk_i r_mAk_s r_mAk_n r_mAk_is r_mAk_ce r_mAk_fp r_mAk_sl r_mAk_pt r_mAk_fn r_msn r_msv r_msc r_atb r_ati r_ats r_atn r_atis r_atc r_atf r_atl r_atp r_atfn r_gcn r_gcc r_gLn r_gLc r_gIt r_ndn r_ndc r_gcB r_gLB r_two r_rea r_rea0 r_re1n r_re1c r_ori r_orv r_ord r_orn r_adn r_adc r_ad1 r_ern r_ers r_er0 r_rsl r_rptr r_rb r_ri r_rs r_rn r_ris r_rce r_rfp r_ra4 r_ra3 r_rt4 r_rf4 r_rf3 r_idS r_idc r_nS r_nP r_nF r_nT r_vsl r_vptr r_vb r_vi r_vs r_vn r_vis r_vce r_vfp r_va4 r_va3 r_vt4 r_vf4 r_vf3 r_rV r_Oi r_Ov r_Od r_rE r_rE0 r_En r_Ec r_E0 r_pO r_pk r_agL r_cO r_fO r_fSi r_fSv r_fPv r_fsl r_fptr r_ffn r_fag r_fb r_fint r_fstr r_fnil r_fis r_fce r_ffp r_res r_move r_assign r_pick r_pickt r_pickf r_alloc r_box r_al r_build r_bslice r_load r_store r_nlc r_nl1 r_nl2 r_bin r_un r_conv r_mkf r_mks r_slc r_fad r_fld r_iad r_idx r_ext r_ex1 r_callf r_callt r_callen r_calapp r_calmax r_calmin r_vt r_vcb r_vci r_vcs r_vcnp r_vcn r_vca r_vcf r_vcg r_ofb r_ofi r_ofs r_ofn r_evs r_pn r_prt r_pc r_one_a r_one_b r_one_i r_one_s r_one_n r_one_is r_one_ce r_one_fp r_one_sl r_one_pt r_one_fn r_cs_a r_cs_b r_cs_i r_cs_s r_cs_n r_cs_is r_cs_ce r_cs_fp r_cs_sl r_cs_pt r_cs_fn r_tov r_tovA r_toc r_toa r_tb r_ti r_ts r_tn r_bd r_bd2 r_filn r_fp1 r_filc r_fsn r_fsc r_san r_sac r_bs2 r_bs1 r_nE r_newO r_mkq r_mkI r_mkOi r_mkOv r_tIn r_tIc r_repz r_repn r_ldp r_ldf r_l1t r_l1f r_lFt r_lFf r_aggO r_obj r_at r_ati' r_atv r_celli r_cellv r_subi r_subv r_sto r_sto1 r_sto2 r_sets r_setR r_setn r_setc r_s1i r_s1v r_bin1 r_bin2 r_tv1 r_cb r_ci r_cst r_cn r_csl r_cis r_cce r_uni r_unb r_cv r_cvO r_cvN r_cv0 r_cvS r_wB r_cvi r_cvs r_cvb r_cvl r_sO r_rdn r_rdi r_rdl r_rdO r_vsub r_vfn r_mk r_mk1 r_mk2 r_zoi r_zov r_leni r_lenv r_bn r_bndV r_bo r_sl0 r_sl1 r_vsz r_ct1 r_cts r_cti r_ctc r_ctn r_lnl r_lni r_lnc r_lnn r_fa r_fap r_faf r_fi1 r_fit r_fif r_ixi r_ixs r_ixc r_ixf r_ixF r_ixF2 r_ix1 r_ixsl r_ixin r_ixce r_len1 r_lenA r_lTs r_lTn r_lTl r_lTi r_lTc r_app0 r_app9 r_paf r_pat r_frn r_fre r_tt1 r_tt2 r_tt3 r_app r_app1 r_app2 r_app3 r_catO r_cati r_catv r_newt r_newf r_pair r_pairK r_trip r_kis r_kiv r_srn r_srl r_sri r_src r_srs r_oln r_ole r_oll r_vw r_wi r_wv r_mm r_max r_min' r_str r_cF r_c2t r_c3f r_c3t r_ab r_c2f r_cV r_p1 r_la r_la2t r_la2f r_la3 r_sh r_z_is r_z_ce r_z_fp r_z_b r_z_i r_z_s r_z_n r_z_l r_z_p r_z_a4 r_z_a3 r_z_t4 r_zoI r_zoV r_roN r_roC r_roi r_rod r_zod r_rov r_aR r_trOi r_trOv r_trPv r_trl r_trp r_trf r_tra r_trb r_tri r_trs r_trn r_tris r_trce r_trfp r_vJ r_vJs r_vJn
attribute [local go_sem] b_add b_sub b_mul b_quo b_rem b_shl b_shr b_eql b_neq b_lss b_leq b_gtr b_geq eqB_s b_eqB b_neB u_neg u_not b_nn b_nn' eqS_s zerosT_s zerosT_n zt_i zt_sl zt_st dstOf_z dstOf_n iltT iltF ileT ileF ieqT ieqF nltT nltF nleT nleF neqT neqF tdiv_pos tmod_pos w64 idx0 List.take_of_length_le
/- The elimination: a row is made nought in a column, in place. No conditions. -/
section
open Num
/-- A row of which the first numbers are done. -/
def mixR (nr row : List DyT) (c : Nat) : List DyT := nr.take c ++ row.drop c
section
variable {nr row p : List DyT} {n c : Nat}
theorem mix_len (h : nr.length = row.length) : (mixR nr row c).length = row.length := by unfold mixR; simp; omega
theorem mix_at (h : nr.length = row.length) {x : DyT} (hx : row[c]? = some x) : (mixR nr row c)[c]? = some x := by
  unfold mixR
  have := (List.getElem?_eq_some_iff.1 hx).1
  rw [List.getElem?_append_right (by simp; omega), List.length_take, Nat.min_eq_left (by omega), Nat.sub_self, List.getElem?_drop]; exact hx
theorem mix_0 : mixR nr row 0 = row := by unfold mixR; simp
theorem mix_e (h : nr.length = row.length) : mixR nr row row.length = nr := by unfold mixR; rw [← h, List.take_length, h, List.drop_length, List.append_nil]
theorem setThree (A : List V) (a b c x y z : V) (r : List V) (k : Nat) (hk : k = A.length) : (((A ++ (a :: b :: c :: r)).set k x).set (k + 1) y).set (k + 2) z = A ++ (x :: y :: z :: r) := by
  subst hk
  rw [List.set_append_right _ _ (by omega), List.set_append_right _ _ (by omega), List.set_append_right _ _ (by omega)]
  simp
theorem flat_ap : ∀ a b : List DyT, flat DyT.v (a ++ b) = flat DyT.v a ++ flat DyT.v b
  | [], _ => rfl
  | x :: a, b => by rw [List.cons_append, flat, flat, flat_ap a b, List.append_assoc]
theorem mix_set (h : nr.length = row.length) {y : DyT} (hy : nr[c]? = some y) : (((flat DyT.v (mixR nr row c)).set (c * 3) (.bool y.neg)).set (c * 3 + 1) (.ints .i64 y.l)).set (c * 3 + 2) (.int .i64 y.e) = flat DyT.v (mixR nr row (c + 1)) := by
  have hc := (List.getElem?_eq_some_iff.1 hy).1
  have hx : row[c]? = some row[c] := List.getElem?_eq_getElem (by omega)
  unfold mixR
  rw [List.take_add_one, hy, List.drop_eq_getElem_cons (by omega : c < row.length), flat_ap, flat_ap, flat_ap]
  rw [show flat DyT.v (row[c] :: row.drop (c + 1)) = .bool row[c].neg :: .ints .i64 row[c].l :: .int .i64 row[c].e :: flat DyT.v (row.drop (c + 1)) from rfl]
  rw [setThree _ _ _ _ _ _ _ _ _ (by rw [flat_len3, List.length_take]; omega), List.append_assoc]; rfl
end
section
variable {nr row p : List DyT} {n c j q qp cj co t B E : Nat} {H : VH} {P own x y : DyT} {w w' w2 : Bool} {a5 a39 a76 a77 a78 : V}
def rkS (H : VH) (q qp cj co j n : Nat) (a5 a39 a76 a77 a78 : V) (nr row : List DyT) (c : Nat) : VE × VH :=
  ([(3, some (.sl 1 0 n 1)), (5, some a5), (6, some (.ptr cj 0)), (8, some (.sl qp 0 n 3)), (10, some (.sl q 0 n 3)), (11, some (.ptr co 0)), (39, some a39), (40, some (.int .i64 j)), (76, some a76), (77, some a77), (78, some a78), (87, some (.int .i64 n)), (88, some (.int .i64 c))], H.set q (.vals true (flat DyT.v (mixR nr row c))))
theorem rkS_r (d : Nat) (hn : n ≤ 4) (hj : j < n) (hc : c < n) (hrl : row.length = n) (hpl : p.length = n) (hH : H[q]? = some (.vals w (flat DyT.v row))) (hHp : H[qp]? = some (.vals w' (flat DyT.v p))) (hne : q ≠ qp) (hHj : H[cj]? = some (.vals true [.int .i64 j])) (hnj : q ≠ cj) (hHo : H[co]? = some (.vals true own.v)) (hno : q ≠ co)
    (hP : p[j]? = some P) (eP : EF (rB t) (rE t) P) (eo : EF (rB t) (rE t) own) (er : ∀ x ∈ row, EF (rB t) (rE t) x) (ep : ∀ x ∈ p, EF (rB t) (rE t) x) (ht : t ≤ 3) :
    vCode Try.prog kn (vrun Try.prog kn (d + 8)) 60 (loopAt Try.f60 3) (rkS H q qp cj co j n a5 a39 a76 a77 a78 (rkRow P own p row) row c).1 (rkS H q qp cj co j n a5 a39 a76 a77 a78 (rkRow P own p row) row c).2 = some (.norm, rkS H q qp cj co j n a5 a39 a76 a77 a78 (rkRow P own p row) row (c + 1)) := by
  have hnl : (rkRow P own p row).length = row.length := rkRow_len (by omega)
  obtain ⟨b1, b2⟩ := rB_le ht
  have hx : row[c]? = some row[c] := List.getElem?_eq_getElem (by omega)
  have hy : p[c]? = some p[c] := List.getElem?_eq_getElem (by omega)
  have hnew : (rkRow P own p row)[c]? = some (eComb P own row[c] p[c]) := by unfold rkRow; rw [List.getElem?_zipWith, hx, hy]
  have ex := er _ (List.mem_of_getElem? hx)
  have ey := ep _ (List.mem_of_getElem? hy)
  have h1 := fun d h => eMul_c d h ex eP (by omega) (by omega)
  have h2 := fun d h => eMul_c d h ey eo (by omega) (by omega)
  have h3 := fun d h => eSub_c d h (ex.mul eP) (ey.mul eo) (by omega) (by omega)
  have s1 : ((flat DyT.v (mixR (rkRow P own p row) row c)).drop (c * 3)).take 3 = [.bool row[c].neg, .ints .i64 row[c].l, .int .i64 row[c].e] := flat_sub DyT.len _ _ _ (mix_at hnl hx)
  have s2 : ((flat DyT.v p).drop (j * 3)).take 3 = [.bool P.neg, .ints .i64 P.l, .int .i64 P.e] := flat_sub DyT.len _ _ _ hP
  have s3 : ((flat DyT.v p).drop (c * 3)).take 3 = [.bool p[c].neg, .ints .i64 p[c].l, .int .i64 p[c].e] := flat_sub DyT.len _ _ _ hy
  have l1 : (flat DyT.v (mixR (rkRow P own p row) row c)).length = n * 3 := by rw [flat_len3, mix_len hnl, hrl]
  have l2 : (flat DyT.v p).length = n * 3 := by rw [flat_len3, hpl]
  have g1 := setE hH (.vals true (flat DyT.v (mixR (rkRow P own p row) row c)))
  have g2 := setN hne hHp (.vals true (flat DyT.v (mixR (rkRow P own p row) row c)))
  have g3 := setN hnj hHj (.vals true (flat DyT.v (mixR (rkRow P own p row) row c)))
  have g4 := setN hno hHo (.vals true (flat DyT.v (mixR (rkRow P own p row) row c)))
  have hset := mix_set hnl hnew
  have hss : ∀ x, (H.set q (.vals true (flat DyT.v (mixR (rkRow P own p row) row c)))).set q x = H.set q x := fun x => List.set_set ..
  rw [round_v]; simp only [loopAt, nthC, bodyC, loops, List.nil_append, List.cons_append, List.append_nil, Try.f60, rkS]
  rw [show eComb P own row[c] p[c] = eSub (eMul row[c] P) (eMul p[c] own) from rfl] at hset
  rw [← hset]
  simp only [DyT.v] at g4
  clear hH hHp hHj hHo er ep hx hy hnew hP hset ex ey eP eo
  generalize row[c] = x at *
  generalize p[c] = y at *
  generalize eSub (eMul x P) (eMul y own) = z at *
  generalize eMul x P = xP at *
  generalize eMul y own = yo at *
  generalize flat DyT.v (mixR (rkRow P own p row) row c) = F at *
  generalize flat DyT.v p = G at *
  rw [← hss (.vals true (((F.set (c * 3) (.bool z.neg)).set (c * 3 + 1) (.ints .i64 z.l)).set (c * 3 + 2) (.int .i64 z.e)))]
  generalize H.set q (.vals true F) = K at *
  simp (implicitDefEqProofs := false) (disch := omega) [go_sem, tab60, h1, h2, h3, s1, s2, s3, l1, l2, g1, g2, g3, g4]
theorem rkS_x (call : CallV) : vCode Try.prog kn call 60 (loopAt Try.f60 3) (rkS H q qp cj co j n a5 a39 a76 a77 a78 nr row n).1 (rkS H q qp cj co j n a5 a39 a76 a77 a78 nr row n).2 = some (.exit 6, (rkS H q qp cj co j n a5 a39 a76 a77 a78 nr row n).1 ++ [(89, some (.bool false))], (rkS H q qp cj co j n a5 a39 a76 a77 a78 nr row n).2) := by
  rw [round_v]; simp only [loopAt, nthC, bodyC, loops, List.nil_append, List.cons_append, List.append_nil, Try.f60, rkS]
  generalize H.set q _ = K
  simp (implicitDefEqProofs := false) (disch := omega) [go_sem, tab60]
end
end
/- The elimination: all rows behind a pivot are made nought in its column. No conditions. -/
section
open Num
/-- Some rows are changed. -/
def upR (f : List DyT → List DyT) (a i : Nat) (R : List (List DyT)) : List (List DyT) := R.mapIdx fun b row => if a ≤ b ∧ b < a + i then f row else row
def zDT : DyT := ⟨false, [], 0⟩
def fR (P : DyT) (p : List DyT) (j : Nat) (row : List DyT) : List DyT := rkRow P (row.getD j zDT) p row
section
variable {f : List DyT → List DyT} {a i b : Nat} {R : List (List DyT)} {row : List DyT}
theorem upR_get : (upR f a i R)[b]? = (R[b]?).map fun row => if a ≤ b ∧ b < a + i then f row else row := by unfold upR; rw [List.getElem?_mapIdx]
theorem upR_len : (upR f a i R).length = R.length := by unfold upR; rw [List.length_mapIdx]
theorem upR_0 : upR f a 0 R = R := by
  apply List.ext_getElem?; intro b
  rw [upR_get]
  cases R[b]? with
  | none => rfl
  | some r => rw [Option.map_some, if_neg (by omega)]
theorem upR_set (h : R[a + i]? = some row) : (upR f a i R).set (a + i) (f row) = upR f a (i + 1) R := by
  apply List.ext_getElem?; intro b
  have hlt := (List.getElem?_eq_some_iff.1 h).1
  by_cases hb : b = a + i
  · subst hb
    rw [List.getElem?_set_self (by rw [upR_len]; exact hlt), upR_get, h, Option.map_some, if_pos (by omega)]
  · rw [List.getElem?_set_ne (fun e => hb e.symm), upR_get, upR_get]
    have e : (a ≤ b ∧ b < a + i) = (a ≤ b ∧ b < a + (i + 1)) := propext (by omega)
    simp only [e]
theorem upR_drop (h : R.length ≤ a + i) : (upR f a i R).drop a = (R.drop a).map f := by
  apply List.ext_getElem?; intro b
  rw [List.getElem?_drop, upR_get, List.getElem?_map, List.getElem?_drop]
  by_cases hb : a + b < R.length
  · rw [List.getElem?_eq_getElem hb, Option.map_some, Option.map_some, if_pos (by omega)]
  · rw [List.getElem?_eq_none (by omega)]; rfl
end
theorem np0 (G : VH) (x : VO) (t : VH) : (G ++ x :: t)[G.length]? = some x := by rw [List.getElem?_append_right (Nat.le_refl _), Nat.sub_self]; rfl
theorem sp0 (G : VH) (x o : VO) (t : VH) : (G ++ x :: t).set G.length o = G ++ o :: t := by rw [List.set_append_right _ _ (Nat.le_refl _), Nat.sub_self]; rfl
section
variable {n j r t qp cj m : Nat} {H : VH} {L : List Nat} {R : List (List DyT)} {p : List DyT} {P : DyT}
def rkT (H : VH) (n r1 cj qp j m i : Nat) : VE × VH := ([(3, some (.sl 1 0 n 1)), (5, some (.int .i64 r1)), (6, some (.ptr cj 0)), (8, some (.sl qp 0 n 3)), (39, some (.int .i64 n)), (40, some (.int .i64 j)), (76, some (.sl 1 r1 m 1)), (77, some (.int .i64 m)), (78, some (.int .i64 i))], H)
theorem rkT_r (d : Nat) (hn : n ≤ 4) (hj : j < n) (ht : t ≤ 3) (hp : L[r]? = some qp) (hP : R[r]? = some p) (hpP : p[j]? = some P) (eR : ∀ b row, R[b]? = some row → r ≤ b → ∀ x ∈ row, EF (rB t) (rE t) x) {i : Nat} (hm : r + 1 + m = n) (hi : i < m)
    (a : RM H n L (upR (fR P p j) (r + 1) i R)) (hc : H[cj]? = some (.vals true [.int .i64 j])) :
    ∃ H', vCode Try.prog kn (vrun Try.prog kn (d + 8)) 60 (loopAt Try.f60 2) (rkT H n (r + 1) cj qp j m i).1 (rkT H n (r + 1) cj qp j m i).2 = some (.norm, rkT H' n (r + 1) cj qp j m (i + 1)) ∧ RM H' n L (upR (fR P p j) (r + 1) (i + 1) R) ∧ H'[cj]? = some (.vals true [.int .i64 j]) := by
  have hRl : R.length = n := by have := a.rl; rwa [upR_len] at this
  have hb : r + 1 + i < R.length := by omega
  have hrow : R[r + 1 + i]? = some R[r + 1 + i] := List.getElem?_eq_getElem hb
  have hbL : r + 1 + i < L.length := by have := a.ll; omega
  have hq : L[r + 1 + i]? = some L[r + 1 + i] := List.getElem?_eq_getElem hbL
  generalize R[r + 1 + i] = row at *
  generalize L[r + 1 + i] = q at *
  have hup : (upR (fR P p j) (r + 1) i R)[r + 1 + i]? = some row := by rw [upR_get, hrow, Option.map_some, if_neg (by omega)]
  have hupp : (upR (fR P p j) (r + 1) i R)[r]? = some p := by rw [upR_get, hP, Option.map_some, if_neg (by omega)]
  obtain ⟨h1, hrl⟩ := a.row _ q row hq hup
  obtain ⟨h2, hpl⟩ := a.row _ qp p hp hupp
  have hne : q ≠ qp := fun e => by have := a.nd (r + 1 + i) r q hq (e ▸ hp); omega
  have eP : EF (rB t) (rE t) P := eR r p hP (Nat.le_refl _) _ (List.mem_of_getElem? hpP)
  obtain ⟨own, hown⟩ : ∃ own, row[j]? = some own := ⟨_, List.getElem?_eq_getElem (by omega)⟩
  have hgd : row.getD j zDT = own := by rw [List.getD_eq_getElem?_getD, hown]; rfl
  have eo : EF (rB t) (rE t) own := eR _ row hrow (by omega) _ (List.mem_of_getElem? hown)
  have hcq : cj ≠ q := a.other hq hc fun l => by
    by_cases e : l.length = n * 3
    · left; intro e'; cases e'; simp at e; omega
    · exact .inr e
  have e1 : (H ++ [VO.vals true own.v])[q]? = some (.vals true (flat DyT.v row)) := keepA h1 _
  have hl0 := fun ks => loop_v (P := Try.prog) (K := kn) (ks := ks) (vi_for (rkS (H ++ [.vals true own.v]) q qp cj H.length j n (.int .i64 ((r : Int) + 1)) (.int .i64 n) (.sl 1 (r + 1) m 1) (.int .i64 m) (.int .i64 i) (rkRow P own p row) row) n (n := kn.cf.rounds) (by rw [k_cf, c_rounds]; omega)
    (fun c hc' => rkS_r d hn hj hc' hrl hpl e1 (keepA h2 _) hne (keepA hc _) (fun e => hcq e.symm) (np0 H _ []) (fun e => by have := (List.getElem?_eq_some_iff.1 h1).1; omega) hpP eP eo (eR _ row hrow (by omega)) (eR r p hP (Nat.le_refl _)) ht) fun m => vi_exit (rkS_x _))
  have hmx : mixR (rkRow P own p row) row n = fR P p j row := by
    have := mix_e (nr := rkRow P own p row) (row := row) (rkRow_len (by omega))
    rw [hrl] at this
    rw [this]; unfold fR; rw [hgd]
  have hst : (H ++ [VO.vals true own.v]).set q (.vals true (flat DyT.v row)) = H ++ [VO.vals true own.v] := setS e1
  simp only [DyT.v] at hst
  simp only [loopAt, nthC, bodyC, loops, List.nil_append, List.cons_append, List.append_nil, Try.f60, rkS, mix_0, hst, hmx, DyT.v, Int.natCast_zero, List.cons_append, List.nil_append] at hl0
  refine ⟨(H ++ [VO.vals true own.v]).set q (.vals true (flat DyT.v (fR P p j row))), ?_, ?_, ?_⟩
  · have o1 := a.o
    have o2 : (L.map (slR n))[r + 1 + i]? = some (.sl q 0 n 3) := by rw [List.getElem?_map, hq]; rfl
    have o3 : (L.map (slR n)).length = n := by rw [List.length_map]; exact a.ll
    have o4 : ∀ hh : r + 1 + i < (L.map (slR n)).length, (L.map (slR n))[r + 1 + i] = .sl q 0 n 3 := fun hh => by rw [List.getElem?_eq_getElem hh] at o2; exact Option.some.inj o2
    have s1 : ((flat DyT.v row).drop (j * 3)).take 3 = [.bool own.neg, .ints .i64 own.l, .int .i64 own.e] := flat_sub DyT.len _ _ _ hown
    have l1 : (flat DyT.v row).length = n * 3 := by rw [flat_len3, hrl]
    rw [round_v]; simp only [loopAt, nthC, bodyC, loops, List.nil_append, List.cons_append, List.append_nil, Try.f60, rkT]
    simp only [DyT.v]
    clear a hup hupp eR eo eP e1 hst hmx hgd h2 hP hrow hq hp hb hbL hpP hown hRl
    generalize fR P p j row = nr at *
    generalize hz : flat DyT.v nr = N at *
    clear hz
    generalize flat DyT.v row = F at *
    generalize L.map (slR n) = G at *
    simp (implicitDefEqProofs := false) (disch := omega) [go_sem, tab60, hl0, h1, hc, o1, o2, o3, o4, s1, l1, np0, sp0]
  · have := (a.app [VO.vals true own.v]).put hq (r := fR P p j row) (by unfold fR; rw [rkRow_len (by omega)]; exact hrl)
    rwa [upR_set hrow] at this
  · exact setN (fun e => hcq e.symm) (keepA hc _) _
theorem rkT_x (call : CallV) : vCode Try.prog kn call 60 (loopAt Try.f60 2) (rkT H n r cj qp j m m).1 (rkT H n r cj qp j m m).2 = some (.exit 4, (rkT H n r cj qp j m m).1 ++ [(79, some (.bool false))], (rkT H n r cj qp j m m).2) := by
  rw [round_v]; simp only [loopAt, nthC, bodyC, loops, List.nil_append, List.cons_append, List.append_nil, Try.f60, rkT]
  simp (implicitDefEqProofs := false) (disch := omega) [go_sem, tab60]
/-- All rows behind the pivot. -/
theorem rkT_l (d : Nat) (hn : n ≤ 4) (hj : j < n) (ht : t ≤ 3) (hp : L[r]? = some qp) (hP : R[r]? = some p) (hpP : p[j]? = some P) (eR : ∀ b row, R[b]? = some row → r ≤ b → ∀ x ∈ row, EF (rB t) (rE t) x) (hm : r + 1 + m = n)
    (a : RM H n L R) (hc : H[cj]? = some (.vals true [.int .i64 j])) :
    ∃ H', viter (vCode Try.prog kn (vrun Try.prog kn (d + 8)) 60 (loopAt Try.f60 2)) kn.cf.rounds (rkT H n (r + 1) cj qp j m 0).1 (rkT H n (r + 1) cj qp j m 0).2 = some (.exit 4, (rkT H' n (r + 1) cj qp j m m).1 ++ [(79, some (.bool false))], H') ∧ RM H' n L (upR (fR P p j) (r + 1) m R) :=
  vi_inv (n := kn.cf.rounds) (body := vCode Try.prog kn (vrun Try.prog kn (d + 8)) 60 (loopAt Try.f60 2))
    (fun i s => ∃ H', s = rkT H' n (r + 1) cj qp j m i ∧ RM H' n L (upR (fR P p j) (r + 1) i R) ∧ H'[cj]? = some (.vals true [.int .i64 j]))
    (fun o => ∃ H', o = some (.exit 4, (rkT H' n (r + 1) cj qp j m m).1 ++ [(79, some (.bool false))], H') ∧ RM H' n L (upR (fR P p j) (r + 1) m R)) m (by rw [k_cf, c_rounds]; omega)
    (fun i s hi hI => by
      obtain ⟨H1, rfl, a1, c1⟩ := hI
      obtain ⟨H2, h1, a2, c2⟩ := rkT_r d hn hj ht hp hP hpP eR hm hi a1 c1
      exact .inl ⟨_, h1, H2, rfl, a2, c2⟩)
    (fun s hI k => by
      obtain ⟨H1, rfl, a1, c1⟩ := hI
      exact ⟨H1, vi_exit (rkT_x _), a1⟩)
    (rkT H n (r + 1) cj qp j m 0) ⟨H, rfl, by rw [upR_0]; exact a, hc⟩
end
end
/- The elimination: column by column, and what it counts. No conditions. -/
section
open Num
theorem swap_perm {α : Type} : ∀ (l : List α) (k : Nat) (x y : α), l[0]? = some x → l[k]? = some y → ((l.set 0 y).set k x).Perm l
  | [], _, _, _, h, _ => by simp at h
  | a :: t, 0, x, y, h, h' => by
    simp at h h'; subst h; subst h'; simp
  | a :: t, k + 1, x, y, h, h' => by
    simp at h h'; subst h
    have hk := (List.getElem?_eq_some_iff.1 h').1
    have hy : t[k] = y := by rw [List.getElem?_eq_getElem hk] at h'; exact Option.some.inj h'
    simp only [List.set_cons_zero, List.set_cons_succ]
    have key : ∀ (t : List α) (k : Nat) (hk : k < t.length), (t[k] :: t.set k a).Perm (a :: t) := by
      intro t
      induction t with
      | nil => intro k hk; simp at hk
      | cons b u ih =>
        intro k hk
        cases k with
        | zero => simp; exact .swap a b u
        | succ k =>
          simp only [List.getElem_cons_succ, List.set_cons_succ]
          exact (List.Perm.swap b _ _).trans (((ih k (by simpa using hk)).cons b).trans (.swap a b u))
    rw [← hy]; exact key t k hk
section
variable {R : List (List DyT)} {n r j k : Nat} {x y : List DyT} {C : List Nat} {R0 : List Row}
/-- What the elimination keeps. -/
structure Cnt (R0 : List Row) (C0 : List Nat) (n r j : Nat) (R : List (List DyT)) : Prop where
  rj : r ≤ j
  e : ∀ (b : Nat) (row : List DyT), R[b]? = some row → r ≤ b → ∀ x ∈ row, EF (rB r) (rE r) x
  len : ∀ (b : Nat) (row : List DyT), R[b]? = some row → row.length = n
  nz : ∀ k, NZ (k + r) R0 C0 ↔ NZ k ((R.drop r).map (rF (-((rE r : Nat) : Int)))) (List.range' j (n - j))
theorem nzAt_f {row : List DyT} {K : Int} (h : nzAt j row = false) : rF K row j = 0 := by
  unfold nzAt at h; unfold rF
  cases hq : row[j]? with
  | none => rfl
  | some x => rw [hq] at h; simp at h; exact sv_zero.2 h
theorem nzAt_t {row : List DyT} {K : Int} (h : nzAt j row = true) : ∃ P, row[j]? = some P ∧ rF K row j ≠ 0 := by
  unfold nzAt at h; unfold rF
  cases hq : row[j]? with
  | none => rw [hq] at h; simp at h
  | some x => rw [hq] at h; simp at h; exact ⟨x, rfl, fun e => h (sv_zero.1 e)⟩
theorem rng {n j : Nat} (h : j < n) : List.range' j (n - j) = j :: List.range' (j + 1) (n - (j + 1)) := by
  rw [show n - j = (n - (j + 1)) + 1 by omega, List.range'_succ]
theorem Cnt.skip (a : Cnt R0 C n r j R) (hj : j < n) (h : ∀ row ∈ R.drop r, nzAt j row = false) : Cnt R0 C n r (j + 1) R where
  rj := by have := a.rj; omega
  e := a.e
  len := a.len
  nz := fun k => by
    rw [a.nz k, rng hj]
    refine col_step j _ _ (fun f hf => ?_) k
    obtain ⟨row, hm, rfl⟩ := List.mem_map.1 hf
    exact nzAt_f (h row hm)
theorem drop_mem {row : List DyT} (h : row ∈ R.drop r) : ∃ b : Nat, r ≤ b ∧ R[b]? = some row := by
  obtain ⟨i, hi⟩ := List.mem_iff_getElem?.1 h
  rw [List.getElem?_drop] at hi
  exact ⟨r + i, by omega, hi⟩
theorem Cnt.step (a : Cnt R0 C n r j R) (hj : j < n) (hRl : R.length = n) {m : Nat} (hm : r + 1 + m = n) (hx : R[r]? = some x) (hy : R[r + k]? = some y) {P : DyT} (hP : y[j]? = some P) (hnz : rF (-((rE r : Nat) : Int)) y j ≠ 0) :
    Cnt R0 C n (r + 1) (j + 1) (upR (fR P y j) (r + 1) m (swp R r (r + k) x y)) := by
  have hs : ∀ (b : Nat) (row : List DyT), (swp R r (r + k) x y)[b]? = some row → ∃ b' : Nat, R[b']? = some row ∧ (r ≤ b → r ≤ b') := fun b row h => by
    rw [swp_get hx hy] at h
    split at h
    · cases h; exact ⟨r, hx, fun _ => Nat.le_refl _⟩
    · split at h
      · cases h; exact ⟨r + k, hy, fun _ => by omega⟩
      · exact ⟨b, h, id⟩
  have hlen : ∀ (b : Nat) (row : List DyT), (swp R r (r + k) x y)[b]? = some row → row.length = n := fun b row h => by obtain ⟨b', h1, _⟩ := hs b row h; exact a.len b' row h1
  have hE : ∀ (b : Nat) (row : List DyT), (swp R r (r + k) x y)[b]? = some row → r ≤ b → ∀ x ∈ row, EF (rB r) (rE r) x := fun b row h hb => by obtain ⟨b', h1, h2⟩ := hs b row h; exact a.e b' row h1 (h2 hb)
  have hyl := a.len _ _ hy
  have hye := a.e _ _ hy (by omega)
  have hPe := hye _ (List.mem_of_getElem? hP)
  have hown : ∀ row : List DyT, row.length = n → row[j]? = some (row.getD j zDT) := fun row h => by
    rw [List.getD_eq_getElem?_getD, List.getElem?_eq_getElem (by omega)]; rfl
  have hfl : ∀ row : List DyT, row.length = n → (fR P y j row).length = n := fun row h => by unfold fR; rw [rkRow_len (by omega)]; exact h
  have hsl : (swp R r (r + k) x y).length = n := by unfold swp; simp [hRl]
  have hd : (upR (fR P y j) (r + 1) m (swp R r (r + k) x y)).drop (r + 1) = ((swp R r (r + k) x y).drop (r + 1)).map (fR P y j) := upR_drop (by omega)
  refine ⟨by have := a.rj; omega, fun b row h hb => ?_, fun b row h => ?_, fun k' => ?_⟩
  · rw [upR_get] at h
    cases hq : (swp R r (r + k) x y)[b]? with
    | none => rw [hq] at h; cases h
    | some row' =>
      have hbl := (List.getElem?_eq_some_iff.1 hq).1
      rw [hq, Option.map_some, if_pos (by omega)] at h
      cases h
      have g1 := hlen b row' hq
      have g2 := hE b row' hq (by omega)
      exact rkRow_all hPe (g2 _ (List.mem_of_getElem? (hown row' g1))) hye g2
  · rw [upR_get] at h
    cases hq : (swp R r (r + k) x y)[b]? with
    | none => rw [hq] at h; cases h
    | some row' =>
      have g1 := hlen b row' hq
      rw [hq, Option.map_some] at h
      split at h
      · cases h; exact hfl row' g1
      · cases h; exact g1
  · have e1 := a.nz (k' + 1)
    rw [show k' + 1 + r = k' + (r + 1) by omega] at e1
    have hp : ((swp R r (r + k) x y).drop r).Perm (R.drop r) := by
      have := swap_perm (R.drop r) k x y (by rw [List.getElem?_drop]; exact hx) (by rw [List.getElem?_drop]; exact hy)
      unfold swp
      rw [List.drop_set, if_neg (by omega), List.drop_set, if_neg (by omega), show r + k - r = k by omega, Nat.sub_self]
      exact this
    have hp2 := hp.map (rF (-((rE r : Nat) : Int)))
    rw [e1, show NZ (k' + 1) ((R.drop r).map (rF (-((rE r : Nat) : Int)))) (List.range' j (n - j)) ↔ NZ (k' + 1) (((swp R r (r + k) x y).drop r).map (rF (-((rE r : Nat) : Int)))) (List.range' j (n - j)) from ⟨fun h => h.perm hp2.symm, fun h => h.perm hp2⟩]
    have hr : r < (swp R r (r + k) x y).length := by omega
    have hget : (swp R r (r + k) x y)[r] = y := by
      have := swp_get hx hy r
      rw [List.getElem?_eq_getElem hr] at this
      split at this
      · rename_i h0
        have : k = 0 := by omega
        subst this
        rw [Nat.add_zero, hx] at hy; cases hy
        simpa using ‹some (swp R r (r + 0) x x)[r] = some x›
      · rw [if_pos rfl] at this; exact Option.some.inj this
    rw [List.drop_eq_getElem_cons hr, hget, List.map_cons, rng hj, elim_step _ _ hnz, hd, List.map_map, List.map_map]
    rw [List.map_congr_left (g := rF (-((rE (r + 1) : Nat) : Int)) ∘ fR P y j) fun row hrow => ?_]
    obtain ⟨b, hb, hq⟩ := drop_mem hrow
    have g1 := hlen b row hq
    have g2 := hE b row hq (by omega)
    show comb (rF _ y) j (rF _ row) = rF _ (fR P y j row)
    unfold fR
    rw [rE_s, rF_comb (by omega) hP (hown row g1) (fun x hx => (hye x hx).e0) (fun x hx => (g2 x hx).e0)]
end
end
/- The elimination: column by column, walked. No conditions. -/
section
open Num
section
variable {n j r : Nat} {H : VH} {L : List Nat} {R : List (List DyT)} {R0 : List Row} {C : List Nat}
def rkC (H : VH) (n r j : Nat) : VE × VH := ([(3, some (.sl 1 0 n 1)), (5, some (.int .i64 r)), (39, some (.int .i64 n)), (40, some (.int .i64 j))], H)
theorem rkC_r (d : Nat) (hn : n ≤ 4) (hj : j < n) (a : RM H n L R) (w : Cnt R0 C n r j R) :
    ∃ H' L' R' r', vCode Try.prog kn (vrun Try.prog kn (d + 8)) 60 (loopAt Try.f60 1) (rkC H n r j).1 (rkC H n r j).2 = some (.norm, rkC H' n r' (j + 1)) ∧ RM H' n L' R' ∧ Cnt R0 C n r' (j + 1) R' := by
  have hr : r ≤ n := by have := w.rj; omega
  have a1 := a.app [VO.vals true [.int .i64 j]]
  have hc := np0 H (.vals true [.int .i64 j]) []
  obtain ⟨b1, b2⟩ := rB_le (t := r) (by have := w.rj; omega)
  have o3 : (L.map (slR n)).length = n := by rw [List.length_map]; exact a.ll
  have o1 := a1.o
  rcases ixR_c (d + (8 - (2 + 1))) a1 hn hr hc hj (fun row hm x hx => by obtain ⟨b, hb, hq⟩ := drop_mem hm; exact w.e b row hq hb x hx) (by omega) with ⟨h1, h2⟩ | ⟨k, y, h1, h2, h3⟩
  · refine ⟨H ++ [.vals true [.int .i64 j]], L, R, r, ?_, a1, w.skip hj h2⟩
    clear a a1 w h2
    rw [round_v]; simp only [loopAt, nthC, bodyC, loops, List.nil_append, List.cons_append, List.append_nil, Try.f60, rkC]
    generalize L.map (slR n) = G at *
    simp (implicitDefEqProofs := false) (disch := omega) [go_sem, tab60, h1, o3, np0, sp0]
  · have hRl : R.length = n := a.rl
    have hkR : r + k < n := by have := (List.getElem?_eq_some_iff.1 h2).1; omega
    obtain ⟨x, hx⟩ : ∃ x, R[r]? = some x := ⟨_, List.getElem?_eq_getElem (by omega)⟩
    have hLl : L.length = n := a.ll
    obtain ⟨q, hq⟩ : ∃ q, L[r]? = some q := ⟨_, List.getElem?_eq_getElem (by omega)⟩
    obtain ⟨p, hp⟩ : ∃ p, L[r + k]? = some p := ⟨_, List.getElem?_eq_getElem (by omega)⟩
    obtain ⟨P, hP, hnz⟩ := nzAt_t (K := -((rE r : Nat) : Int)) h3
    obtain ⟨m, hm⟩ : ∃ m, r + 1 + m = n := ⟨n - (r + 1), by omega⟩
    have a2 := a1.swap hq hp hx h2
    have hs1 : (swp L r (r + k) q p)[r]? = some p := by
      rw [swp_get hq hp]; split
      · rename_i e; have : k = 0 := by omega
        subst this; rw [Nat.add_zero, hq] at hp; exact hp
      · rw [if_pos rfl]
    have hs2 : (swp R r (r + k) x y)[r]? = some y := by
      rw [swp_get hx h2]; split
      · rename_i e; have : k = 0 := by omega
        subst this; rw [Nat.add_zero, hx] at h2; exact h2
      · rw [if_pos rfl]
    have hE : ∀ (b : Nat) (row : List DyT), (swp R r (r + k) x y)[b]? = some row → r ≤ b → ∀ x ∈ row, EF (rB r) (rE r) x := fun b row h hb => by
      rw [swp_get hx h2] at h
      split at h
      · cases h; exact w.e r _ hx (Nat.le_refl _)
      · split at h
        · cases h; exact w.e (r + k) _ h2 (by omega)
        · exact w.e b _ h hb
    obtain ⟨H', hv, a3⟩ := rkT_l d hn hj (by omega) hs1 hs2 hP hE hm a2 (cj := H.length) (setN (by have := (List.getElem?_eq_some_iff.1 a.o).1; omega) hc _)
    have hl0 := fun ks => loop_v (P := Try.prog) (K := kn) (ks := ks) hv
    simp only [loopAt, nthC, bodyC, loops, List.nil_append, List.cons_append, List.append_nil, Try.f60, rkT, Int.natCast_zero, List.cons_append, List.nil_append] at hl0
    refine ⟨H', _, _, r + 1, ?_, a3, w.step hj hRl hm hx h2 hP hnz⟩
    have g1 : (L.map (slR n))[r]? = some (.sl q 0 n 3) := by rw [List.getElem?_map, hq]; rfl
    have g2 : (L.map (slR n))[r + k]? = some (.sl p 0 n 3) := by rw [List.getElem?_map, hp]; rfl
    have g3 : (((L.map (slR n)).set r (.sl p 0 n 3)).set (r + k) (.sl q 0 n 3))[r]? = some (.sl p 0 n 3) := by
      have := swp_get g1 g2 r
      unfold swp at this
      rw [this]; split
      · rename_i e; have : k = 0 := by omega
        subst this; rw [Nat.add_zero, hq] at hp; cases hp; rfl
      · rw [if_pos rfl]
    have g1' : ∀ hh : r < (L.map (slR n)).length, (L.map (slR n))[r] = .sl q 0 n 3 := fun hh => by rw [List.getElem?_eq_getElem hh] at g1; exact Option.some.inj g1
    have g2' : ∀ hh : r + k < (L.map (slR n)).length, (L.map (slR n))[r + k] = .sl p 0 n 3 := fun hh => by rw [List.getElem?_eq_getElem hh] at g2; exact Option.some.inj g2
    have g3' : ∀ hh : r < (((L.map (slR n)).set r (.sl p 0 n 3)).set (r + k) (.sl q 0 n 3)).length, (((L.map (slR n)).set r (.sl p 0 n 3)).set (r + k) (.sl q 0 n 3))[r] = .sl p 0 n 3 := fun hh => by rw [List.getElem?_eq_getElem hh] at g3; exact Option.some.inj g3
    have s1 := setE o1
    have hm2 : n - (r + 1) = m := by omega
    have e2 : ((r : Int) + k).toNat = r + k := by omega
    have hm3 : ((n : Int) - (r + 1)).toNat = m := by omega
    clear a a1 a2 a3 w h2 hv hE hs1 hs2 hx hRl hLl hq hp h3 hP hnz
    rw [round_v]; simp only [loopAt, nthC, bodyC, loops, List.nil_append, List.cons_append, List.append_nil, Try.f60, rkC]
    simp only [slR, Int.natCast_add, Int.natCast_one] at hl0
    generalize L.map (slR n) = G at *
    simp (implicitDefEqProofs := false) (disch := omega) [go_sem, tab60, h1, o1, o3, np0, sp0, g1, g2, g3, g1', g2', g3', s1, hm2, hm3, e2, hl0]
end
end
/- (grid).rank and MatRank of the program. No conditions. -/
section
open Num
section
variable {n i : Nat} {ds : List DyT}
theorem flat_dr : ∀ (q : Nat) (ds : List DyT), (flat DyT.v ds).drop (q * 3) = flat DyT.v (ds.drop q)
  | 0, ds => by simp
  | q + 1, [] => by simp [flat]
  | q + 1, x :: ds => by
    rw [flat, List.drop_succ_cons, ← flat_dr q ds, show (q + 1) * 3 = 3 + q * 3 by omega, ← List.drop_drop, List.drop_append_of_le_length (by simp [DyT.v])]
    simp [DyT.v]
theorem flat_tk : ∀ (q : Nat) (ds : List DyT), (flat DyT.v ds).take (q * 3) = flat DyT.v (ds.take q)
  | 0, ds => by simp [flat]
  | q + 1, [] => by simp [flat]
  | q + 1, x :: ds => by
    rw [flat, List.take_succ_cons, flat, ← flat_tk q ds, show (q + 1) * 3 = 3 + q * 3 by omega, List.take_append, List.take_of_length_le (show x.v.length ≤ 3 + q * 3 by simp [DyT.v])]
    simp [DyT.v]
def rowAt (ds : List DyT) (n b : Nat) : List DyT := (ds.drop (b * n)).take n
def rowsOf (ds : List DyT) (n i : Nat) : List (List DyT) := (List.range i).map (rowAt ds n)
def rcL (n i : Nat) : List V := (List.range i).map (fun b => slR n (b + 2)) ++ List.replicate (n - i) .nil
def rcT (ds : List DyT) (n i : Nat) : VH := (rowsOf ds n i).map fun row => .vals true (flat DyT.v row)
def rcS (ds : List DyT) (n i : Nat) : VE × VH := ([(1, some (.ptr 0 0)), (3, some (.sl 1 0 n 1)), (17, some (.int .i64 n)), (18, some (.int .i64 i))], .vals true [.int .i64 n, .cells 3 ds.length (flat DyT.v ds)] :: .vals true (rcL n i) :: rcT ds n i)
theorem rowAt_len (hl : ds.length = n * n) (hi : i < n) : (rowAt ds n i).length = n := by
  unfold rowAt
  have : i * n + n ≤ n * n := by rw [← Nat.succ_mul]; exact Nat.mul_le_mul_right _ (by omega)
  simp; omega
theorem rcT_len : (rcT ds n i).length = i := by unfold rcT rowsOf; simp
theorem rcL_len (h : i ≤ n) : (rcL n i).length = n := by unfold rcL; simp; omega
theorem rcL_set (h : i < n) : (rcL n i).set i (slR n (i + 2)) = rcL n (i + 1) := by
  unfold rcL
  rw [List.range_succ, List.map_append, show n - i = (n - (i + 1)) + 1 by omega, List.replicate_succ, List.set_append_right _ _ (by simp)]
  simp
theorem rcT_s : rcT ds n (i + 1) = rcT ds n i ++ [.vals true (flat DyT.v (rowAt ds n i))] := by
  unfold rcT rowsOf; rw [List.range_succ, List.map_append, List.map_append]; rfl
theorem rcS_r (d : Nat) (hn : n ≤ 4) (hl : ds.length = n * n) (hi : i < n) : vCode Try.prog kn (vrun Try.prog kn (d + 8)) 60 (loopAt Try.f60 0) (rcS ds n i).1 (rcS ds n i).2 = some (.norm, rcS ds n (i + 1)) := by
  have hq : i * n + n ≤ n * n := by rw [← Nat.succ_mul]; exact Nat.mul_le_mul_right _ (by omega)
  have hnn : n * n ≤ 16 := Nat.mul_le_mul hn hn
  have hrl := rowAt_len hl hi
  have h1 := fun d h => cloneR_c (row := rowAt ds n i) d h (by omega) (by omega)
  unfold rowV at h1
  have hF : ((flat DyT.v ds).drop (i * n * 3)).take (n * 3) = flat DyT.v (rowAt ds n i) := by rw [flat_dr, flat_tk]; rfl
  have hln := flat_len3 ds
  have hI : (i : Int) * n = ((i * n : Nat) : Int) := by simp
  have hI2 : ((i : Int) + 1) * n = ((i * n : Nat) : Int) + n := by rw [Int.add_mul, hI, Int.one_mul]
  have hT := rcT_len (ds := ds) (n := n) (i := i)
  have hL := rcL_len (n := n) (i := i) (by omega)
  have hset := rcL_set hi
  rw [hrl] at h1
  rw [round_v]; simp only [loopAt, nthC, bodyC, loops, List.nil_append, List.cons_append, List.append_nil, Try.f60, rcS, rcT_s]
  simp only [slR] at hset
  generalize rowAt ds n i = row at *
  generalize flat DyT.v row = G at *
  generalize flat DyT.v ds = F at *
  generalize rcT ds n i = T at *
  generalize rcL n (i + 1) = M' at *
  generalize rcL n i = M at *
  generalize i * n = q at *
  generalize ds.length = Q at *
  generalize n * n = Q2 at *
  have e3 : ((q : Int) + n - q).toNat = n := by omega
  simp (implicitDefEqProofs := false) (disch := omega) [go_sem, tab60, h1, hF, hln, hI, hI2, hT, hL, hset, e3]
theorem rcS_x (call : CallV) : vCode Try.prog kn call 60 (loopAt Try.f60 0) (rcS ds n n).1 (rcS ds n n).2 = some (.exit 0, (rcS ds n n).1 ++ [(19, some (.bool false))], (rcS ds n n).2) := by
  rw [round_v]; simp only [loopAt, nthC, bodyC, loops, List.nil_append, List.cons_append, List.append_nil, Try.f60, rcS]
  simp (implicitDefEqProofs := false) (disch := omega) [go_sem, tab60]
theorem rc_RM (hl : ds.length = n * n) : RM (rcS ds n n).2 n ((List.range n).map (· + 2)) (rowsOf ds n n) where
  o := by
    show some _ = some _
    rw [List.map_map]; unfold rcL; simp
  ll := by simp
  rl := by unfold rowsOf; simp
  row := fun i q row h1 h2 => by
    unfold rowsOf at h2
    rw [List.getElem?_map] at h1 h2
    by_cases hi : i < n
    · rw [List.getElem?_range hi, Option.map_some] at h1 h2
      cases h1; cases h2
      refine ⟨?_, rowAt_len hl hi⟩
      show (rcT ds n n)[i]? = _
      unfold rcT rowsOf
      rw [List.getElem?_map, List.getElem?_map, List.getElem?_range hi]; rfl
    · rw [List.getElem?_eq_none (by simp; omega)] at h1; cases h1
  nd := fun i k q h1 h2 => by
    rw [List.getElem?_map] at h1 h2
    by_cases hi : i < n
    · by_cases hk : k < n
      · rw [List.getElem?_range hi, Option.map_some] at h1
        rw [List.getElem?_range hk, Option.map_some] at h2
        cases h1; cases h2; rfl
      · rw [List.getElem?_eq_none (l := List.range n) (i := k) (by simp; omega)] at h2; cases h2
    · rw [List.getElem?_eq_none (by simp; omega)] at h1; cases h1
  n1 := fun q hq => by obtain ⟨b, _, rfl⟩ := List.mem_map.1 hq; omega
theorem rkC_x (call : CallV) {H : VH} {r : Nat} : vCode Try.prog kn call 60 (loopAt Try.f60 1) (rkC H n r n).1 (rkC H n r n).2 = some (.exit 2, (rkC H n r n).1 ++ [(41, some (.bool false))], (rkC H n r n).2) := by
  rw [round_v]; simp only [loopAt, nthC, bodyC, loops, List.nil_append, List.cons_append, List.append_nil, Try.f60, rkC]
  simp (implicitDefEqProofs := false) (disch := omega) [go_sem, tab60]
/-- The rows of a matrix of numbers, as whole numbers. -/
def rw0 (ds : List DyT) (n : Nat) : List Row := (rowsOf ds n n).map (rF (-((rE 0 : Nat) : Int)))
theorem rank_v (d : Nat) (h0 : 1 ≤ n) (hn : n ≤ 4) (hl : ds.length = n * n) (ho : ∀ x ∈ ds, EF (rB 0) (rE 0) x) : ∃ (r : Nat) (L : List Row), vrun Try.prog kn (d + 9) 60 [.agg [.int .i64 n, .cells 3 ds.length (flat DyT.v ds)]] [] = some (.int .i64 r, []) ∧ ∀ k, NZ (k + r) (rw0 ds n) (List.range' 0 n) ↔ NZ k L [] := by
  have hl0 := fun ks => loop_v (P := Try.prog) (K := kn) (ks := ks) (vi_for (rcS ds n) n (n := kn.cf.rounds) (by rw [k_cf, c_rounds]; omega) (fun i hi => rcS_r d hn hl hi) fun m => vi_exit (rcS_x _))
  have a0 := rc_RM hl
  have w0 : Cnt (rw0 ds n) (List.range' 0 n) n 0 0 (rowsOf ds n n) := {
    rj := Nat.le_refl _
    e := fun b row h _ x hx => ho x (by
      unfold rowsOf at h
      rw [List.getElem?_map] at h
      obtain ⟨c, _, rfl⟩ := Option.map_eq_some_iff.1 h
      exact List.mem_of_mem_drop (List.mem_of_mem_take hx))
    len := fun b row h => by
      unfold rowsOf at h
      rw [List.getElem?_map] at h
      obtain ⟨c, hc, rfl⟩ := Option.map_eq_some_iff.1 h
      have hb : b < n := by have := (List.getElem?_eq_some_iff.1 hc).1; simpa using this
      rw [List.getElem?_range hb] at hc; cases hc
      exact rowAt_len hl hb
    nz := fun k => Iff.rfl }
  have e0 : ∃ H, (rcS ds n n).2 = H := ⟨_, rfl⟩
  obtain ⟨H, eH⟩ := e0
  rw [eH] at a0
  obtain ⟨H', r, hv, L', hL'⟩ := vi_inv (n := kn.cf.rounds) (body := vCode Try.prog kn (vrun Try.prog kn (d + 8)) 60 (loopAt Try.f60 1))
    (fun j s => ∃ H L R r, s = rkC H n r j ∧ RM H n L R ∧ Cnt (rw0 ds n) (List.range' 0 n) n r j R)
    (fun o => ∃ (H : VH) (r : Nat), o = some (.exit 2, (rkC H n r n).1 ++ [(41, some (.bool false))], H) ∧ ∃ L : List Row, ∀ k, NZ (k + r) (rw0 ds n) (List.range' 0 n) ↔ NZ k L []) n (by rw [k_cf, c_rounds]; omega)
    (fun j s hj hI => by
      obtain ⟨H, L, R, r, rfl, a, w⟩ := hI
      obtain ⟨H', L', R', r', hv, a', w'⟩ := rkC_r d hn hj a w
      exact .inl ⟨_, hv, H', L', R', r', rfl, a', w'⟩)
    (fun s hI m => by
      obtain ⟨H, L, R, r, rfl, a, w⟩ := hI
      refine ⟨H, r, vi_exit (rkC_x _), (R.drop r).map (rF (-((rE r : Nat) : Int))), fun k => ?_⟩
      have := w.nz k
      rw [Nat.sub_self] at this
      exact this)
    (rkC H n 0 0) ⟨H, _, _, 0, rfl, a0, w0⟩
  have hl1 := fun ks => loop_v (P := Try.prog) (K := kn) (ks := ks) hv
  have e1 : rcL n 0 = List.replicate n .nil := by unfold rcL; simp
  have e2 : rcT ds n 0 = [] := rfl
  simp only [loopAt, nthC, bodyC, loops, List.nil_append, List.cons_append, List.append_nil, Try.f60, rkC, Int.natCast_zero, List.cons_append, List.nil_append] at hl1
  simp only [rcS] at eH
  simp only [loopAt, nthC, bodyC, loops, List.nil_append, List.cons_append, List.append_nil, Try.f60, rcS, eH, e1, e2, Int.natCast_zero, List.cons_append, List.nil_append] at hl0
  have hvr : vreps n [V.nil] = List.replicate n .nil := by unfold vreps; simp
  refine ⟨r, L', ?_, hL'⟩
  obtain ⟨T, hT⟩ : ∃ T, rcT ds n n = T := ⟨_, rfl⟩
  have g0 : H[0]? = some (.vals true [.int .i64 n, .cells 3 ds.length (flat DyT.v ds)]) := by rw [← eH]; rfl
  clear hL' a0 w0 eH hv ho
  generalize flat DyT.v ds = F at *
  rw [vrun_v Try.func60 rfl rfl rfl]; simp only [Try.f60]
  simp (implicitDefEqProofs := false) (disch := omega) [go_sem, tab60, hl0, hl1, hvr, g0]
end
end
/- The reference's rank: what its loops count. No program in sight. No conditions. -/
section
open Num
def bitsL (n r : Nat) : List Nat := (List.range n).filter fun i => bitR r i == 1
def subs : List Nat → List (List Nat)
  | [] => [[]]
  | a :: l => subs l ++ (subs l).map (a :: ·)
theorem mem_subs {I l : List Nat} (h : I.Sublist l) : I ∈ subs l := by
  induction h with
  | slnil => simp [subs]
  | cons a _ ih => rw [subs]; exact List.mem_append.2 (.inl ih)
  | cons_cons a _ ih => rw [subs]; exact List.mem_append.2 (.inr (List.mem_map.2 ⟨_, ih, rfl⟩))
theorem mask_all : ((List.range 5).all fun n => (subs (List.range n)).all fun I => (List.range (2 ^ n)).any fun r => bitsL n r == I) = true := by decide +kernel
theorem mask {n : Nat} (hn : n ≤ 4) {I : List Nat} (h : I.Sublist (List.range n)) : ∃ r, r < 2 ^ n ∧ bitsL n r = I := by
  have h1 := List.all_eq_true.1 (List.all_eq_true.1 mask_all n (List.mem_range.2 (by omega))) I (mem_subs h)
  obtain ⟨r, h2, h3⟩ := List.any_eq_true.1 h1
  exact ⟨r, List.mem_range.1 h2, by simpa using h3⟩
theorem cnt_all : ((List.range 5).all fun n => (List.range 16).all fun r => cntB r n == (bitsL n r).length) = true := by decide +kernel
theorem cnt_len {n r : Nat} (hn : n ≤ 4) (hr : r < 16) : cntB r n = (bitsL n r).length := by
  have := List.all_eq_true.1 (List.all_eq_true.1 cnt_all n (List.mem_range.2 (by omega))) r (List.mem_range.2 hr)
  simpa using this
theorem idx_all : ((List.range 5).all fun n => (List.range 16).all fun r => (List.range 16).all fun s => ((List.range (n * n)).filter fun k => bitR r (k / n) == 1 && bitR s (k % n) == 1) == (bitsL n r).flatMap fun i => (bitsL n s).map fun c => i * n + c) = true := by decide +kernel
theorem idx_eq {n r s : Nat} (hn : n ≤ 4) (hr : r < 16) (hs : s < 16) : ((List.range (n * n)).filter fun k => bitR r (k / n) == 1 && bitR s (k % n) == 1) = (bitsL n r).flatMap fun i => (bitsL n s).map fun c => i * n + c := by
  have := List.all_eq_true.1 (List.all_eq_true.1 (List.all_eq_true.1 idx_all n (List.mem_range.2 (by omega))) r (List.mem_range.2 hr)) s (List.mem_range.2 hs)
  simpa using this
section
variable {ds : List DyT} {n r s : Nat}
/-- A number of a matrix, nought where there is none. -/
def fAt (ds : List DyT) (n i c : Nat) : DyT := ((rowAt ds n i)[c]?).getD zD3
theorem fAt_in {i c : Nat} (hc : c < n) : fAt ds n i c = ds.getD (i * n + c) zD3 := by
  unfold fAt rowAt
  rw [List.getElem?_take, if_pos hc, List.getElem?_drop, List.getD_eq_getElem?_getD]
theorem fAt_all {P : DyT → Prop} (h : ∀ x ∈ ds, P x) (h0 : P zD3) (i c : Nat) : P (fAt ds n i c) := by
  unfold fAt
  cases hq : (rowAt ds n i)[c]? with
  | none => exact h0
  | some x => exact h x (List.mem_of_mem_drop (List.mem_of_mem_take (List.mem_of_getElem? hq)))
theorem rF_f (K : Int) (i : Nat) : rF K (rowAt ds n i) = fun c => (fAt ds n i c).sv K := by
  funext c
  unfold rF fAt
  cases (rowAt ds n i)[c]? with
  | none => exact (sv_zero.2 zz_n).symm
  | some x => rfl
theorem fm_congr {α β : Type} {f g : α → List β} : ∀ {l : List α}, (∀ i ∈ l, f i = g i) → l.flatMap f = l.flatMap g
  | [], _ => rfl
  | a :: l, h => by rw [List.flatMap_cons, List.flatMap_cons, h a List.mem_cons_self, fm_congr fun i hi => h i (List.mem_cons_of_mem _ hi)]
theorem part_grid (hn : n ≤ 4) (hl : ds.length = n * n) (hr : r < 16) (hs : s < 16) : rwP ds n r s (n * n) = gridL (fAt ds n) (bitsL n r) (bitsL n s) := by
  have h1 : rwP ds n r s (n * n) = ((List.range (n * n)).filter fun k => bitR r (k / n) == 1 && bitR s (k % n) == 1).map fun k => ds.getD k zD3 := by
    unfold rwP
    have : ∀ l : List Nat, (∀ k ∈ l, k < ds.length) → (l.filterMap fun k => if bitR r (k / n) = 1 ∧ bitR s (k % n) = 1 then ds[k]? else none) = (l.filter fun k => bitR r (k / n) == 1 && bitR s (k % n) == 1).map fun k => ds.getD k zD3 := by
      intro l
      induction l with
      | nil => intro _; rfl
      | cons k l ih =>
        intro h
        have ih := ih fun k hk => h k (List.mem_cons_of_mem _ hk)
        have hk := h k List.mem_cons_self
        by_cases hc : bitR r (k / n) = 1 ∧ bitR s (k % n) = 1
        · rw [List.filterMap_cons, if_pos hc, List.getElem?_eq_getElem hk, List.filter_cons_of_pos (by simp [hc]), List.map_cons, ← ih, List.getD_eq_getElem?_getD, List.getElem?_eq_getElem hk]; rfl
        · rw [List.filterMap_cons, if_neg hc, List.filter_cons_of_neg (by simpa using hc), ← ih]
    exact this _ fun k hk => by rw [hl]; exact List.mem_range.1 hk
  rw [h1, idx_eq hn hr hs]
  unfold gridL
  rw [List.map_flatMap]
  refine fm_congr fun i _ => ?_
  rw [List.map_map]
  refine List.map_congr_left fun c hc => ?_
  have : c < n := List.mem_range.1 (List.mem_filter.1 hc).1
  rw [fAt_in this]; rfl
/-- What a choice of rows and columns brings. -/
def fz (ds : List DyT) (n r s : Nat) : Nat := if rwB n r s && decide ((detX (cntB r n) (rwP ds n r s (n * n))).n ≠ 0) then cntB r n else 0
def mxN (a b : Nat) : Nat := if a < b then b else a
def inB (ds : List DyT) (n r b : Nat) : Nat → Nat
  | 0 => b
  | j + 1 => mxN (inB ds n r b j) (fz ds n r (j + 1))
def outB (ds : List DyT) (n E : Nat) : Nat → Nat
  | 0 => 0
  | i + 1 => inB ds n (i + 1) (outB ds n E i) E
theorem mxN_le {a b : Nat} : a ≤ mxN a b ∧ b ≤ mxN a b := by unfold mxN; split <;> omega
theorem mxN_or {a b : Nat} : mxN a b = a ∨ mxN a b = b := by unfold mxN; split <;> simp
theorem inB_ge {b : Nat} : ∀ j, b ≤ inB ds n r b j ∧ ∀ s, 1 ≤ s → s ≤ j → fz ds n r s ≤ inB ds n r b j
  | 0 => ⟨Nat.le_refl _, fun s h1 h2 => by omega⟩
  | j + 1 => by
    obtain ⟨h1, h2⟩ := inB_ge (b := b) j
    have h3 := mxN_le (a := inB ds n r b j) (b := fz ds n r (j + 1))
    rw [inB]
    refine ⟨by omega, fun s g1 g2 => ?_⟩
    by_cases h : s = j + 1
    · rw [h]; exact h3.2
    · have := h2 s g1 (by omega); omega
theorem inB_or {P : Nat → Prop} {b j : Nat} (hb : P b) (hf : ∀ s, s < j + 1 → P (fz ds n r s)) : P (inB ds n r b j) := by
  induction j with
  | zero => exact hb
  | succ j ih =>
    rw [inB]
    rcases mxN_or (a := inB ds n r b j) (b := fz ds n r (j + 1)) with h | h <;> rw [h]
    · exact ih fun s hs => hf s (by omega)
    · exact hf _ (by omega)
theorem outB_ge {E : Nat} : ∀ i r, 1 ≤ r → r ≤ i → ∀ s, 1 ≤ s → s ≤ E → fz ds n r s ≤ outB ds n E i
  | 0, r, h1, h2, _, _, _ => by omega
  | i + 1, r, h1, h2, s, h3, h4 => by
    rw [outB]
    by_cases h : r = i + 1
    · subst h; exact (inB_ge E).2 s h3 h4
    · have := outB_ge (E := E) i r h1 (by omega) s h3 h4
      have := (inB_ge (ds := ds) (n := n) (r := i + 1) (b := outB ds n E i) E).1
      omega
theorem outB_or {P : Nat → Prop} {E i : Nat} (h0 : P 0) (hf : ∀ r s, r < i + 1 → s < E + 1 → P (fz ds n r s)) : P (outB ds n E i) := by
  induction i with
  | zero => exact h0
  | succ i ih =>
    rw [outB]
    exact inB_or (ih fun r s hr hs => hf r s (by omega) hs) fun s hs => hf (i + 1) s (by omega) hs
theorem det_fz {K T : Nat} (hf : ∀ i c, BD K T (fAt ds n i c)) (hn : n ≤ 4) (hl : ds.length = n * n) (hr : r < 16) (hs : s < 16) (hb : rwB n r s = true) :
    ((detX (cntB r n) (rwP ds n r s (n * n))).n = 0 ↔ detL ((bitsL n r).map fun i c => (fAt ds n i c).sv (-(K : Int))) (bitsL n s) = 0) ∧ (detX (cntB r n) (rwP ds n r s (n * n))).l = D (detX (cntB r n) (rwP ds n r s (n * n))).n := by
  have hb' := of_decide_eq_true hb
  have h1 := cnt_len hn hr
  have h2 := cnt_len hn hs
  have h3 := cntB_le r n
  rw [part_grid hn hl hr hs]
  have h := detX_v hf (cntB r n) (bitsL n r) (bitsL n s) (by omega) (by omega) (by omega) (by omega)
  exact ⟨by rw [← h.2]; exact sv_zero.symm, h.1.l⟩
/-- What the loops come to is the size of the greatest part. -/
theorem outB_nz {K T : Nat} (hf : ∀ i c, BD K T (fAt ds n i c)) (hn : n ≤ 4) (hl : ds.length = n * n) : NZ (outB ds n (2 ^ n - 1) (2 ^ n - 1)) ((List.range n).map fun i c => (fAt ds n i c).sv (-(K : Int))) (List.range n) ∧ ∀ k, NZ k ((List.range n).map fun i c => (fAt ds n i c).sv (-(K : Int))) (List.range n) → k ≤ outB ds n (2 ^ n - 1) (2 ^ n - 1) := by
  have hp : 2 ^ n ≤ 2 ^ 4 := Nat.pow_le_pow_right (by omega) hn
  have hp' : 0 < 2 ^ n := Nat.pow_pos (by omega)
  constructor
  · refine outB_or (P := fun b => NZ b ((List.range n).map fun i c => (fAt ds n i c).sv (-(K : Int))) (List.range n)) (.zero _ _) fun r s hr hs => ?_
    unfold fz
    cases hb : rwB n r s with
    | false => exact .zero _ _
    | true =>
      rw [Bool.true_and]
      by_cases hz : (detX (cntB r n) (rwP ds n r s (n * n))).n = 0
      · rw [if_neg (by simpa using hz)]; exact .zero _ _
      · rw [if_pos (by simpa using hz)]
        have hb' := of_decide_eq_true hb
        have h1 := cnt_len (n := n) (r := r) hn (by omega)
        have h2 := cnt_len (n := n) (r := s) hn (by omega)
        refine ⟨_, bitsL n s, (List.filter_sublist (l := List.range n) (p := fun i => bitR r i == 1)).map _, List.filter_sublist, by rw [List.length_map]; exact h1.symm, by omega, ?_⟩
        intro e
        exact hz ((det_fz hf hn hl (by omega) (by omega) hb).1.2 e)
  · rintro k ⟨rs, js, h1, h2, h3, h4, h5⟩
    obtain ⟨I, g1, rfl⟩ := List.sublist_map_iff.1 h1
    obtain ⟨r, r1, r2⟩ := mask hn g1
    obtain ⟨s, s1, s2⟩ := mask hn h2
    subst r2; subst s2
    rw [List.length_map] at h3
    have c1 := cnt_len (n := n) (r := r) hn (by omega)
    have c2 := cnt_len (n := n) (r := s) hn (by omega)
    by_cases hk : k = 0
    · omega
    · have r0 : r ≠ 0 := fun e => by
        subst e
        have : bitsL n 0 = [] := by unfold bitsL bitR; simp
        rw [this] at h3; simp at h3; omega
      have s0 : s ≠ 0 := fun e => by
        subst e
        have : bitsL n 0 = [] := by unfold bitsL bitR; simp
        rw [this] at h4; simp at h4; omega
      have hb : rwB n r s = true := decide_eq_true ⟨by omega, by omega⟩
      have hz : (detX (cntB r n) (rwP ds n r s (n * n))).n ≠ 0 := fun e => h5 ((det_fz hf hn hl (by omega) (by omega) hb).1.1 e)
      have : fz ds n r s = k := by unfold fz; rw [hb, Bool.true_and, if_pos (by simpa using hz)]; omega
      rw [← this]
      exact outB_ge _ r (by omega) (by omega) s (by omega) (by omega)
end
end
/- The reference's rank, walked. No conditions. -/
section
open Num
section
variable {ds : List DyT} {n r b j E i : Nat} {K T : Nat}
def rkI (ds : List DyT) (n r b j : Nat) : VE × VH := ([(1, some (.ptr 0 0)), (3, some (.int .i64 (inB ds n r b j))), (4, some (.int .i64 r)), (5, some (.int .i64 ((j : Int) + 1)))], [.vals true [.int .i64 n, .cells 3 ds.length (flat DyT.v ds)]])
theorem rkI_r (d : Nat) (hf : ∀ i c, BD K T (fAt ds n i c)) (hK : K = 3000) (hT : T = 7600) (hn1 : 1 ≤ n) (hn : n ≤ 4) (hl : ds.length = n * n) (hE : E = 2 ^ n) (hr : r < 16) (hj : j + 1 < E) (hb : b ≤ 4) :
    vCode Try.prog kn (vrun Try.prog kn (d + 4 + 6)) 56 (loopAt Try.f56 1) (rkI ds n r b j).1 (rkI ds n r b j).2 = some (.norm, rkI ds n r b (j + 1)) := by
  have hp : 2 ^ n ≤ 2 ^ 4 := Nat.pow_le_pow_right (by omega) hn
  have sh := fun t => show binE Try.prog .shl t (.int .i64 1) (.int .i64 n) = some (.int .i64 E) by
    have : n = 1 ∨ n = 2 ∨ n = 3 ∨ n = 4 := by omega
    subst hE
    rcases this with rfl | rfl | rfl | rfl <;> (rw [b_shl]; rfl)
  have h1 := fun d => l9rows_v (ds := ds) (n := n) (r := r) (s := j + 1) d hn1 hn (by omega) (by omega) hl
  have hj1 : ((j + 1 : Nat) : Int) = (j : Int) + 1 := rfl
  rw [hj1] at h1
  have hbd : inB ds n r b j ≤ 4 := inB_or (P := fun b => b ≤ 4) hb fun s _ => by
    unfold fz; have := cntB_le r n; split <;> omega
  have hjE : (j : Int) + 1 < E := by omega
  rw [round_v]; simp only [loopAt, nthC, bodyC, loops, List.nil_append, List.cons_append, List.append_nil, Try.f56, rkI]
  rw [inB]
  cases hq : rwB n r (j + 1) with
  | false =>
    have hz : fz ds n r (j + 1) = 0 := by unfold fz; rw [hq]; rfl
    have hm : mxN (inB ds n r b j) 0 = inB ds n r b j := by unfold mxN; rw [if_neg (by omega)]
    have e1 : rwN n r (j + 1) = 0 := by unfold rwN; rw [hq]; rfl
    have e2 : rwT ds n r (j + 1) = [] := by unfold rwT; rw [hq]; rfl
    rw [hz, hm]
    rw [hq, e1, e2] at h1
    simp only [flat, List.length_nil] at h1
    clear hf hl hz hm e1 e2 hq
    generalize inB ds n r b j = w at *
    generalize flat DyT.v ds = F at *
    simp (implicitDefEqProofs := false) (disch := omega) [go_sem, tab56, sh, h1]
  | true =>
    have e1 : rwN n r (j + 1) = cntB r n := by unfold rwN; rw [hq]; rfl
    have e2 : rwT ds n r (j + 1) = rwP ds n r (j + 1) (n * n) := by unfold rwT; rw [hq]; rfl
    rw [hq, e1, e2] at h1
    have hcn := cntB_le r n
    by_cases hc : inB ds n r b j < cntB r n
    · obtain ⟨hz1, hz2⟩ := det_fz hf hn hl hr (by omega) hq
      have hbb := of_decide_eq_true hq
      have c1 := cnt_len (n := n) (r := r) hn (by omega)
      have c2 := cnt_len (n := n) (r := j + 1) hn (by omega)
      have h2 := l9det_v hf hK hT (cntB r n) (d + 4 + 1 - cntB r n) (bitsL n r) (bitsL n (j + 1)) (by omega) (by omega) (by omega) (by omega)
      rw [← part_grid hn hl hr (by omega), show d + 4 + 1 - cntB r n + cntB r n + 5 = d + 4 + 6 by omega] at h2
      by_cases h0 : (detX (cntB r n) (rwP ds n r (j + 1) (n * n))).n = 0
      · have hz : fz ds n r (j + 1) = 0 := by unfold fz; rw [if_neg (by simp [h0])]
        have hm : mxN (inB ds n r b j) 0 = inB ds n r b j := by unfold mxN; rw [if_neg (by omega)]
        rw [hz, hm]
        rw [h0] at hz2
        have e3 : (detX (cntB r n) (rwP ds n r (j + 1) (n * n))).l.length = 0 := by rw [hz2, D_zero]; rfl
        have hlt : (inB ds n r b j : Int) < cntB r n := by omega
        clear hf hl hz hm e1 e2 hq hz1 hz2 h0 hbb c1 c2
        generalize detX (cntB r n) (rwP ds n r (j + 1) (n * n)) = x at *
        generalize rwP ds n r (j + 1) (n * n) = P at *
        generalize inB ds n r b j = w at *
        generalize cntB r n = u at *
        generalize flat DyT.v ds = F at *
        generalize flat DyT.v P = G at *
        simp (implicitDefEqProofs := false) (disch := omega) [go_sem, tab56, sh, h1, h2, hlt, e3]
      · have hz : fz ds n r (j + 1) = cntB r n := by unfold fz; rw [hq, if_pos (by simpa using h0)]
        have hm : mxN (inB ds n r b j) (cntB r n) = cntB r n := by unfold mxN; rw [if_pos (by omega)]
        rw [hz, hm]
        have e3 : 0 < (detX (cntB r n) (rwP ds n r (j + 1) (n * n))).l.length := by
          rw [hz2]; exact List.length_pos_iff.2 fun e => h0 (D_nil_iff.1 e)
        have e4 : (0 : Int) < ((detX (cntB r n) (rwP ds n r (j + 1) (n * n))).l.length : Int) := by omega
        have hlt : (inB ds n r b j : Int) < cntB r n := by omega
        clear hf hl hz hm e1 e2 hq hz1 hz2 h0 hbb c1 c2
        generalize detX (cntB r n) (rwP ds n r (j + 1) (n * n)) = x at *
        generalize rwP ds n r (j + 1) (n * n) = P at *
        generalize inB ds n r b j = w at *
        generalize cntB r n = u at *
        generalize flat DyT.v ds = F at *
        generalize flat DyT.v P = G at *
        simp (implicitDefEqProofs := false) (disch := omega) [go_sem, tab56, sh, h1, h2, hlt, e3, e4]
    · have hfz : fz ds n r (j + 1) ≤ cntB r n := by unfold fz; split <;> omega
      have hm : mxN (inB ds n r b j) (fz ds n r (j + 1)) = inB ds n r b j := by unfold mxN; rw [if_neg (by omega)]
      rw [hm]
      have hlt : ¬ (inB ds n r b j : Int) < cntB r n := by omega
      clear hf hl hm e1 e2 hq hfz
      generalize rwP ds n r (j + 1) (n * n) = P at *
      generalize inB ds n r b j = w at *
      generalize cntB r n = u at *
      generalize flat DyT.v ds = F at *
      generalize flat DyT.v P = G at *
      simp (implicitDefEqProofs := false) (disch := omega) [go_sem, tab56, sh, h1, hlt]
theorem shE (hn1 : 1 ≤ n) (hn : n ≤ 4) (hE : E = 2 ^ n) (t : TypeId) : binE Try.prog .shl t (.int .i64 1) (.int .i64 n) = some (.int .i64 E) := by
  have : n = 1 ∨ n = 2 ∨ n = 3 ∨ n = 4 := by omega
  subst hE
  rcases this with rfl | rfl | rfl | rfl <;> (rw [b_shl]; rfl)
theorem rkI_x (call : CallV) (hn1 : 1 ≤ n) (hn : n ≤ 4) (hE : E = 2 ^ n) (hj : j + 1 = E) : vCode Try.prog kn call 56 (loopAt Try.f56 1) (rkI ds n r b j).1 (rkI ds n r b j).2 = some (.exit 2, (rkI ds n r b j).1 ++ [(19, some (.bool false))], (rkI ds n r b j).2) := by
  have sh := shE hn1 hn hE
  have hjE : (j : Int) + 1 = E := by omega
  rw [round_v]; simp only [loopAt, nthC, bodyC, loops, List.nil_append, List.cons_append, List.append_nil, Try.f56, rkI, hjE]
  generalize flat DyT.v ds = F
  simp (implicitDefEqProofs := false) (disch := omega) [go_sem, tab56, sh]
def rkO (ds : List DyT) (n E i : Nat) : VE × VH := ([(1, some (.ptr 0 0)), (3, some (.int .i64 (outB ds n (E - 1) i))), (4, some (.int .i64 ((i : Int) + 1)))], [.vals true [.int .i64 n, .cells 3 ds.length (flat DyT.v ds)]])
theorem rkO_r (d : Nat) (hf : ∀ i c, BD K T (fAt ds n i c)) (hK : K = 3000) (hT : T = 7600) (hn1 : 1 ≤ n) (hn : n ≤ 4) (hl : ds.length = n * n) (hE : E = 2 ^ n) (hi : i + 1 < E) :
    vCode Try.prog kn (vrun Try.prog kn (d + 4 + 6)) 56 (loopAt Try.f56 0) (rkO ds n E i).1 (rkO ds n E i).2 = some (.norm, rkO ds n E (i + 1)) := by
  have hp : 2 ^ n ≤ 2 ^ 4 := Nat.pow_le_pow_right (by omega) hn
  have hbd : outB ds n (E - 1) i ≤ 4 := outB_or (P := fun b => b ≤ 4) (by omega) fun r s _ _ => by
    unfold fz; have := cntB_le r n; split <;> omega
  have sh := shE hn1 hn hE
  have hl0 := fun ks => loop_v (P := Try.prog) (K := kn) (ks := ks) (vi_for (rkI ds n (i + 1) (outB ds n (E - 1) i)) (E - 1) (n := kn.cf.rounds) (by rw [k_cf, c_rounds]; omega) (fun j hj => rkI_r d hf hK hT hn1 hn hl hE (by omega) (by omega) hbd) fun m => vi_exit (rkI_x _ hn1 hn hE (by omega)))
  have e0 : inB ds n (i + 1) (outB ds n (E - 1) i) 0 = outB ds n (E - 1) i := rfl
  have e1 : inB ds n (i + 1) (outB ds n (E - 1) i) (E - 1) = outB ds n (E - 1) (i + 1) := rfl
  have e2 : ((i + 1 : Nat) : Int) = (i : Int) + 1 := rfl
  have hiE : (i : Int) + 1 < E := by omega
  simp only [loopAt, nthC, bodyC, loops, List.nil_append, List.cons_append, List.append_nil, Try.f56, rkI, e0, e1, e2, Int.natCast_zero, Int.zero_add, List.cons_append, List.nil_append] at hl0
  clear hf hl hbd e0 e1
  rw [round_v]; simp only [loopAt, nthC, bodyC, loops, List.nil_append, List.cons_append, List.append_nil, Try.f56, rkO, e2]
  generalize outB ds n (E - 1) (i + 1) = w' at *
  generalize outB ds n (E - 1) i = w at *
  generalize flat DyT.v ds = F at *
  simp (implicitDefEqProofs := false) (disch := omega) [go_sem, tab56, sh, hl0]
theorem rkO_x (call : CallV) (hn1 : 1 ≤ n) (hn : n ≤ 4) (hE : E = 2 ^ n) (hi : i + 1 = E) : vCode Try.prog kn call 56 (loopAt Try.f56 0) (rkO ds n E i).1 (rkO ds n E i).2 = some (.exit 0, (rkO ds n E i).1 ++ [(12, some (.bool false))], (rkO ds n E i).2) := by
  have sh := shE hn1 hn hE
  have hiE : (i : Int) + 1 = E := by omega
  rw [round_v]; simp only [loopAt, nthC, bodyC, loops, List.nil_append, List.cons_append, List.append_nil, Try.f56, rkO, hiE]
  generalize flat DyT.v ds = F
  simp (implicitDefEqProofs := false) (disch := omega) [go_sem, tab56, sh]
theorem l9rank_v (d : Nat) (hf : ∀ i c, BD K T (fAt ds n i c)) (hK : K = 3000) (hT : T = 7600) (hn1 : 1 ≤ n) (hn : n ≤ 4) (hl : ds.length = n * n) :
    vrun Try.prog kn (d + 4 + 7) 56 [.agg [.int .i64 n, .cells 3 ds.length (flat DyT.v ds)]] [] = some (.int .i64 (outB ds n (2 ^ n - 1) (2 ^ n - 1)), []) := by
  obtain ⟨E, hE⟩ : ∃ E, E = 2 ^ n := ⟨_, rfl⟩
  have hp : 2 ^ n ≤ 2 ^ 4 := Nat.pow_le_pow_right (by omega) hn
  have hp' : 0 < 2 ^ n := Nat.pow_pos (by omega)
  have hl0 := fun ks => loop_v (P := Try.prog) (K := kn) (ks := ks) (vi_for (rkO ds n E) (E - 1) (n := kn.cf.rounds) (by rw [k_cf, c_rounds]; omega) (fun i hi => rkO_r d hf hK hT hn1 hn hl hE (by omega)) fun m => vi_exit (rkO_x _ hn1 hn hE (by omega)))
  have e0 : outB ds n (E - 1) 0 = 0 := rfl
  simp only [loopAt, nthC, bodyC, loops, List.nil_append, List.cons_append, List.append_nil, Try.f56, rkO, e0, Int.natCast_zero, Int.zero_add, List.cons_append, List.nil_append] at hl0
  rw [← hE]
  clear hf hl
  generalize outB ds n (E - 1) (E - 1) = w at *
  generalize flat DyT.v ds = F at *
  rw [vrun_v Try.func56 rfl rfl rfl]; simp only [Try.f56]
  simp (implicitDefEqProofs := false) (disch := omega) [go_sem, tab56, hl0]
end
end
/- The exact laws copy an argument (told frozen): lists, naturals, wholes, dyadics. No conditions. -/
section
open Num
section
variable {l : List Int}
def cpL (l : List Int) (j : Nat) : List Int := l.take j ++ List.replicate (l.length - j) 0
theorem cpL_len {j : Nat} (h : j ≤ l.length) : (cpL l j).length = l.length := by unfold cpL; simp; omega
theorem cpL_set {j : Nat} (h : j < l.length) : (cpL l j).set j (gt l j) = cpL l (j + 1) := by
  have hj : l[j]? = some (gt l j) := by rw [gt]; simp [h]
  unfold cpL
  rw [List.set_append_right _ _ (by simp; omega), List.take_add_one, hj, show l.length - j = (l.length - (j + 1)) + 1 by omega, List.replicate_succ]
  simp [show j - min j l.length = 0 by omega]
theorem cpL_end : cpL l l.length = l := by unfold cpL; simp
theorem cpL_0 : cpL l 0 = List.replicate l.length 0 := by unfold cpL; simp
def toIS (l : List Int) (j : Nat) : VE × VH := ([(0, some (.ints .i64 l)), (3, some (.sl 0 0 l.length 1)), (4, some (.int .i64 j))], [.ints true .i64 (cpL l j)])
theorem toI_r (d : Nat) {j : Nat} (hl : l.length < 1000000000) (hj : j < l.length) : vCode Try.prog kn (vrun Try.prog kn d) 118 (loopAt Try.f118 0) (toIS l j).1 (toIS l j).2 = some (.norm, toIS l (j + 1)) := by
  have h1 := cpL_len (l := l) (Nat.le_of_lt hj)
  rw [round_v]; simp only [loopAt, nthC, bodyC, loops, List.nil_append, List.cons_append, List.append_nil, Try.f118, toIS]
  simp (disch := omega) [go_sem, tab118, nil118, h1, cpL_set hj]
theorem toI_x (d : Nat) (hl : l.length < 1000000000) : vCode Try.prog kn (vrun Try.prog kn d) 118 (loopAt Try.f118 0) (toIS l l.length).1 (toIS l l.length).2 = some (.exit 0, (toIS l l.length).1 ++ [(11, some (.bool false))], (toIS l l.length).2) := by
  rw [round_v]; simp only [loopAt, nthC, bodyC, loops, List.nil_append, List.cons_append, List.append_nil, Try.f118, toIS]
  simp (disch := omega) [go_sem, tab118, nil118]
theorem toIntS_v (d : Nat) (hl : l.length < 1000000000) : vrun Try.prog kn (d + 1) 118 [.ints .i64 l] [] = some (.ints .i64 l, []) := by
  have hl0 := fun ks => loop_v (P := Try.prog) (K := kn) (ks := ks) (vi_for (toIS l) l.length (n := kn.cf.rounds) (by rw [k_cf, c_rounds]; omega) (fun j hj => toI_r d hl hj) fun m => vi_exit (toI_x d hl))
  simp only [loopAt, nthC, bodyC, loops, List.nil_append, List.cons_append, List.append_nil, Try.f118, toIS, Int.natCast_zero, List.cons_append, List.nil_append, cpL_0, cpL_end] at hl0
  rw [vrun_v Try.func118 rfl rfl rfl]; simp only [Try.f118]
  simp (disch := omega) [go_sem, tab118, nil118, hl0]
theorem toNat_v (d : Nat) (hl : l.length < 1000000000) : vrun Try.prog kn (d + 2) 84 [.agg [.ints .i64 l]] [] = some (.agg [.ints .i64 l], []) := by
  have h1 := fun d => toIntS_v d hl
  rw [vrun_v Try.func84 rfl rfl rfl]; simp only [Try.f84]
  simp (disch := omega) [go_sem, tab84, h1]
theorem toWhole_v (d : Nat) {n : Bool} (hl : l.length < 1000000000) : vrun Try.prog kn (d + 3) 49 [.agg [.bool n, .ints .i64 l]] [] = some (.agg [.bool n, .ints .i64 l], []) := by
  have h1 := fun d => toNat_v d hl
  rw [vrun_v Try.func49 rfl rfl rfl]; simp only [Try.f49]
  simp (disch := omega) [go_sem, tab49, h1]
theorem toDy_v (d : Nat) {n : Bool} {e : Int} (hl : l.length < 1000000000) : vrun Try.prog kn (d + 4) 18 [.agg [.bool n, .ints .i64 l, .int .i64 e]] [] = some (.agg [.bool n, .ints .i64 l, .int .i64 e], []) := by
  have h1 := fun d => toWhole_v (n := n) d hl
  rw [vrun_v Try.func18 rfl rfl rfl]; simp only [Try.f18]
  simp (disch := omega) [go_sem, tab18, h1]
end
end
/- Copies of lists of dyadics and of matrices, told frozen. No conditions. -/
section
open Num
section
variable {ds : List DyT}
def zDy : List V := [.bool false, .nil, .int .i64 0]
def cpD (ds : List DyT) (j : Nat) : List V := flat DyT.v (ds.take j) ++ vreps (ds.length - j) zDy
theorem cpD_len {j : Nat} (h : j ≤ ds.length) : (cpD ds j).length = ds.length * 3 := by
  unfold cpD
  rw [List.length_append, flat_len DyT.len, List.length_take]
  unfold vreps zDy
  simp; omega
theorem set3 (A : List V) (a b c x y z : V) (r : List V) (k : Nat) (hk : k = A.length) : (((A ++ (a :: b :: c :: r)).set k x).set (k + 1) y).set (k + 2) z = A ++ (x :: y :: z :: r) := by
  subst hk
  rw [List.set_append_right _ _ (by omega), List.set_append_right _ _ (by omega), List.set_append_right _ _ (by omega)]
  simp
theorem flat_snF {α : Type} (f : α → List V) (a : α) : ∀ l : List α, flat f (l ++ [a]) = flat f l ++ f a
  | [] => by simp [flat]
  | b :: r => by simp [flat, flat_snF f a r]
theorem cpD_set {j : Nat} (h : j < ds.length) : (((cpD ds j).set (j * 3) (.bool ds[j].neg)).set (j * 3 + 1) (.ints .i64 ds[j].l)).set (j * 3 + 2) (.int .i64 ds[j].e) = cpD ds (j + 1) := by
  have hget : ds[j]? = some ds[j] := List.getElem?_eq_getElem h
  unfold cpD
  rw [show ds.length - j = (ds.length - (j + 1)) + 1 by omega]
  unfold vreps zDy
  rw [List.replicate_succ, List.flatten_cons, List.cons_append, List.cons_append, List.cons_append, List.nil_append, set3 _ _ _ _ _ _ _ _ _ (by rw [flat_len DyT.len, List.length_take]; omega), List.take_add_one, hget, Option.toList_some, flat_snF, List.append_assoc]
  rfl
theorem cpD_end : cpD ds ds.length = flat DyT.v ds := by unfold cpD; simp [vreps]
theorem cpD_0 : cpD ds 0 = vreps ds.length zDy := by unfold cpD; simp [flat]
def toDSS (ds : List DyT) (j : Nat) : VE × VH := ([(0, some (.cells 3 ds.length (flat DyT.v ds))), (3, some (.sl 0 0 ds.length 3)), (4, some (.int .i64 j))], [.vals true (cpD ds j)])
theorem toD_r (d : Nat) {j : Nat} (hl : ds.length < 1000000000) (hs : ∀ x ∈ ds, x.l.length < 1000000000) (hj : j < ds.length) : vCode Try.prog kn (vrun Try.prog kn (d + 4)) 57 (loopAt Try.f57 0) (toDSS ds j).1 (toDSS ds j).2 = some (.norm, toDSS ds (j + 1)) := by
  have hget : ds[j]? = some ds[j] := List.getElem?_eq_getElem hj
  have hlen := hs _ (List.getElem_mem hj)
  have hsub : ((flat DyT.v ds).drop (j * 3)).take 3 = [.bool ds[j].neg, .ints .i64 ds[j].l, .int .i64 ds[j].e] := flat_sub DyT.len ds j _ hget
  have hc := cpD_len (Nat.le_of_lt hj)
  have hset := cpD_set hj
  have h1 := toDy_v (n := ds[j].neg) (e := ds[j].e) d hlen
  rw [round_v]; simp only [loopAt, nthC, bodyC, loops, List.nil_append, List.cons_append, List.append_nil, Try.f57, toDSS]
  simp (disch := omega) [go_sem, tab57, nil57, hsub, h1, hc, hset]
theorem omap_self {f : V → Option V} : ∀ {l : List V}, (∀ v ∈ l, f v = some v) → omap f l = some l
  | [], _ => rfl
  | a :: r, h => by rw [omap, h a (by simp), omap_self fun v hv => h v (List.mem_cons_of_mem _ hv)]
theorem flat_mem {α : Type} {f : α → List V} {v : V} : ∀ {l : List α}, v ∈ flat f l → ∃ a ∈ l, v ∈ f a
  | [], h => by simp [flat] at h
  | a :: r, h => by
    rw [flat, List.mem_append] at h
    rcases h with h | h
    · exact ⟨a, by simp, h⟩
    · obtain ⟨b, hb, hv⟩ := flat_mem h; exact ⟨b, by simp [hb], hv⟩
theorem frz_flat (h : VH) (n : Nat) (ds : List DyT) : omap (vfrz h n) (flat DyT.v ds) = some (flat DyT.v ds) := by
  refine omap_self fun v hv => ?_
  obtain ⟨a, _, hv⟩ := flat_mem hv
  unfold DyT.v at hv
  simp at hv
  rcases hv with rfl | rfl | rfl <;> simp [go_sem]
theorem toD_x (d : Nat) (hl : ds.length < 1000000000) : vCode Try.prog kn (vrun Try.prog kn d) 57 (loopAt Try.f57 0) (toDSS ds ds.length).1 (toDSS ds ds.length).2 = some (.exit 0, (toDSS ds ds.length).1 ++ [(11, some (.bool false))], (toDSS ds ds.length).2) := by
  rw [round_v]; simp only [loopAt, nthC, bodyC, loops, List.nil_append, List.cons_append, List.append_nil, Try.f57, toDSS]
  simp (disch := omega) [go_sem, tab57, nil57]
theorem toDyS_v (d : Nat) (hl : ds.length < 1000000000) (hs : ∀ x ∈ ds, x.l.length < 1000000000) : vrun Try.prog kn (d + 5) 57 [.cells 3 ds.length (flat DyT.v ds)] [] = some (.cells 3 ds.length (flat DyT.v ds), []) := by
  have hl0 := fun ks => loop_v (P := Try.prog) (K := kn) (ks := ks) (vi_for (toDSS ds) ds.length (n := kn.cf.rounds) (by rw [k_cf, c_rounds]; omega) (fun j hj => toD_r d hl hs hj) fun m => vi_exit (toD_x _ hl))
  simp only [loopAt, nthC, bodyC, loops, List.nil_append, List.cons_append, List.append_nil, Try.f57, toDSS, Int.natCast_zero, List.cons_append, List.nil_append, cpD_0, cpD_end, zDy] at hl0
  have hf := flat_len DyT.len ds
  have hz : (vreps ds.length [.bool false, .nil, .int .i64 0]).length = ds.length * 3 := by have := cpD_len (ds := ds) (Nat.zero_le _); rwa [cpD_0] at this
  rw [vrun_v Try.func57 rfl rfl rfl]; simp only [Try.f57]
  simp (disch := omega) [go_sem, tab57, nil57, hl0, hz, hf, List.take_of_length_le, frz_flat]
theorem toMat_v (d : Nat) {N : Int} (hl : ds.length < 1000000000) (hs : ∀ x ∈ ds, x.l.length < 1000000000) : vrun Try.prog kn (d + 6) 27 [.agg [.int .i64 N, .cells 3 ds.length (flat DyT.v ds)]] [] = some (.agg [.int .i64 N, .cells 3 ds.length (flat DyT.v ds)], []) := by
  have h1 := fun d => toDyS_v d hl hs
  rw [vrun_v Try.func27 rfl rfl rfl]; simp only [Try.f27]
  simp (disch := omega) [go_sem, tab27, h1]
end
end
/- The laws' types as values. No conditions. -/
section
open Go.Proofs Num
def DyT.row (x : DyT) : Prop := x.l.length ≤ 9223372036854775807 ∧ (∀ y ∈ x.l, (Lit.int .i64 y).wf = true) ∧ (Lit.int .i64 x.e).wf = true
def TInt (vs : List V) : Prop := ∃ x : Int, vs = [.int .i64 x] ∧ (Lit.int .i64 x).wf = true
def TBool (vs : List V) : Prop := ∃ x : Bool, vs = [.bool x]
def TInts (vs : List V) : Prop := ∃ l : List Int, vs = [.ints .i64 l] ∧ l.length ≤ 9223372036854775807 ∧ ∀ x ∈ l, (Lit.int .i64 x).wf = true
def TDys (vs : List V) : Prop := ∃ ds : List DyT, vs = [.cells 3 ds.length (flat DyT.v ds)] ∧ ds.length ≤ 9223372036854775807 ∧ ∀ x ∈ ds, x.row
theorem opInt : OpV Try.prog 3 1 TInt := OpV.int Try.underlying3 (by kernel_rfl)
theorem opBool : OpV Try.prog 4 1 TBool := OpV.bool Try.underlying4 (by kernel_rfl)
theorem opInts : OpV Try.prog 24 1 TInts := OpV.ints Try.underlying24 (by kernel_rfl) Try.underlying3 (by kernel_rfl)
theorem opBytes : OpV Try.prog 22 1 (fun vs => ∃ l : List Int, vs = [.ints .u8 l] ∧ l.length ≤ 9223372036854775807 ∧ ∀ x ∈ l, (Lit.int .u8 x).wf = true) := OpV.ints Try.underlying22 (by kernel_rfl) Try.underlying5 (by kernel_rfl)
theorem opNat : OpV Try.prog 37 1 TInts := OpV.struct1 Try.underlying37 (by kernel_rfl) rfl opInts
theorem opWhole : OpV Try.prog 39 2 (fun vs => ∃ (n : Bool) (l : List Int), vs = [.bool n, .ints .i64 l] ∧ l.length ≤ 9223372036854775807 ∧ ∀ x ∈ l, (Lit.int .i64 x).wf = true) :=
  (OpV.struct2 Try.underlying39 (by kernel_rfl) rfl rfl opBool opNat).imp fun vs ⟨_, _, e, ⟨n, e1⟩, ⟨l, e2, h1, h2⟩⟩ => ⟨n, l, by rw [e, e1, e2]; rfl, h1, h2⟩
theorem opDy : OpV Try.prog 41 3 (fun vs => ∃ x : DyT, vs = x.v ∧ x.row) :=
  (OpV.struct2 Try.underlying41 (by kernel_rfl) rfl rfl opWhole opInt).imp fun vs ⟨_, _, e, ⟨n, l, e1, h1, h2⟩, ⟨x, e2, h3⟩⟩ => ⟨⟨n, l, x⟩, by rw [e, e1, e2]; rfl, h1, h2, h3⟩
theorem opDys : OpV Try.prog 52 1 TDys := OpV.cells Try.underlying52 (by kernel_rfl) opDy (by omega)
theorem opMat : OpV Try.prog 54 2 (fun vs => ∃ (N : Int) (ds : List DyT), vs = [.int .i64 N, .cells 3 ds.length (flat DyT.v ds)] ∧ (Lit.int .i64 N).wf = true ∧ ds.length ≤ 9223372036854775807 ∧ ∀ x ∈ ds, x.row) :=
  (OpV.struct2 Try.underlying54 (by kernel_rfl) rfl rfl opInt opDys).imp fun vs ⟨_, _, e, ⟨n, e1, h1⟩, ⟨ds, e2, h2, h3⟩⟩ => ⟨n, ds, by rw [e, e1, e2]; rfl, h1, h2, h3⟩
end
end Go.Eng
