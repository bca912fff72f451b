/- What the functions of this seat do, one after another, told by plain values. No conditions. -/
import Derived.Test.YtkfeofjgdijbeaaSeat
import Derived.Test.YtkfeofjgdijbeaaVb
set_option linter.unusedVariables false
set_option linter.unusedSimpArgs false
namespace Go.Eng
open Go.Proofs
set_option maxRecDepth 100000
set_option linter.unusedSimpArgs false
attribute [local go_sem] r_seq r_skip r_retC r_exitC r_label r_block r_region r_regionW r_xWt r_xW r_cond r_Bt r_Bf r_Ncode r_Nret r_Nexit r_Nblk r_Nblkr r_Nblke r_Nnil r_Es r_Onil r_Oop r_Oif r_Xs r_Gt r_Gf r_wtt r_wtf r_wft r_wff r_wu r_gO r_putS r_putN r_get r_keepN r_keepC r_fr r_fn r_fi r_ff r_fo r_l1 r_l2t r_cun r_cul r_cub r_cui r_cus r_cuis r_cuc r_cusl r_cuti r_cutv r_ven r_vec r_l2f r_l3 r_t1 r_t2 r_t0 r_rt r_rc r_en r_ec r_cM r_oN r_oC r_end r_endt r_endf r_nob0 r_nobN r_nobC r_nobE r_nb0 r_nbi r_nbs r_nbsl r_nbin r_nbce r_nLn r_nLv r_nLc r_nAa r_nAn r_nAk_b r_nAk_i r_nAk_s r_nAk_n r_nAk_is r_nAk_ce r_nAk_fp r_nAk_sl r_nAk_pt r_nAk_fn r_nsn r_nsv r_nsc r_m0 r_mi r_ms r_msl r_min r_mce r_mLn r_mLv r_mLc r_mAa r_mAn r_mAk_b r_mAk_i r_mAk_s r_mAk_n r_mAk_is r_mAk_ce r_mAk_fp r_mAk_sl r_mAk_pt r_mAk_fn r_msn r_msv r_msc r_atb r_ati r_ats r_atn r_atis r_atc r_atf r_atl r_atp r_atfn r_gcn r_gcc r_gLn r_gLc r_gIt r_ndn r_ndc r_gcB r_gLB r_two r_rea r_rea0 r_re1n r_re1c r_ori r_orv r_ord r_orn r_adn r_adc r_ad1 r_ern r_ers r_er0 r_rsl r_rptr r_rb r_ri r_rs r_rn r_ris r_rce r_rfp r_ra4 r_ra3 r_rt4 r_rf4 r_rf3 r_idS r_idc r_nS r_nP r_nF r_nT r_vsl r_vptr r_vb r_vi r_vs r_vn r_vis r_vce r_vfp r_va4 r_va3 r_vt4 r_vf4 r_vf3 r_rV r_Oi r_Ov r_Od r_rE r_rE0 r_En r_Ec r_E0 r_pO r_pk r_agL r_cO r_fO r_fSi r_fSv r_fPv r_fsl r_fptr r_ffn r_fag r_fb r_fint r_fstr r_fnil r_fis r_fce r_ffp r_res r_move r_assign r_pick r_pickt r_pickf r_alloc r_box r_al r_build r_bslice r_load r_store r_nlc r_nl1 r_nl2 r_bin r_un r_conv r_mkf r_mks r_slc r_fad r_fld r_iad r_idx r_ext r_ex1 r_callf r_callt r_callen r_calapp r_calmax r_calmin r_vt r_vcb r_vci r_vcs r_vcnp r_vcn r_vca r_vcf r_vcg r_ofb r_ofi r_ofs r_ofn r_evs r_pn r_prt r_pc r_one_a r_one_b r_one_i r_one_s r_one_n r_one_is r_one_ce r_one_fp r_one_sl r_one_pt r_one_fn r_cs_a r_cs_b r_cs_i r_cs_s r_cs_n r_cs_is r_cs_ce r_cs_fp r_cs_sl r_cs_pt r_cs_fn r_tov r_tovA r_toc r_toa r_tb r_ti r_ts r_tn r_bd r_bd2 r_filn r_fp1 r_filc r_fsn r_fsc r_san r_sac r_bs2 r_bs1 r_nE r_newO r_mkq r_mkI r_mkOi r_mkOv r_tIn r_tIc r_repz r_repn r_ldp r_ldf r_l1t r_l1f r_lFt r_lFf r_aggO r_obj r_at r_ati' r_atv r_celli r_cellv r_subi r_subv r_sto r_sto1 r_sto2 r_sets r_setR r_setn r_setc r_s1i r_s1v r_bin1 r_bin2 r_tv1 r_cb r_ci r_cst r_cn r_csl r_cis r_cce r_uni r_unb r_cv r_cvO r_cvN r_cv0 r_cvS r_wB r_cvi r_cvs r_cvb r_cvl r_sO r_rdn r_rdi r_rdl r_rdO r_vsub r_vfn r_mk r_mk1 r_mk2 r_zoi r_zov r_leni r_lenv r_bn r_bndV r_bo r_sl0 r_sl1 r_vsz r_ct1 r_cts r_cti r_ctc r_ctn r_lnl r_lni r_lnc r_lnn r_fa r_fap r_faf r_fi1 r_fit r_fif r_ixi r_ixs r_ixc r_ixf r_ixF r_ixF2 r_ix1 r_ixsl r_ixin r_ixce r_len1 r_lenA r_lTs r_lTn r_lTl r_lTi r_lTc r_app0 r_app9 r_paf r_pat r_frn r_fre r_tt1 r_tt2 r_tt3 r_app r_app1 r_app2 r_app3 r_catO r_cati r_catv r_newt r_newf r_pair r_pairK r_trip r_kis r_kiv r_srn r_srl r_sri r_src r_srs r_oln r_ole r_oll r_vw r_wi r_wv r_mm r_max r_min' r_str r_cF r_c2t r_c3f r_c3t r_ab r_c2f r_cV r_p1 r_la r_la2t r_la2f r_la3 r_sh r_z_is r_z_ce r_z_fp r_z_b r_z_i r_z_s r_z_n r_z_l r_z_p r_z_a4 r_z_a3 r_z_t4 r_zoI r_zoV r_roN r_roC r_roi r_rod r_zod r_rov r_aR r_trOi r_trOv r_trPv r_trl r_trp r_trf r_tra r_trb r_tri r_trs r_trn r_tris r_trce r_trfp r_vJ r_vJs r_vJn
attribute [local go_sem] b_add b_sub b_mul b_quo b_rem b_shl b_shr b_eql b_neq b_lss b_leq b_gtr b_geq eqB_s b_eqB b_neB u_neg u_not b_nn b_nn' eqS_s zerosT_s zerosT_n zt_i zt_sl zt_st dstOf_z dstOf_n iltT iltF ileT ileF ieqT ieqF nltT nltF nleT nleF neqT neqF tdiv_pos tmod_pos w64 idx0 List.take_of_length_le
/- The rank of a matrix of integers: what the elimination counts is the size of the greatest part whose determinant is not nought. No program in sight. No conditions. -/
section
abbrev Row := Nat → Int
/-- The sum over the columns, with alternating signs, of a row's number times what g tells of the other columns. -/
def lapS (r : Row) (g : List Nat → Int) : List Nat → Int
  | [] => 0
  | c :: cs => r c * g cs - lapS r (fun l => g (c :: l)) cs
def detL : List Row → List Nat → Int
  | [], _ => 1
  | r :: rs, js => lapS r (detL rs) js
theorem lapS_congr {r : Row} : ∀ {js : List Nat} {g g' : List Nat → Int}, (∀ l, l.length + 1 = js.length → g l = g' l) → lapS r g js = lapS r g' js
  | [], _, _, _ => rfl
  | c :: cs, g, g', h => by
    simp only [lapS]
    rw [h cs rfl, lapS_congr (js := cs) (g := fun l => g (c :: l)) (g' := fun l => g' (c :: l)) fun l hl => h _ (by simp at hl ⊢; omega)]
theorem lapS_lin (r : Row) (x y : Int) : ∀ (js : List Nat) (g g' : List Nat → Int), lapS r (fun l => x * g l + y * g' l) js = x * lapS r g js + y * lapS r g' js
  | [], _, _ => by simp [lapS]
  | c :: cs, g, g' => by
    simp only [lapS]
    rw [lapS_lin r x y cs (fun l => g (c :: l)) (fun l => g' (c :: l))]
    grind
theorem lapS_smul (r : Row) (x : Int) (js : List Nat) (g : List Nat → Int) : lapS r (fun l => x * g l) js = x * lapS r g js := by
  have h := lapS_lin r x 0 js g g
  simpa using h
theorem lapS_zero (r : Row) : ∀ (js : List Nat), lapS r (fun _ => 0) js = 0
  | [] => rfl
  | c :: cs => by simp only [lapS]; rw [lapS_zero r cs]; simp
theorem lapS_row (r s : Row) (x y : Int) : ∀ (js : List Nat) (g : List Nat → Int), lapS (fun c => x * r c + y * s c) g js = x * lapS r g js + y * lapS s g js
  | [], _ => by simp [lapS]
  | c :: cs, g => by
    simp only [lapS]
    rw [lapS_row r s x y cs (fun l => g (c :: l))]
    grind
theorem lapS_anti (a b : Row) : ∀ (js : List Nat) (g : List Nat → Int), lapS a (fun l => lapS b g l) js = -lapS b (fun l => lapS a g l) js
  | [], _ => rfl
  | c :: cs, g => by
    have h := lapS_anti a b cs (fun m => g (c :: m))
    have e1 : lapS a (fun l => lapS b g (c :: l)) cs = b c * lapS a g cs - lapS a (fun l => lapS b (fun m => g (c :: m)) l) cs := by
      have := lapS_lin a (b c) (-1) cs g (fun l => lapS b (fun m => g (c :: m)) l)
      rw [show lapS a (fun l => lapS b g (c :: l)) cs = lapS a (fun l => b c * g l + -1 * lapS b (fun m => g (c :: m)) l) cs from lapS_congr fun l _ => by simp only [lapS]; omega, this]; omega
    have e2 : lapS b (fun l => lapS a g (c :: l)) cs = a c * lapS b g cs - lapS b (fun l => lapS a (fun m => g (c :: m)) l) cs := by
      have := lapS_lin b (a c) (-1) cs g (fun l => lapS a (fun m => g (c :: m)) l)
      rw [show lapS b (fun l => lapS a g (c :: l)) cs = lapS b (fun l => a c * g l + -1 * lapS a (fun m => g (c :: m)) l) cs from lapS_congr fun l _ => by simp only [lapS]; omega, this]; omega
    show a c * lapS b g cs - lapS a (fun l => lapS b g (c :: l)) cs = -(b c * lapS a g cs - lapS b (fun l => lapS a g (c :: l)) cs)
    rw [e1, e2, h]; omega

theorem det_swap (A : List Row) (a b : Row) (B : List Row) : ∀ js, detL (A ++ a :: b :: B) js = -detL (A ++ b :: a :: B) js := by
  induction A with
  | nil => intro js; exact lapS_anti a b js _
  | cons x A ih =>
    intro js
    show lapS x (detL (A ++ a :: b :: B)) js = -lapS x (detL (A ++ b :: a :: B)) js
    rw [lapS_congr (g' := fun l => -1 * detL (A ++ b :: a :: B) l) fun l _ => by rw [ih l]; omega, lapS_smul]; omega
theorem det_row (A : List Row) (r s : Row) (x y : Int) (B : List Row) : ∀ js, detL (A ++ (fun c => x * r c + y * s c) :: B) js = x * detL (A ++ r :: B) js + y * detL (A ++ s :: B) js := by
  induction A with
  | nil => intro js; exact lapS_row r s x y js _
  | cons z A ih =>
    intro js
    show lapS z (detL (A ++ (fun c => x * r c + y * s c) :: B)) js = _
    rw [lapS_congr (g' := fun l => x * detL (A ++ r :: B) l + y * detL (A ++ s :: B) l) fun l _ => ih l, lapS_lin]; rfl
/-- Perhaps with another sign. -/
def PM1 (x y : Int) : Prop := x = y ∨ x = -y
theorem PM1.zero {x y : Int} (h : PM1 x y) : x = 0 ↔ y = 0 := by rcases h with h | h <;> omega
theorem det_perm {A B : List Row} (h : A.Perm B) : ∀ C js, detL (C ++ A) js = 0 ↔ detL (C ++ B) js = 0 := by
  induction h with
  | nil => intro C js; rfl
  | cons x _ ih => intro C js; have := ih (C ++ [x]) js; simpa using this
  | swap x y l => intro C js; rw [det_swap C y x l js]; omega
  | trans _ _ h1 h2 => intro C js; exact (h1 C js).trans (h2 C js)
theorem det_twice (A : List Row) (a : Row) : ∀ (B C : List Row) js, detL (A ++ a :: (B ++ a :: C)) js = 0 := by
  intro B C js
  have h0 : detL (A ++ (a :: a :: (B ++ C))) js = 0 := by
    have := det_swap A a a (B ++ C) js; omega
  refine (det_perm (A := a :: (B ++ a :: C)) (B := a :: a :: (B ++ C)) ?_ A js).2 h0
  exact .cons a (List.perm_middle)
/-- A column that is nought. -/
theorem det_col0 (j : Nat) : ∀ (A : List Row) (js : List Nat), js.length + 1 = A.length → (∀ r ∈ A, r j = 0) → detL A (j :: js) = 0 := by
  intro A
  induction A with
  | nil => intro _ h; simp at h
  | cons r A ih =>
    intro js hl h
    show r j * detL A js - lapS r (fun l => detL A (j :: l)) js = 0
    rw [h r (by simp), lapS_congr (g' := fun _ => 0) fun l hl' => ih l (by simp at hl; omega) fun r hr => h r (by simp [hr]), lapS_zero]; simp
theorem det_zeroRow (A : List Row) (js : List Nat) (hj : js.length = A.length + 1) (r : Row) (h : ∀ l, l.Sublist js → l.length = A.length → detL A l = 0) : detL (r :: A) js = 0 := by
  show lapS r (detL A) js = 0
  have : ∀ (js : List Nat) (g : List Nat → Int), (∀ l, l.Sublist js → l.length + 1 = js.length → g l = 0) → lapS r g js = 0 := by
    intro js
    induction js with
    | nil => intros; rfl
    | cons c cs ih =>
      intro g hg
      show r c * g cs - lapS r (fun l => g (c :: l)) cs = 0
      rw [hg cs (List.sublist_cons_self c cs) rfl, ih (fun l => g (c :: l)) fun l h1 h2 => hg _ (h1.cons_cons c) (by simp; omega)]; simp
  exact this js _ fun l h1 h2 => h l h1 (by omega)
/-- Some part of so many rows and columns has a determinant that is not nought. -/
def NZ (k : Nat) (rows : List Row) (cols : List Nat) : Prop := ∃ rs js, rs.Sublist rows ∧ js.Sublist cols ∧ rs.length = k ∧ js.length = k ∧ detL rs js ≠ 0
theorem NZ.zero (rows : List Row) (cols : List Nat) : NZ 0 rows cols := ⟨[], [], List.nil_sublist _, List.nil_sublist _, rfl, rfl, by simp [detL]⟩
theorem sub_perm {A B : List Row} (h : A.Perm B) {rs : List Row} (hs : rs.Sublist A) : ∃ rs' : List Row, rs'.Sublist B ∧ rs.Perm rs' := by
  obtain ⟨l, h1, h2⟩ := List.exists_perm_sublist hs h
  exact ⟨l, h2, h1.symm⟩
theorem NZ.perm {k : Nat} {A B : List Row} {cols : List Nat} (h : A.Perm B) (hn : NZ k A cols) : NZ k B cols := by
  obtain ⟨rs, js, h1, h2, h3, h4, h5⟩ := hn
  obtain ⟨rs', g1, g2⟩ := sub_perm h h1
  exact ⟨rs', js, g1, h2, by rw [← g2.length_eq, h3], h4, fun e => h5 ((det_perm g2 [] js).2 e)⟩
/-- A row is made nought in the column of a pivot. -/
def comb (p : Row) (j : Nat) (r : Row) : Row := fun c => r c * p j - p c * r j
theorem comb_lin (p : Row) (j : Nat) (r : Row) : comb p j r = fun c => p j * r c + (-(r j)) * p c := by funext c; unfold comb; grind
theorem comb_j (p : Row) (j : Nat) (r : Row) : comb p j r j = 0 := by unfold comb; grind
theorem det_combs (p : Row) (j : Nat) : ∀ (A B : List Row) (js : List Nat), detL (p :: (B ++ A.map (comb p j))) js = p j ^ A.length * detL (p :: (B ++ A)) js
  | [], B, js => by simp
  | r :: A, B, js => by
    have h := det_combs p j A (B ++ [comb p j r]) js
    simp only [List.append_assoc, List.singleton_append] at h
    rw [List.map_cons, h]
    have h2 := det_row (p :: B) r p (p j) (-(r j)) A js
    rw [← comb_lin] at h2
    have h3 := det_twice [] p B A js
    simp only [List.nil_append, List.cons_append] at h2 h3
    rw [h2, h3, List.length_cons, Int.pow_succ]; grind
theorem chio (p : Row) (j : Nat) (A : List Row) (js : List Nat) (hl : js.length = A.length) : p j ^ A.length * detL (p :: A) (j :: js) = p j * detL (A.map (comb p j)) js := by
  have h0 := det_combs p j A [] (j :: js)
  rw [List.nil_append, List.nil_append] at h0
  rw [← h0]
  show p j * detL (A.map (comb p j)) js - lapS p (fun l => detL (A.map (comb p j)) (j :: l)) js = _
  rw [lapS_congr (g' := fun _ => 0) fun l hl' => det_col0 j _ l (by simp; omega) fun r hr => by obtain ⟨r, _, rfl⟩ := List.mem_map.1 hr; exact comb_j p j r, lapS_zero]; simp
theorem map_sub {f : Row → Row} {A l : List Row} (h : l.Sublist (A.map f)) : ∃ m : List Row, m.Sublist A ∧ l = m.map f := List.sublist_map_iff.1 h
theorem sub_cons {j : Nat} {js cs : List Nat} (h : js.Sublist (j :: cs)) : js.Sublist cs ∨ ∃ l, js = j :: l ∧ l.Sublist cs := by
  cases h with
  | cons _ h => exact .inl h
  | cons_cons _ h => exact .inr ⟨_, rfl, h⟩
theorem pow_nz {x : Int} (h : x ≠ 0) : ∀ n : Nat, x ^ n ≠ 0
  | 0 => by simp
  | n + 1 => by rw [Int.pow_succ]; exact Int.mul_ne_zero (pow_nz h n) h
theorem with_p (p : Row) (j : Nat) (hp : p j ≠ 0) (rest : List Row) (cs : List Nat) (k : Nat) (H : ∀ (m : List Row) (js : List Nat), m.Sublist rest → js.Sublist cs → m.length = k → js.length = k → detL (m.map (comb p j)) js = 0) (m : List Row) (js : List Nat) (hm : m.Sublist rest) (hk : m.length = k) (hj : js.Sublist (j :: cs)) (hjk : js.length = k + 1) : detL (p :: m) js = 0 := by
  rcases sub_cons hj with h | ⟨l, rfl, h⟩
  · have h0 := det_combs p j m [] js
    rw [List.nil_append, List.nil_append] at h0
    rw [det_zeroRow _ js (by simp; omega) p fun l h1 h2 => H m l hm (h1.trans h) hk (by simp at h2; omega)] at h0
    rcases Int.mul_eq_zero.1 h0.symm with h | h
    · exact absurd h (pow_nz hp _)
    · exact h
  · have h0 := chio p j m l (by simp at hjk; omega)
    rw [H m l hm h hk (by simpa using hjk), Int.mul_zero] at h0
    rcases Int.mul_eq_zero.1 h0 with h | h
    · exact absurd h (pow_nz hp _)
    · exact h
theorem without_p (p : Row) (j : Nat) (hp : p j ≠ 0) (rest : List Row) (cs : List Nat) (k : Nat) (H : ∀ (m : List Row) (js : List Nat), m.Sublist rest → js.Sublist cs → m.length = k → js.length = k → detL (m.map (comb p j)) js = 0) (js : List Nat) (hj : js.Sublist (j :: cs)) (hjk : js.length = k + 1) : ∀ R m1 : List Row, (m1 ++ R).Sublist rest → (m1 ++ R).length = k + 1 → detL (m1.map (comb p j) ++ R) js = 0
  | [], m1, hm, hk => by
    rw [List.append_nil] at hm hk ⊢
    rcases sub_cons hj with h | ⟨l, rfl, h⟩
    · cases m1 with
      | nil => simp at hk
      | cons r m1 =>
        rw [List.map_cons]
        exact det_zeroRow _ js (by simp at hk ⊢; omega) _ fun l h1 h2 => H m1 l ((List.sublist_cons_self r m1).trans hm) (h1.trans h) (by simpa using hk) (by simp at h2 hk; omega)
    · exact det_col0 j _ l (by simp at hjk ⊢; omega) fun r hr => by obtain ⟨r, _, rfl⟩ := List.mem_map.1 hr; exact comb_j p j r
  | r :: R, m1, hm, hk => by
    have h1 := without_p p j hp rest cs k H js hj hjk R (m1 ++ [r]) (by simpa using hm) (by simpa using hk)
    have h2 := det_row (m1.map (comb p j)) r p (p j) (-(r j)) R js
    rw [← comb_lin] at h2
    rw [List.map_append, List.map_cons, List.map_nil, List.append_assoc, List.singleton_append, h2] at h1
    have h3 : detL (m1.map (comb p j) ++ p :: R) js = 0 := by
      refine (det_perm (B := p :: (R ++ m1.map (comb p j))) (List.perm_middle.trans (.cons p List.perm_append_comm)) [] js).2 ?_
      rw [List.nil_append, det_combs]
      have hs : (m1 ++ R).Sublist rest := ((List.sublist_cons_self r R).append_left m1).trans hm
      have h4 := with_p p j hp rest cs k H (m1 ++ R) js hs (by simp at hk ⊢; omega) hj hjk
      have h5 := (det_perm (A := p :: (R ++ m1)) (B := p :: (m1 ++ R)) (.cons p List.perm_append_comm) [] js).2 h4
      rw [List.nil_append] at h5
      rw [h5, Int.mul_zero]
    rw [h3, Int.mul_zero, Int.add_zero] at h1
    rcases Int.mul_eq_zero.1 h1 with h | h
    · exact absurd h hp
    · exact h
theorem elim_step (p : Row) (j : Nat) (hp : p j ≠ 0) (rest : List Row) (cs : List Nat) (k : Nat) : NZ (k + 1) (p :: rest) (j :: cs) ↔ NZ k (rest.map (comb p j)) cs := by
  constructor
  · rintro ⟨rs, js, h1, h2, h3, h4, h5⟩
    refine Classical.byContradiction fun hn => h5 ?_
    have H : ∀ (m : List Row) (js : List Nat), m.Sublist rest → js.Sublist cs → m.length = k → js.length = k → detL (m.map (comb p j)) js = 0 := fun m js a1 a2 a3 a4 =>
      Classical.byContradiction fun h => hn ⟨_, js, a1.map _, a2, by simpa using a3, a4, h⟩
    cases h1 with
    | cons _ h => simpa using without_p p j hp rest cs k H js h2 h4 rs [] h h3
    | cons_cons _ h => exact with_p p j hp rest cs k H _ js h (by simpa using h3) h2 h4
  · rintro ⟨rs, js, h1, h2, h3, h4, h5⟩
    obtain ⟨m, g1, rfl⟩ := map_sub h1
    refine ⟨p :: m, j :: js, g1.cons_cons p, h2.cons_cons j, by simpa using h3, by simp [h4], fun e => h5 ?_⟩
    have := chio p j m js (by simp at h3; omega)
    rw [e, Int.mul_zero] at this
    rcases Int.mul_eq_zero.1 this.symm with h | h
    · exact absurd h hp
    · exact h
theorem col_step (j : Nat) (rows : List Row) (cs : List Nat) (h : ∀ r ∈ rows, r j = 0) (k : Nat) : NZ k rows (j :: cs) ↔ NZ k rows cs := by
  constructor
  · rintro ⟨rs, js, h1, h2, h3, h4, h5⟩
    rcases sub_cons h2 with h' | ⟨l, rfl, h'⟩
    · exact ⟨rs, js, h1, h', h3, h4, h5⟩
    · exact absurd (det_col0 j rs l (by simp at h4; omega) fun r hr => h r (h1.subset hr)) h5
  · rintro ⟨rs, js, h1, h2, h3, h4, h5⟩
    exact ⟨rs, js, h1, h2.cons j, h3, h4, h5⟩
theorem NZ.nil {k : Nat} {rows : List Row} (h : NZ k rows []) : k = 0 := by
  obtain ⟨rs, js, h1, h2, h3, h4, h5⟩ := h
  have := List.sublist_nil.1 h2
  subst this; simpa using h4.symm
theorem NZ.down {k : Nat} {rows : List Row} {cols : List Nat} (h : NZ (k + 1) rows cols) : NZ k rows cols := by
  obtain ⟨rs, js, h1, h2, h3, h4, h5⟩ := h
  cases rs with
  | nil => simp at h3
  | cons r rs =>
    refine Classical.byContradiction fun hn => h5 (det_zeroRow rs js (by simp at h3; omega) r fun l g1 g2 => Classical.byContradiction fun g3 => hn ⟨rs, l, (List.sublist_cons_self r rs).trans h1, g1.trans h2, by simpa using h3, by simp at h3; omega, g3⟩)
/-- What the elimination counts is the size of the greatest part. -/
theorem rank_eq {R L : List Row} {C : List Nat} {r b : Nat} (h : ∀ k, NZ (k + r) R C ↔ NZ k L []) (hb : NZ b R C) (hm : ∀ k, NZ k R C → k ≤ b) : b = r := by
  have h0 : NZ r R C := by simpa using (h 0).2 (.zero L [])
  have h1 := hm r h0
  have h2 := (h (b - r)).1 (by rwa [Nat.sub_add_cancel h1])
  have := NZ.nil h2
  omega
end
/- Numbers: cmp.Compare, within, trim, small, plus. No conditions. -/
section
open Num
theorem within_v (d : Nat) (n a b : Int) : vrun Try.prog kn (d + 1) 43 [.int .i64 n, .int .i64 a, .int .i64 b] [] = some (.bool (decide (a ≤ n) && decide (n ≤ b)), []) := by
  rw [vrun_v Try.func43 rfl rfl rfl]; simp only [Try.f43]
  by_cases h : a ≤ n
  · simp (disch := omega) [go_sem, tab43, h]
  · simp (disch := omega) [go_sem, tab43, h]
theorem isNaN_v (d : Nat) (x : Int) : vrun Try.prog kn (d + 1) 157 [.int .i64 x] [] = some (.bool false, []) := by
  rw [vrun_v Try.func157 rfl rfl rfl]; simp only [Try.f157]
  simp (disch := omega) [go_sem, tab157]
def cmp2 (x y : Int) : Int := if x < y then -1 else if y < x then 1 else 0
theorem Compare_v (d : Nat) (x y : Int) : vrun Try.prog kn (d + 2) 156 [.int .i64 x, .int .i64 y] [] = some (.int .i64 (cmp2 x y), []) := by
  rw [vrun_v Try.func156 rfl rfl rfl]; simp only [Try.f156]
  by_cases h1 : x < y
  · simp (disch := omega) [go_sem, tab156, isNaN_v, cmp2]
  · by_cases h2 : y < x
    · simp (disch := omega) [go_sem, tab156, isNaN_v, cmp2]
    · simp (disch := omega) [go_sem, tab156, isNaN_v, cmp2]
section
variable {h : VH} {l : List Int} {i : Nat} {w : Bool}
theorem trim_r0 (call : CallV) : vCode Try.prog kn call 114 (loopAt Try.f114 0) [(0, some (.sl i 0 0 1))] h = some (.exit 0, [(0, some (.sl i 0 0 1)), (14, some (.bool false))], h) := by
  rw [round_v]; simp only [loopAt, nthC, bodyC, loops, List.nil_append, List.cons_append, List.append_nil, Try.f114]
  simp (disch := omega) [go_sem, tab114, nil114]
theorem trim_r1 (call : CallV) (j : Nat) (hj : j < 4611686018427387904) (hi : h[i]? = some (.ints w .i64 l)) (hm : j + 1 ≤ l.length) (h0 : gt l j = 0) :
    vCode Try.prog kn call 114 (loopAt Try.f114 0) [(0, some (.sl i 0 (j + 1) 1))] h = some (.norm, [(0, some (.sl i 0 j 1))], h) := by
  rw [round_v]; simp only [loopAt, nthC, bodyC, loops, List.nil_append, List.cons_append, List.append_nil, Try.f114]
  simp (disch := omega) [go_sem, tab114, nil114, hi, h0]
theorem trim_r2 (call : CallV) (j : Nat) (hj : j < 4611686018427387904) (hi : h[i]? = some (.ints w .i64 l)) (hm : j + 1 ≤ l.length) (h0 : ¬ gt l j = 0) :
    vCode Try.prog kn call 114 (loopAt Try.f114 0) [(0, some (.sl i 0 (j + 1) 1))] h = some (.exit 0, [(0, some (.sl i 0 (j + 1) 1)), (14, some (.bool false))], h) := by
  rw [round_v]; simp only [loopAt, nthC, bodyC, loops, List.nil_append, List.cons_append, List.append_nil, Try.f114]
  simp (disch := omega) [go_sem, tab114, nil114, hi, h0]
theorem trim_l (call : CallV) (hi : h[i]? = some (.ints w .i64 l)) (hl : l.length < 4611686018427387904) : ∀ (j n : Nat), j ≤ l.length → j < n →
    viter (vCode Try.prog kn call 114 (loopAt Try.f114 0)) n [(0, some (.sl i 0 j 1))] h = some (.exit 0, [(0, some (.sl i 0 (tl l j) 1)), (14, some (.bool false))], h)
  | 0, n + 1, _, _ => vi_exit (trim_r0 call)
  | j + 1, n + 1, hj, hn => by
    by_cases h0 : gt l j = 0
    · rw [vi_norm (trim_r1 call j (by omega) hi hj h0), trim_l call hi hl j n (by omega) (by omega), tl, if_pos h0]
    · rw [vi_exit (trim_r2 call j (by omega) hi hj h0), tl, if_neg h0]
theorem trim_v (d : Nat) (hi : h[i]? = some (.ints w .i64 l)) (hl : l.length < 1000000000) (n : Nat) (hn : n = l.length) :
    vrun Try.prog kn (d + 1) 114 [.sl i 0 n 1] h = some (.sl i 0 (tl l l.length) 1, h) := by
  subst hn
  have hl0 := fun ks => loop_v (P := Try.prog) (K := kn) (ks := ks) (trim_l (vrun Try.prog kn d) hi (by omega) l.length kn.cf.rounds (Nat.le_refl _) (by rw [k_cf, c_rounds]; omega))
  simp only [loopAt, nthC, bodyC, loops, List.nil_append, List.cons_append, List.append_nil, Try.f114] at hl0
  rw [vrun_v Try.func114 rfl rfl rfl]; simp only [Try.f114]
  simp (disch := omega) [go_sem, tab114, nil114, hl0]
/-- As plus, minus, times and their like call it. -/
theorem trim0_v (d : Nat) {l : List Int} {n v : Nat} (hl : l.length < 1000000000) (hn : n = l.length) (hg : GoodL l) (hv : val l = v) :
    vrun Try.prog kn (d + 1) 114 [.sl 0 0 n 1] [.ints false .i64 l] = some (.sl 0 0 (D v).length 1, [.ints false .i64 l]) := by
  rw [trim_v d (h := [.ints false .i64 l]) (i := 0) (w := false) (l := l) rfl hl n hn, (tl_D hg hv).1]
theorem trim2_v (d : Nat) {l : List Int} {n v : Nat} (hl : l.length < 1000000000) (hn : n = l.length) (hg : GoodL l) (hv : val l = v) (a b : VO) :
    vrun Try.prog kn (d + 1) 114 [.sl 2 0 n 1] [a, b, .ints false .i64 l] = some (.sl 2 0 (D v).length 1, [a, b, .ints false .i64 l]) := by
  rw [trim_v d (h := [a, b, .ints false .i64 l]) (i := 2) (w := false) (l := l) rfl hl n hn, (tl_D hg hv).1]
end
end
/- Numbers: small, plus, minus. No conditions. -/
section
open Num
section
variable {x y : Nat}
def plusS (x y j : Nat) : VE × VH := ([(1, some (.ints .i64 (D y))), (5, some (.sl 0 0 j 1)), (6, some (.int .i64 (carry x y j))), (20, some (.ints .i64 (D x))), (21, some (.int .i64 (D x).length)), (22, some (.int .i64 j))], [.ints true .i64 (dgs (x + y) j)])
theorem plus_r (call : CallV) (hx : (D x).length < 1000000) (j : Nat) (hj : j < (D x).length) :
    vCode Try.prog kn call 73 (loopAt Try.f73 0) (plusS x y j).1 (plusS x y j).2 = some (.norm, plusS x y (j + 1)) := by
  have b1 := dg_bd x j
  have b2 := dg_bd y j
  have b3 := carry_bd x y j
  rw [round_v]; simp only [loopAt, nthC, bodyC, loops, List.nil_append, List.cons_append, List.append_nil, Try.f73, plusS, dgs, carry_succ, dg_add]
  by_cases hlt : j < (D y).length
  · simp (disch := omega) [go_sem, tab73, nil73, gt_D, dgs_len, dgs_take]
  · have := dg_len (x := y) (i := j) (by omega)
    simp (disch := omega) [go_sem, tab73, nil73, gt_D, dgs_len, dgs_take, this]
theorem plus_x (call : CallV) (hx : (D x).length < 1000000) :
    vCode Try.prog kn call 73 (loopAt Try.f73 0) (plusS x y (D x).length).1 (plusS x y (D x).length).2 = some (.exit 0, [(1, some (.ints .i64 (D y))), (5, some (.sl 0 0 (D x).length 1)), (6, some (.int .i64 (carry x y (D x).length))), (20, some (.ints .i64 (D x))), (21, some (.int .i64 (D x).length)), (22, some (.int .i64 (D x).length)), (23, some (.bool false))], [.ints true .i64 (dgs (x + y) (D x).length)]) := by
  rw [round_v]; simp only [loopAt, nthC, bodyC, loops, List.nil_append, List.cons_append, List.append_nil, Try.f73, plusS]
  simp (disch := omega) [go_sem, tab73, nil73, dgs_len, dgs_take]
theorem plus_v (d : Nat) (hx : (D x).length < 1000000) (hy : (D y).length < 1000000) :
    vrun Try.prog kn (d + 2) 73 [.ints .i64 (D x), .ints .i64 (D y)] [] = some (.sl 0 0 (D (x + y)).length 1, [.ints true .i64 (D (x + y))]) := by
  have key : ∀ x y : Nat, (D x).length < 1000000 → (D y).length ≤ (D x).length → ∀ ks, xC Try.prog kn (vrun Try.prog kn (d + 1)) 73 (.loop (loopAt Try.f73 0)) ks (plusS x y 0).1 (plusS x y 0).2 = _ := fun x y hx hl ks =>
    loop_v (vi_for (plusS x y) (D x).length (by rw [k_cf, c_rounds]; omega) (plus_r _ hx) fun m => vi_exit (plus_x _ hx))
  by_cases hlt : (D x).length < (D y).length
  · have hl := fun ks => key y x hy (by omega) ks
    simp only [loopAt, nthC, bodyC, loops, List.nil_append, List.cons_append, List.append_nil, Try.f73, plusS, dgs, carry_zero, Int.natCast_zero] at hl
    obtain ⟨c1, c2⟩ := carry_end (x := y) (y := x) (Nat.le_refl _) (by omega)
    have ht := trim2_v d (l := dgs (y + x) ((D y).length + 1)) (n := (D y).length + 1) (v := y + x) (by rw [dgs_len]; omega) (by rw [dgs_len]) (dgs_good _ _) (by rw [dgs_val, lo_len (lt_pow_len c2)])
    have ht2 := (dgs_tl c2).2
    rw [Nat.add_comm x y]
    rw [vrun_v Try.func73 rfl rfl rfl]; simp only [Try.f73]
    simp (disch := omega) [go_sem, tab73, nil73, hl, dgs_len, dgs_take]
    rw [c1, ← dgs_succ]
    simp (disch := omega) [go_sem, tab73, nil73, ht, ht2, dgs_len, dgs_take]
  · have hl := fun ks => key x y hx (by omega) ks
    simp only [loopAt, nthC, bodyC, loops, List.nil_append, List.cons_append, List.append_nil, Try.f73, plusS, dgs, carry_zero, Int.natCast_zero] at hl
    obtain ⟨c1, c2⟩ := carry_end (x := x) (y := y) (Nat.le_refl _) (by omega)
    have ht := trim2_v d (l := dgs (x + y) ((D x).length + 1)) (n := (D x).length + 1) (v := x + y) (by rw [dgs_len]; omega) (by rw [dgs_len]) (dgs_good _ _) (by rw [dgs_val, lo_len (lt_pow_len c2)])
    have ht2 := (dgs_tl c2).2
    rw [vrun_v Try.func73 rfl rfl rfl]; simp only [Try.f73]
    simp (disch := omega) [go_sem, tab73, nil73, hl, dgs_len, dgs_take]
    rw [c1, ← dgs_succ]
    simp (disch := omega) [go_sem, tab73, nil73, ht, ht2, dgs_len, dgs_take]
end
end
/- Numbers: small, minus, and the reference's l2of, l2norm. No conditions. -/
section
open Num
theorem dg_step {n j : Nat} : n / 65536 ^ j % 65536 = n / 65536 ^ j % 65536 ∧ n / 65536 ^ (j + 1) = n / 65536 ^ j / 65536 := ⟨rfl, by rw [Nat.pow_succ, Nat.div_div_eq_div_mul]⟩
theorem quo_step (n j : Nat) : ((n / 65536 ^ j : Nat) : Int) / 65536 = ((n / 65536 ^ (j + 1) : Nat) : Int) := by rw [dg_step.2]; omega
theorem rem_step (n j : Nat) : ((n / 65536 ^ j : Nat) : Int) % 65536 = dg n j := by unfold dg; omega
theorem quo_pos {n j : Nat} (h : j < (D n).length) : 0 < n / 65536 ^ j := Nat.div_pos (len_D_lt.1 h) (powN_pos j)
theorem quo_end (n : Nat) : n / 65536 ^ (D n).length = 0 := Nat.div_eq_of_lt (lt_len_D n)
theorem quo_le (n j : Nat) : n / 65536 ^ j ≤ n := Nat.div_le_self _ _
section
def smallS (n j : Nat) : VE × VH := ([(0, some (.int .i64 ((n / 65536 ^ j : Nat) : Int))), (3, some (.sl 0 0 j 1))], [.ints true .i64 (dgs n j)])
theorem dgs_D (n : Nat) : dgs n (D n).length = D n := by
  have := (dgs_tl (lt_len_D n)).2.1
  rwa [dgs_take] at this
def minusS (x y j : Nat) : VE × VH := ([(1, some (.ints .i64 (D y))), (5, some (.sl 0 0 j 1)), (6, some (.int .i64 (borrow x y j))), (12, some (.ints .i64 (D x))), (13, some (.int .i64 (D x).length)), (14, some (.int .i64 j))], [.ints true .i64 (dgs (x - y) j)])
variable {x y : Nat}
theorem minus_r (call : CallV) (hxy : y ≤ x) (hx : (D x).length < 1000000) (j : Nat) (hj : j < (D x).length) :
    vCode Try.prog kn call 91 (loopAt Try.f91 0) (minusS x y j).1 (minusS x y j).2 = some (.norm, minusS x y (j + 1)) := by
  have b1 := dg_bd x j
  have b2 := dg_bd y j
  have b3 := borrow_bd x y j
  rw [round_v]; simp only [loopAt, nthC, bodyC, loops, List.nil_append, List.cons_append, List.append_nil, Try.f91, minusS, dgs_succ, borrow_succ hxy, dg_sub hxy]
  by_cases hlt : j < (D y).length
  · by_cases hb : dg x j - borrow x y j - dg y j < 0
    · simp (disch := omega) [go_sem, tab91, nil91, gt_D, dgs_len, dgs_take, hb]
    · simp (disch := omega) [go_sem, tab91, nil91, gt_D, dgs_len, dgs_take, hb]
  · have := dg_len (x := y) (i := j) (by omega)
    rw [this]
    by_cases hb : dg x j - borrow x y j - 0 < 0
    · simp (disch := omega) [go_sem, tab91, nil91, gt_D, dgs_len, dgs_take]
    · simp (disch := omega) [go_sem, tab91, nil91, gt_D, dgs_len, dgs_take]
theorem minus_x (call : CallV) (hx : (D x).length < 1000000) :
    vCode Try.prog kn call 91 (loopAt Try.f91 0) (minusS x y (D x).length).1 (minusS x y (D x).length).2 = some (.exit 0, [(1, some (.ints .i64 (D y))), (5, some (.sl 0 0 (D x).length 1)), (6, some (.int .i64 (borrow x y (D x).length))), (12, some (.ints .i64 (D x))), (13, some (.int .i64 (D x).length)), (14, some (.int .i64 (D x).length)), (15, some (.bool false))], [.ints true .i64 (dgs (x - y) (D x).length)]) := by
  rw [round_v]; simp only [loopAt, nthC, bodyC, loops, List.nil_append, List.cons_append, List.append_nil, Try.f91, minusS]
  simp (disch := omega) [go_sem, tab91, nil91, dgs_len]
theorem minus_v (d : Nat) (hxy : y ≤ x) (hx : (D x).length < 1000000) :
    vrun Try.prog kn (d + 2) 91 [.ints .i64 (D x), .ints .i64 (D y)] [] = some (.sl 0 0 (D (x - y)).length 1, [.ints true .i64 (D (x - y))]) := by
  have hl0 := fun ks => loop_v (P := Try.prog) (K := kn) (ks := ks) (vi_for (minusS x y) (D x).length (by rw [k_cf, c_rounds]; omega) (minus_r (vrun Try.prog kn (d + 1)) hxy hx) fun m => vi_exit (minus_x _ hx))
  simp only [loopAt, nthC, bodyC, loops, List.nil_append, List.cons_append, List.append_nil, Try.f91, minusS, dgs, borrow_zero, Int.natCast_zero] at hl0
  have c2 : x - y < 65536 ^ (D x).length := Nat.lt_of_le_of_lt (Nat.sub_le _ _) (lt_len_D x)
  have ht := trim0_v d (l := dgs (x - y) (D x).length) (n := (D x).length) (v := x - y) (by rw [dgs_len]; omega) (by rw [dgs_len]) (dgs_good _ _) (by rw [dgs_val, lo_len (lt_pow_len c2)])
  have ht2 := (dgs_tl c2).2
  rw [vrun_v Try.func91 rfl rfl rfl]; simp only [Try.f91]
  simp (disch := omega) [go_sem, tab91, nil91, hl0, dgs_len, ht, ht2]
end
section
def normS (l : List Int) (j : Nat) : VE × VH := ([(0, some (.ints .i64 l)), (2, some (.ptr 0 0)), (3, some (.int .i64 j))], [.vals true [.nil]])
variable {l : List Int}
theorem norm_r1 (call : CallV) (j : Nat) (hj : j < l.length) (hl : l.length < 1000000000) (h0 : gt l j = 0) :
    vCode Try.prog kn call 109 (loopAt Try.f109 0) (normS l (j + 1)).1 (normS l (j + 1)).2 = some (.norm, normS l j) := by
  rw [round_v]; simp only [loopAt, nthC, bodyC, loops, List.nil_append, List.cons_append, List.append_nil, Try.f109, normS]
  simp (disch := omega) [go_sem, tab109, h0]
theorem norm_x (call : CallV) (j : Nat) (hj : j ≤ l.length) (hl : l.length < 1000000000) (h0 : tl l j = j) :
    vCode Try.prog kn call 109 (loopAt Try.f109 0) (normS l j).1 (normS l j).2 = some (.exit 0, [(0, some (.ints .i64 l)), (2, some (.ptr 0 0)), (3, some (.int .i64 j)), (15, some (.bool false))], [.vals true [.nil]]) := by
  rw [round_v]; simp only [loopAt, nthC, bodyC, loops, List.nil_append, List.cons_append, List.append_nil, Try.f109, normS]
  cases j with
  | zero => simp (disch := omega) [go_sem, tab109]
  | succ j =>
    have h1 : ¬ gt l j = 0 := fun h1 => by
      rw [tl, if_pos h1] at h0
      have := tl_le l j; omega
    simp (disch := omega) [go_sem, tab109, h1]
theorem norm_l (call : CallV) (hl : l.length < 1000000000) : ∀ (j n : Nat), j ≤ l.length → j < n →
    viter (vCode Try.prog kn call 109 (loopAt Try.f109 0)) n (normS l j).1 (normS l j).2 = some (.exit 0, [(0, some (.ints .i64 l)), (2, some (.ptr 0 0)), (3, some (.int .i64 (tl l j))), (15, some (.bool false))], [.vals true [.nil]])
  | 0, n + 1, _, _ => vi_exit (norm_x call 0 (by omega) hl rfl)
  | j + 1, n + 1, hj, hn => by
    by_cases h0 : gt l j = 0
    · rw [vi_norm (norm_r1 call j (by omega) hl h0), tl, if_pos h0]
      exact norm_l call hl j n (by omega) (by omega)
    · have e : tl l (j + 1) = j + 1 := by rw [tl, if_neg h0]
      rw [vi_exit (norm_x call (j + 1) hj hl e), e]
theorem l2norm_v (d : Nat) (hl : l.length < 1000000000) (hg : GoodL l) {v : Nat} (hv : val l = v) : vrun Try.prog kn (d + 1) 109 [.ints .i64 l] [] = some (.agg [.sl 0 0 (D v).length 1], [.ints true .i64 (D v)]) := by
  have hl0 := fun ks => loop_v (P := Try.prog) (K := kn) (ks := ks) (norm_l (vrun Try.prog kn d) hl l.length kn.cf.rounds (Nat.le_refl _) (by rw [k_cf, c_rounds]; omega))
  simp only [loopAt, nthC, bodyC, loops, List.nil_append, List.cons_append, List.append_nil, Try.f109, normS] at hl0
  obtain ⟨e1, e2, e3⟩ := tl_D hg hv
  rw [e1] at hl0
  rw [vrun_v Try.func109 rfl rfl rfl]; simp only [Try.f109]
  simp (disch := omega) [go_sem, tab109, hl0, e2]
end
section
def ofS (n j : Nat) : VE × VH := ([(0, some (.int .i64 ((n / 65536 ^ j : Nat) : Int))), (2, some (.ptr 0 0)), (3, some (.sl 1 0 j 1))], [.vals true [.nil], .ints true .i64 (dgs n j)])
theorem of_r (call : CallV) {n : Nat} (hn : n < 9223372036854775808) (hl : (D n).length < 1000000) (j : Nat) (hj : j < (D n).length) :
    vCode Try.prog kn call 83 (loopAt Try.f83 0) (ofS n j).1 (ofS n j).2 = some (.norm, ofS n (j + 1)) := by
  have b1 := quo_pos hj
  have b2 := quo_le n j
  rw [round_v]; simp only [loopAt, nthC, bodyC, loops, List.nil_append, List.cons_append, List.append_nil, Try.f83, ofS, dgs_succ, ← rem_step, ← quo_step]
  generalize n / 65536 ^ j = q at *
  simp (disch := omega) [go_sem, tab83, nil83, dgs_len, dgs_take]
theorem of_x (call : CallV) {n : Nat} (hl : (D n).length < 1000000) :
    vCode Try.prog kn call 83 (loopAt Try.f83 0) (ofS n (D n).length).1 (ofS n (D n).length).2 = some (.exit 0, [(0, some (.int .i64 0)), (2, some (.ptr 0 0)), (3, some (.sl 1 0 (D n).length 1)), (5, some (.bool false))], [.vals true [.nil], .ints true .i64 (dgs n (D n).length)]) := by
  rw [round_v]; simp only [loopAt, nthC, bodyC, loops, List.nil_append, List.cons_append, List.append_nil, Try.f83, ofS, quo_end]
  simp (disch := omega) [go_sem, tab83, nil83, dgs_len]
theorem l2of_v (d : Nat) {n : Nat} (hn : n < 9223372036854775808) : vrun Try.prog kn (d + 1) 83 [.int .i64 (n : Int)] [] = some (.agg [.sl 0 0 (D n).length 1], [.ints true .i64 (D n)]) := by
  have hl : (D n).length < 1000000 := by
    have : (D n).length ≤ 4 := len_D_le.2 (by omega)
    omega
  have hl0 := fun ks => loop_v (P := Try.prog) (K := kn) (ks := ks) (vi_for (ofS n) (D n).length (by rw [k_cf, c_rounds]; omega) (of_r (vrun Try.prog kn d) hn hl) fun m => vi_exit (of_x _ hl))
  simp only [loopAt, nthC, bodyC, loops, List.nil_append, List.cons_append, List.append_nil, Try.f83, ofS, dgs, Nat.pow_zero, Nat.div_one] at hl0
  rw [vrun_v Try.func83 rfl rfl rfl]; simp only [Try.f83]
  simp (disch := omega) [go_sem, tab83, nil83, hl0, dgs_D]
end
end
/- Numbers: compare, times, and the reference's l2cmp, l2add, l2sub, l2mul. No conditions. -/
section
open Num
theorem cmp_step {x y i : Nat} (h : x / 65536 ^ (i + 1) = y / 65536 ^ (i + 1)) : (dg x i = dg y i → x / 65536 ^ i = y / 65536 ^ i) ∧ (dg x i < dg y i → x < y) ∧ (dg y i < dg x i → y < x) := by
  have e1 := div_pow_succ x i
  have e2 := div_pow_succ y i
  unfold dg
  refine ⟨fun h1 => by omega, fun h1 => lt_of_div (p := 65536 ^ i) (by omega), fun h1 => lt_of_div (p := 65536 ^ i) (by omega)⟩
theorem div_len {x n : Nat} (h : (D x).length ≤ n) : x / 65536 ^ n = 0 := Nat.div_eq_of_lt (len_D_le.1 h)
section
variable {x y : Nat}
/-- Lists of one length: up from the high end. -/
theorem comp_l {body : VE → VH → Option (AX × VE × VH)} {S : Int → VE × VH} {E : VE × VH} {R : Int → VE × VH}
    (hx : body (S (-1)).1 (S (-1)).2 = some (.exit 0, E)) (h1 : ∀ j : Nat, j < (D x).length → dg x j = dg y j → body (S j).1 (S j).2 = some (.norm, S ((j : Int) - 1)))
    (h2 : ∀ j : Nat, j < (D x).length → dg x j < dg y j → body (S j).1 (S j).2 = some (.ret, R (-1))) (h3 : ∀ j : Nat, j < (D x).length → dg y j < dg x j → body (S j).1 (S j).2 = some (.ret, R 1)) :
    ∀ (j n : Nat), j ≤ (D x).length → x / 65536 ^ j = y / 65536 ^ j → j < n →
    (viter body n (S ((j : Int) - 1)).1 (S ((j : Int) - 1)).2 = some (.exit 0, E) ∧ cmpI x y = 0) ∨ viter body n (S ((j : Int) - 1)).1 (S ((j : Int) - 1)).2 = some (.ret, R (cmpI x y))
  | 0, n + 1, _, he, _ => by
    refine .inl ⟨vi_exit hx, ?_⟩
    simp only [Nat.pow_zero, Nat.div_one] at he
    subst he; simp [cmpI]
  | j + 1, n + 1, hj, he, hn => by
    have e : (((j + 1 : Nat) : Int) - 1) = (j : Int) := by omega
    rw [e]
    obtain ⟨s1, s2, s3⟩ := cmp_step he
    rcases Int.lt_trichotomy (dg x j) (dg y j) with hd | hd | hd
    · right
      rw [vi_ret (h2 j (by omega) hd)]
      unfold cmpI; rw [if_pos (s2 hd)]
    · rw [vi_norm (h1 j (by omega) hd)]
      exact comp_l hx h1 h2 h3 j n (by omega) (s1 hd) (by omega)
    · right
      rw [vi_ret (h3 j (by omega) hd)]
      have := s3 hd
      unfold cmpI; rw [if_neg (by omega), if_neg (by omega)]
def compS (x y : Nat) (i : Int) : VE × VH := ([(0, some (.ints .i64 (D x))), (1, some (.ints .i64 (D y))), (5, some (.int .i64 i))], [])
theorem compare_v (d : Nat) (hx : (D x).length < 1000000) (hy : (D y).length < 1000000) :
    vrun Try.prog kn (d + 3) 154 [.ints .i64 (D x), .ints .i64 (D y)] [] = some (.int .i64 (cmpI x y), []) := by
  by_cases hlt : (D x).length = (D y).length
  · have hc := comp_l (x := x) (y := y) (body := vCode Try.prog kn (vrun Try.prog kn (d + 2)) 154 (loopAt Try.f154 0)) (S := compS x y) (E := ([(0, some (.ints .i64 (D x))), (1, some (.ints .i64 (D y))), (5, some (.int .i64 (-1))), (20, some (.bool false))], [])) (R := fun v => ([(4, some (.int .i64 v))], []))
      (by rw [round_v]; simp only [loopAt, nthC, bodyC, loops, List.nil_append, List.cons_append, List.append_nil, Try.f154, compS]
          simp (disch := omega) [go_sem, tab154])
      (fun j hj he => by
          rw [round_v]; simp only [loopAt, nthC, bodyC, loops, List.nil_append, List.cons_append, List.append_nil, Try.f154, compS]
          simp (disch := omega) [go_sem, tab154, gt_D, he])
      (fun j hj he => by
          rw [round_v]; simp only [loopAt, nthC, bodyC, loops, List.nil_append, List.cons_append, List.append_nil, Try.f154, compS]
          simp (disch := omega) [go_sem, tab154, gt_D, Compare_v, cmp2])
      (fun j hj he => by
          rw [round_v]; simp only [loopAt, nthC, bodyC, loops, List.nil_append, List.cons_append, List.append_nil, Try.f154, compS]
          simp (disch := omega) [go_sem, tab154, gt_D, Compare_v, cmp2])
      (D x).length kn.cf.rounds (Nat.le_refl _) (by rw [div_len (Nat.le_refl _), hlt, div_len (Nat.le_refl _)]) (by rw [k_cf, c_rounds]; omega)
    rcases hc with ⟨hc, he⟩ | hc
    · have hl0 := fun ks => loop_v (P := Try.prog) (K := kn) (ks := ks) hc
      simp only [loopAt, nthC, bodyC, loops, List.nil_append, List.cons_append, List.append_nil, Try.f154, compS] at hl0
      rw [vrun_v Try.func154 rfl rfl rfl]; simp only [Try.f154]
      simp (disch := omega) [go_sem, tab154, hlt, he] at hl0 ⊢
      simp (disch := omega) [go_sem, tab154, hl0]
    · have hl0 := fun ks => loop_v (P := Try.prog) (K := kn) (ks := ks) hc
      simp only [loopAt, nthC, bodyC, loops, List.nil_append, List.cons_append, List.append_nil, Try.f154, compS] at hl0
      rw [vrun_v Try.func154 rfl rfl rfl]; simp only [Try.f154]
      simp (disch := omega) [go_sem, tab154, hlt] at hl0 ⊢
      simp (disch := omega) [go_sem, tab154, hl0]
  · have : cmp2 (D x).length (D y).length = cmpI x y := by
      unfold cmp2 cmpI
      by_cases h1 : (D x).length < (D y).length
      · rw [if_pos (by omega), if_pos (lt_of_len h1)]
      · have h2 := lt_of_len (x := y) (y := x) (by omega)
        rw [if_neg (by omega), if_pos (by omega), if_neg (by omega), if_neg (by omega)]
    rw [vrun_v Try.func154 rfl rfl rfl]; simp only [Try.f154]
    simp (disch := omega) [go_sem, tab154, Compare_v, this]
def cmpS (x y : Nat) (i : Int) : VE × VH := ([(2, some (.ptr 0 0)), (3, some (.ptr 1 0)), (5, some (.int .i64 i))], [.vals true [.ints .i64 (D x)], .vals true [.ints .i64 (D y)]])
theorem l2cmp_v (d : Nat) (hx : (D x).length < 1000000) (hy : (D y).length < 1000000) :
    vrun Try.prog kn (d + 1) 151 [.agg [.ints .i64 (D x)], .agg [.ints .i64 (D y)]] [] = some (.int .i64 (cmpI x y), []) := by
  by_cases hlt : (D x).length = (D y).length
  · have hc := comp_l (x := x) (y := y) (body := vCode Try.prog kn (vrun Try.prog kn d) 151 (loopAt Try.f151 0)) (S := cmpS x y) (E := ([(2, some (.ptr 0 0)), (3, some (.ptr 1 0)), (5, some (.int .i64 (-1))), (25, some (.bool false))], [.vals true [.ints .i64 (D x)], .vals true [.ints .i64 (D y)]])) (R := fun v => ([(4, some (.int .i64 v))], []))
      (by rw [round_v]; simp only [loopAt, nthC, bodyC, loops, List.nil_append, List.cons_append, List.append_nil, Try.f151, cmpS]
          simp (disch := omega) [go_sem, tab151])
      (fun j hj he => by
          rw [round_v]; simp only [loopAt, nthC, bodyC, loops, List.nil_append, List.cons_append, List.append_nil, Try.f151, cmpS]
          simp (disch := omega) [go_sem, tab151, gt_D, he])
      (fun j hj he => by
          rw [round_v]; simp only [loopAt, nthC, bodyC, loops, List.nil_append, List.cons_append, List.append_nil, Try.f151, cmpS]
          simp (disch := omega) [go_sem, tab151, gt_D])
      (fun j hj he => by
          rw [round_v]; simp only [loopAt, nthC, bodyC, loops, List.nil_append, List.cons_append, List.append_nil, Try.f151, cmpS]
          simp (disch := omega) [go_sem, tab151, gt_D])
      (D x).length kn.cf.rounds (Nat.le_refl _) (by rw [div_len (Nat.le_refl _), hlt, div_len (Nat.le_refl _)]) (by rw [k_cf, c_rounds]; omega)
    rcases hc with ⟨hc, he⟩ | hc
    · have hl0 := fun ks => loop_v (P := Try.prog) (K := kn) (ks := ks) hc
      simp only [loopAt, nthC, bodyC, loops, List.nil_append, List.cons_append, List.append_nil, Try.f151, cmpS] at hl0
      rw [vrun_v Try.func151 rfl rfl rfl]; simp only [Try.f151]
      simp (disch := omega) [go_sem, tab151, hlt, he] at hl0 ⊢
      simp (disch := omega) [go_sem, tab151, hl0]
    · have hl0 := fun ks => loop_v (P := Try.prog) (K := kn) (ks := ks) hc
      simp only [loopAt, nthC, bodyC, loops, List.nil_append, List.cons_append, List.append_nil, Try.f151, cmpS] at hl0
      rw [vrun_v Try.func151 rfl rfl rfl]; simp only [Try.f151]
      simp (disch := omega) [go_sem, tab151, hlt] at hl0 ⊢
      simp (disch := omega) [go_sem, tab151, hl0]
  · rw [vrun_v Try.func151 rfl rfl rfl]; simp only [Try.f151]
    by_cases h1 : (D x).length < (D y).length
    · have : cmpI x y = -1 := by unfold cmpI; rw [if_pos (lt_of_len h1)]
      simp (disch := omega) [go_sem, tab151, this]
    · have h2 := lt_of_len (x := y) (y := x) (by omega)
      have : cmpI x y = 1 := by unfold cmpI; rw [if_neg (by omega), if_neg (by omega)]
      simp (disch := omega) [go_sem, tab151, this]
end
end
/- Numbers: times, l2add, l2sub, l2mul. No conditions. -/
section
open Num
section
variable {x y : Nat}
theorem add_go {x y j : Nat} (h : j < (D (x + y)).length) : j < (D x).length ∨ (¬ j < (D x).length ∧ j < (D y).length) ∨ (¬ j < (D x).length ∧ ¬ j < (D y).length ∧ 0 < carry x y j) := by
  by_cases h1 : j < (D x).length
  · exact .inl h1
  · by_cases h2 : j < (D y).length
    · exact .inr (.inl ⟨h1, h2⟩)
    · refine .inr (.inr ⟨h1, h2, ?_⟩)
      have hx : x < 65536 ^ j := len_D_le.1 (by omega)
      have hy : y < 65536 ^ j := len_D_le.1 (by omega)
      have hp : 65536 ^ j ≤ x + y := len_D_lt.1 h
      unfold carry
      rw [Nat.mod_eq_of_lt hx, Nat.mod_eq_of_lt hy]
      have := Nat.div_pos hp (powN_pos j)
      omega
theorem add_end (x y : Nat) : (D x).length ≤ (D (x + y)).length ∧ (D y).length ≤ (D (x + y)).length ∧ carry x y (D (x + y)).length = 0 := by
  refine ⟨len_mono (by omega), len_mono (by omega), ?_⟩
  have h := lt_len_D (x + y)
  unfold carry
  rw [Nat.mod_eq_of_lt (by omega), Nat.mod_eq_of_lt (by omega), Nat.div_eq_of_lt h]; rfl
def addS (x y j : Nat) : VE × VH := ([(2, some (.ptr 0 0)), (3, some (.ptr 1 0)), (4, some (.ptr 2 0)), (5, some (.sl 3 0 j 1)), (6, some (.int .i64 (carry x y j))), (7, some (.int .i64 j))], [.vals true [.ints .i64 (D x)], .vals true [.ints .i64 (D y)], .vals true [.nil], .ints true .i64 (dgs (x + y) j)])
theorem add_r (call : CallV) (hx : (D x).length < 1000000) (hy : (D y).length < 1000000) (j : Nat) (hj : j < (D (x + y)).length) :
    vCode Try.prog kn call 150 (loopAt Try.f150 0) (addS x y j).1 (addS x y j).2 = some (.norm, addS x y (j + 1)) := by
  have b1 := dg_bd x j
  have b2 := dg_bd y j
  have b3 := carry_bd x y j
  have hl := len_add (x := x) (y := y) (n := 1000000) (by omega) (by omega)
  rw [round_v]; simp only [loopAt, nthC, bodyC, loops, List.nil_append, List.cons_append, List.append_nil, Try.f150, addS, dgs_succ, carry_succ, dg_add]
  rcases add_go hj with h1 | ⟨h1, h2⟩ | ⟨h1, h2, h3⟩
  · by_cases h2 : j < (D y).length
    · simp (disch := omega) [go_sem, tab150, nil150, gt_D, dgs_len, dgs_take]
    · have e2 := dg_len (x := y) (i := j) (by omega)
      simp (disch := omega) [go_sem, tab150, nil150, gt_D, dgs_len, dgs_take, e2]
  · have e1 := dg_len (x := x) (i := j) (by omega)
    simp (disch := omega) [go_sem, tab150, nil150, gt_D, dgs_len, dgs_take, e1]
  · have e1 := dg_len (x := x) (i := j) (by omega)
    have e2 := dg_len (x := y) (i := j) (by omega)
    simp (disch := omega) [go_sem, tab150, nil150, gt_D, dgs_len, dgs_take, e1, e2]
theorem add_x (call : CallV) (hx : (D x).length < 1000000) (hy : (D y).length < 1000000) (hl : (D (x + y)).length < 1000002) :
    vCode Try.prog kn call 150 (loopAt Try.f150 0) (addS x y (D (x + y)).length).1 (addS x y (D (x + y)).length).2 = some (.exit 0, (addS x y (D (x + y)).length).1 ++ [(24, some (.bool false))], (addS x y (D (x + y)).length).2) := by
  obtain ⟨h1, h2, h3⟩ := add_end x y
  rw [round_v]; simp only [loopAt, nthC, bodyC, loops, List.nil_append, List.cons_append, List.append_nil, Try.f150, addS, h3]
  simp (disch := omega) [go_sem, tab150, nil150, dgs_len]
theorem l2add_v (d : Nat) (hx : (D x).length < 1000000) (hy : (D y).length < 1000000) :
    vrun Try.prog kn (d + 2) 150 [.agg [.ints .i64 (D x)], .agg [.ints .i64 (D y)]] [] = some (.agg [.ints .i64 (D (x + y))], []) := by
  have hl : (D (x + y)).length < 1000002 := by
    have := len_add (x := x) (y := y) (n := 1000000) (by omega) (by omega); omega
  have hl0 := fun ks => loop_v (P := Try.prog) (K := kn) (ks := ks) (vi_for (addS x y) (D (x + y)).length (by rw [k_cf, c_rounds]; omega) (add_r (vrun Try.prog kn (d + 1)) hx hy) fun m => vi_exit (add_x _ hx hy hl))
  simp only [loopAt, nthC, bodyC, loops, List.nil_append, List.cons_append, List.append_nil, Try.f150, addS, dgs, carry_zero, Int.natCast_zero] at hl0
  have hn := l2norm_v d (l := D (x + y)) (v := x + y) (by omega) (good_D _) (val_D _)
  rw [vrun_v Try.func150 rfl rfl rfl]; simp only [Try.f150]
  simp (disch := omega) [go_sem, tab150, nil150, hl0, dgs_len, dgs_D, hn]
def subS (x y j : Nat) : VE × VH := ([(2, some (.ptr 0 0)), (3, some (.ptr 1 0)), (4, some (.ptr 2 0)), (5, some (.sl 3 0 j 1)), (6, some (.int .i64 (borrow x y j))), (7, some (.int .i64 j))], [.vals true [.ints .i64 (D x)], .vals true [.ints .i64 (D y)], .vals true [.nil], .ints true .i64 (dgs (x - y) j)])
theorem sub_r (call : CallV) (hxy : y ≤ x) (hx : (D x).length < 1000000) (j : Nat) (hj : j < (D x).length) :
    vCode Try.prog kn call 152 (loopAt Try.f152 0) (subS x y j).1 (subS x y j).2 = some (.norm, subS x y (j + 1)) := by
  have b1 := dg_bd x j
  have b2 := dg_bd y j
  have b3 := borrow_bd x y j
  rw [round_v]; simp only [loopAt, nthC, bodyC, loops, List.nil_append, List.cons_append, List.append_nil, Try.f152, subS, dgs_succ, borrow_succ hxy, dg_sub hxy]
  by_cases hlt : j < (D y).length
  · by_cases hb : dg x j - borrow x y j - dg y j < 0
    · simp (disch := omega) [go_sem, tab152, nil152, gt_D, dgs_len, dgs_take, hb]
    · simp (disch := omega) [go_sem, tab152, nil152, gt_D, dgs_len, dgs_take, hb]
  · have := dg_len (x := y) (i := j) (by omega)
    rw [this]
    by_cases hb : dg x j - borrow x y j - 0 < 0
    · simp (disch := omega) [go_sem, tab152, nil152, gt_D, dgs_len, dgs_take]
    · simp (disch := omega) [go_sem, tab152, nil152, gt_D, dgs_len, dgs_take]
theorem sub_x (call : CallV) (hx : (D x).length < 1000000) :
    vCode Try.prog kn call 152 (loopAt Try.f152 0) (subS x y (D x).length).1 (subS x y (D x).length).2 = some (.exit 0, (subS x y (D x).length).1 ++ [(13, some (.bool false))], (subS x y (D x).length).2) := by
  rw [round_v]; simp only [loopAt, nthC, bodyC, loops, List.nil_append, List.cons_append, List.append_nil, Try.f152, subS]
  simp (disch := omega) [go_sem, tab152, nil152, dgs_len]
theorem l2sub_v (d : Nat) (hxy : y ≤ x) (hx : (D x).length < 1000000) :
    vrun Try.prog kn (d + 2) 152 [.agg [.ints .i64 (D x)], .agg [.ints .i64 (D y)]] [] = some (.agg [.ints .i64 (D (x - y))], []) := by
  have hl0 := fun ks => loop_v (P := Try.prog) (K := kn) (ks := ks) (vi_for (subS x y) (D x).length (by rw [k_cf, c_rounds]; omega) (sub_r (vrun Try.prog kn (d + 1)) hxy hx) fun m => vi_exit (sub_x _ hx))
  simp only [loopAt, nthC, bodyC, loops, List.nil_append, List.cons_append, List.append_nil, Try.f152, subS, dgs, borrow_zero, Int.natCast_zero] at hl0
  have c2 : x - y < 65536 ^ (D x).length := Nat.lt_of_le_of_lt (Nat.sub_le _ _) (lt_len_D x)
  have hn := l2norm_v d (l := dgs (x - y) (D x).length) (v := x - y) (by rw [dgs_len]; omega) (dgs_good _ _) (by rw [dgs_val, lo_len (lt_pow_len c2)])
  rw [vrun_v Try.func152 rfl rfl rfl]; simp only [Try.f152]
  simp (disch := omega) [go_sem, tab152, nil152, hl0, dgs_len, dgs_take, hn]
end
section
variable {x y : Nat}
/-- A row of a product. -/
theorem mul_in {body : VE → VH → Option (AX × VE × VH)} {S : List Int → Int → Nat → VE × VH} {E : List Int → Int → VE × VH} {ex i N : Nat}
    (hs : ∀ (out : List Int) (c : Int) (j : Nat), j < (D y).length → out.length = N → 0 ≤ c → c < 65536 → 0 ≤ gt out (i + j) → gt out (i + j) < 65536 → 0 ≤ dg x i * dg y j → dg x i * dg y j ≤ 4294836225 →
      body (S out c j).1 (S out c j).2 = some (.norm, S (out.set (i + j) ((c + (gt out (i + j) + dg x i * dg y j)) % 65536)) ((c + (gt out (i + j) + dg x i * dg y j)) / 65536) (j + 1)))
    (hx : ∀ (out : List Int) (c : Int), out.length = N → body (S out c (D y).length).1 (S out c (D y).length).2 = some (.exit ex, E out c)) (hN : i + (D y).length < N) (v0 : Int) (d : Nat) :
    ∀ (j n : Nat) (out : List Int) (c : Int), j + d = (D y).length → d < n → GoodL out → out.length = N → 0 ≤ c → c < 65536 → out.getD (i + (D y).length) 0 = 0 →
      val out + 65536 ^ i * 65536 ^ j * c = v0 + 65536 ^ i * dg x i * lo y j →
    ∃ out' c', viter body n (S out c j).1 (S out c j).2 = some (.exit ex, E out' c') ∧ out'.length = N ∧ gt out' (i + (D y).length) = 0 ∧ 0 ≤ c' ∧ c' < 65536 ∧ GoodL (out'.set (i + (D y).length) c') ∧ val (out'.set (i + (D y).length) c') = v0 + 65536 ^ i * dg x i * y := by
  induction d with
  | zero =>
    intro j n out c hj hn hg hl h0 h1 hz hv
    obtain ⟨n, rfl⟩ : ∃ m, n = m + 1 := ⟨n - 1, by omega⟩
    obtain rfl : j = (D y).length := by omega
    refine ⟨out, c, vi_exit (hx out c hl), hl, hz, h0, h1, hg.set _ h0 h1, ?_⟩
    rw [val_set (by omega), hz, Int.pow_add]
    rw [lo_len (by omega)] at hv
    grind
  | succ d ih =>
    intro j n out c hj hn hg hl h0 h1 hz hv
    obtain ⟨n, rfl⟩ : ∃ m, n = m + 1 := ⟨n - 1, by omega⟩
    have b1 := dg_bd x i
    have b2 := dg_bd y j
    have e2 := lo_succ y j
    have bm := mul_bd b1 b2
    have bo := hg.getD (i + j)
    have bo0 : 0 ≤ gt out (i + j) := bo.1
    have bo1 : gt out (i + j) < 65536 := bo.2
    rw [vi_norm (hs out c j (by omega) hl h0 h1 bo0 bo1 bm.1 bm.2)]
    exact ih (j + 1) n (out.set (i + j) ((c + (gt out (i + j) + dg x i * dg y j)) % 65536)) ((c + (gt out (i + j) + dg x i * dg y j)) / 65536) (by omega) (by omega) (hg.set _ (by omega) (by omega)) (by rw [List.length_set]; exact hl) (by omega) (by omega) (by rw [getD_set_ne_ (by omega)]; exact hz) (by
      rw [e2, Int.pow_succ]
      refine step_mul hv rfl ?_
      rw [val_set (by omega), Int.pow_add]; rfl)
theorem row_zero {x y i : Nat} {out : List Int} (hg : GoodL out) (hv : val out = lo x i * y) : out.getD (i + (D y).length) 0 = 0 := by
  refine getD_zero_of_lt hg ?_
  rw [hv, Int.pow_add]
  have h1 := lo_lt x i
  have h2 : (y : Int) < 65536 ^ (D y).length := by rw [← pow_cast]; exact Int.ofNat_lt.2 (lt_len_D y)
  have h3 := lo_nonneg x i
  have h4 := pow_pos' i
  exact Int.lt_of_le_of_lt (Int.mul_le_mul_of_nonneg_right (Int.le_of_lt h1) (by omega)) (Int.mul_lt_mul_of_pos_left h2 h4)
theorem mul_out {body : VE → VH → Option (AX × VE × VH)} {S : List Int → Nat → VE × VH} {E : List Int → VE × VH} {ex N : Nat}
    (hs : ∀ (out : List Int) (j : Nat), j < (D x).length → GoodL out → out.length = N → val out = lo x j * y → ∃ out', body (S out j).1 (S out j).2 = some (.norm, S out' (j + 1)) ∧ GoodL out' ∧ out'.length = N ∧ val out' = lo x (j + 1) * y)
    (hx : ∀ (out : List Int), out.length = N → body (S out (D x).length).1 (S out (D x).length).2 = some (.exit ex, E out)) (d : Nat) :
    ∀ (j n : Nat) (out : List Int), j + d = (D x).length → d < n → GoodL out → out.length = N → val out = lo x j * y →
    ∃ out', viter body n (S out j).1 (S out j).2 = some (.exit ex, E out') ∧ GoodL out' ∧ out'.length = N ∧ val out' = ((x * y : Nat) : Int) := by
  induction d with
  | zero =>
    intro j n out hj hn hg hl hv
    obtain ⟨n, rfl⟩ : ∃ m, n = m + 1 := ⟨n - 1, by omega⟩
    obtain rfl : j = (D x).length := by omega
    exact ⟨out, vi_exit (hx out hl), hg, hl, by rw [hv, lo_len (by omega), ← Int.natCast_mul]⟩
  | succ d ih =>
    intro j n out hj hn hg hl hv
    obtain ⟨n, rfl⟩ : ∃ m, n = m + 1 := ⟨n - 1, by omega⟩
    obtain ⟨out', hr, hg', hl', hv'⟩ := hs out j (by omega) hg hl hv
    rw [vi_norm hr]
    exact ih (j + 1) n out' (by omega) (by omega) hg' hl' hv'
def timesI (x y i : Nat) (out : List Int) (c : Int) (j : Nat) : VE × VH := ([(1, some (.ints .i64 (D y))), (5, some (.sl 0 0 ((D x).length + (D y).length) 1)), (6, some (.int .i64 i)), (7, some (.int .i64 (dg x i))), (8, some (.int .i64 c)), (17, some (.ints .i64 (D x))), (18, some (.int .i64 (D x).length)), (19, some (.int .i64 i)), (24, some (.ints .i64 (D y))), (25, some (.int .i64 (D y).length)), (26, some (.int .i64 j))], [.ints true .i64 out])
def timesS (x y : Nat) (out : List Int) (j : Nat) : VE × VH := ([(1, some (.ints .i64 (D y))), (5, some (.sl 0 0 ((D x).length + (D y).length) 1)), (17, some (.ints .i64 (D x))), (18, some (.int .i64 (D x).length)), (19, some (.int .i64 j))], [.ints true .i64 out])
theorem times_v (d : Nat) (hx : (D x).length < 1000000) (hy : (D y).length < 1000000) :
    vrun Try.prog kn (d + 2) 74 [.ints .i64 (D x), .ints .i64 (D y)] [] = some (.sl 0 0 (D (x * y)).length 1, [.ints true .i64 (D (x * y))]) := by
  obtain ⟨out, hl, hg, hol, hv⟩ := mul_out (x := x) (y := y) (N := (D x).length + (D y).length) (ex := 0) (S := timesS x y) (E := fun out => ((timesS x y out (D x).length).1 ++ [(20, some (.bool false))], [.ints true .i64 out])) (body := vCode Try.prog kn (vrun Try.prog kn (d + 1)) 74 (loopAt Try.f74 0))
    (fun out i hi hg hol hv => by
      obtain ⟨out', c', hl, hol', hz', hc0, hc1, hg', hv'⟩ := mul_in (x := x) (y := y) (i := i) (ex := 2) (N := (D x).length + (D y).length) (S := timesI x y i) (E := fun out c => ((timesI x y i out c (D y).length).1 ++ [(27, some (.bool false))], [.ints true .i64 out])) (body := vCode Try.prog kn (vrun Try.prog kn (d + 1)) 74 (loopAt Try.f74 1))
        (fun out c j hj hol h0 h1 o0 o1 p0 p1 => by
          rw [round_v]; simp only [loopAt, nthC, bodyC, loops, List.nil_append, List.cons_append, List.append_nil, Try.f74, timesI]
          have e : ((i : Int) + (j : Int)).toNat = i + j := by omega
          simp (disch := omega) [go_sem, tab74, nil74, gt_D, hol, e])
        (fun out c hol => by
          rw [round_v]; simp only [loopAt, nthC, bodyC, loops, List.nil_append, List.cons_append, List.append_nil, Try.f74, timesI]
          simp (disch := omega) [go_sem, tab74, nil74, hol])
        (by omega) (lo x i * y) (D y).length 0 kn.cf.rounds out 0 (by omega) (by rw [k_cf, c_rounds]; omega) hg hol (by omega) (by omega) (row_zero hg hv) (by rw [lo_zero, hv]; grind)
      have hl0 := fun ks => loop_v (P := Try.prog) (K := kn) (ks := ks) hl
      simp only [loopAt, nthC, bodyC, loops, List.nil_append, List.cons_append, List.append_nil, Try.f74, timesI, Int.natCast_zero, List.cons_append, List.nil_append] at hl0
      refine ⟨_, ?_, hg', by rw [List.length_set]; exact hol', by rw [hv', lo_succ]; grind⟩
      rw [round_v]; simp only [loopAt, nthC, bodyC, loops, List.nil_append, List.cons_append, List.append_nil, Try.f74, timesS]
      have e : ((i : Int) + ((D y).length : Int)).toNat = i + (D y).length := by omega
      simp (disch := omega) [go_sem, tab74, nil74, gt_D, hl0, hol, hol', e])
    (fun out hol => by
      rw [round_v]; simp only [loopAt, nthC, bodyC, loops, List.nil_append, List.cons_append, List.append_nil, Try.f74, timesS]
      simp (disch := omega) [go_sem, tab74, nil74, hol])
    (D x).length 0 kn.cf.rounds (List.replicate ((D x).length + (D y).length) 0) (by omega) (by rw [k_cf, c_rounds]; omega) (GoodL.zeros _) (by simp) (by rw [val_zeros, lo_zero]; simp)
  have hl0 := fun ks => loop_v (P := Try.prog) (K := kn) (ks := ks) hl
  simp only [loopAt, nthC, bodyC, loops, List.nil_append, List.cons_append, List.append_nil, Try.f74, timesS, Int.natCast_zero, List.cons_append, List.nil_append] at hl0
  have ht := trim0_v d (l := out) (n := (D x).length + (D y).length) (v := x * y) (by omega) (by omega) hg hv
  obtain ⟨-, htk, hle⟩ := tl_D hg (l := out) (v := x * y) hv
  have e : ((D x).length + (D y).length : Int).toNat = (D x).length + (D y).length := by omega
  rw [vrun_v Try.func74 rfl rfl rfl]; simp only [Try.f74]
  simp (disch := omega) [go_sem, tab74, nil74, hl0, ht, htk, hol, e]
def mulI (x y i : Nat) (out : List Int) (c : Int) (j : Nat) : VE × VH := ([(2, some (.ptr 0 0)), (3, some (.ptr 1 0)), (4, some (.ptr 2 0)), (5, some (.sl 3 0 ((D x).length + (D y).length) 1)), (6, some (.int .i64 i)), (7, some (.int .i64 c)), (8, some (.int .i64 j))], [.vals true [.ints .i64 (D x)], .vals true [.ints .i64 (D y)], .vals true [.nil], .ints true .i64 out])
def mulS (x y : Nat) (out : List Int) (j : Nat) : VE × VH := ([(2, some (.ptr 0 0)), (3, some (.ptr 1 0)), (4, some (.ptr 2 0)), (5, some (.sl 3 0 ((D x).length + (D y).length) 1)), (6, some (.int .i64 j))], [.vals true [.ints .i64 (D x)], .vals true [.ints .i64 (D y)], .vals true [.nil], .ints true .i64 out])
theorem l2mul_v (d : Nat) (hx : (D x).length < 1000000) (hy : (D y).length < 1000000) :
    vrun Try.prog kn (d + 2) 82 [.agg [.ints .i64 (D x)], .agg [.ints .i64 (D y)]] [] = some (.agg [.ints .i64 (D (x * y))], []) := by
  obtain ⟨out, hl, hg, hol, hv⟩ := mul_out (x := x) (y := y) (N := (D x).length + (D y).length) (ex := 0) (S := mulS x y) (E := fun out => ((mulS x y out (D x).length).1 ++ [(22, some (.bool false))], (mulS x y out 0).2)) (body := vCode Try.prog kn (vrun Try.prog kn (d + 1)) 82 (loopAt Try.f82 0))
    (fun out i hi hg hol hv => by
      obtain ⟨out', c', hl, hol', hz', hc0, hc1, hg', hv'⟩ := mul_in (x := x) (y := y) (i := i) (ex := 2) (N := (D x).length + (D y).length) (S := mulI x y i) (E := fun out c => ((mulI x y i out c (D y).length).1 ++ [(29, some (.bool false))], (mulI x y i out c 0).2)) (body := vCode Try.prog kn (vrun Try.prog kn (d + 1)) 82 (loopAt Try.f82 1))
        (fun out c j hj hol h0 h1 o0 o1 p0 p1 => by
          rw [round_v]; simp only [loopAt, nthC, bodyC, loops, List.nil_append, List.cons_append, List.append_nil, Try.f82, mulI]
          have e : ((i : Int) + (j : Int)).toNat = i + j := by omega
          have e3 : gt out (i + j) + dg x i * dg y j + c = c + (gt out (i + j) + dg x i * dg y j) := by omega
          simp (disch := omega) [go_sem, tab82, gt_D, hol, e, e3])
        (fun out c hol => by
          rw [round_v]; simp only [loopAt, nthC, bodyC, loops, List.nil_append, List.cons_append, List.append_nil, Try.f82, mulI]
          simp (disch := omega) [go_sem, tab82, hol])
        (by omega) (lo x i * y) (D y).length 0 kn.cf.rounds out 0 (by omega) (by rw [k_cf, c_rounds]; omega) hg hol (by omega) (by omega) (row_zero hg hv) (by rw [lo_zero, hv]; grind)
      have hl0 := fun ks => loop_v (P := Try.prog) (K := kn) (ks := ks) hl
      simp only [loopAt, nthC, bodyC, loops, List.nil_append, List.cons_append, List.append_nil, Try.f82, mulI, Int.natCast_zero, List.cons_append, List.nil_append] at hl0
      refine ⟨_, ?_, hg', by rw [List.length_set]; exact hol', by rw [hv', lo_succ]; grind⟩
      rw [round_v]; simp only [loopAt, nthC, bodyC, loops, List.nil_append, List.cons_append, List.append_nil, Try.f82, mulS]
      have e : ((i : Int) + ((D y).length : Int)).toNat = i + (D y).length := by omega
      simp (disch := omega) [go_sem, tab82, gt_D, hl0, hol, hol', e, hz'])
    (fun out hol => by
      rw [round_v]; simp only [loopAt, nthC, bodyC, loops, List.nil_append, List.cons_append, List.append_nil, Try.f82, mulS]
      simp (disch := omega) [go_sem, tab82, hol])
    (D x).length 0 kn.cf.rounds (List.replicate ((D x).length + (D y).length) 0) (by omega) (by rw [k_cf, c_rounds]; omega) (GoodL.zeros _) (by simp) (by rw [val_zeros, lo_zero]; simp)
  have hl0 := fun ks => loop_v (P := Try.prog) (K := kn) (ks := ks) hl
  simp only [loopAt, nthC, bodyC, loops, List.nil_append, List.cons_append, List.append_nil, Try.f82, mulS, Int.natCast_zero, List.cons_append, List.nil_append] at hl0
  have hn := l2norm_v d (l := out) (v := x * y) (by omega) hg hv
  have e : ((D x).length + (D y).length : Int).toNat = (D x).length + (D y).length := by omega
  have htk : out.take ((D x).length + (D y).length) = out := List.take_of_length_le (by omega)
  rw [vrun_v Try.func82 rfl rfl rfl]; simp only [Try.f82]
  simp (disch := omega) [go_sem, tab82, hl0, hn, hol, e, htk]
end
end
/- Numbers: up, down, bits, and the reference's l2small, l2shl, l2shr, l2bit, l2trail. No conditions. -/
section
open Num
theorem b_and1 (P : Program) (t : TypeId) (a : Int) (h0 : 0 ≤ a) (h1 : a < 9223372036854775808) : binE P .and t (.int .i64 a) (.int .i64 1) = some (.int .i64 (a % 2)) := by
  rw [b_and]
  have : (BitVec.ofInt 64 a &&& BitVec.ofInt 64 1).toNat = (a % 2).toNat := by
    rw [BitVec.toNat_and, BitVec.toNat_ofInt, show (BitVec.ofInt 64 1).toNat = 1 from rfl, Nat.and_one_is_mod]
    omega
  have h2 : IntKind.wrap .i64 (((BitVec.ofInt 64 a &&& BitVec.ofInt 64 1).toNat : Nat) : Int) = a % 2 := by
    rw [this, w64 (by omega) (by omega)]; omega
  exact congrArg (fun q => some (CV.int .i64 q)) h2
section
def upS (x m s : Nat) (k : Int) (j : Nat) : VE × VH := ([(1, some (.int .i64 k)), (5, some (.sl 0 0 (s + j) 1)), (6, some (.int .i64 (mcar x m j))), (21, some (.ints .i64 (D x))), (22, some (.int .i64 (D x).length)), (23, some (.int .i64 j))], [.ints true .i64 (List.replicate s 0 ++ dgs (x * m) j)])
theorem shl_m (k : Nat) : (2 : Int) ^ ((k : Int) % 16).toNat = ((2 ^ (k % 16) : Nat) : Int) := by
  rw [show ((k : Int) % 16).toNat = k % 16 by omega, Int.natCast_pow]; rfl
theorem mulm_bd {a : Int} {m : Nat} (h0 : 0 ≤ a) (h1 : a < 65536) (hm : m ≤ 32768) : 0 ≤ a * m ∧ a * m ≤ 2147450880 := by
  refine ⟨Int.mul_nonneg h0 (by omega), ?_⟩
  have : a * m ≤ 65535 * 32768 := Int.mul_le_mul (by omega) (by omega) (by omega) (by omega)
  omega
variable {x k : Nat}
theorem up_r (call : CallV) (hx : (D x).length < 1000000) (hk : k < 1000000) (j : Nat) (hj : j < (D x).length) :
    vCode Try.prog kn call 90 (loopAt Try.f90 0) (upS x (2 ^ (k % 16)) (k / 16) k j).1 (upS x (2 ^ (k % 16)) (k / 16) k j).2 = some (.norm, upS x (2 ^ (k % 16)) (k / 16) k (j + 1)) := by
  have b1 := dg_bd x j
  have hm := pow16_le k
  have b2 := mcar_bd (x := x) (Nat.two_pow_pos (k % 16)) j
  have e := shl_m k
  rw [round_v]; simp only [loopAt, nthC, bodyC, loops, List.nil_append, List.cons_append, List.append_nil, Try.f90, upS, dgs_succ, mcar_succ, dg_mul]
  generalize 2 ^ (k % 16) = m at *
  have b3 := mulm_bd b1.1 b1.2 hm
  have e2 : ((k : Int) % 16).toNat = k % 16 := by omega
  have hl : (List.replicate (k / 16) (0 : Int) ++ dgs (x * m) j).length = k / 16 + j := by rw [List.length_append, List.length_replicate, dgs_len]
  have ht : (List.replicate (k / 16) (0 : Int) ++ dgs (x * m) j).take (k / 16 + j) = List.replicate (k / 16) (0 : Int) ++ dgs (x * m) j := List.take_of_length_le (by rw [hl]; omega)
  generalize List.replicate (k / 16) (0 : Int) = Z at *
  simp (disch := omega) [go_sem, tab90, nil90, gt_D, hl, ht, e, List.append_assoc, Nat.add_assoc]
theorem up_x (call : CallV) (hx : (D x).length < 1000000) (m s : Nat) (c : Int) :
    vCode Try.prog kn call 90 (loopAt Try.f90 0) (upS x m s c (D x).length).1 (upS x m s c (D x).length).2 = some (.exit 0, (upS x m s c (D x).length).1 ++ [(24, some (.bool false))], (upS x m s c (D x).length).2) := by
  rw [round_v]; simp only [loopAt, nthC, bodyC, loops, List.nil_append, List.cons_append, List.append_nil, Try.f90, upS]
  simp (disch := omega) [go_sem, tab90, nil90]
theorem up_v (d : Nat) (hx : (D x).length < 1000000) (hk : k < 1000000) :
    vrun Try.prog kn (d + 2) 90 [.ints .i64 (D x), .int .i64 (k : Int)] [] = some (.sl 0 0 (D (x * 2 ^ k)).length 1, [.ints true .i64 (D (x * 2 ^ k))]) := by
  by_cases h0 : (D x).length = 0
  · have e0 := lens_D.1 h0
    subst e0
    rw [vrun_v Try.func90 rfl rfl rfl]; simp only [Try.f90]
    simp (disch := omega) [go_sem, tab90, nil90, D_zero]
  · have hl0 := fun ks => loop_v (P := Try.prog) (K := kn) (ks := ks) (vi_for (upS x (2 ^ (k % 16)) (k / 16) k) (D x).length (by rw [k_cf, c_rounds]; omega) (up_r (vrun Try.prog kn (d + 1)) hx hk) fun m => vi_exit (up_x _ hx _ _ _))
    simp only [loopAt, nthC, bodyC, loops, List.nil_append, List.cons_append, List.append_nil, Try.f90, upS, dgs, mcar_zero, Int.natCast_zero, List.append_nil, Nat.add_zero, List.cons_append, List.nil_append] at hl0
    have hm := pow16_le k
    obtain ⟨c1, c2⟩ := mcar_end (x := x) (m := 2 ^ (k % 16)) (by omega) (Nat.le_refl _)
    have hval : val (List.replicate (k / 16) 0 ++ dgs (x * 2 ^ (k % 16)) ((D x).length + 1)) = ((x * 2 ^ k : Nat) : Int) := by
      rw [val_append, val_zeros, dgs_val, lo_len (lt_pow_len c2), List.length_replicate, pow_split k, Int.natCast_mul, Int.natCast_mul, Int.natCast_mul, pow_cast]
      grind
    have hg : GoodL (List.replicate (k / 16) 0 ++ dgs (x * 2 ^ (k % 16)) ((D x).length + 1)) := (GoodL.zeros _).append (dgs_good _ _)
    have hlen : (List.replicate (k / 16) (0 : Int) ++ dgs (x * 2 ^ (k % 16)) ((D x).length + 1)).length = k / 16 + ((D x).length + 1) := by rw [List.length_append, List.length_replicate, dgs_len]
    have ht := trim2_v d (l := List.replicate (k / 16) 0 ++ dgs (x * 2 ^ (k % 16)) ((D x).length + 1)) (n := k / 16 + ((D x).length + 1)) (v := x * 2 ^ k) (by omega) hlen.symm hg hval
    obtain ⟨-, htk, hle⟩ := tl_D hg hval
    rw [dgs_succ, ← c1] at ht htk hle hlen
    have hl : (List.replicate (k / 16) (0 : Int) ++ dgs (x * 2 ^ (k % 16)) (D x).length).length = k / 16 + (D x).length := by rw [List.length_append, List.length_replicate, dgs_len]
    have htt : (List.replicate (k / 16) (0 : Int) ++ dgs (x * 2 ^ (k % 16)) (D x).length).take (k / 16 + (D x).length) = List.replicate (k / 16) (0 : Int) ++ dgs (x * 2 ^ (k % 16)) (D x).length := List.take_of_length_le (by omega)
    have hz : (List.replicate (k / 16) (0 : Int)).length = k / 16 := List.length_replicate
    have e1 : ((k : Int) / 16).toNat = k / 16 := by omega
    have hne : ¬ D x = [] := fun e => h0 (by rw [e]; rfl)
    rw [vrun_v Try.func90 rfl rfl rfl]; simp only [Try.f90]
    generalize dgs (x * 2 ^ (k % 16)) (D x).length = Y at *
    generalize mcar x (2 ^ (k % 16)) (D x).length = c at *
    generalize hZ : List.replicate (k / 16) (0 : Int) = Z at *
    simp (disch := omega) [go_sem, tab90, nil90, hne, e1, hZ, hz, hl0, hl, htt, Nat.add_assoc, ht, htk, hle, List.append_assoc, hlen]
end
end
/- Numbers: down, and the reference's l2small, l2shl, l2shr. No conditions. -/
section
open Num
theorem fdiv_m (a : Int) (m : Nat) : a.fdiv (m : Int) = a / m := Int.fdiv_eq_ediv_of_nonneg _ (by omega)
section
variable {x k : Nat}
def downS (z m : Nat) (k : Int) (j : Nat) : VE × VH := ([(1, some (.int .i64 k)), (5, some (.ints .i64 (D z))), (6, some (.sl 0 0 j 1)), (21, some (.ints .i64 (D z))), (22, some (.int .i64 (D z).length)), (23, some (.int .i64 j))], [.ints true .i64 (dgs (z / m) j)])
theorem cut_D (x k : Nat) (h : k / 16 < (D x).length) : ((D x).drop ((k : Int) / 16).toNat).take (((D x).length : Int) - (k : Int) / 16).toNat = D (x / 65536 ^ (k / 16)) := by
  rw [show ((k : Int) / 16).toNat = k / 16 by omega, D_drop, List.take_of_length_le]
  rw [← D_drop, List.length_drop]; omega
end
section
def hi (q n i : Nat) : List Int := List.replicate i 0 ++ (dgs q n).drop i
theorem hi_len {q n i : Nat} (h : i ≤ n) : (hi q n i).length = n := by unfold hi; rw [List.length_append, List.length_replicate, List.length_drop, dgs_len]; omega
theorem gt_dgs : ∀ {q n i : Nat}, i < n → gt (dgs q n) i = dg q i
  | q, n + 1, i, h => by
    rw [dgs_succ]
    by_cases h1 : i < n
    · rw [gt_app_lt (by rw [dgs_len]; exact h1)]; exact gt_dgs h1
    · obtain rfl : i = n := by omega
      have := gt_snoc (dgs q i) (dg q i)
      rwa [dgs_len] at this
theorem hi_set {q n i : Nat} (h : i < n) : (hi q n (i + 1)).set i (dg q i) = hi q n i := by
  unfold hi
  have e : (dgs q n).drop i = dg q i :: (dgs q n).drop (i + 1) := by
    rw [List.drop_eq_getElem_cons (by rw [dgs_len]; exact h), gt_get, gt_dgs h]
  rw [e, List.replicate_succ', List.append_assoc, List.set_append_right _ _ (by simp)]
  simp
variable {z m : Nat}
def smS (z m : Nat) (i : Nat) : VE × VH := ([(1, some (.int .i64 m)), (2, some (.ptr 0 0)), (4, some (.ptr 1 0)), (6, some (.sl 2 0 (D z).length 1)), (7, some (.int .i64 ((z / 65536 ^ i % m : Nat) : Int))), (8, some (.int .i64 ((i : Int) - 1)))], [.vals true [.ints .i64 (D z)], .vals true [.nil], .ints true .i64 (hi (z / m) (D z).length i)])
theorem sm_r (call : CallV) (hm : 0 < m) (hm2 : m ≤ 65536) (hx : (D z).length < 1000000) (i : Nat) (hi' : i < (D z).length) :
    vCode Try.prog kn call 108 (loopAt Try.f108 0) (smS z m (i + 1)).1 (smS z m (i + 1)).2 = some (.norm, smS z m i) := by
  have b1 := dg_bd z i
  obtain ⟨e1, e2⟩ := divs_nat (x := z) (j := i) (d := m) hm
  have b3 := Nat.mod_lt (z / 65536 ^ (i + 1)) hm
  have b4 := divs_lt (d := m) b3 (Nat.mod_lt (z / 65536 ^ i) (by omega : 0 < 65536))
  have hd : dg (z / m) i = (((z / 65536 ^ (i + 1) % m * 65536 + z / 65536 ^ i % 65536) / m : Nat) : Int) := by
    unfold dg
    rw [Nat.div_div_eq_div_mul, Nat.mul_comm, ← Nat.div_div_eq_div_mul, e1, Nat.mul_add_mod, Nat.mod_eq_of_lt b4]
  have hq : (((z / 65536 ^ (i + 1) % m : Nat) : Int) * 65536 + dg z i) / (m : Int) = dg (z / m) i := by
    rw [hd, Int.natCast_ediv, Int.natCast_add, Int.natCast_mul]; rfl
  have hr : (((z / 65536 ^ (i + 1) % m : Nat) : Int) * 65536 + dg z i) % (m : Int) = ((z / 65536 ^ i % m : Nat) : Int) := by
    rw [e2]
    refine Eq.trans ?_ (Int.natCast_emod _ _).symm
    congr 1
  rw [round_v]; simp only [loopAt, nthC, bodyC, loops, List.nil_append, List.cons_append, List.append_nil, Try.f108, smS, ← hi_set hi']
  have e0 : (((i + 1 : Nat) : Int) - 1) = i := by omega
  have hl := hi_len (q := z / m) (n := (D z).length) (i := i + 1) (by omega)
  have b5 := dg_bd (z / m) i
  generalize hr0 : ((z / 65536 ^ (i + 1) % m : Nat) : Int) = r at *
  have b6 : 0 ≤ r := by rw [← hr0]; exact Int.natCast_nonneg _
  have b7 : r < m := by rw [← hr0]; exact Int.ofNat_lt.2 b3
  rw [e0]
  generalize hi (z / m) (D z).length (i + 1) = H at *
  generalize dg (z / m) i = q at *
  simp (disch := omega) [go_sem, tab108, gt_D, hl, hq, hr]
theorem sm_x (call : CallV) :
    vCode Try.prog kn call 108 (loopAt Try.f108 0) (smS z m 0).1 (smS z m 0).2 = some (.exit 0, (smS z m 0).1 ++ [(19, some (.bool false))], (smS z m 0).2) := by
  rw [round_v]; simp only [loopAt, nthC, bodyC, loops, List.nil_append, List.cons_append, List.append_nil, Try.f108, smS]
  simp (disch := omega) [go_sem, tab108]
theorem l2small_v (d : Nat) (hm : 0 < m) (hm2 : m ≤ 65536) (hx : (D z).length < 1000000) :
    vrun Try.prog kn (d + 2) 108 [.agg [.ints .i64 (D z)], .int .i64 (m : Int)] [] = some (.tup [.agg [.ints .i64 (D (z / m))], .int .i64 ((z % m : Nat) : Int)], []) := by
  have key : ∀ i n, i ≤ (D z).length → i < n → viter (vCode Try.prog kn (vrun Try.prog kn (d + 1)) 108 (loopAt Try.f108 0)) n (smS z m i).1 (smS z m i).2 = some (.exit 0, (smS z m 0).1 ++ [(19, some (.bool false))], (smS z m 0).2) := by
    intro i
    induction i with
    | zero => intro n _ hn; obtain ⟨n, rfl⟩ : ∃ q, n = q + 1 := ⟨n - 1, by omega⟩; exact vi_exit (sm_x _)
    | succ i ih => intro n h1 hn; obtain ⟨n, rfl⟩ : ∃ q, n = q + 1 := ⟨n - 1, by omega⟩; rw [vi_norm (sm_r _ hm hm2 hx i (by omega))]; exact ih n (by omega) (by omega)
  have hl0 := fun ks => loop_v (P := Try.prog) (K := kn) (ks := ks) (key (D z).length kn.cf.rounds (Nat.le_refl _) (by rw [k_cf, c_rounds]; omega))
  have h0 : hi (z / m) (D z).length (D z).length = List.replicate (D z).length 0 := by unfold hi; rw [List.drop_eq_nil_of_le (by rw [dgs_len]; omega), List.append_nil]
  have h1 : hi (z / m) (D z).length 0 = dgs (z / m) (D z).length := by unfold hi; rw [List.replicate_zero, List.nil_append, List.drop_zero]
  simp only [loopAt, nthC, bodyC, loops, List.nil_append, List.cons_append, List.append_nil, Try.f108, smS, h0, h1, quo_end, Nat.zero_mod, Nat.pow_zero, Nat.div_one, Int.natCast_zero, List.cons_append, List.nil_append] at hl0
  have c2 : z / m < 65536 ^ (D z).length := Nat.lt_of_le_of_lt (Nat.div_le_self _ _) (lt_len_D z)
  have hn := l2norm_v d (l := dgs (z / m) (D z).length) (v := z / m) (by rw [dgs_len]; omega) (dgs_good _ _) (by rw [dgs_val, lo_len (lt_pow_len c2)])
  rw [vrun_v Try.func108 rfl rfl rfl]; simp only [Try.f108]
  simp (disch := omega) [go_sem, tab108, hl0, dgs_len, dgs_take, hn]
end
section
variable {x k : Nat}
theorem l2shl_v (d : Nat) (hx : (D x).length < 400000) (hk : k < 1000000) :
    vrun Try.prog kn (d + 3) 81 [.agg [.ints .i64 (D x)], .int .i64 (k : Int)] [] = some (.agg [.ints .i64 (D (x * 2 ^ k))], []) := by
  by_cases h0 : x = 0
  · subst h0
    rw [vrun_v Try.func81 rfl rfl rfl]; simp only [Try.f81]
    simp (disch := omega) [go_sem, tab81, D_zero]
  · have hm := pow16_le k
    have h1 := l2of_v (d + (2 - 1)) (n := 2 ^ (k % 16)) (by omega)
    have hs := D_shift h0 (k / 16)
    have hlen : (D (x * 65536 ^ (k / 16))).length = k / 16 + (D x).length := by rw [← hs, List.length_append, List.length_replicate]
    have hl2 : (D (2 ^ (k % 16))).length ≤ 1 := len_small (by omega)
    have h2 := l2mul_v d (x := x * 65536 ^ (k / 16)) (y := 2 ^ (k % 16)) (by omega) (by omega)
    have ev : x * 2 ^ k = x * 65536 ^ (k / 16) * 2 ^ (k % 16) := by rw [Nat.mul_assoc, ← pow_split]
    rw [ev]
    have hne : ¬ D x = [] := fun e => h0 (D_nil_iff.1 e)
    have e := shl_m k
    have e1 : ((k : Int) / 16).toNat = k / 16 := by omega
    have hz : (List.replicate (k / 16) (0 : Int)).length = k / 16 := List.length_replicate
    rw [vrun_v Try.func81 rfl rfl rfl]; simp only [Try.f81]
    generalize 2 ^ (k % 16) = m at *
    generalize hZ : List.replicate (k / 16) (0 : Int) = Z at *
    simp (disch := omega) [go_sem, tab81, hne, e, e1, hZ, hz, hs, h1, h2, hlen]
theorem l2shr_v (d : Nat) (hx : (D x).length < 1000000) (hk : k < 1000000) :
    vrun Try.prog kn (d + 3) 149 [.agg [.ints .i64 (D x)], .int .i64 (k : Int)] [] = some (.agg [.ints .i64 (D (x / 2 ^ k))], []) := by
  by_cases h0 : (D x).length ≤ k / 16
  · have e0 : x / 2 ^ k = 0 := Nat.div_eq_of_lt (Nat.lt_of_lt_of_le (len_D_le.1 h0) (by rw [pow_split k]; exact Nat.le_mul_of_pos_right _ (Nat.two_pow_pos _)))
    rw [e0]
    rw [vrun_v Try.func149 rfl rfl rfl]; simp only [Try.f149]
    simp (disch := omega) [go_sem, tab149, D_zero]
  · have hm := pow16_le k
    have hz : (D (x / 65536 ^ (k / 16))).length < 1000000 := by have := len_mono (Nat.div_le_self x (65536 ^ (k / 16))); omega
    have h1 := l2small_v d (z := x / 65536 ^ (k / 16)) (m := 2 ^ (k % 16)) (Nat.two_pow_pos _) (by omega) hz
    have ec := cut_D x k (by omega)
    have ev : x / 2 ^ k = x / 65536 ^ (k / 16) / 2 ^ (k % 16) := by rw [Nat.div_div_eq_div_mul, ← pow_split]
    rw [ev]
    have e := shl_m k
    rw [vrun_v Try.func149 rfl rfl rfl]; simp only [Try.f149]
    generalize 2 ^ (k % 16) = m at *
    generalize x / 65536 ^ (k / 16) = z at *
    simp (disch := omega) [go_sem, tab149, ec, e, h1]
end
end
end Go.Eng
