/- The engine, second half: whatever the evaluator comes to, the program does. No conditions. -/
import Derived.Test.YtkfeofjgdijbeaaEa
import Derived.Deep.LoopGhost
set_option linter.unusedVariables false
set_option linter.unusedSimpArgs false
section
/- The engine: a region that draws its order comes to what its text's order comes to. No conditions. -/
namespace Go.Eng

mutual
theorem CV.wf_of {n : Nat} : ∀ {a : CV} {v : Value} {μ : Pl}, VC μ a v → a.wf n = true → VC (fun i => if i < n then μ i else none) a v
  | _, _, _, .bool b, _ => .bool b
  | _, _, _, .int k x, _ => .int k x
  | _, _, _, .str s, _ => .str s
  | _, _, _, .nil, _ => .nil
  | _, _, _, .em a, _ => .em a
  | _, _, _, .sl i off len sz b o e cap h1 h2 h3, hw => .sl i off len sz b o e cap (by simp [CV.wf] at hw; simp [hw, h1]) h2 h3
  | _, _, _, .sz i off sz a, _ => .sz i off sz a
  | _, _, _, .sn i off len sz b o e cap h1 h2 h3, hw => .sn i off len sz b o e cap (by simp [CV.wf] at hw; simp [hw, h1]) h2 h3
  | _, _, _, .snz i off sz a, _ => .snz i off sz a
  | _, _, _, .ptr i off b o e h1, hw => .ptr i off b o e (by simp [CV.wf] at hw; simp [hw, h1])
  | _, _, _, .fn f a b a' b' h1 h2, hw => by
    simp only [CV.wf, Bool.and_eq_true] at hw
    exact .fn f a b a' b' (CV.wfs_of h1 hw.1) (CV.wfs_of h2 hw.2)
theorem CV.wfs_of {n : Nat} : ∀ {l : List CV} {vs : List Value} {μ : Pl}, VCs μ l vs → CV.wfs n l = true → VCs (fun i => if i < n then μ i else none) l vs
  | _, _, _, .nil, _ => .nil
  | _, _, _, .cons a v l vs h t, hw => by
    simp only [CV.wfs, Bool.and_eq_true] at hw
    exact .cons a v l vs (CV.wf_of h hw.1) (CV.wfs_of t hw.2)
end

mutual
theorem AV.wf_of {n : Nat} : ∀ {a : AV} {v : Value} {μ : Pl}, VA μ a v → a.wf n = true → VA (fun i => if i < n then μ i else none) a v
  | _, _, _, .c a v h, hw => .c a v (CV.wf_of h hw)
  | _, _, _, .agg cs vs h, hw => .agg cs vs (CV.wfs_of h hw)
  | _, _, _, .tup cs vs h, hw => .tup cs vs (AV.wfs_of h hw)
  | _, _, _, .np, _ => .np
theorem AV.wfs_of {n : Nat} : ∀ {l : List AV} {vs : List Value} {μ : Pl}, VAs μ l vs → AV.wfs n l = true → VAs (fun i => if i < n then μ i else none) l vs
  | _, _, _, .nil, _ => .nil
  | _, _, _, .cons a v l vs h t, hw => by
    simp only [AV.wfs, Bool.and_eq_true] at hw
    exact .cons a v l vs (AV.wf_of h hw.1) (AV.wfs_of t hw.2)
end

section
variable {cf : Cfg} {n0 : Nat} {μ μ'' : Pl} {w w' : World} {H H0 H1 : AH}

theorem Rel.restrict (R : Rel cf n0 μ w H) (hl : H0.length ≤ H.length) (same : ∀ i, i < H0.length → H[i]? = H0[i]?) (hw : WfH H0) (hg : WfG cf H0.length) : Rel cf n0 (fun i => if i < H0.length then μ i else none) w H0 := by
  have un : ∀ {i p}, (if i < H0.length then μ i else none) = some p → i < H0.length ∧ μ i = some p := fun {i p} h => by
    split at h
    · rename_i hi; exact ⟨hi, h⟩
    · simp at h
  refine ⟨fun i p hi => (un hi).1, fun i b o e hi => R.blk i b o e (un hi).2, fun i b o e hi hn => R.frz i b o e (un hi).2 hn, fun i b o e x hi hx => ?_, fun i j p q hij hi hj hn hl hl' => ?_, fun g a ha => CV.wf_of (R.glob g a ha) (hg g a ha)⟩
  · obtain ⟨h1, h2⟩ := R.val i b o e x (un hi).2 (by rw [same i (un hi).1]; exact hx)
    refine ⟨h1, fun c a ha => ?_⟩
    obtain ⟨v, k1, k2⟩ := h2 c a ha
    exact ⟨v, k1, CV.wf_of k2 (hw x (List.mem_of_getElem? hx) a (List.mem_of_getElem? ha))⟩
  · refine R.sep i j p q hij (un hi).2 (un hj).2 hn ?_ ?_
    · unfold Live at *; rw [same i (un hi).1]; exact hl
    · unfold Live at *; rw [same j (un hj).1]; exact hl'

/-- What a call that writes nothing old has made is joined to what was there. -/
theorem Rel.merge (R : Rel cf n0 μ w H) (s : Step cf n0 H0.length (fun i => if i < H0.length then μ i else none) w H0 μ'' w' H1) (hle : H1.length ≤ H.length)
    (same1 : ∀ i, i < H1.length → H[i]? = H1[i]?) (hun : ∀ i, H0.length ≤ i → i < H1.length → μ i = none) :
    Rel cf n0 (fun i => if H0.length ≤ i ∧ i < H1.length then μ'' i else μ i) w' H ∧ Pl.le μ (fun i => if H0.length ≤ i ∧ i < H1.length then μ'' i else μ i) ∧
      Pl.le μ'' (fun i => if H0.length ≤ i ∧ i < H1.length then μ'' i else μ i) ∧ (∀ b, b < w.heap.size → w'.heap[b]? = w.heap[b]?) ∧ (∀ i p, H0.length ≤ i → i < H1.length → μ'' i = some p → w.heap.size ≤ p.1) := by
  have old : ∀ b, b < w.heap.size → w'.heap[b]? = w.heap[b]? := fun b hb => s.frame b hb fun j q hj hq => by
    split at hq
    · omega
    · simp at hq
  have new : ∀ i p, H0.length ≤ i → μ'' i = some p → w.heap.size ≤ p.1 := fun i p hi hp => by
    rcases s.new i p hi hp with h | ⟨j, q, hj, hq, _⟩
    · exact h
    · split at hq
      · omega
      · simp at hq
  have le1 : Pl.le μ (fun i => if H0.length ≤ i ∧ i < H1.length then μ'' i else μ i) := fun i p hp => by
    simp only
    split
    · rename_i h; rw [hun i h.1 h.2] at hp; simp at hp
    · exact hp
  have le2 : Pl.le μ'' (fun i => if H0.length ≤ i ∧ i < H1.length then μ'' i else μ i) := fun i p hp => by
    have hi := s.rel.lt i p hp
    simp only
    split
    · exact hp
    · rename_i h
      have : i < H0.length := by omega
      have e := s.ext i this
      rw [hp] at e
      simp only [this, if_true] at e
      exact e.symm
  refine ⟨⟨fun i p hi => ?_, fun i b o e hi => ?_, fun i b o e hi hn x hx => ?_, fun i b o e y hi hy => ?_, fun i j p q hij hi hj hn hl hl' => ?_, fun g a ha => (R.glob g a ha).mono le1⟩, le1, le2, old, fun i p h _ h2 => new i p h h2⟩
  · split at hi
    · have := s.rel.lt i p hi; omega
    · exact R.lt i p hi
  · split at hi
    · exact s.rel.blk i b o e hi
    · rw [old b (R.blt hi)]; exact R.blk i b o e hi
  · split at hi
    · exact s.rel.frz i b o e hi hn x hx
    · rw [fz_eq (old b (R.blt hi))]; exact R.frz i b o e hi hn x hx
  · split at hi
    · rename_i h
      obtain ⟨k1, k2⟩ := s.rel.val i b o e y hi (by rw [← same1 i h.2]; exact hy)
      refine ⟨k1, fun c a ha => ?_⟩
      obtain ⟨v, q1, q2⟩ := k2 c a ha
      exact ⟨v, q1, q2.mono le2⟩
    · obtain ⟨k1, k2⟩ := R.val i b o e y hi hy
      refine ⟨k1, fun c a ha => ?_⟩
      obtain ⟨v, q1, q2⟩ := k2 c a ha
      exact ⟨v, by rw [cell_eq (old b (R.blt hi))]; exact q1, q2.mono le1⟩
  · have lv : ∀ k, k < H1.length → Live H k → Live H1 k := fun k hk h => by unfold Live at *; rwa [same1 k hk] at h
    split at hi
    · rename_i h1
      split at hj
      · rename_i h2
        exact s.rel.sep i j p q hij hi hj hn (lv i h1.2 hl) (lv j h2.2 hl')
      · have := new i p h1.1 hi
        have := R.blt hj
        omega
    · split at hj
      · rename_i h2
        have := new j q h2.1 hj
        have := R.blt hi
        omega
      · exact R.sep i j p q hij hi hj hn hl hl'
end

/-- What had a number, but no place, gets one. -/
theorem Rel.late {cf : Cfg} {n0 : Nat} {μ μ'' : Pl} {w w' : World} {H : AH} {o : AO} {m : Nat} (R : Rel cf n0 μ w H) (s : Step cf n0 H.length μ w H μ'' w' (H ++ [o])) (hm : H[m]? = some o) (hun : μ m = none) (hnm : n0 ≤ m) (hwo : ∀ c ∈ o.cells, c.wf H.length = true) (hwH : WfH H) :
    Rel cf n0 (fun i => if i = m then μ'' H.length else μ i) w' H ∧ Pl.le μ (fun i => if i = m then μ'' H.length else μ i) ∧ (∀ b, b < w.heap.size → w'.heap[b]? = w.heap[b]?) ∧ (∀ p, μ'' H.length = some p → w.heap.size ≤ p.1) := by
  have hml : m < H.length := (List.getElem?_eq_some_iff.1 hm).1
  have le1 : Pl.le μ (fun i => if i = m then μ'' H.length else μ i) := fun i p hp => by
    simp only
    split
    · rename_i h; rw [h, hun] at hp; cases hp
    · exact hp
  have old : ∀ b, b < w.heap.size → w'.heap[b]? = w.heap[b]? := fun b hb => s.frame b hb fun j q hj hq => by have := R.lt j q hq; omega
  have new : ∀ p, μ'' H.length = some p → w.heap.size ≤ p.1 := fun p hp => by
    rcases s.new _ p (Nat.le_refl _) hp with h | ⟨j, q, hj, hq, _⟩
    · exact h
    · have := R.lt j q hq; omega
  have ext : ∀ {i p}, μ i = some p → μ'' i = some p := fun {i p} hp => by rw [s.ext i (R.lt i p hp)]; exact hp
  have tr : ∀ {c : CV} {v : Value}, c.wf H.length = true → VC μ'' c v → VC (fun i => if i = m then μ'' H.length else μ i) c v := fun {c v} hw h => by
    refine (CV.wf_of h hw).mono fun i p hp => ?_
    split at hp
    · rename_i hi
      rw [s.ext i hi] at hp
      exact le1 i p hp
    · cases hp
  have gH : (H ++ [o])[H.length]? = some o := by simp
  have gO : ∀ {i}, i < H.length → (H ++ [o])[i]? = H[i]? := fun hi => List.getElem?_append_left hi
  refine ⟨⟨fun i p hi => ?_, fun i b o' e hi => ?_, fun i b o' e hi hn x hx => ?_, fun i b o' e y hi hy => ?_, fun i j p q hij hi hj hn hl hl' => ?_, fun g a ha => (R.glob g a ha).mono le1⟩, le1, old, new⟩
  · split at hi
    · rename_i h; omega
    · exact R.lt i p hi
  · split at hi
    · exact s.rel.blk _ b o' e hi
    · exact s.rel.blk i b o' e (ext hi)
  · split at hi
    · exact s.rel.frz _ b o' e hi (by omega) x hx
    · exact s.rel.frz i b o' e (ext hi) hn x hx
  · split at hi
    · rename_i h
      subst h
      rw [hm] at hy; cases hy
      obtain ⟨k1, k2⟩ := s.rel.val _ b o' e o hi gH
      refine ⟨k1, fun c a ha => ?_⟩
      obtain ⟨v, q1, q2⟩ := k2 c a ha
      exact ⟨v, q1, tr (hwo a (List.mem_of_getElem? ha)) q2⟩
    · obtain ⟨k1, k2⟩ := s.rel.val i b o' e y (ext hi) (by rw [gO (R.lt i _ hi)]; exact hy)
      refine ⟨k1, fun c a ha => ?_⟩
      obtain ⟨v, q1, q2⟩ := k2 c a ha
      exact ⟨v, q1, tr (hwH y (List.mem_of_getElem? hy) a (List.mem_of_getElem? ha)) q2⟩
  · have lv : ∀ k, k < H.length → Live H k → Live (H ++ [o]) k := fun k hk h => by unfold Live at *; rwa [gO hk]
    have lm : Live H m → Live (H ++ [o]) H.length := fun h => by unfold Live at *; rw [gH]; rwa [hm] at h
    split at hi
    · rename_i h1
      split at hj
      · omega
      · subst h1
        have := R.lt j q hj
        exact s.rel.sep _ j p q (by omega) hi (ext hj) hn (lm hl) (lv j this hl')
    · split at hj
      · rename_i h2
        subst h2
        have := R.lt i p hi
        exact s.rel.sep i _ p q (by omega) (ext hi) hj (by omega) (lv i this hl) (lm hl')
      · exact s.rel.sep i j p q hij (ext hi) (ext hj) hn (lv i (R.lt i p hi) hl) (lv j (R.lt j q hj) hl')

/-! ### the text's order, step by step -/

section
variable {P : Program} {cf : Cfg} {n0 fl : Nat} {call : CallF}

/-- An append that may go ahead of a literal leaves alone what has no place. -/
theorem late_keep {e : Env} {h : AH} {μ : Pl} {ρ : Operand → Value} {op : Op} {v : AV} {h' : AH} (hl : lateOp cf op = true) (hok : ∀ y ∈ op.operands, Ok cf μ e ρ y) (hev : evOp P cf call fl e h op = some (v, h')) : ∀ i, i < h.length → μ i = none → h'[i]? = h[i]? := by
  cases op with
  | call c =>
    simp only [lateOp] at hl
    split at hl
    · rename_i hcl
      have hl : cf.papp c.args = .late := by simpa using hl
      simp only [evOp, evCall, hcl] at hev
      obtain ⟨args, h1, hev⟩ := Option.bind_eq_some_iff.1 hev
      have hargs : ∀ x ∈ c.args.toList, Ok cf μ e ρ x := fun x hx => hok x (by simp [Op.operands, Call.operands]; exact .inr (by simpa using hx))
      split at hev
      · rename_i s x
        obtain ⟨t, _, hev⟩ := Option.bind_eq_some_iff.1 hev
        unfold outC at hev
        obtain ⟨⟨r1, r2⟩, h5, hev⟩ := Option.map_eq_some_iff.1 hev
        simp only [Option.some.injEq, Prod.mk.injEq] at hev
        obtain ⟨-, rfl⟩ := hev
        rw [hl] at h5
        have hs : s.solid = true := appendB_ok h5
        have hv := evCs_rel hargs h1
        intro i hi hun
        rcases append_keep (appendB_some h5) with ⟨y, rfl⟩ | ⟨i0, off, len, sz, y, rfl, rfl⟩
        · exact List.getElem?_append_left hi
        · have hne : i0 ≠ i := fun e => by
            subst e
            obtain ⟨a, b, _, h0, _⟩ := VCs.two hv
            cases h0 with
            | sl _ _ _ _ b o e cap k1 _ _ => rw [hun] at k1; cases k1
            | sz _ _ _ a => simp [CV.solid] at hs
          rw [List.getElem?_append_left (by rw [List.length_set]; exact hi), List.getElem?_set_ne hne]
      · simp at hev
    · simp at hl
  | _ => simp [lateOp] at hl

/-- What a literal comes to, wherever. -/
theorem lit_ev {e : Env} {h : AH} {op : Op} {v : AV} {h' : AH} (hl : litOp op = true) (hev : evOp P cf call fl e h op = some (v, h')) :
    ∃ (o : AO) (em : Bool) (len s : Nat), h' = h ++ [o] ∧ v = .c (if em = true then .em else .sl h.length 0 len s) ∧ ∀ (fl' : Nat) (g : AH), evOp P cf call fl' e g op = some (.c (if em = true then .em else .sl g.length 0 len s), g ++ [o]) := by
  cases op with
  | buildSlice t len parts =>
    simp only [evOp] at hev ⊢
    obtain ⟨ps, h1, hev⟩ := Option.bind_eq_some_iff.1 hev
    unfold outC at hev
    obtain ⟨⟨r1, r2⟩, h2, hev⟩ := Option.map_eq_some_iff.1 hev
    simp only [Option.some.injEq, Prod.mk.injEq] at hev
    obtain ⟨rfl, rfl⟩ := hev
    unfold buildSliceA at h2
    obtain ⟨el, e1, h2⟩ := Option.bind_eq_some_iff.1 h2
    obtain ⟨s, e2, h2⟩ := Option.bind_eq_some_iff.1 h2
    obtain ⟨z, e3, h2⟩ := Option.bind_eq_some_iff.1 h2
    split at h2
    · rename_i hc
      obtain ⟨cs, e4, h2⟩ := Option.bind_eq_some_iff.1 h2
      obtain ⟨o, e5, h2⟩ := Option.map_eq_some_iff.1 h2
      simp only [Prod.mk.injEq] at h2
      obtain ⟨rfl, rfl⟩ := h2
      refine ⟨o, decide (cf.emt t = true ∧ len = 0), len, s, rfl, by simp, fun fl' g => ?_⟩
      rw [h1, Option.bind_some]
      unfold outC buildSliceA
      rw [e1, Option.bind_some, e2, Option.bind_some, e3, Option.bind_some, if_pos hc, e4, Option.bind_some, e5]
      simp
    · simp at h2
  | _ => simp [litOp] at hl

/-- One step of the text's order. -/
def StepAt (P : Program) (cf : Cfg) (call : CallF) (fl : Nat) (ops : Array Oper) (o : Oper) (s t : Env × AH) : Prop :=
  ∃ b, wantA ops s.1 o = some b ∧ ∃ v, t.1 = put o.dst v s.1 ∧ (if b then evOp P cf call fl s.1 s.2 o.op = some (v, t.2) else v = .tup [] ∧ t.2 = s.2)

/-- What is loaded would be loaded later all the same. -/
def LoadsStay (P : Program) (cf : Cfg) (call : CallF) (fl : Nat) (ops sq : Array Oper) (S : Nat → Env × AH) : Prop :=
  ∀ i o v, wantA ops (S i).1 o = some true → sq[i]? = some o → ∀ k, i < k → k ≤ sq.size → isLoad o.op = true → evOp P cf call fl (S i).1 (S i).2 o.op = some (v, (S (i + 1)).2) → evOp P cf call fl (S i).1 (S k).2 o.op = some (v, (S k).2)

theorem CV.same_eq {a b : CV} (h : a.same b = true) : a = b := by
  cases a <;> cases b <;> simp_all [CV.same]
theorem sames_eq : ∀ {l m : List CV}, sames l m = true → l = m
  | [], [], _ => rfl
  | a :: r, b :: s, h => by
    simp only [sames, Bool.and_eq_true] at h
    rw [CV.same_eq h.1, sames_eq h.2]
  | [], _ :: _, h => by simp [sames] at h
  | _ :: _, [], h => by simp [sames] at h
theorem AV.same_eq {a b : AV} (h : a.same b = true) : a = b := by
  cases a <;> cases b <;> simp [AV.same] at h
  · rw [CV.same_eq h]
  · rw [sames_eq h]
theorem load_heap {op : Op} (hl : isLoad op = true) {e : Env} {h : AH} {v : AV} {h' : AH} (hev : evOp P cf call fl e h op = some (v, h')) : h' = h := by
  cases op <;> simp [isLoad] at hl
  simp only [evOp] at hev
  obtain ⟨p, _, hev⟩ := Option.bind_eq_some_iff.1 hev
  split at hev
  · obtain ⟨x, _, hx⟩ := Option.map_eq_some_iff.1 hev
    injection hx with _ hx; exact hx.symm
  · simp at hev
theorem sameAt_spec {h : AH} {p : Env × Op × AV} (hl : isLoad p.2.1 = true) (hs : sameAt P cf call fl h p = true) : evOp P cf call fl p.1 h p.2.1 = some (p.2.2, h) := by
  unfold sameAt at hs
  split at hs
  · rename_i v h2 he
    rw [he, AV.same_eq hs, load_heap hl he]
  · simp at hs

theorem evOps_seqP {ops : Array Oper} : ∀ (l : List Oper) (pend : List (Env × Op × AV)) {e : Env} {h : AH} {e' : Env} {h' : AH}, evOps P cf call fl ops l e h = some (e', h') →
    ∃ S : Nat → Env × AH, S 0 = (e, h) ∧ S l.length = (e', h') ∧ (∀ i o, l[i]? = some o → StepAt P cf call fl ops o (S i) (S (i + 1))) ∧
      (stdy P cf call fl ops l e h pend = true → (∀ p ∈ pend, isLoad p.2.1 = true ∧ evOp P cf call fl p.1 h p.2.1 = some (p.2.2, h)) →
        (∀ p ∈ pend, ∀ k, k ≤ l.length → evOp P cf call fl p.1 (S k).2 p.2.1 = some (p.2.2, (S k).2)) ∧
        ∀ i o v, wantA ops (S i).1 o = some true → l[i]? = some o → ∀ k, i < k → k ≤ l.length → isLoad o.op = true → evOp P cf call fl (S i).1 (S i).2 o.op = some (v, (S (i + 1)).2) → evOp P cf call fl (S i).1 (S k).2 o.op = some (v, (S k).2))
  | [], pend, e, h, e', h', hev => by
    simp [evOps] at hev
    refine ⟨fun _ => (e, h), rfl, by simp [hev.1, hev.2], fun i o hi => by simp at hi, fun _ hp => ⟨fun p hpp k _ => (hp p hpp).2, fun i o v _ ho => by simp at ho⟩⟩
  | o :: r, pend, e, h, e', h', hev => by
    simp only [evOps] at hev
    obtain ⟨b, h1, hev⟩ := Option.bind_eq_some_iff.1 hev
    cases b with
    | true =>
      simp only [if_true] at hev
      obtain ⟨⟨v, h2⟩, h3, h4⟩ := Option.bind_eq_some_iff.1 hev
      obtain ⟨S, s0, s1, s2, s3⟩ := evOps_seqP r (if isLoad o.op then (e, o.op, v) :: pend else pend) h4
      refine ⟨fun i => match i with | 0 => (e, h) | i + 1 => S i, rfl, s1, fun i o' hi => ?_, fun hs hp => ?_⟩
      · cases i with
        | zero =>
          simp at hi; subst hi
          show StepAt P cf call fl ops o (e, h) (S 0)
          rw [s0]
          exact ⟨true, h1, v, rfl, by rw [if_pos rfl]; exact h3⟩
        | succ i => exact s2 i o' (by simpa using hi)
      · simp only [stdy, h1, h3, Bool.and_eq_true] at hs
        have hp2 : ∀ p ∈ pend, isLoad p.2.1 = true ∧ evOp P cf call fl p.1 h2 p.2.1 = some (p.2.2, h2) := fun p hpp =>
          ⟨(hp p hpp).1, sameAt_spec (hp p hpp).1 (List.all_eq_true.1 hs.1 p hpp)⟩
        have hp3 : ∀ p ∈ (if isLoad o.op then (e, o.op, v) :: pend else pend), isLoad p.2.1 = true ∧ evOp P cf call fl p.1 h2 p.2.1 = some (p.2.2, h2) := fun p hpp => by
          split at hpp
          · rename_i hl
            rcases List.mem_cons.1 hpp with rfl | hpp
            · have := load_heap hl h3
              subst this
              exact ⟨hl, h3⟩
            · exact hp2 p hpp
          · exact hp2 p hpp
        obtain ⟨q1, q2⟩ := s3 hs.2 hp3
        refine ⟨fun p hpp k hk => ?_, fun i o' v' hw ho k hk1 hk2 hl hv => ?_⟩
        · cases k with
          | zero => exact (hp p hpp).2
          | succ k => exact q1 p (by split <;> simp [hpp]) k (by simpa using hk)
        · cases i with
          | zero =>
            simp at ho; subst ho
            obtain ⟨k, rfl⟩ : ∃ m, k = m + 1 := ⟨k - 1, by omega⟩
            have hv' : evOp P cf call fl e h o.op = some (v', (S 0).2) := hv
            rw [h3] at hv'
            injection hv' with hv'; injection hv' with e1 e2; subst e1
            exact q1 (e, o.op, v) (by rw [if_pos hl]; simp) k (by simpa using hk2)
          | succ i =>
            obtain ⟨k, rfl⟩ : ∃ m, k = m + 1 := ⟨k - 1, by omega⟩
            exact q2 i o' v' hw (by simpa using ho) k (by omega) (by simpa using hk2) hl hv
    | false =>
      simp only [Bool.false_eq_true, if_false] at hev
      obtain ⟨S, s0, s1, s2, s3⟩ := evOps_seqP r pend hev
      refine ⟨fun i => match i with | 0 => (e, h) | i + 1 => S i, rfl, s1, fun i o' hi => ?_, fun hs hp => ?_⟩
      · cases i with
        | zero =>
          simp at hi; subst hi
          show StepAt P cf call fl ops o (e, h) (S 0)
          rw [s0]
          exact ⟨false, h1, .tup [], rfl, by rw [if_neg (by simp)]; exact ⟨rfl, rfl⟩⟩
        | succ i => exact s2 i o' (by simpa using hi)
      · simp only [stdy, h1] at hs
        obtain ⟨q1, q2⟩ := s3 hs hp
        refine ⟨fun p hpp k hk => ?_, fun i o' v' hw ho k hk1 hk2 hl hv => ?_⟩
        · cases k with
          | zero => exact (hp p hpp).2
          | succ k => exact q1 p hpp k (by simpa using hk)
        · cases i with
          | zero =>
            simp at ho; subst ho
            have hw' : wantA ops e o = some true := hw
            rw [h1] at hw'; cases hw'
          | succ i =>
            obtain ⟨k, rfl⟩ : ∃ m, k = m + 1 := ⟨k - 1, by omega⟩
            exact q2 i o' v' hw (by simpa using ho) k (by omega) (by simpa using hk2) hl hv

theorem evOps_seq {ops : Array Oper} (l : List Oper) {e : Env} {h : AH} {e' : Env} {h' : AH} (hev : evOps P cf call fl ops l e h = some (e', h')) :
    ∃ S : Nat → Env × AH, S 0 = (e, h) ∧ S l.length = (e', h') ∧ (∀ i o, l[i]? = some o → StepAt P cf call fl ops o (S i) (S (i + 1))) ∧
      (stdy P cf call fl ops l e h [] = true →
        ∀ i o v, wantA ops (S i).1 o = some true → l[i]? = some o → ∀ k, i < k → k ≤ l.length → isLoad o.op = true → evOp P cf call fl (S i).1 (S i).2 o.op = some (v, (S (i + 1)).2) → evOp P cf call fl (S i).1 (S k).2 o.op = some (v, (S k).2)) := by
  obtain ⟨S, a, b, c, d⟩ := evOps_seqP l [] hev
  exact ⟨S, a, b, c, fun hs => (d hs (fun p hp => by simp at hp)).2⟩

def Imp (cf : Cfg) (ops : Array Oper) (k : Nat) : Prop := ∃ o, ops[k]? = some o ∧ impureOp cf o.op = true

variable {ops sq : Array Oper} {S : Nat → Env × AH}

theorem seq_one (hpre : CallPre call) {i : Nat} {o : Oper} (hfl : fl ≤ (S i).2.length) (ho : sq[i]? = some o) (hs : StepAt P cf call fl ops o (S i) (S (i + 1))) :
    (S i).2.length ≤ (S (i + 1)).2.length ∧ (¬ Imp cf sq i → ∀ x, x < (S i).2.length → (S (i + 1)).2[x]? = (S i).2[x]?) := by
  obtain ⟨b, h1, v, h2, h3⟩ := hs
  split at h3
  · refine ⟨(evOp_pre hpre hfl h3).1, fun hn x hx => ?_⟩
    have hf : impureOp cf o.op = false := by
      cases hi : impureOp cf o.op
      · rfl
      · exact absurd ⟨o, ho, hi⟩ hn
    rw [evOp_floor hf] at h3
    exact (evOp_pre hpre (Nat.le_refl _) h3).2 x hx hx
  · rw [h3.2]; exact ⟨Nat.le_refl _, fun _ _ _ => rfl⟩

theorem seq_fl (hpre : CallPre call) (hS : ∀ i o, sq[i]? = some o → StepAt P cf call fl ops o (S i) (S (i + 1))) (hfl : fl ≤ (S 0).2.length) : ∀ i, i ≤ sq.size → fl ≤ (S i).2.length
  | 0, _ => hfl
  | i + 1, hi => by
    have ih := seq_fl hpre hS hfl i (by omega)
    have ho : sq[i]? = some sq[i] := Array.getElem?_eq_getElem (by omega)
    exact Nat.le_trans ih (seq_one hpre ih ho (hS i _ ho)).1

theorem seq_len (hpre : CallPre call) (hS : ∀ i o, sq[i]? = some o → StepAt P cf call fl ops o (S i) (S (i + 1))) (hfl : fl ≤ (S 0).2.length) {i : Nat} : ∀ {j : Nat}, i ≤ j → j ≤ sq.size → (S i).2.length ≤ (S j).2.length
  | 0, h, _ => by rw [show i = 0 by omega]; exact Nat.le_refl _
  | j + 1, h, hj => by
    by_cases e : i = j + 1
    · subst e; exact Nat.le_refl _
    · have ho : sq[j]? = some sq[j] := Array.getElem?_eq_getElem (by omega)
      exact Nat.le_trans (seq_len hpre hS hfl (by omega) (by omega)) (seq_one hpre (seq_fl hpre hS hfl j (by omega)) ho (hS j _ ho)).1

theorem seq_same (hpre : CallPre call) (hS : ∀ i o, sq[i]? = some o → StepAt P cf call fl ops o (S i) (S (i + 1))) (hfl : fl ≤ (S 0).2.length) {i : Nat} : ∀ {j : Nat}, i ≤ j → j ≤ sq.size → (∀ k, i ≤ k → k < j → ¬ Imp cf sq k) →
    ∀ x, x < (S i).2.length → (S j).2[x]? = (S i).2[x]?
  | 0, h, _, _, x, _ => by rw [show i = 0 by omega]
  | j + 1, h, hj, hn, x, hx => by
    by_cases e : i = j + 1
    · subst e; rfl
    · have ho : sq[j]? = some sq[j] := Array.getElem?_eq_getElem (by omega)
      have a := (seq_one hpre (seq_fl hpre hS hfl j (by omega)) ho (hS j _ ho)).2 (hn j (by omega) (by omega)) x (Nat.lt_of_lt_of_le hx (seq_len hpre hS hfl (by omega) (by omega)))
      rw [a]
      exact seq_same hpre hS hfl (by omega) (by omega) (fun k h1 h2 => hn k h1 (by omega)) x hx

theorem seq_env (hS : ∀ i o, sq[i]? = some o → StepAt P cf call fl ops o (S i) (S (i + 1))) {i t : Nat} : ∀ {j : Nat}, i ≤ j → j ≤ sq.size → (∀ k o, i ≤ k → k < j → sq[k]? = some o → o.dst ≠ some t) → get (S j).1 t = get (S i).1 t
  | 0, h, _, _ => by rw [show i = 0 by omega]
  | j + 1, h, hj, hn => by
    by_cases e : i = j + 1
    · subst e; rfl
    · have ho : sq[j]? = some sq[j] := Array.getElem?_eq_getElem (by omega)
      obtain ⟨b, _, v, h2, _⟩ := hS j _ ho
      rw [h2, ← seq_env hS (show i ≤ j by omega) (by omega) (fun k o h1 h2 => hn k o h1 (by omega))]
      have hd := hn j _ (by omega) (by omega) ho
      cases hdst : (sq[j]'(by omega)).dst with
      | none => rfl
      | some d =>
        rw [hdst] at hd
        have : d ≠ t := fun e => hd (by rw [e])
        simp [put, get, this]

theorem seq_wf (hc : CallWf cf call) (hpre : CallPre call) (hS : ∀ i o, sq[i]? = some o → StepAt P cf call fl ops o (S i) (S (i + 1))) (hfl : fl ≤ (S 0).2.length) (hw : WfS (S 0).1 (S 0).2) (hg : WfG cf (S 0).2.length) : ∀ i, i ≤ sq.size → WfS (S i).1 (S i).2
  | 0, _ => hw
  | i + 1, hi => by
    have ih := seq_wf hc hpre hS hfl hw hg i (by omega)
    have ho : sq[i]? = some sq[i] := Array.getElem?_eq_getElem (by omega)
    have hfi := seq_fl hpre hS hfl i (by omega)
    have hgi := hg.mono (seq_len hpre hS hfl (Nat.zero_le i) (by omega))
    obtain ⟨b, _, v, h2, h3⟩ := hS i _ ho
    unfold WfS
    rw [h2]
    split at h3
    · obtain ⟨w1, w2⟩ := evOp_wf hc ih.2 ih.1 hgi hfi h3
      exact ⟨(ih.1.mono (evOp_pre hpre hfi h3).1).put w1 _, w2⟩
    · rw [h3.1, h3.2]; exact ⟨ih.1.put rfl _, ih.2⟩

/-- The next operation that may write. -/
theorem next_imp (L : Nat → Prop) : ∀ (d s : Nat), s + d = sq.size → (∀ k, k < s → Imp cf sq k → L k) → ∃ x, s ≤ x ∧ x ≤ sq.size ∧ (∀ k, k < x → Imp cf sq k → L k) ∧ (x < sq.size → Imp cf sq x ∧ ¬ L x)
  | 0, s, hs, hk => ⟨s, Nat.le_refl _, by omega, hk, fun h => by omega⟩
  | d + 1, s, hs, hk => by
    by_cases hx : Imp cf sq s ∧ ¬ L s
    · exact ⟨s, Nat.le_refl _, by omega, hk, fun _ => hx⟩
    · obtain ⟨x, h1, h2, h3, h4⟩ := next_imp L d (s + 1) (by omega) (fun k hk' hi => by
        by_cases e : k = s
        · subst e
          by_cases hl : L k
          · exact hl
          · exact absurd ⟨hi, hl⟩ hx
        · exact hk k (by omega) hi)
      exact ⟨x, by omega, h2, h3, h4⟩
end
end Go.Eng
end
section
/- The engine: a region that draws its order is sound. No conditions. -/
namespace Go.Eng

structure Inv (cf : Cfg) (n0 fl : Nat) (ops sq : Array Oper) (π : Nat → Nat) (S : Nat → Env × AH) (μ0 : Pl) (w0 : World) (a0 : Act) (listed : Array Bool) (a : Act) (w : World) (μ : Pl) : Prop where
  size : listed.size = ops.size
  closed : ∀ j, j < ops.size → listed.getD j false = true → ∀ k ∈ directs ops j, listed.getD k false = true
  tsz : a.tmps.size = a0.tmps.size
  defers : a.defers = a0.defers
  env : ∀ t, ∃ m, m ≤ sq.size ∧ (∀ k o, sq[k]? = some o → o.dst = some t → (listed.getD (π k) false = true ↔ k < m)) ∧ ∀ v, get (S m).1 t = some v → ∃ u, a.tmps[t]? = some u ∧ VA μ v u
  nx : ∃ x, x ≤ sq.size ∧ (∀ k, k < x → Imp cf sq k → listed.getD (π k) false = true) ∧ (x < sq.size → Imp cf sq x ∧ ¬ listed.getD (π x) false = true) ∧
    Step cf n0 fl μ0 w0 (S 0).2 μ w (S x).2 ∧ (∀ i p, μ i = some p → i < (S 0).2.length ∨ ∃ k, k < sq.size ∧ listed.getD (π k) false = true ∧ (S k).2.length ≤ i ∧ i < (S (k + 1)).2.length) ∧
    (∀ m om, m < x → sq[m]? = some om → litOp om.op = true → ¬ listed.getD (π m) false = true → ∀ i, (S m).2.length ≤ i → i < (S (m + 1)).2.length → (S x).2[i]? = (S (m + 1)).2[i]?)

theorem mem_looksAt_of_operand {ops : Array Oper} {o : Oper} {t : Tmp} (h : Operand.tmp t ∈ o.op.operands) : t ∈ o.looksAt ops := by
  unfold Oper.looksAt
  exact List.mem_append_left _ (List.mem_filterMap.2 ⟨.tmp t, by simpa using h, rfl⟩)

theorem mem_looksAt_of_guard {ops : Array Oper} {o : Oper} {g : Nat} {want : Bool} {d : Tmp} (hg : o.guard = some (g, want)) (hd : (ops[g]?).bind (·.dst) = some d) : d ∈ o.looksAt ops := by
  unfold Oper.looksAt
  refine List.mem_append_right _ ?_
  rw [hg]; simp only [hd]; simp

theorem getD_set (listed : Array Bool) (j k : Nat) (hj : j < listed.size) : (listed.setIfInBounds j true).getD k false = true ↔ k = j ∨ listed.getD k false = true := by
  by_cases e : k = j
  · subst e; simp [Array.getD_eq_getD_getElem?, hj]
  · rw [getD_set_ne false (Ne.symm e)]; simp [e]

theorem app_of_same {a b : AH} (hl : a.length ≤ b.length) (h : ∀ i, i < a.length → b[i]? = a[i]?) : ∃ l, b = a ++ l := by
  refine ⟨b.drop a.length, List.ext_getElem? fun i => ?_⟩
  by_cases hi : i < a.length
  · rw [h i hi, List.getElem?_append_left hi]
  · rw [List.getElem?_append_right (by omega), List.getElem?_drop]; congr 1; omega

section
variable {P : Program} {cf : Cfg} {n0 fl : Nat} {call : CallF} {ops sq : Array Oper} {π : Nat → Nat} {S : Nat → Env × AH} {μ0 μ : Pl} {w0 w : World} {a0 a : Act} {listed : Array Bool} {Q : Exit → Act → World → Prop}

theorem inv_step (hcall : CallOK P cf n0 call) (hpre : CallPre call) (hcw : CallWf cf call) (hn : n0 ≤ fl) {W : Bool} (G : RegP cf W ops sq π) (hL : W = true → LoadsStay P cf call fl ops sq S) (hS : ∀ i o, sq[i]? = some o → StepAt P cf call fl ops o (S i) (S (i + 1)))
    (hfl : fl ≤ (S 0).2.length) (hw0 : WfS (S 0).1 (S 0).2) (hg0 : WfG cf (S 0).2.length) (hd : ∀ (k : Nat) (o : Oper), ops[k]? = some o → ∀ d, o.dst = some d → d < a0.tmps.size)
    (I : Inv cf n0 fl ops sq π S μ0 w0 a0 listed a w μ) {j : Nat} (hjn : j < sq.size) (hj : π j ∈ Region.ready .any ops listed) :
    wpOp P ops Q (π j) (fun a' w' => ∃ μ', Inv cf n0 fl ops sq π S μ0 w0 a0 (listed.setIfInBounds (π j) true) a' w' μ') a w := by
  obtain ⟨hjun, o, ho, hall⟩ := mem_ready.1 hj
  have hjo : π j < ops.size := (Array.getElem?_eq_some_iff.1 ho).1
  have hos : sq[j]? = some o := by rw [G.get j (by have := G.sz; omega)]; exact ho
  have hjl : π j < listed.size := by rw [I.size]; exact hjo
  have hnl : ¬ listed.getD (π j) false = true := by
    simp [Array.getD_eq_getD_getElem?, hjl] at hjun ⊢; exact hjun
  have hdir : ∀ k ∈ directs ops (π j), listed.getD k false = true := fun k hk => by
    unfold directs at hk
    rw [ho] at hk
    simp only [List.mem_map, List.mem_filter] at hk
    obtain ⟨e, ⟨he, hb⟩, rfl⟩ := hk
    exact hall e (by simpa using he) hb
  let L : Nat → Prop := fun k => listed.getD (π k) false = true
  have lt_of : ∀ {k x}, sq[k]? = some x → k < sq.size := fun h => (Array.getElem?_eq_some_iff.1 h).1
  have pred : ∀ i, ((cloT ops ops.size).getD (π j) 0).testBit (π i) = true → L i := fun i hb => clo_listed G.dir (fun k => listed.getD k false = true) (fun j hj hl => I.closed j hj hl) (π j) (π i) hjo hdir hb
  have succ : ∀ k, k < sq.size → L k → ((cloT ops ops.size).getD (π k) 0).testBit (π j) = true → False := fun k hk hl hb => hnl (clo_listed G.dir (fun k => listed.getD k false = true) (fun j hj hl => I.closed j hj hl) (π k) (π j) (G.lt k (by have := G.sz; omega)) (I.closed (π k) (G.lt k (by have := G.sz; omega)) hl) hb)
  have gs : ∀ k, k < sq.size → ((listed.setIfInBounds (π j) true).getD (π k) false = true ↔ k = j ∨ L k) := fun k hk => by
    rw [getD_set listed (π j) (π k) hjl]
    exact ⟨fun h => h.imp (fun e => G.inj k j (by have := G.sz; omega) (by have := G.sz; omega) e) id, fun h => h.imp (fun e => by rw [e]) id⟩
  -- the slots that the operation looks at hold what they hold in the text's order
  have envAt : ∀ t ∈ o.looksAt ops, ∀ v, get (S j).1 t = some v → ∃ u, a.tmps[t]? = some u ∧ VA μ v u := fun t ht v hv => by
    obtain ⟨m, hm, h1, h2⟩ := I.env t
    refine h2 v ?_
    rw [← hv]
    rcases Nat.le_total m j with hmj | hmj
    · refine (seq_env hS hmj (by omega) fun k x hk1 hk2 hx hdx => ?_).symm
      rcases G.pr hk2 hx hos with h | ⟨h, _, _⟩
      · have := (h1 k x hx hdx).1 (pred k h); omega
      · exact (Oper.apart_spec h).1 t hdx ht
    · refine seq_env hS hmj hm fun k x hk1 hk2 hx hdx => ?_
      have hl := (h1 k x hx hdx).2 hk2
      by_cases e : k = j
      · subst e; exact hnl hl
      · rcases G.pr (show j < k by omega) hos hx with h | ⟨h, _, _⟩
        · exact succ k (lt_of hx) hl h
        · exact (Oper.apart_spec h).2.2 t hdx ht
  obtain ⟨x, hx1, hx2, hx3, hst, hmap, hlit⟩ := I.nx
  have hflj := seq_fl hpre hS hfl j (by omega)
  have hflx := seq_fl hpre hS hfl x hx1
  have hws := seq_wf hcw hpre hS hfl hw0 hg0 j (by omega)
  have hwx := seq_wf hcw hpre hS hfl hw0 hg0 x hx1
  have hlen0 : ∀ k, k ≤ sq.size → (S 0).2.length ≤ (S k).2.length := fun k hk => seq_len hpre hS hfl (Nat.zero_le k) hk
  have hgj := hg0.mono (hlen0 j (by omega))
  have hgx := hg0.mono (hlen0 x hx1)
  have R := hst.rel
  have hOk : ∀ y ∈ o.op.operands, Ok cf μ (S j).1 a.eval y := fun y hy v hv => by
    cases y with
    | tmp t =>
      obtain ⟨u, h1, h2⟩ := envAt t (mem_looksAt_of_operand hy) v hv
      simpa [Act.eval, Array.getD_eq_getD_getElem?, h1] using h2
    | const c => exact ofK_rel hv μ
    | func f => simp [ev] at hv; subst hv; exact .c _ _ (.fn _ _ _ _ _ .nil .nil)
    | global g =>
      simp only [ev] at hv
      obtain ⟨c, h1, rfl⟩ := Option.map_eq_some_iff.1 hv
      exact .c _ _ (R.glob g c h1)
  -- the slots behind the operation
  have envNew : ∀ (v : AV) (u : Value) (μ' : Pl), (S (j + 1)).1 = put o.dst v (S j).1 → VA μ' v u → Pl.le μ μ' → ∀ t, ∃ m, m ≤ sq.size ∧ (∀ k x, sq[k]? = some x → x.dst = some t → ((listed.setIfInBounds (π j) true).getD (π k) false = true ↔ k < m)) ∧
      ∀ y, get (S m).1 t = some y → ∃ z, (a.put o.dst u).tmps[t]? = some z ∧ VA μ' y z := fun v u μ' hput hvu hle t => by
    by_cases hdt : o.dst = some t
    · refine ⟨j + 1, by omega, fun k x hx hdx => ?_, fun y hy => ?_⟩
      · rw [gs k (lt_of hx)]
        constructor
        · rintro (rfl | hl)
          · omega
          · rcases Nat.lt_or_ge k (j + 1) with h | h
            · exact h
            · rcases G.pr (show j < k by omega) hos hx with hb | ⟨hb, _, _⟩
              · exact (succ k (lt_of hx) hl hb).elim
              · exact ((Oper.apart_spec hb).2.1 t hdt hdx).elim
        · intro hk
          by_cases e : k = j
          · exact .inl e
          · rcases G.pr (show k < j by omega) hx hos with hb | ⟨hb, _, _⟩
            · exact .inr (pred k hb)
            · exact ((Oper.apart_spec hb).2.1 t hdx hdt).elim
      · rw [hput, hdt] at hy
        simp [put, get] at hy
        subst hy
        have := hd (π j) o ho t hdt
        exact ⟨u, by rw [hdt]; simp [Act.put, I.tsz, this], hvu⟩
    · obtain ⟨m, hm, h1, h2⟩ := I.env t
      refine ⟨m, hm, fun k x hx hdx => ?_, fun y hy => ?_⟩
      · rw [gs k (lt_of hx), ← h1 k x hx hdx]
        constructor
        · rintro (rfl | hl)
          · rw [hos] at hx; cases hx; exact absurd hdx hdt
          · exact hl
        · exact .inr
      · obtain ⟨z, k1, k2⟩ := h2 y hy
        refine ⟨z, ?_, k2.mono hle⟩
        cases hdd : o.dst with
        | none => exact k1
        | some d =>
          have : d ≠ t := fun e => hdt (by rw [hdd, e])
          simp [Act.put, Array.getElem?_setIfInBounds_ne this, k1]
  have hsize : (listed.setIfInBounds (π j) true).size = ops.size := by simp [I.size]
  have hclosed : ∀ i, i < ops.size → (listed.setIfInBounds (π j) true).getD i false = true → ∀ k ∈ directs ops i, (listed.setIfInBounds (π j) true).getD k false = true := fun i hi hl k hk => by
    rw [getD_set listed (π j) _ hjl] at hl ⊢
    rcases hl with rfl | hl
    · exact .inr (hdir k hk)
    · exact .inr (I.closed i hi hl k hk)
  have hLmono : ∀ k, L k → (listed.setIfInBounds (π j) true).getD (π k) false = true := fun k hk => (getD_set listed (π j) (π k) hjl).2 (.inr hk)
  -- where the operation is not one that may write, the next one that may is the same
  have hxne : ¬ Imp cf sq j → (x < sq.size → Imp cf sq x ∧ ¬ (listed.setIfInBounds (π j) true).getD (π x) false = true) := fun hni hx => by
    obtain ⟨h1, h2⟩ := hx3 hx
    refine ⟨h1, fun h => ?_⟩
    rcases (gs x hx).1 h with rfl | h
    · exact hni h1
    · exact h2 h
  -- where it is, it is the next one
  have hxeq : Imp cf sq j → x = j := fun ⟨o', ho', hi⟩ => by
    rcases Nat.lt_trichotomy x j with h | h | h
    · obtain ⟨⟨ox, hox, hix⟩, h2⟩ := hx3 (by omega)
      rcases G.pr h hox hos with hb | ⟨_, hb, _⟩
      · exact (h2 (pred x hb)).elim
      · rw [hos] at ho'; cases ho'
        rw [touch_of_impure hi] at hb; exact absurd (hb hix) (by simp)
    · exact h
    · exact (hnl (hx2 j h ⟨o', ho', hi⟩)).elim
  -- and behind it none that may write is listed up to the next
  have hnone : touchW W o.op = true → litOp o.op = false → ∀ k, j < k → L k → ¬ Imp cf sq k := fun ht hnl k hk hl ⟨ok, hok', hi⟩ => by
    rcases G.pr hk hos hok' with hb | ⟨_, _, hb⟩
    · exact succ k (lt_of hok') hl hb
    · rcases hb hi with hb | hb
      · rw [hb] at ht; cases ht
      · rw [hb.1] at hnl; cases hnl
  have hunp : ∀ m, m < sq.size → ¬ L m → ∀ i, (S m).2.length ≤ i → i < (S (m + 1)).2.length → μ i = none := fun m hm hnm i h1 h2 => by
    cases hp : μ i with
    | none => rfl
    | some p =>
      exfalso
      rcases hmap i p hp with h | ⟨k, hk, hlk, k1, k2⟩
      · have := hlen0 m (by omega); omega
      · by_cases e : k = m
        · subst e; exact hnm hlk
        · rcases Nat.lt_or_ge k m with h | h
          · have := seq_len hpre hS hfl (show k + 1 ≤ m by omega) (by omega); omega
          · have := seq_len hpre hS hfl (show m + 1 ≤ k by omega) (by omega); omega
  have hLnot : ∀ m, ¬ (listed.setIfInBounds (π j) true).getD (π m) false = true → ¬ L m := fun m h hl => h (hLmono m hl)
  have extend : ∀ {μ' w'}, Imp cf sq j → Step cf n0 fl μ0 w0 (S 0).2 μ' w' (S (j + 1)).2 → (∀ i p, μ' i = some p → i < (S 0).2.length ∨ ∃ k, k < sq.size ∧ (listed.setIfInBounds (π j) true).getD (π k) false = true ∧ (S k).2.length ≤ i ∧ i < (S (k + 1)).2.length) → (∀ m om, m < j → sq[m]? = some om → litOp om.op = true → ¬ (listed.setIfInBounds (π j) true).getD (π m) false = true → ∀ i, (S m).2.length ≤ i → i < (S (m + 1)).2.length → (S (j + 1)).2[i]? = (S (m + 1)).2[i]?) →
      ∃ x, x ≤ sq.size ∧ (∀ k, k < x → Imp cf sq k → (listed.setIfInBounds (π j) true).getD (π k) false = true) ∧ (x < sq.size → Imp cf sq x ∧ ¬ (listed.setIfInBounds (π j) true).getD (π x) false = true) ∧
        Step cf n0 fl μ0 w0 (S 0).2 μ' w' (S x).2 ∧ (∀ i p, μ' i = some p → i < (S 0).2.length ∨ ∃ k, k < sq.size ∧ (listed.setIfInBounds (π j) true).getD (π k) false = true ∧ (S k).2.length ≤ i ∧ i < (S (k + 1)).2.length) ∧ (∀ m om, m < x → sq[m]? = some om → litOp om.op = true → ¬ (listed.setIfInBounds (π j) true).getD (π m) false = true → ∀ i, (S m).2.length ≤ i → i < (S (m + 1)).2.length → (S x).2[i]? = (S (m + 1)).2[i]?) := fun {μ' w'} hi hs hm hk => by
    have hxj := hxeq hi
    have ht : touchW W o.op = true := by obtain ⟨o', ho', hi'⟩ := hi; rw [hos] at ho'; cases ho'; exact touchW_of_impure W hi'
    obtain ⟨y, y1, y2, y3, y4⟩ := next_imp (cf := cf) (sq := sq) (fun k => (listed.setIfInBounds (π j) true).getD (π k) false = true) (sq.size - (j + 1)) (j + 1) (by omega) (fun k hk hik => by
      rw [gs k (by omega)]
      by_cases e : k = j
      · exact .inl e
      · exact .inr (hx2 k (by omega) hik))
    have hnl' : litOp o.op = false := by
      obtain ⟨o', ho', hi'⟩ := hi
      rw [hos] at ho'; cases ho'
      cases hq : litOp o.op with
      | false => rfl
      | true => rw [lit_pure hq] at hi'; cases hi'
    have hbet : ∀ k, j + 1 ≤ k → k < y → ¬ Imp cf sq k := fun k hk1 hk2 hik => by
      have := y3 k hk2 hik
      rcases (gs k (by omega)).1 this with rfl | h
      · omega
      · exact hnone ht hnl' k (by omega) h hik
    have hsame := seq_same hpre hS hfl y1 y2 hbet
    obtain ⟨l, hl⟩ := app_of_same (seq_len hpre hS hfl y1 y2) hsame
    refine ⟨y, y2, y3, y4, ?_, hm, fun m om hmy hom hol hnm i h1 h2 => ?_⟩
    · rw [hl]
      exact hs.trans (.ghost hs.rel l)
    · rcases Nat.lt_trichotomy m j with h | h | h
      · have hlen := seq_len hpre hS hfl (show m + 1 ≤ j + 1 by omega) (by omega)
        rw [hsame i (by omega)]
        exact hk m om h hom hol hnm i h1 h2
      · subst h
        rw [hos] at hom; cases hom
        rw [hnl'] at hol; cases hol
      · exact seq_same hpre hS hfl (show m + 1 ≤ y by omega) y2 (fun k hk1 hk2 => hbet k (by omega) hk2) i h2
  have hdput : ∀ d, o.dst = some d → d < a.tmps.size := fun d hd' => by rw [I.tsz]; exact hd (π j) o ho d hd'
  obtain ⟨b, hb1, v, hb2, hb3⟩ := hS j o hos
  unfold wpOp
  rw [ho]
  simp only
  have hwant : Region.wanted o (yielded ops a.tmps) = b := want_ok hb1 fun g want hg d hd' v hv => envAt d (mem_looksAt_of_guard hg hd') v hv
  rw [hwant]
  cases b with
  | false =>
    simp only [Bool.false_eq_true, if_false] at hb3 ⊢
    obtain ⟨hv, hh⟩ := hb3
    subst hv
    have e1 := envNew _ undef μ hb2 (.tup _ _ .nil) (Pl.le.refl μ)
    have hmap' : ∀ i p, μ i = some p → i < (S 0).2.length ∨ ∃ k, k < sq.size ∧ (listed.setIfInBounds (π j) true).getD (π k) false = true ∧ (S k).2.length ≤ i ∧ i < (S (k + 1)).2.length := fun i p hp => (hmap i p hp).imp id fun ⟨k, a, b, c⟩ => ⟨k, a, hLmono k b, c⟩
    refine ⟨μ, hsize, hclosed, (put_size _ _ _).trans I.tsz, (put_defers _ _ _).trans I.defers, e1, ?_⟩
    by_cases hi : Imp cf sq j
    · have hxj := hxeq hi
      refine extend hi ?_ hmap' fun m om hm hom hol hnm i h1 h2 => ?_
      · rw [hh, ← hxj]; exact hst
      · rw [hh, ← hxj]; exact hlit m om (by omega) hom hol (hLnot m hnm) i h1 h2
    · exact ⟨x, hx1, fun k hk hik => hLmono k (hx2 k hk hik), hxne hi, hst, hmap', fun m om hm hom hol hnm => hlit m om hm hom hol (hLnot m hnm)⟩
  | true =>
    simp only [if_true] at hb3 ⊢
    refine .inl ?_
    by_cases ht : touchOp o.op = true
    · by_cases hi : Imp cf sq j
      · have hxj := hxeq hi
        subst hxj
        refine (evOp_sound hcall R hn hflj (fun _ => ⟨hws.2, hws.1, hgj⟩) hOk hb3).wp fun u μ' w' hu hs => ?_
        have hle := hs.le R
        refine ⟨μ', hsize, hclosed, (put_size _ _ _).trans I.tsz, (put_defers _ _ _).trans I.defers, envNew v u μ' hb2 hu hle, extend hi (hst.trans hs) (fun i p hp => ?_) fun m om hm hom hol hnm i h1 h2 => ?_⟩
        · by_cases hil : i < (S x).2.length
          · rw [hs.ext i hil] at hp
            exact (hmap i p hp).imp id fun ⟨k, a, b, c⟩ => ⟨k, a, hLmono k b, c⟩
          · exact .inr ⟨x, hjn, (gs x hjn).2 (.inl rfl), by omega, hs.rel.lt i p hp⟩
        · have hmL := hLnot m hnm
          have hix : i < (S x).2.length := Nat.lt_of_lt_of_le h2 (seq_len hpre hS hfl (show m + 1 ≤ x by omega) hx1)
          rw [← hlit m om hm hom hol hmL i h1 h2]
          rcases G.pr hm hom hos with hb | ⟨_, _, hb⟩
          · exact (hmL (pred m hb)).elim
          · have hio : impureOp cf o.op = true := by obtain ⟨o', ho', hi'⟩ := hi; rw [hos] at ho'; cases ho'; exact hi'
            rcases hb hio with hb | ⟨_, hb⟩
            · rw [lit_touch hol] at hb; cases hb
            · exact late_keep hb hOk hb3 i hix (hunp m (by omega) hmL i h1 h2)
      · -- it makes memory, or reads
        have hjx : j < x := by
          rcases Nat.lt_trichotomy j x with h | h | h
          · exact h
          · rcases Nat.lt_or_ge x sq.size with hxs | hxs
            · exact (hi (h ▸ (hx3 hxs).1)).elim
            · omega
          · obtain ⟨⟨ox, hox, hix⟩, h2⟩ := hx3 (by omega)
            rcases G.pr h hox hos with hb | ⟨_, hb, _⟩
            · exact (h2 (pred x hb)).elim
            · rw [hb hix] at ht; cases ht
        by_cases hlw : (W && isLoad o.op) = true
        · obtain ⟨hW, hl⟩ := Bool.and_eq_true_iff.1 hlw
          have hev := hL hW j o v hb1 hos x hjx hx1 hl hb3
          have hwe : WfE (S x).2.length (S j).1 := hws.1.mono (seq_len hpre hS hfl (Nat.le_of_lt hjx) hx1)
          refine (evOp_sound hcall R hn hflx (fun _ => ⟨hwx.2, hwe, hgx⟩) hOk hev).wp fun u μ' w' hu hs => ?_
          have hle := hs.le R
          refine ⟨μ', hsize, hclosed, (put_size _ _ _).trans I.tsz, (put_defers _ _ _).trans I.defers, envNew v u μ' hb2 hu hle, x, hx1, fun k hk hik => hLmono k (hx2 k hk hik), hxne hi, hst.trans hs, fun i p hp => ?_, fun m om hm hom hol hnm => hlit m om hm hom hol (hLnot m hnm)⟩
          rw [hs.ext i (hs.rel.lt i p hp)] at hp
          exact (hmap i p hp).imp id fun ⟨k, a, b, c⟩ => ⟨k, a, hLmono k b, c⟩
        have htw : touchW W o.op = true := by unfold touchW; rw [ht]; rw [Bool.not_eq_true] at hlw; rw [hlw]; rfl
        by_cases hol : litOp o.op = true
        · -- a literal: it gets its place now
          obtain ⟨ob, em, len, sz, hh, hv, hall⟩ := lit_ev hol hb3
          have hlm : (S j).2.length < (S (j + 1)).2.length := by rw [hh]; simp
          have hHm : (S x).2[(S j).2.length]? = some ob := by
            rw [hlit j o hjx hos hol hnl _ (Nat.le_refl _) hlm, hh]; simp
          have hwe : WfE (S x).2.length (S j).1 := hws.1.mono (seq_len hpre hS hfl (Nat.le_of_lt hjx) hx1)
          have hws1 := seq_wf hcw hpre hS hfl hw0 hg0 (j + 1) (by omega)
          have lenx := seq_len hpre hS hfl (show j + 1 ≤ x by omega) hx1
          have hwo : ∀ c ∈ ob.cells, c.wf (S x).2.length = true := fun c hc => CV.wf_mono lenx c (hws1.2 ob (by rw [hh]; simp) c hc)
          refine (evOp_sound hcall R (Nat.le_trans hn hflx) (Nat.le_refl _) (fun _ => ⟨hwx.2, hwe, hgx⟩) hOk (hall _ _)).wp fun u μ'' w' hu hs => ?_
          have hun := hunp j hjn hnl _ (Nat.le_refl _) hlm
          obtain ⟨Rm, le1, old, new⟩ := R.late hs hHm hun (Nat.le_trans hn hflj) hwo hwx.2
          have hu2 : VA (fun i => if i = (S j).2.length then μ'' (S x).2.length else μ i) v u := by
            subst hv
            cases em with
            | true => cases hu with | c _ _ h => cases h with | em a => exact .c _ _ (.em a)
            | false =>
              cases hu with
              | c _ _ h =>
                refine .c _ _ ?_
                simp only [Bool.false_eq_true, if_false] at h ⊢
                cases h with
                | sl _ _ _ _ b o' e cap k1 k2 k3 => exact .sl _ _ _ _ b o' e cap (by simp only [if_true]; exact k1) k2 k3
                | sz _ _ _ a => exact .sz _ _ _ a
          refine ⟨_, hsize, hclosed, (put_size _ _ _).trans I.tsz, (put_defers _ _ _).trans I.defers, envNew v u _ hb2 hu2 le1, x, hx1, fun k hk hik => hLmono k (hx2 k hk hik), hxne hi, ?_, fun i p hp => ?_, fun m om hm hom hol hnm => hlit m om hm hom hol (hLnot m hnm)⟩
          · refine ⟨Rm, hst.len, fun i hil => ?_, hst.dead, hst.keep, fun i p hil hp => ?_, hs.os.trans hst.os, hs.tape.trans hst.tape, hs.out.trans hst.out, Nat.le_trans hst.size hs.size, fun c hc hne => ?_⟩
            · have := hlen0 j (by omega)
              rw [if_neg (by omega)]; exact hst.ext i hil
            · split at hp
              · exact .inl (Nat.le_trans hst.size (new p hp))
              · exact hst.new i p hil hp
            · rw [old c (Nat.lt_of_lt_of_le hc hst.size)]; exact hst.frame c hc hne
          · split at hp
            · rename_i h; exact .inr ⟨j, hjn, (gs j hjn).2 (.inl rfl), by omega, by omega⟩
            · exact (hmap i p hp).imp id fun ⟨k, a, b, c⟩ => ⟨k, a, hLmono k b, c⟩
        have hol : litOp o.op = false := by simpa using hol
        have hno : ∀ k, j ≤ k → k < x → ¬ Imp cf sq k := fun k hk1 hk2 hik => by
          by_cases e : k = j
          · subst e; exact hi hik
          · exact hnone htw hol k (by omega) (hx2 k hk2 hik) hik
        have same0 := seq_same hpre hS hfl (show j ≤ x by omega) hx1 hno
        have same1 := seq_same hpre hS hfl (show j + 1 ≤ x by omega) hx1 (fun k hk1 hk2 => hno k (by omega) hk2)
        have len1 := seq_len hpre hS hfl (show j + 1 ≤ x by omega) hx1
        have len0 := seq_len hpre hS hfl (show j ≤ x by omega) hx1
        have lenj := seq_len hpre hS hfl (show j ≤ j + 1 by omega) (by omega)
        have Rj := R.restrict len0 same0 hws.2 hgj
        have hf : impureOp cf o.op = false := by
          cases hii : impureOp cf o.op
          · rfl
          · exact absurd ⟨o, hos, hii⟩ hi
        have hb3' := hb3
        rw [evOp_floor hf] at hb3'
        have hOkj : ∀ y ∈ o.op.operands, Ok cf (fun i => if i < (S j).2.length then μ i else none) (S j).1 a.eval y := fun y hy z hz => AV.wf_of (hOk y hy z hz) (ev_wf hws.1 hgj hz)
        refine (evOp_sound hcall Rj (Nat.le_trans hn hflj) (Nat.le_refl _) (fun _ => ⟨hws.2, hws.1, hgj⟩) hOkj hb3').wp fun u μ'' w' hu hs => ?_
        have hun := hunp j hjn hnl
        obtain ⟨Rm, le1, le2, old, new⟩ := R.merge hs len1 same1 hun
        refine ⟨_, hsize, hclosed, (put_size _ _ _).trans I.tsz, (put_defers _ _ _).trans I.defers, envNew v u _ hb2 (hu.mono le2) le1, x, hx1, fun k hk hik => hLmono k (hx2 k hk hik), hxne hi, ?_, fun i p hp => ?_, fun m om hm hom hol hnm => hlit m om hm hom hol (hLnot m hnm)⟩
        · refine ⟨Rm, hst.len, fun i hil => ?_, hst.dead, hst.keep, fun i p hil hp => ?_, hs.os.trans hst.os, hs.tape.trans hst.tape, hs.out.trans hst.out, Nat.le_trans hst.size hs.size, fun c hc hne => ?_⟩
          · have := hlen0 j (by omega)
            rw [if_neg (by omega)]; exact hst.ext i hil
          · split at hp
            · rename_i h; exact .inl (Nat.le_trans hst.size (new i p h.1 h.2 hp))
            · exact hst.new i p hil hp
          · rw [old c (Nat.lt_of_lt_of_le hc hst.size)]; exact hst.frame c hc hne
        · split at hp
          · rename_i h; exact .inr ⟨j, hjn, (gs j hjn).2 (.inl rfl), h⟩
          · exact (hmap i p hp).imp id fun ⟨k, a, b, c⟩ => ⟨k, a, hLmono k b, c⟩
    · have ht' : touchOp o.op = false := by simpa using ht
      have hi : ¬ Imp cf sq j := fun ⟨o', ho', hi⟩ => by rw [hos] at ho'; cases ho'; exact ht (touch_of_impure hi)
      obtain ⟨hh, hany⟩ := evOp_scalar ht' hb3
      have hev := hany (S x).2 fl
      refine (evOp_sound hcall R hn hflx (fun h => by rw [h] at ht'; cases ht') hOk hev).wp fun u μ' w' hu hs => ?_
      have hle := hs.le R
      refine ⟨μ', hsize, hclosed, (put_size _ _ _).trans I.tsz, (put_defers _ _ _).trans I.defers, envNew v u μ' hb2 hu hle, x, hx1, fun k hk hik => hLmono k (hx2 k hk hik), hxne hi, hst.trans hs, fun i p hp => ?_, fun m om hm hom hol hnm => hlit m om hm hom hol (hLnot m hnm)⟩
      rw [hs.ext i (hs.rel.lt i p hp)] at hp
      exact (hmap i p hp).imp id fun ⟨k, a, b, c⟩ => ⟨k, a, hLmono k b, c⟩
end
end Go.Eng
end
section
/- The engine: code is sound. No conditions. -/
namespace Go.Eng

def exitOf : AX → Exit
  | .norm => .normal
  | .exit id => .exit id
  | .ret => .ret

/-- What is looked at of the code itself. -/
def codeOk (cf : Cfg) (f : FuncId) (n : Nat) : Code → Bool
  | .region id ops d => (ops.all fun o => match o.dst with | some t => decide (t < n) | none => true) && (!d || regOkO cf (cf.wary f id) ops (cf.ord f id))
  | .seq a b => codeOk cf f n a && codeOk cf f n b
  | .cond _ a b => codeOk cf f n a && codeOk cf f n b
  | .block _ c => codeOk cf f n c
  | .loop c => codeOk cf f n c
  | _ => true

section
variable {P : Program} {cf : Cfg} {n0 fl : Nat} {call : CallF}

theorem wfE_keep {n : Nat} {e : Env} (h : WfE n e) (ks : List Nat) : WfE n (keepOnly ks e) := fun t v ht => h t v (get_keepOnly ks e t v ht)

theorem iter_wf {body : Env → AH → Option (AX × Env × AH)} (hb : ∀ (e : Env) (h : AH) (r : AX × Env × AH), fl ≤ h.length → WfS e h → WfG cf h.length → body e h = some r → h.length ≤ r.2.2.length ∧ WfS r.2.1 r.2.2) :
    ∀ (n : Nat) (e : Env) (h : AH) (r : AX × Env × AH), fl ≤ h.length → WfS e h → WfG cf h.length → iter body n e h = some r → h.length ≤ r.2.2.length ∧ WfS r.2.1 r.2.2
  | 0, _, _, _, _, _, _, hev => by simp [iter] at hev
  | n + 1, e, h, r, hfl, hw, hg, hev => by
    simp only [iter] at hev
    obtain ⟨q, h1, hev⟩ := Option.bind_eq_some_iff.1 hev
    have a := hb e h q hfl hw hg h1
    split at hev
    · have b := iter_wf hb n _ _ r (Nat.le_trans hfl a.1) a.2 (hg.mono a.1) hev
      exact ⟨Nat.le_trans a.1 b.1, b.2⟩
    · injection hev with hev; subst hev; exact a

theorem evCode_wf (hc : CallWf cf call) (hp : CallPre call) {f : FuncId} : ∀ (c : Code) (e : Env) (h : AH) (r : AX × Env × AH), fl ≤ h.length → WfS e h → WfG cf h.length → evCode P cf call fl f c e h = some r → h.length ≤ r.2.2.length ∧ WfS r.2.1 r.2.2 := by
  intro c
  induction c with
  | skip => intro e h r hfl hw hg hev; simp [evCode] at hev; subst hev; exact ⟨Nat.le_refl _, hw⟩
  | region id ops d =>
    intro e h r hfl hw hg hev
    simp only [evCode] at hev
    obtain ⟨⟨e', h'⟩, h1, hev⟩ := Option.bind_eq_some_iff.1 hev
    split at hev
    · simp at hev
    injection hev with hev; subst hev
    have k := evOps_wf hc hp _ hfl hw hg h1
    exact ⟨(evOps_pre hp _ hfl h1).1, wfE_keep k.1 _, k.2⟩
  | seq a b iha ihb =>
    intro e h r hfl hw hg hev
    simp only [evCode] at hev
    obtain ⟨q, h1, hev⟩ := Option.bind_eq_some_iff.1 hev
    have k := iha e h q hfl hw hg h1
    split at hev
    · have l := ihb _ _ r (Nat.le_trans hfl k.1) k.2 (hg.mono k.1) hev
      exact ⟨Nat.le_trans k.1 l.1, l.2⟩
    · injection hev with hev; subst hev; exact k
  | cond c a b iha ihb =>
    intro e h r hfl hw hg hev
    simp only [evCode] at hev
    obtain ⟨q, h1, hev⟩ := Option.bind_eq_some_iff.1 hev
    split at hev
    · split at hev
      · exact iha e h r hfl hw hg hev
      · exact ihb e h r hfl hw hg hev
    · simp at hev
  | block id c ih =>
    intro e h r hfl hw hg hev
    simp only [evCode] at hev
    obtain ⟨q, h1, rfl⟩ := Option.map_eq_some_iff.1 hev
    have k := ih e h q hfl hw hg h1
    split
    · split <;> exact k
    · exact k
  | loop c ih => intro e h r hfl hw hg hev; simp only [evCode] at hev; exact iter_wf ih _ e h r hfl hw hg hev
  | exit id => intro e h r hfl hw hg hev; simp [evCode] at hev; subst hev; exact ⟨Nat.le_refl _, hw⟩
  | ret => intro e h r hfl hw hg hev; simp [evCode] at hev; subst hev; exact ⟨Nat.le_refl _, hw⟩
  | label l => intro e h r hfl hw hg hev; simp [evCode] at hev; subst hev; exact ⟨Nat.le_refl _, hw⟩
  | rangeFunc _ _ _ _ _ _ => intro e h r hfl hw hg hev; simp [evCode] at hev
  | scope _ _ => intro e h r hfl hw hg hev; simp [evCode] at hev
  | goto _ => intro e h r hfl hw hg hev; simp [evCode] at hev
  | refuse _ => intro e h r hfl hw hg hev; simp [evCode] at hev

/-! ### a drawn region -/

theorem all_listed {ops : Array Oper} {listed : Array Bool} (hdr : ∀ j k, j < ops.size → k ∈ directs ops j → k < j) (hs : listed.size = ops.size) (hr : Region.ready .any ops listed = []) : ∀ k, k < ops.size → listed.getD k false = true := by
  intro k
  induction k using Nat.strongRecOn with
  | _ k ih =>
    intro hk
    cases hl : listed.getD k false with
    | true => rfl
    | false =>
      exfalso
      have hkl : k < listed.size := by omega
      have : k ∈ Region.ready .any ops listed := by
        refine mem_ready.2 ⟨?_, ops[k], Array.getElem?_eq_getElem hk, fun e he hb => ?_⟩
        · simp [Array.getD_eq_getD_getElem?, hkl] at hl ⊢; exact hl
        · have hd : e.on ∈ directs ops k := by
            unfold directs
            rw [Array.getElem?_eq_getElem hk]
            simp only [List.mem_map, List.mem_filter]
            exact ⟨e, ⟨by simpa using he, hb⟩, rfl⟩
          have := hdr k e.on hk hd
          exact ih e.on this (by omega)
      rw [hr] at this; cases this

def unl (n : Nat) (listed : Array Bool) : Nat := (List.range n).countP fun k => !listed.getD k false

theorem unl_set {n j : Nat} {listed : Array Bool} (hj : j < n) (hs : listed.size = n) (hl : ¬ listed.getD j false = true) : unl n (listed.setIfInBounds j true) < unl n listed := by
  unfold unl
  have key : ∀ (l : List Nat), l.Nodup → ∀ k, k = (l.countP fun k => !listed.getD k false) → ((l.countP fun k => !(listed.setIfInBounds j true).getD k false) ≤ k ∧ (j ∈ l → (l.countP fun k => !(listed.setIfInBounds j true).getD k false) < k)) := by
    intro l
    induction l with
    | nil => intro _ k hk; simp at hk; subst hk; simp
    | cons x l ih =>
      intro hnd k hk
      have hnd' := List.nodup_cons.1 hnd
      obtain ⟨h1, h2⟩ := ih hnd'.2 _ rfl
      rw [List.countP_cons] at hk ⊢
      by_cases e : x = j
      · subst e
        have a : (listed.setIfInBounds x true).getD x false = true := (getD_set listed x x (by omega)).2 (.inl rfl)
        have b : listed.getD x false = false := by simpa using hl
        rw [a]
        rw [b] at hk
        simp only [Bool.not_true, Bool.not_false, if_true, Bool.false_eq_true, if_false] at hk ⊢
        exact ⟨by omega, fun _ => by omega⟩
      · have a : (listed.setIfInBounds j true).getD x false = listed.getD x false := getD_set_ne false (Ne.symm e)
        rw [a]
        refine ⟨by omega, fun hm => ?_⟩
        have := h2 (by simpa [Ne.symm e] using hm)
        omega
  exact (key (List.range n) List.nodup_range _ rfl).2 (List.mem_range.2 hj)

theorem region_draw {P : Program} (hm : P.follows .mixedOrders = true) (hcall : CallOK P cf n0 call) (hpre : CallPre call) (hcw : CallWf cf call) (hn : n0 ≤ fl) {ops sq : Array Oper} {π : Nat → Nat} {W : Bool} (G : RegP cf W ops sq π) {id : Nat} {e : Env} {h : AH} (hsd : W = true → stdy P cf call fl ops sq.toList e h [] = true) {e' : Env} {h' : AH} {μ : Pl} {w : World} {a : Act}
    {Q : Exit → Act → World → Prop} (hfl : fl ≤ h.length) (hws : WfS e h) (hg : WfG cf h.length) (hev : evOps P cf call fl ops sq.toList e h = some (e', h')) (hd : ∀ o ∈ sq.toList, ∀ d, o.dst = some d → d < a.tmps.size) (R : Rel cf n0 μ w h) (he : ER μ e a.tmps)
    (hQ : ∀ a' w' μ', a'.tmps.size = a.tmps.size → a'.defers = a.defers → ER μ' e' a'.tmps → Step cf n0 fl μ w h μ' w' h' → Q .normal a' w') : (Code.region id ops true).wp P Q a w := by
  obtain ⟨S, s0, s1, hS', hL'⟩ := evOps_seq sq.toList hev
  have hL : W = true → LoadsStay P cf call fl ops sq S := fun hw => by
    have := hL' (hsd hw)
    intro i o v b ho k hk1 hk2 hi hv
    exact this i o v b (by simpa using ho) k hk1 (by simpa using hk2) hi hv
  have hS : ∀ i o, sq[i]? = some o → StepAt P cf call fl ops o (S i) (S (i + 1)) := fun i o ho => hS' i o (by simpa using ho)
  have s1' : S sq.size = (e', h') := by simpa using s1
  have hd' : ∀ (k : Nat) (o : Oper), ops[k]? = some o → ∀ d, o.dst = some d → d < a.tmps.size := fun k o ho => by
    obtain ⟨p, hp, e⟩ := G.onto k (Array.getElem?_eq_some_iff.1 ho).1
    have := G.get p hp
    rw [e, ho] at this
    exact hd o (by simpa using Array.mem_of_getElem? this)
  have hfl0 : fl ≤ (S 0).2.length := by rw [s0]; exact hfl
  have hw0 : WfS (S 0).1 (S 0).2 := by rw [s0]; exact hws
  have hg0 : WfG cf (S 0).2.length := by rw [s0]; exact hg
  refine wp_region_any hm ?_
  let w0 : World := { w with drawn := w.drawn + 1 }
  have R0 : Rel cf n0 μ w0 (S 0).2 := by rw [s0]; exact R.same rfl
  have done : ∀ {listed : Array Bool} {a' : Act} {w' : World} {μ' : Pl}, Inv cf n0 fl ops sq π S μ w0 a listed a' w' μ' → Region.ready .any ops listed = [] → Q .normal a' w' := fun {listed a' w' μ'} I hr => by
    have hall0 := all_listed G.dir I.size hr
    have hall : ∀ k, k < sq.size → listed.getD (π k) false = true := fun k hk => hall0 (π k) (G.lt k (by have := G.sz; omega))
    obtain ⟨x, hx1, hx2, hx3, hst, _⟩ := I.nx
    have hx : x = sq.size := by
      rcases Nat.lt_or_ge x sq.size with h | h
      · exact ((hx3 h).2 (hall x h)).elim
      · omega
    subst hx
    rw [s1', s0] at hst
    refine hQ a' w' μ' I.tsz I.defers (fun t v hv => ?_) ⟨hst.rel, hst.len, hst.ext, hst.dead, hst.keep, hst.new, hst.os, hst.tape, hst.out, hst.size, hst.frame⟩
    obtain ⟨m, hm, h1, h2⟩ := I.env t
    refine h2 v ?_
    rw [← hv, show e' = (S sq.size).1 by rw [s1']]
    refine (seq_env hS hm (Nat.le_refl _) fun k o hk1 hk2 ho hdt => ?_).symm
    have := (h1 k o ho hdt).1 (hall k (by omega)); omega
  have main : ∀ (fuel : Nat) (listed : Array Bool) (a' : Act) (w' : World) (μ' : Pl), Inv cf n0 fl ops sq π S μ w0 a listed a' w' μ' → unl ops.size listed ≤ fuel → wpAny P .any ops Q fuel listed a' w' := by
    intro fuel
    induction fuel with
    | zero =>
      intro listed a' w' μ' I hu
      have hr : Region.ready .any ops listed = [] := by
        cases hc : Region.ready .any ops listed with
        | nil => rfl
        | cons j r =>
          exfalso
          have hj : j ∈ Region.ready .any ops listed := by rw [hc]; simp
          obtain ⟨h0, o, ho, _⟩ := mem_ready.1 hj
          have hjn : j < ops.size := (Array.getElem?_eq_some_iff.1 ho).1
          have : unl ops.size listed = 0 := by omega
          unfold unl at this
          rw [List.countP_eq_zero] at this
          have k := this j (List.mem_range.2 hjn)
          have hjl : j < listed.size := by rw [I.size]; exact hjn
          simp [Array.getD_eq_getD_getElem?, hjl] at h0 k
          rw [h0] at k; cases k
      exact ⟨hr, done I hr⟩
    | succ fuel ih =>
      intro listed a' w' μ' I hu
      refine ⟨fun hr => done I hr, fun j hj => ?_⟩
      obtain ⟨h0, o, ho, _⟩ := mem_ready.1 hj
      have hjn : j < ops.size := (Array.getElem?_eq_some_iff.1 ho).1
      have hjl : j < listed.size := by rw [I.size]; exact hjn
      have hnl : ¬ listed.getD j false = true := by
        simp [Array.getD_eq_getD_getElem?, hjl] at h0 ⊢; exact h0
      obtain ⟨p, hp, e⟩ := G.onto j hjn
      subst e
      refine wpOp_mono (fun a1 w1 ⟨μ1, I1⟩ => ih _ a1 w1 μ1 I1 ?_) (inv_step hcall hpre hcw hn G hL hS hfl0 hw0 hg0 hd' I (by have := G.sz; omega) hj)
      have := unl_set hjn I.size hnl
      omega
  obtain ⟨x, x1, x2, x3, x4⟩ := next_imp (cf := cf) (sq := sq) (fun k => (Array.replicate ops.size false).getD (π k) false = true) sq.size 0 (by omega) (fun k hk => by omega)
  have notl : ∀ k, ¬ (Array.replicate ops.size false).getD k false = true := fun k h => by
    have : (Array.replicate ops.size false).getD k false = false := by
      simp only [Array.getD_eq_getD_getElem?, Array.getElem?_replicate]
      split <;> rfl
    rw [this] at h; cases h
  obtain ⟨l, hl⟩ := app_of_same (seq_len hpre hS hfl0 (Nat.zero_le x) x2) (seq_same hpre hS hfl0 (Nat.zero_le x) x2 fun k _ hk hik => notl (π k) (x3 k hk hik))
  refine main ops.size _ a w0 μ ⟨by simp, fun j _ hl => (notl j hl).elim, rfl, rfl, fun t => ⟨0, Nat.zero_le _, fun k o _ _ => ⟨fun h => (notl (π k) h).elim, fun h => by omega⟩, fun v hv => ?_⟩, x, x2, x3, x4, ?_, fun i p hp => .inl (R0.lt i p hp), fun m om hm _ _ _ i h1 h2 => seq_same hpre hS hfl0 (show m + 1 ≤ x by omega) x2 (fun k _ hk hik => notl (π k) (x3 k hk hik)) i h2⟩ ?_
  · rw [s0] at hv; exact he t v hv
  · rw [hl]; exact .ghost R0 l
  · unfold unl; exact Nat.le_trans List.countP_le_length (by simp)
end
end Go.Eng
end
section
/- The engine: code and calls are sound. No conditions. -/
namespace Go.Eng

section
variable {P : Program} {cf : Cfg} {n0 fl : Nat} {call : CallF}

theorem evCode_sound (hm : P.follows .mixedOrders = true) (hcall : CallOK P cf n0 call) (hpre : CallPre call) (hcw : CallWf cf call) (hn : n0 ≤ fl) {f : FuncId} {m : Nat} : ∀ (c : Code) {e : Env} {h : AH} {r : AX × Env × AH} {μ : Pl} {w : World} {a : Act} {Q : Exit → Act → World → Prop},
    fl ≤ h.length → WfS e h → WfG cf h.length → evCode P cf call fl f c e h = some r → codeOk cf f m c = true → m ≤ a.tmps.size → Rel cf n0 μ w h → ER μ e a.tmps →
    (∀ a' w' μ', a'.tmps.size = a.tmps.size → a'.defers = a.defers → ER μ' r.2.1 a'.tmps → Step cf n0 fl μ w h μ' w' r.2.2 → Q (exitOf r.1) a' w') → c.wp P Q a w := by
  intro c
  induction c with
  | skip => intro e h r μ w a Q hfl hws hg hev hok hm' R he hQ; simp [evCode] at hev; subst hev; exact wp_skip (hQ a w μ rfl rfl he (.refl R))
  | region id ops d =>
    intro e h r μ w a Q hfl hws hg hev hok hm' R he hQ
    simp only [evCode] at hev
    obtain ⟨⟨e', h'⟩, h1, hev⟩ := Option.bind_eq_some_iff.1 hev
    split at hev
    · simp at hev
    rename_i hst
    injection hev with hev; subst hev
    simp only [codeOk, Bool.and_eq_true] at hok
    have hd : ∀ o ∈ ops.toList, ∀ t, o.dst = some t → t < a.tmps.size := fun o ho t ht => by
      have := Array.all_eq_true_iff_forall_mem.1 hok.1 o (by simpa using ho)
      rw [ht] at this
      have : t < m := by simpa using this
      exact Nat.lt_of_lt_of_le this hm'
    have fin : ∀ a' w' μ', a'.tmps.size = a.tmps.size → a'.defers = a.defers → ER μ' e' a'.tmps → Step cf n0 fl μ w h μ' w' h' → Q .normal a' w' := fun a' w' μ' k1 k2 k3 k4 =>
      hQ a' w' μ' k1 k2 (fun t v ht => k3 t v (get_keepOnly _ _ t v ht)) k4
    cases d with
    | false => exact wp_region_list (evOps_sound hcall hpre hcw hn ops.toList hfl hws hg h1 hd R he fin)
    | true =>
      obtain ⟨π, G⟩ := regP_of (W := cf.wary f id) (od := cf.ord f id) (by simpa using hok.2)
      have hd2 : ∀ o ∈ (ordR (cf.ord f id) ops.toList), ∀ t, o.dst = some t → t < a.tmps.size := fun o ho => by
        refine hd o ?_
        cases ho' : cf.ord f id with
        | none => rw [ho'] at ho; exact ho
        | some π =>
          rw [ho'] at ho
          obtain ⟨i, _, hi⟩ := List.mem_filterMap.1 ho
          exact List.mem_of_getElem? hi
      exact region_draw hm hcall hpre hcw hn G (fun hw => by simpa [hw, regL] using hst) hfl hws hg (by simpa [regL] using h1) (by simpa using hd2) R he fin
  | seq x y ihx ihy =>
    intro e h r μ w a Q hfl hws hg hev hok hm' R he hQ
    simp only [evCode] at hev
    obtain ⟨q, h1, hev⟩ := Option.bind_eq_some_iff.1 hev
    simp only [codeOk, Bool.and_eq_true] at hok
    have hwq := evCode_wf hcw hpre x e h q hfl hws hg h1
    refine wp_seq (ihx hfl hws hg h1 hok.1 hm' R he fun a' w' μ' k1 k2 k3 k4 => ?_)
    cases hq : q.1 with
    | norm =>
      rw [hq] at hev
      simp only at hev
      show y.wp P Q a' w'
      exact ihy (Nat.le_trans hfl k4.len) hwq.2 (hg.mono hwq.1) hev hok.2 (by omega) k4.rel k3 fun a'' w'' μ'' j1 j2 j3 j4 => hQ a'' w'' μ'' (j1.trans k1) (j2.trans k2) j3 (k4.trans j4)
    | exit id =>
      rw [hq] at hev; simp only at hev; injection hev with hev; subst hev
      exact hQ a' w' μ' k1 k2 k3 k4
    | ret =>
      rw [hq] at hev; simp only at hev; injection hev with hev; subst hev
      exact hQ a' w' μ' k1 k2 k3 k4
  | cond c x y ihx ihy =>
    intro e h r μ w a Q hfl hws hg hev hok hm' R he hQ
    simp only [evCode] at hev
    obtain ⟨q, h1, hev⟩ := Option.bind_eq_some_iff.1 hev
    simp only [codeOk, Bool.and_eq_true] at hok
    split at hev
    · rename_i t
      have hc : a.eval c = .bool t := by
        have := evC_rel (he.ok R c) h1
        generalize a.eval c = u at this
        cases this; rfl
      refine wp_cond hc ?_
      cases t with
      | true => simp only [if_true] at hev ⊢; exact ihx hfl hws hg hev hok.1 hm' R he hQ
      | false => simp only [Bool.false_eq_true, if_false] at hev ⊢; exact ihy hfl hws hg hev hok.2 hm' R he hQ
    · simp at hev
  | block id c ih =>
    intro e h r μ w a Q hfl hws hg hev hok hm' R he hQ
    simp only [evCode] at hev
    obtain ⟨q, h1, rfl⟩ := Option.map_eq_some_iff.1 hev
    refine wp_block (ih hfl hws hg h1 hok hm' R he fun a' w' μ' k1 k2 k3 k4 => ?_)
    cases hq : q.1 with
    | norm => simp only [hq] at hQ; exact hQ a' w' μ' k1 k2 k3 k4
    | ret => simp only [hq] at hQ; exact hQ a' w' μ' k1 k2 k3 k4
    | exit id' =>
      simp only [hq] at hQ
      simp only [exitOf, Exit.inBlock]
      by_cases e : id' = id
      · simp only [if_pos e] at hQ ⊢; exact hQ a' w' μ' k1 k2 k3 k4
      · simp only [if_neg e] at hQ ⊢; simp only [hq] at hQ; exact hQ a' w' μ' k1 k2 k3 k4
  | loop c ih =>
    intro e h r μ w a Q hfl hws hg hev hok hm' R he hQ
    simp only [evCode] at hev
    refine wp_loop_ghost (fun n a1 w1 => ∃ e1 h1 μ1, fl ≤ h1.length ∧ WfS e1 h1 ∧ WfG cf h1.length ∧ iter (evCode P cf call fl f c) n e1 h1 = some r ∧ a1.tmps.size = a.tmps.size ∧ a1.defers = a.defers ∧ ER μ1 e1 a1.tmps ∧ Step cf n0 fl μ w h μ1 w1 h1) cf.rounds
      ⟨e, h, μ, hfl, hws, hg, hev, rfl, rfl, he, .refl R⟩ ?_
    rintro n a1 w1 ⟨e1, h1, μ1, i1, i2, i3, i4, i5, i6, i7, i8⟩
    cases n with
    | zero => simp [iter] at i4
    | succ n =>
      simp only [iter] at i4
      obtain ⟨q, q1, i4⟩ := Option.bind_eq_some_iff.1 i4
      have hwq := evCode_wf hcw hpre c e1 h1 q i1 i2 i3 q1
      refine ih i1 i2 i3 q1 hok (by omega) i8.rel i7 fun a' w' μ' k1 k2 k3 k4 => ?_
      cases hq : q.1 with
      | norm =>
        rw [hq] at i4
        simp only at i4
        exact ⟨n, by omega, q.2.1, q.2.2, μ', Nat.le_trans i1 k4.len, hwq.2, i3.mono hwq.1, i4, k1.trans i5, k2.trans i6, k3, i8.trans k4⟩
      | exit id =>
        rw [hq] at i4; simp only at i4; injection i4 with i4; subst i4
        exact hQ a' w' μ' (k1.trans i5) (k2.trans i6) k3 (i8.trans k4)
      | ret =>
        rw [hq] at i4; simp only at i4; injection i4 with i4; subst i4
        exact hQ a' w' μ' (k1.trans i5) (k2.trans i6) k3 (i8.trans k4)
  | exit id => intro e h r μ w a Q hfl hws hg hev hok hm' R he hQ; simp [evCode] at hev; subst hev; exact wp_exit (hQ a w μ rfl rfl he (.refl R))
  | ret => intro e h r μ w a Q hfl hws hg hev hok hm' R he hQ; simp [evCode] at hev; subst hev; exact wp_ret (hQ a w μ rfl rfl he (.refl R))
  | label l => intro e h r μ w a Q hfl hws hg hev hok hm' R he hQ; simp [evCode] at hev; subst hev; exact wp_label (hQ a w μ rfl rfl he (.refl R))
  | rangeFunc _ _ _ _ _ _ => intro e h r μ w a Q hfl hws hg hev; simp [evCode] at hev
  | scope _ _ => intro e h r μ w a Q hfl hws hg hev; simp [evCode] at hev
  | goto _ => intro e h r μ w a Q hfl hws hg hev; simp [evCode] at hev
  | refuse _ => intro e h r μ w a Q hfl hws hg hev; simp [evCode] at hev

/-! ### results -/

theorem resultA_run {μ : Pl} {w : World} {h : AH} {e : Env} {tmps : Array Value} (R : Rel cf n0 μ w h) (he : ER μ e tmps) {x : ResultVar} {v : AV} (hv : resultA P e h x = some v) :
    ∃ u, ((match x with
      | .tmp t => (pure (tmps.getD t undef) : Sem Value)
      | .cell a t => do loadVar t (← asAddr (tmps.getD a undef)))).run P w = .ok u w ∧ VA μ v u := by
  cases x with
  | tmp t =>
    obtain ⟨u, h1, h2⟩ := he t v hv
    exact ⟨u, by simp [Array.getD_eq_getD_getElem?, h1], h2⟩
  | cell a t =>
    simp only [resultA] at hv
    obtain ⟨p, h1, hv⟩ := Option.bind_eq_some_iff.1 hv
    split at hv
    · rename_i i off
      obtain ⟨u, h2, h3⟩ := he a _ h1
      obtain ⟨b, o, e', hi, rfl⟩ := ptrInv h3.inv_c
      obtain ⟨q, q1, q2⟩ := load_run (P := P) R hi hv
      exact ⟨q, by simp [Array.getD_eq_getD_getElem?, h2, asAddr, Sem.run_bind, q1], q2⟩
    · simp at hv

theorem resultsA_run {μ : Pl} {w : World} {h : AH} {e : Env} {tmps : Array Value} (R : Rel cf n0 μ w h) (he : ER μ e tmps) : ∀ {l : List ResultVar} {vs : List AV}, resultsA P e h l = some vs →
    ∃ us : List Value, (l.mapM (m := Sem) fun (x : ResultVar) => match x with
      | .tmp t => (pure (tmps.getD t undef) : Sem Value)
      | .cell a t => do loadVar t (← asAddr (tmps.getD a undef))).run P w = .ok us w ∧ VAs μ vs us
  | [], vs, hv => by simp [resultsA] at hv; subst hv; exact ⟨[], by simp, .nil⟩
  | x :: r, vs, hv => by
    simp only [resultsA, Option.bind_eq_some_iff, Option.map_eq_some_iff] at hv
    obtain ⟨v, h1, l, h2, rfl⟩ := hv
    obtain ⟨u, k1, k2⟩ := resultA_run R he h1
    obtain ⟨us, k3, k4⟩ := resultsA_run R he h2
    refine ⟨u :: us, ?_, .cons _ _ _ _ k2 k4⟩
    rw [List.mapM_cons]
    simp only [Sem.run_bind, Sem.run_pure]
    rw [k1]
    simp only [Result.andThen_ok]
    rw [k3]
    rfl

/-- The value of a list of results. -/
def tupV (us : List Value) : Value := match us with
  | [u] => u
  | us => .tuple us.toArray

theorem tup_rel {μ : Pl} {vs : List AV} {us : List Value} (h : VAs μ vs us) : VA μ (tupA vs) (tupV us) := by
  cases h with
  | nil => exact .tup _ _ .nil
  | cons a v l ws h1 h2 =>
    cases h2 with
    | nil => exact h1
    | cons b u l' ws' h3 h4 => exact .tup _ _ (.cons _ _ _ _ h1 (.cons _ _ _ _ h3 h4))

theorem results_run {μ : Pl} {w : World} {h : AH} {e : Env} {tmps : Array Value} (R : Rel cf n0 μ w h) (he : ER μ e tmps) {fn : Func} {vs : List AV} (hv : resultsA P e h fn.results.toList = some vs) :
    ∃ us : List Value, (results fn tmps).run P w = .ok (tupV us) w ∧ VAs μ vs us := by
  obtain ⟨us, h1, h2⟩ := resultsA_run R he hv
  refine ⟨us, ?_, h2⟩
  unfold results
  rw [Array.mapM_eq_mapM_toList]
  simp only [Sem.run_bind, Sem.run_map]
  erw [h1]
  simp only [Result.andThen_ok, Sem.run_pure]
  congr 1
  cases us with
  | nil => rfl
  | cons u us => cases us <;> rfl
end
end Go.Eng
end
section
/- The engine: what a call leaves. No conditions. -/
namespace Go.Eng

mutual
theorem CV.wf_below {n : Nat} : ∀ (a : CV), a.isBelow n = true → a.wf n = true
  | .sl _ _ _ _, h => h
  | .sn _ _ _ _, h => h
  | .ptr _ _, h => h
  | .fn _ _ _, h => by simp [CV.isBelow] at h
  | .bool _, _ => rfl
  | .int _ _, _ => rfl
  | .str _, _ => rfl
  | .nil, _ => rfl
  | .em, _ => rfl
end

theorem AV.wf_below {n : Nat} {a : AV} (h : a.isBelow n = true) : a.wf n = true := by
  cases a with
  | c v => exact CV.wf_below v h
  | agg cs => exact (wfs_iff n cs).2 fun c hc => CV.wf_below c (List.all_eq_true.1 h c hc)
  | tup vs => simp [AV.isBelow] at h
  | np => rfl

theorem take_same {n : Nat} {h h1 : AH} (hn : n = h.length) (hp : Pre n h h1) : h1.take n = h := by
  refine List.ext_getElem? fun i => ?_
  by_cases hi : i < n
  · rw [List.getElem?_take_of_lt hi]; exact hp.2 i hi (by omega)
  · rw [List.getElem?_take_eq_none (by omega), List.getElem?_eq_none (by omega)]

/-- Where the packed objects lie: source, block, place, room. -/
abbrev PL := List (Option (Nat × Nat × Nat × Nat))

def muP (n : Nat) (μ : Pl) (pl : PL) : Pl := fun i => if i < n then μ i else ((pl[i - n]?).getD none).map (·.2)

theorem muP_le {n : Nat} {μ : Pl} (pl l : PL) : Pl.le (muP n μ pl) (muP n μ (pl ++ l)) := fun i p hp => by
  unfold muP at *
  split
  · rename_i h; rw [if_pos h] at hp; exact hp
  · rename_i h
    rw [if_neg h] at hp
    cases hq : pl[i - n]? with
    | none => rw [hq] at hp; simp at hp
    | some q =>
      have hl := (List.getElem?_eq_some_iff.1 hq).1
      rw [List.getElem?_append_left hl]; exact hp

structure PInv (n n0 : Nat) (μ : Pl) (w : World) (h1 : AH) (pl : PL) (acc : List AO) (hc : AH) : Prop where
  len : pl.length = acc.length
  told : ∀ (k i b o e : Nat), pl[k]? = some (some (i, b, o, e)) → ∃ o' e', n ≤ i ∧ μ i = some (b, o', e') ∧ o + e ≤ o' + e' ∧ Live h1 i ∧ hc[i]? = some .dead ∧
    ∀ x, acc[k]? = some x → x.cells.length ≤ e ∧ ∀ (c : Nat) (a : CV), x.cells[c]? = some a → ∃ v, w.cell? ⟨b, o + c, none⟩ = some v ∧ (∀ μ', VC μ' a v) ∧ a.wf 0 = true
  apart : ∀ (k k' : Nat) (p p' : Nat × Nat × Nat × Nat), k < k' → pl[k]? = some (some p) → pl[k']? = some (some p') → p.1 ≠ p'.1
  sub : ∀ i, i < h1.length → hc[i]? = h1[i]? ∨ hc[i]? = some .dead
  hlen : hc.length = h1.length
  acc : ∀ x ∈ acc, ∀ c ∈ x.cells, c.wf 0 = true

theorem ints_any {μ : Pl} {k : IntKind} {l : List Int} {c : Nat} {a : CV} {v : Value} (ha : (AO.ints k l).cells[c]? = some a) (hv : VC μ a v) : (∀ μ', VC μ' a v) ∧ a.wf 0 = true := by
  simp only [AO.cells, List.getElem?_map, Option.map_eq_some_iff] at ha
  obtain ⟨n, _, rfl⟩ := ha
  rw [intInv hv]
  exact ⟨fun μ' => .int _ _, rfl⟩

section
variable {cf : Cfg} {n n0 : Nat} {μ : Pl} {w : World} {h1 : AH}

theorem packC_sound (R : Rel cf n0 μ w h1) (hn0 : n0 ≤ n) {v v' : CV} {hc hc' : AH} {ks ks' : List IntKind} {acc acc' : List AO} {pl : PL} {u : Value} (hp : packC n v hc ks acc = some (v', hc', ks', acc')) (hv : VC μ v u) (I : PInv n n0 μ w h1 pl acc hc) :
    ∃ l, PInv n n0 μ w h1 (pl ++ l) acc' hc' ∧ VC (muP n μ (pl ++ l)) v' u ∧ v'.wf (n + acc'.length) = true := by
  unfold packC at hp
  split at hp
  · rename_i k ks
    injection hp with hp; injection hp with e1 e2; injection e2 with e2 e3; injection e3 with e3 e4; subst e1; subst e2; subst e3; subst e4
    cases hv
    refine ⟨[none], ⟨by simp [I.len], fun q i b o e hq => ?_, fun q q' p p' hlt hq hq' => ?_, I.sub, I.hlen, fun x hx c hcc => ?_⟩, .sz _ _ _ _, by simp [CV.wf]⟩
    · have hql : q < pl.length := by
        rcases Nat.lt_or_ge q pl.length with h | h
        · exact h
        · rw [List.getElem?_append_right h] at hq
          cases hqq : q - pl.length with
          | zero => rw [hqq] at hq; simp at hq
          | succ m => rw [hqq] at hq; simp at hq
      rw [List.getElem?_append_left hql] at hq
      obtain ⟨o', e', a1, a2, a3, a4, a5, a6⟩ := I.told q i b o e hq
      exact ⟨o', e', a1, a2, a3, a4, a5, fun x hx => a6 x (by rw [List.getElem?_append_left (by rw [← I.len]; exact hql)] at hx; exact hx)⟩
    · have hql' : q' < pl.length := by
        rcases Nat.lt_or_ge q' pl.length with h | h
        · exact h
        · rw [List.getElem?_append_right h] at hq'
          cases hqq : q' - pl.length with
          | zero => rw [hqq] at hq'; simp at hq'
          | succ m => rw [hqq] at hq'; simp at hq'
      rw [List.getElem?_append_left (by omega)] at hq
      rw [List.getElem?_append_left hql'] at hq'
      exact I.apart q q' p p' hlt hq hq'
    · simp at hx
      rcases hx with hx | rfl
      · exact I.acc x hx c hcc
      · simp [AO.cells] at hcc
  · rename_i i off len sz k ks
    split at hp
    · rename_i hcd
      obtain ⟨hni, rfl⟩ := hcd
      obtain ⟨x, k1, hp⟩ := Option.bind_eq_some_iff.1 hp
      obtain ⟨y, k2, hp⟩ := Option.bind_eq_some_iff.1 hp
      split at hp
      · rename_i k' l
        split at hp
        · rename_i hkk; subst hkk
          injection hp with hp; injection hp with e1 e2; injection e2 with e2 e3; injection e3 with e3 e4; subst e1; subst e2; subst e3; subst e4
          obtain ⟨s1, s2, s3, _⟩ := sub_cells k2
          have hil : i < h1.length := by rw [← I.hlen]; exact (List.getElem?_eq_some_iff.1 k1).1
          have hx1 : h1[i]? = some x := by
            rcases I.sub i hil with h | h
            · rw [← h]; exact k1
            · rw [k1] at h; cases h; exact absurd rfl s3
          have hlen : (AO.ints k l).cells.length = len := by rw [s1]; simp; omega
          have hacc : ∀ x ∈ acc ++ [AO.ints k l], ∀ c ∈ x.cells, c.wf 0 = true := fun x hx c hcc => by
            simp at hx
            rcases hx with hx | rfl
            · exact I.acc x hx c hcc
            · simp only [AO.cells, List.mem_map] at hcc
              obtain ⟨q, _, rfl⟩ := hcc; rfl
          have hsub : ∀ j, j < h1.length → (hc.set i .dead)[j]? = h1[j]? ∨ (hc.set i .dead)[j]? = some .dead := fun j hj => by
            by_cases e : j = i
            · subst e; rw [List.getElem?_set_self (by rw [I.hlen]; exact hj)]; exact .inr rfl
            · rw [List.getElem?_set_ne (Ne.symm e)]; exact I.sub j hj
          have hdead : ∀ j, hc[j]? = some AO.dead → (hc.set i AO.dead)[j]? = some AO.dead := fun j hj => by
            by_cases e : j = i
            · subst e; rw [List.getElem?_set_self (by rw [I.hlen]; exact hil)]
            · rw [List.getElem?_set_ne (Ne.symm e)]; exact hj
          have oldtold : ∀ (q : PL), ∀ (k' i' b o e : Nat), k' < pl.length → (pl ++ q)[k']? = some (some (i', b, o, e)) → ∃ o' e', n ≤ i' ∧ μ i' = some (b, o', e') ∧ o + e ≤ o' + e' ∧ Live h1 i' ∧ (hc.set i .dead)[i']? = some .dead ∧
              ∀ x, (acc ++ [AO.ints k l])[k']? = some x → x.cells.length ≤ e ∧ ∀ (c : Nat) (a : CV), x.cells[c]? = some a → ∃ v, w.cell? ⟨b, o + c, none⟩ = some v ∧ (∀ μ', VC μ' a v) ∧ a.wf 0 = true := fun q k' i' b o e hk' hq => by
            rw [List.getElem?_append_left hk'] at hq
            obtain ⟨o', e', a1, a2, a3, a4, a5, a6⟩ := I.told k' i' b o e hq
            exact ⟨o', e', a1, a2, a3, a4, hdead _ a5, fun x hx => a6 x (by rw [List.getElem?_append_left (by rw [← I.len]; exact hk')] at hx; exact hx)⟩
          rcases slInv hv with ⟨b, o, e, cap, hi, hl, he, rfl⟩ | ⟨rfl, p, rfl⟩
          · refine ⟨[some (i, b, o + off, e - off)], ⟨by simp [I.len], fun k' i' b' o' e' hq => ?_, fun q q' p p' hlt hq hq' => ?_, hsub, by simp [I.hlen], hacc⟩, ?_, by simp [CV.wf]⟩
            · by_cases hk' : k' < pl.length
              · exact oldtold _ k' i' b' o' e' hk' hq
              · rw [List.getElem?_append_right (by omega)] at hq
                cases hqq : k' - pl.length with
                | succ m => rw [hqq] at hq; simp at hq
                | zero =>
                  rw [hqq] at hq; simp at hq
                  obtain ⟨rfl, rfl, rfl, rfl⟩ := hq
                  refine ⟨o, e, hni, hi, by omega, fun hd => by rw [hx1] at hd; cases hd; exact s3 rfl, by rw [List.getElem?_set_self (by rw [I.hlen]; exact hil)], fun x' hx' => ?_⟩
                  rw [List.getElem?_append_right (by rw [← I.len]; omega), ← I.len, hqq] at hx'
                  simp at hx'; subst hx'
                  refine ⟨by rw [hlen]; omega, fun c a ha => ?_⟩
                  obtain ⟨vs, v1, v2, v3⟩ := window R hi hx1 k2
                  obtain ⟨z, z1, z2⟩ := v2.get c a ha
                  exact ⟨z, v3 c z z1, ints_any ha z2⟩
            · by_cases hql' : q' < pl.length
              · rw [List.getElem?_append_left (by omega)] at hq
                rw [List.getElem?_append_left hql'] at hq'
                exact I.apart q q' p p' hlt hq hq'
              · rw [List.getElem?_append_right (by omega)] at hq'
                cases hqq : q' - pl.length with
                | succ m => rw [hqq] at hq'; simp at hq'
                | zero =>
                  rw [hqq] at hq'; simp at hq'
                  rw [List.getElem?_append_left (by omega)] at hq
                  obtain ⟨p1, p2, p3, p4⟩ := p
                  obtain ⟨o', e', a1, a2, a3, a4, a5, a6⟩ := I.told q p1 p2 p3 p4 hq
                  intro e
                  rw [← hq'] at e
                  simp only at e
                  rw [e, k1] at a5; cases a5; exact s3 rfl
            · have := VC.sl (μ := muP n μ (pl ++ [some (i, b, o + off, e - off)])) (n + acc.length) 0 len 1 b (o + off) (e - off) cap (by
                unfold muP
                rw [if_neg (by omega), show n + acc.length - n = pl.length by rw [I.len]; omega, List.getElem?_append_right (Nat.le_refl _)]
                simp) hl (by omega)
              simpa using this
          · refine ⟨[none], ⟨by simp [I.len], fun k' i' b' o' e' hq => ?_, fun q q' p p' hlt hq hq' => ?_, hsub, by simp [I.hlen], hacc⟩, .sz _ _ _ _, by simp [CV.wf]⟩
            · by_cases hk' : k' < pl.length
              · exact oldtold _ k' i' b' o' e' hk' hq
              · rw [List.getElem?_append_right (by omega)] at hq
                cases hqq : k' - pl.length with
                | succ m => rw [hqq] at hq; simp at hq
                | zero => rw [hqq] at hq; simp at hq
            · by_cases hql' : q' < pl.length
              · rw [List.getElem?_append_left (by omega)] at hq
                rw [List.getElem?_append_left hql'] at hq'
                exact I.apart q q' p p' hlt hq hq'
              · rw [List.getElem?_append_right (by omega)] at hq'
                cases hqq : q' - pl.length with
                | succ m => rw [hqq] at hq'; simp at hq'
                | zero => rw [hqq] at hq'; simp at hq'
        · simp at hp
      · simp at hp
    · simp at hp
  · injection hp with hp; injection hp with e1 e2; injection e2 with e2 e3; injection e3 with e3 e4; subst e1; subst e2; subst e3; subst e4
    cases hv
    exact ⟨[], by simpa using I, .bool _, rfl⟩
  · injection hp with hp; injection hp with e1 e2; injection e2 with e2 e3; injection e3 with e3 e4; subst e1; subst e2; subst e3; subst e4
    rw [intInv hv]
    exact ⟨[], by simpa using I, .int _ _, rfl⟩
  · injection hp with hp; injection hp with e1 e2; injection e2 with e2 e3; injection e3 with e3 e4; subst e1; subst e2; subst e3; subst e4
    cases hv
    exact ⟨[], by simpa using I, .str _, rfl⟩
  · simp at hp

theorem packCs_sound (R : Rel cf n0 μ w h1) (hn0 : n0 ≤ n) : ∀ {vs vs' : List CV} {hc hc' : AH} {ks ks' : List IntKind} {acc acc' : List AO} {pl : PL} {us : List Value}, packCs n vs hc ks acc = some (vs', hc', ks', acc') → VCs μ vs us → PInv n n0 μ w h1 pl acc hc →
    ∃ l, PInv n n0 μ w h1 (pl ++ l) acc' hc' ∧ VCs (muP n μ (pl ++ l)) vs' us ∧ CV.wfs (n + acc'.length) vs' = true ∧ acc.length ≤ acc'.length
  | [], vs', hc, hc', ks, ks', acc, acc', pl, us, hp, hv, I => by
    simp only [packCs] at hp
    injection hp with hp; injection hp with e1 e2; injection e2 with e2 e3; injection e3 with e3 e4; subst e1; subst e2; subst e3; subst e4
    cases hv
    exact ⟨[], by simpa using I, .nil, rfl, Nat.le_refl _⟩
  | v :: r, vs', hc, hc', ks, ks', acc, acc', pl, us, hp, hv, I => by
    simp only [packCs, Option.bind_eq_some_iff, Option.map_eq_some_iff] at hp
    obtain ⟨⟨x, hx, kx, ax⟩, p1, ⟨y, hy, ky, ay⟩, p2, hp⟩ := hp
    injection hp with e1 e2; injection e2 with e2 e3; injection e3 with e3 e4; subst e1; subst e2; subst e3; subst e4
    cases hv with
    | cons _ u _ us hu ht =>
      obtain ⟨l, I1, k1, k2⟩ := packC_sound R hn0 p1 hu I
      obtain ⟨l', I2, k3, k4, k5⟩ := packCs_sound R hn0 p2 ht I1
      have la : acc.length ≤ ax.length := by
        have a := I.len; have b := I1.len; simp at b; omega
      refine ⟨l ++ l', by rw [← List.append_assoc]; exact I2, ?_, ?_, by simp only at k5; omega⟩
      · rw [← List.append_assoc]; exact .cons _ _ _ _ (k1.mono (muP_le _ _)) k3
      · simp only [CV.wfs, Bool.and_eq_true]
        exact ⟨CV.wf_mono (by simp only at k5; omega) _ k2, k4⟩

theorem packV_sound (R : Rel cf n0 μ w h1) (hn0 : n0 ≤ n) {v v' : AV} {hc hc' : AH} {ks ks' : List IntKind} {acc acc' : List AO} {pl : PL} {u : Value} (hp : packV n v hc ks acc = some (v', hc', ks', acc')) (hv : VA μ v u) (I : PInv n n0 μ w h1 pl acc hc) :
    ∃ l, PInv n n0 μ w h1 (pl ++ l) acc' hc' ∧ VA (muP n μ (pl ++ l)) v' u ∧ v'.wf (n + acc'.length) = true ∧ acc.length ≤ acc'.length := by
  cases v with
  | c v =>
    simp only [packV, Option.map_eq_some_iff] at hp
    obtain ⟨⟨x, hx, kx, ax⟩, p1, hp⟩ := hp
    injection hp with e1 e2; injection e2 with e2 e3; injection e3 with e3 e4; subst e1; subst e2; subst e3; subst e4
    obtain ⟨l, I1, k1, k2⟩ := packC_sound R hn0 p1 hv.inv_c I
    have a := I.len; have b := I1.len; simp at b
    exact ⟨l, I1, .c _ _ k1, k2, by omega⟩
  | agg cs =>
    simp only [packV, Option.map_eq_some_iff] at hp
    obtain ⟨⟨x, hx, kx, ax⟩, p1, hp⟩ := hp
    injection hp with e1 e2; injection e2 with e2 e3; injection e3 with e3 e4; subst e1; subst e2; subst e3; subst e4
    obtain ⟨us, rfl, hus⟩ := hv.inv_agg
    obtain ⟨l, I1, k1, k2, k3⟩ := packCs_sound R hn0 p1 hus I
    exact ⟨l, I1, .agg _ _ k1, k2, k3⟩
  | tup vs => simp [packV] at hp
  | np => simp [packV] at hp

theorem packVs_sound (R : Rel cf n0 μ w h1) (hn0 : n0 ≤ n) : ∀ {vs vs' : List AV} {hc hc' : AH} {ks ks' : List IntKind} {acc acc' : List AO} {pl : PL} {us : List Value}, packVs n vs hc ks acc = some (vs', hc', ks', acc') → VAs μ vs us → PInv n n0 μ w h1 pl acc hc →
    ∃ l, PInv n n0 μ w h1 (pl ++ l) acc' hc' ∧ VAs (muP n μ (pl ++ l)) vs' us ∧ AV.wfs (n + acc'.length) vs' = true ∧ acc.length ≤ acc'.length
  | [], vs', hc, hc', ks, ks', acc, acc', pl, us, hp, hv, I => by
    simp only [packVs] at hp
    injection hp with hp; injection hp with e1 e2; injection e2 with e2 e3; injection e3 with e3 e4; subst e1; subst e2; subst e3; subst e4
    cases hv
    exact ⟨[], by simpa using I, .nil, rfl, Nat.le_refl _⟩
  | v :: r, vs', hc, hc', ks, ks', acc, acc', pl, us, hp, hv, I => by
    simp only [packVs, Option.bind_eq_some_iff, Option.map_eq_some_iff] at hp
    obtain ⟨⟨x, hx, kx, ax⟩, p1, ⟨y, hy, ky, ay⟩, p2, hp⟩ := hp
    injection hp with e1 e2; injection e2 with e2 e3; injection e3 with e3 e4; subst e1; subst e2; subst e3; subst e4
    cases hv with
    | cons _ u _ us hu ht =>
      obtain ⟨l, I1, k1, k2, k2'⟩ := packV_sound R hn0 p1 hu I
      obtain ⟨l', I2, k3, k4, k5⟩ := packVs_sound R hn0 p2 ht I1
      refine ⟨l ++ l', by rw [← List.append_assoc]; exact I2, ?_, ?_, by simp only at k5 k2'; omega⟩
      · rw [← List.append_assoc]; exact .cons _ _ _ _ (k1.mono (muP_le _ _)) k3
      · simp only [AV.wfs, Bool.and_eq_true]
        exact ⟨AV.wf_mono (by simp only at k5; omega) _ k2, k4⟩

theorem wfs_tup {n : Nat} {vs : List AV} (h : AV.wfs n vs = true) : (tupA vs).wf n = true := by
  unfold tupA
  split
  · simpa [AV.wfs] using h
  · exact h

/-- What is left of a call. -/
theorem leave_sound {fl : Nat} {μ0 : Pl} {w0 : World} {h : AH} (hn : n0 ≤ fl) (hh : WfH h) (hg : WfG cf h.length) (s : Step cf n0 fl μ0 w0 h μ w h1) (hpre : Pre fl h h1) {m : PM} {vs : List AV} {us : List Value} {v : AV} {h' : AH} (hl : leave m fl h.length vs h1 = some (v, h')) (hv : VAs μ vs us) :
    ∃ μ', VA μ' v (tupV us) ∧ Step cf n0 fl μ0 w0 h μ' w h' := by
  unfold leave at hl
  split at hl
  rotate_right
  · simp at hl
  · injection hl with hl; injection hl with e1 e2; subst e1; subst e2
    exact ⟨μ, tup_rel hv, s⟩
  · split at hl
    · rename_i hc
      obtain ⟨hf, hb⟩ := hc
      subst hf
      injection hl with hl; injection hl with e1 e2; subst e1; subst e2
      rw [take_same rfl hpre]
      have same : ∀ i, i < h.length → h1[i]? = h[i]? := fun i hi => hpre.2 i hi hi
      have hwv : AV.wfs h.length vs = true := (awfs_iff _ _).2 fun a ha => AV.wf_below (List.all_eq_true.1 hb a ha)
      refine ⟨fun i => if i < h.length then μ i else none, AV.wf_of (tup_rel hv) (wfs_tup hwv), ⟨s.rel.restrict s.len same hh hg, Nat.le_refl _, fun i hi => by rw [if_pos hi]; exact s.ext i hi, fun _ _ x => x, fun _ _ _ => rfl, fun i p hi hp => ?_, s.os, s.tape, s.out, s.size, s.frame⟩⟩
      rw [if_neg (by omega)] at hp; simp at hp
    · simp at hl
  · split at hl
    · rename_i hf
      subst hf
      obtain ⟨⟨r, rh, rk, ra⟩, p1, hl⟩ := Option.bind_eq_some_iff.1 hl
      simp only at hl
      split at hl
      · injection hl with hl; injection hl with e1 e2; subst e1; subst e2
        rw [take_same rfl hpre]
        have R := s.rel
        have same : ∀ i, i < h.length → h1[i]? = h[i]? := fun i hi => hpre.2 i hi hi
        obtain ⟨l, I, k1, k2, _⟩ := packVs_sound R hn p1 hv (pl := []) (n := h.length) ⟨rfl, fun k i b o e hk => by simp at hk, fun k k' p p' _ hk => by simp at hk, fun i _ => .inl rfl, rfl, fun x hx => by simp at hx⟩
        simp only [List.nil_append] at I k1
        have Rr := R.restrict s.len same hh hg
        have un : ∀ {i p}, muP h.length μ l i = some p → (i < h.length ∧ μ i = some p) ∨ (h.length ≤ i ∧ ∃ q, l[i - h.length]? = some (some q) ∧ p = q.2) := fun {i p} hp => by
          unfold muP at hp
          split at hp
          · rename_i hi; exact .inl ⟨hi, hp⟩
          · rename_i hi
            cases hq : l[i - h.length]? with
            | none => rw [hq] at hp; simp at hp
            | some q =>
              rw [hq] at hp
              cases q with
              | none => simp at hp
              | some q => simp at hp; exact .inr ⟨by omega, q, rfl, hp.symm⟩
        have le : Pl.le (fun i => if i < h.length then μ i else none) (muP h.length μ l) := fun i p hp => by
          simp only at hp
          split at hp
          · rename_i hi; unfold muP; rw [if_pos hi]; exact hp
          · simp at hp
        have lold : ∀ i, i < h.length → Live (h ++ ra) i → Live h1 i := fun i hi hl => by unfold Live at *; rw [List.getElem?_append_left hi] at hl; rw [same i hi]; exact hl
        refine ⟨muP h.length μ l, tup_rel k1, ⟨⟨fun i p hp => ?_, fun i b o e hp => ?_, fun i b o e hp hn' x hx => ?_, fun i b o e x hp hx => ?_, fun i j p q hij hp hq hn' hli hlj => ?_, fun g a ha => (Rr.glob g a ha).mono le⟩, by simp, fun i hi => ?_, fun i hi hl => ?_, fun i _ hi => by rw [List.getElem?_append_left hi], fun i p hi hp => ?_, s.os, s.tape, s.out, s.size, s.frame⟩⟩
        · rcases un hp with ⟨hi, _⟩ | ⟨hi, q, hq, _⟩
          · simp; omega
          · have := (List.getElem?_eq_some_iff.1 hq).1
            have := I.len
            simp; omega
        · rcases un hp with ⟨hi, hp⟩ | ⟨hi, ⟨q1, q2, q3, q4⟩, hq, e1⟩
          · exact R.blk i b o e hp
          · simp only [Prod.mk.injEq] at e1
            obtain ⟨rfl, rfl, rfl⟩ := e1
            obtain ⟨o', e', a1, a2, a3, _⟩ := I.told _ q1 _ _ _ hq
            obtain ⟨cs, t, fz, b1, b2⟩ := R.blk q1 _ o' e' a2
            exact ⟨cs, t, fz, b1, by omega⟩
        · rcases un hp with ⟨hi, hp⟩ | ⟨hi, ⟨q1, q2, q3, q4⟩, hq, e1⟩
          · exact R.frz i b o e hp hn' x hx
          · simp only [Prod.mk.injEq] at e1
            obtain ⟨rfl, rfl, rfl⟩ := e1
            obtain ⟨o', e', a1, a2, a3, _⟩ := I.told _ q1 _ _ _ hq
            exact R.frz q1 _ o' e' a2 (by omega) x (by omega)
        · rcases un hp with ⟨hi, hp⟩ | ⟨hi, ⟨q1, q2, q3, q4⟩, hq, e1⟩
          · rw [List.getElem?_append_left hi] at hx
            obtain ⟨v1, v2⟩ := Rr.val i b o e x (by rw [if_pos hi]; exact hp) hx
            refine ⟨v1, fun c a ha => ?_⟩
            obtain ⟨v, z1, z2⟩ := v2 c a ha
            exact ⟨v, z1, z2.mono le⟩
          · simp only [Prod.mk.injEq] at e1
            obtain ⟨rfl, rfl, rfl⟩ := e1
            obtain ⟨o', e', a1, a2, a3, a4, a5, a6⟩ := I.told _ q1 _ _ _ hq
            rw [List.getElem?_append_right hi] at hx
            obtain ⟨v1, v2⟩ := a6 x hx
            refine ⟨v1, fun c a ha => ?_⟩
            obtain ⟨v, z1, z2, _⟩ := v2 c a ha
            exact ⟨v, z1, z2 _⟩
        · rcases un hp with ⟨hi, hp⟩ | ⟨hi, ⟨p1, p2, p3, p4⟩, hp', e1⟩
          · rcases un hq with ⟨hj, hq⟩ | ⟨hj, ⟨q1, q2, q3, q4⟩, hq', e2⟩
            · exact R.sep i j p q hij hp hq hn' (lold i hi hli) (lold j hj hlj)
            · subst e2
              obtain ⟨o', e', a1, a2, a3, a4, _⟩ := I.told _ q1 q2 q3 q4 hq'
              exact R.sep i q1 p (q2, o', e') (by omega) hp a2 (by omega) (lold i hi hli) a4
          · subst e1
            obtain ⟨o', e', a1, a2, a3, a4, _⟩ := I.told _ p1 p2 p3 p4 hp'
            rcases un hq with ⟨hj, hq⟩ | ⟨hj, ⟨q1, q2, q3, q4⟩, hq', e2⟩
            · exact R.sep p1 j (p2, o', e') q (by omega) a2 hq hn' a4 (lold j hj hlj)
            · subst e2
              obtain ⟨o2, e2, b1, b2, b3, b4, _⟩ := I.told _ q1 q2 q3 q4 hq'
              have hne : p1 ≠ q1 := by
                rcases Nat.lt_or_gt_of_ne (show i - h.length ≠ j - h.length by omega) with hlt | hlt
                · exact I.apart _ _ _ _ hlt hp' hq'
                · exact fun e => I.apart _ _ _ _ hlt hq' hp' e.symm
              exact R.sep p1 q1 (p2, o', e') (q2, o2, e2) hne a2 b2 (by omega) a4 b4
        · unfold muP; rw [if_pos hi]; exact s.ext i hi
        · unfold Live at *; rwa [List.getElem?_append_left hi] at hl
        · rcases un hp with ⟨hi', _⟩ | ⟨_, ⟨p1, p2, p3, p4⟩, hp', e1⟩
          · omega
          · subst e1
            obtain ⟨o', e', a1, a2, a3, a4, _⟩ := I.told _ p1 p2 p3 p4 hp'
            exact s.new p1 (p2, o', e') a1 a2
      · simp at hl
    · simp at hl

end
end Go.Eng
end
section
/- The engine is sound: what it says a call comes to, the machine's call comes to. No conditions. -/
namespace Go.Eng

theorem packC_wf {n : Nat} {v v' : CV} {hc hc' : AH} {ks ks' : List IntKind} {acc acc' : List AO} (hp : packC n v hc ks acc = some (v', hc', ks', acc')) (ha : ∀ x ∈ acc, ∀ c ∈ x.cells, c.wf 0 = true) :
    v'.wf (n + acc'.length) = true ∧ acc.length ≤ acc'.length ∧ ∀ x ∈ acc', ∀ c ∈ x.cells, c.wf 0 = true := by
  have hi : ∀ (k : IntKind) (l : List Int), ∀ x ∈ acc ++ [AO.ints k l], ∀ c ∈ x.cells, c.wf 0 = true := fun k l x hx c hcc => by
    simp at hx
    rcases hx with hx | rfl
    · exact ha x hx c hcc
    · simp only [AO.cells, List.mem_map] at hcc
      obtain ⟨q, _, rfl⟩ := hcc; rfl
  unfold packC at hp
  split at hp
  · injection hp with hp; injection hp with e1 e2; injection e2 with e2 e3; injection e3 with e3 e4; subst e1; subst e4
    exact ⟨by simp [CV.wf], by simp, hi _ _⟩
  · split at hp
    · obtain ⟨x, k1, hp⟩ := Option.bind_eq_some_iff.1 hp
      obtain ⟨y, k2, hp⟩ := Option.bind_eq_some_iff.1 hp
      split at hp
      · split at hp
        · injection hp with hp; injection hp with e1 e2; injection e2 with e2 e3; injection e3 with e3 e4; subst e1; subst e4
          exact ⟨by simp [CV.wf], by simp, hi _ _⟩
        · simp at hp
      · simp at hp
    · simp at hp
  · injection hp with hp; injection hp with e1 e2; injection e2 with e2 e3; injection e3 with e3 e4; subst e1; subst e4; exact ⟨rfl, Nat.le_refl _, ha⟩
  · injection hp with hp; injection hp with e1 e2; injection e2 with e2 e3; injection e3 with e3 e4; subst e1; subst e4; exact ⟨rfl, Nat.le_refl _, ha⟩
  · injection hp with hp; injection hp with e1 e2; injection e2 with e2 e3; injection e3 with e3 e4; subst e1; subst e4; exact ⟨rfl, Nat.le_refl _, ha⟩
  · simp at hp

theorem packCs_wf {n : Nat} : ∀ {vs vs' : List CV} {hc hc' : AH} {ks ks' : List IntKind} {acc acc' : List AO}, packCs n vs hc ks acc = some (vs', hc', ks', acc') → (∀ x ∈ acc, ∀ c ∈ x.cells, c.wf 0 = true) →
    CV.wfs (n + acc'.length) vs' = true ∧ acc.length ≤ acc'.length ∧ ∀ x ∈ acc', ∀ c ∈ x.cells, c.wf 0 = true
  | [], vs', hc, hc', ks, ks', acc, acc', hp, ha => by
    simp only [packCs] at hp
    injection hp with hp; injection hp with e1 e2; injection e2 with e2 e3; injection e3 with e3 e4; subst e1; subst e4
    exact ⟨rfl, Nat.le_refl _, ha⟩
  | v :: r, vs', hc, hc', ks, ks', acc, acc', hp, ha => by
    simp only [packCs, Option.bind_eq_some_iff, Option.map_eq_some_iff] at hp
    obtain ⟨⟨x, hx, kx, ax⟩, p1, ⟨y, hy, ky, ay⟩, p2, hp⟩ := hp
    injection hp with e1 e2; injection e2 with e2 e3; injection e3 with e3 e4; subst e1; subst e4
    obtain ⟨a1, a2, a3⟩ := packC_wf p1 ha
    obtain ⟨b1, b2, b3⟩ := packCs_wf p2 a3
    simp only at b2 b3
    exact ⟨by simp only [CV.wfs, Bool.and_eq_true]; exact ⟨CV.wf_mono (by omega) _ a1, b1⟩, by omega, b3⟩

theorem packV_wf {n : Nat} {v v' : AV} {hc hc' : AH} {ks ks' : List IntKind} {acc acc' : List AO} (hp : packV n v hc ks acc = some (v', hc', ks', acc')) (ha : ∀ x ∈ acc, ∀ c ∈ x.cells, c.wf 0 = true) :
    v'.wf (n + acc'.length) = true ∧ acc.length ≤ acc'.length ∧ ∀ x ∈ acc', ∀ c ∈ x.cells, c.wf 0 = true := by
  cases v with
  | c v =>
    simp only [packV, Option.map_eq_some_iff] at hp
    obtain ⟨⟨x, hx, kx, ax⟩, p1, hp⟩ := hp
    injection hp with e1 e2; injection e2 with e2 e3; injection e3 with e3 e4; subst e1; subst e4
    exact packC_wf p1 ha
  | agg cs =>
    simp only [packV, Option.map_eq_some_iff] at hp
    obtain ⟨⟨x, hx, kx, ax⟩, p1, hp⟩ := hp
    injection hp with e1 e2; injection e2 with e2 e3; injection e3 with e3 e4; subst e1; subst e4
    exact packCs_wf p1 ha
  | tup vs => simp [packV] at hp
  | np => simp [packV] at hp

theorem packVs_wf {n : Nat} : ∀ {vs vs' : List AV} {hc hc' : AH} {ks ks' : List IntKind} {acc acc' : List AO}, packVs n vs hc ks acc = some (vs', hc', ks', acc') → (∀ x ∈ acc, ∀ c ∈ x.cells, c.wf 0 = true) →
    AV.wfs (n + acc'.length) vs' = true ∧ acc.length ≤ acc'.length ∧ ∀ x ∈ acc', ∀ c ∈ x.cells, c.wf 0 = true
  | [], vs', hc, hc', ks, ks', acc, acc', hp, ha => by
    simp only [packVs] at hp
    injection hp with hp; injection hp with e1 e2; injection e2 with e2 e3; injection e3 with e3 e4; subst e1; subst e4
    exact ⟨rfl, Nat.le_refl _, ha⟩
  | v :: r, vs', hc, hc', ks, ks', acc, acc', hp, ha => by
    simp only [packVs, Option.bind_eq_some_iff, Option.map_eq_some_iff] at hp
    obtain ⟨⟨x, hx, kx, ax⟩, p1, ⟨y, hy, ky, ay⟩, p2, hp⟩ := hp
    injection hp with e1 e2; injection e2 with e2 e3; injection e3 with e3 e4; subst e1; subst e4
    obtain ⟨a1, a2, a3⟩ := packV_wf p1 ha
    obtain ⟨b1, b2, b3⟩ := packVs_wf p2 a3
    simp only at b2 b3
    exact ⟨by simp only [AV.wfs, Bool.and_eq_true]; exact ⟨AV.wf_mono (by omega) _ a1, b1⟩, by omega, b3⟩

theorem leave_wf {fl : Nat} {h h1 : AH} {m : PM} {vs : List AV} {v : AV} {h' : AH} (hh : WfH h) (hw : WfH h1) (hv : AV.wfs h1.length vs = true) (hp : Pre fl h h1) (hl : leave m fl h.length vs h1 = some (v, h')) : WfR v h' := by
  unfold leave at hl
  split at hl
  rotate_right
  · simp at hl
  · injection hl with hl; injection hl with e1 e2; subst e1; subst e2
    exact ⟨wfs_tup hv, hw⟩
  · split at hl
    · rename_i hc
      obtain ⟨hf, hb⟩ := hc
      subst hf
      injection hl with hl; injection hl with e1 e2; subst e1; subst e2
      rw [take_same rfl hp]
      exact ⟨wfs_tup ((awfs_iff _ _).2 fun a ha => AV.wf_below (List.all_eq_true.1 hb a ha)), hh⟩
    · simp at hl
  · split at hl
    · rename_i hf
      subst hf
      obtain ⟨⟨r, rh, rk, ra⟩, p1, hl⟩ := Option.bind_eq_some_iff.1 hl
      simp only at hl
      split at hl
      · injection hl with hl; injection hl with e1 e2; subst e1; subst e2
        rw [take_same rfl hp]
        obtain ⟨a1, a2, a3⟩ := packVs_wf p1 (fun x hx => by simp at hx)
        refine ⟨wfs_tup (by rw [List.length_append]; exact a1), hh.apps fun o ho c hc => CV.wf_mono (Nat.zero_le _) c (a3 o ho c hc)⟩
      · simp at hl
    · simp at hl

theorem get_entry : ∀ (args : List AV) (i t : Nat) (v : AV), get (entry args i) t = some v → i ≤ t ∧ args[t - i]? = some v
  | [], i, t, v, h => by simp [entry, get] at h
  | a :: r, i, t, v, h => by
    simp only [entry, get] at h
    split at h
    · rename_i e; subst e; injection h with h; subst h; simp
    · rename_i e
      obtain ⟨h1, h2⟩ := get_entry r (i + 1) t v h
      refine ⟨by omega, ?_⟩
      rw [show t - i = (t - (i + 1)) + 1 by omega]; simpa using h2

theorem VAs.get {μ : Pl} : ∀ {l : List AV} {vs : List Value}, VAs μ l vs → ∀ (i : Nat) (a : AV), l[i]? = some a → ∃ v, vs[i]? = some v ∧ VA μ a v
  | _, _, .nil, i, a, h => by simp at h
  | _, _, .cons x v l vs hx t, 0, a, h => by simp at h; subst h; exact ⟨v, by simp, hx⟩
  | _, _, .cons x v l vs hx t, i + 1, a, h => by
    obtain ⟨u, h1, h2⟩ := t.get i a (by simpa using h)
    exact ⟨u, by simpa using h1, h2⟩

section
variable {P : Program} {cf : Cfg} {n0 fl : Nat} {call : CallF}

theorem resultsA_wf {e : Env} {h : AH} (hw : WfS e h) : ∀ {l : List ResultVar} {vs : List AV}, resultsA P e h l = some vs → AV.wfs h.length vs = true
  | [], vs, hv => by simp [resultsA] at hv; subst hv; rfl
  | x :: r, vs, hv => by
    simp only [resultsA, Option.bind_eq_some_iff, Option.map_eq_some_iff] at hv
    obtain ⟨v, h1, l, h2, rfl⟩ := hv
    simp only [AV.wfs, Bool.and_eq_true]
    refine ⟨?_, resultsA_wf hw h2⟩
    cases x with
    | tmp t => exact hw.1 t v h1
    | cell a t =>
      simp only [resultA] at h1
      obtain ⟨p, _, h1⟩ := Option.bind_eq_some_iff.1 h1
      split at h1
      · exact loadA_wf hw.2 h1
      · simp at h1

theorem entry_wf {n : Nat} {args : List AV} (h : AV.wfs n args = true) : WfE n (entry args 0) := fun t v ht => by
  obtain ⟨_, h1⟩ := get_entry args 0 t v ht
  exact (awfs_iff _ _).1 h v (List.mem_of_getElem? h1)

theorem runBody_wf (hc : CallWf cf call) (hp : CallPre call) {f : FuncId} {args : List AV} {h : AH} {v : AV} {h' : AH} (hfl : fl ≤ h.length) (hh : WfH h) (ha : AV.wfs h.length args = true) (hg : WfG cf h.length) (hr : runBody P cf call fl f args h = some (v, h')) : WfR v h' := by
  unfold runBody at hr
  obtain ⟨fn, h1, hr⟩ := Option.bind_eq_some_iff.1 hr
  obtain ⟨c, h2, hr⟩ := Option.bind_eq_some_iff.1 hr
  obtain ⟨q, h3, hr⟩ := Option.bind_eq_some_iff.1 hr
  have k := evCode_wf hc hp c _ h q hfl ⟨entry_wf ha, hh⟩ hg h3
  have kp := evCode_pre hp c _ h q hfl h3
  split at hr
  · simp at hr
  · obtain ⟨vs, h4, hr⟩ := Option.bind_eq_some_iff.1 hr
    exact leave_wf hh k.2.2 (resultsA_wf k.2 h4) kp hr

theorem run_wf (P : Program) (cf : Cfg) : ∀ d, CallWf cf (run P cf d)
  | 0, _, _, _, _, _, _, _, _, _, _, hr => by simp [run] at hr
  | d + 1, fl, f, args, h, v, h', hfl, hh, ha, hg, hr => by
    simp only [run] at hr
    split at hr
    · split at hr
      · obtain ⟨l, h1, hr⟩ := Option.map_eq_some_iff.1 hr
        injection hr with a b; subst a; subst b
        exact ⟨by simp [AV.wf, CV.wf], hh.app fun c hc => by simp only [AO.cells, List.mem_map] at hc; obtain ⟨q, _, rfl⟩ := hc; rfl⟩
      · simp at hr
    · exact runBody_wf (run_wf P cf d) (run_pre P cf d) hfl hh ha hg hr

/-- What is looked at of the program. -/
def Static (P : Program) (cf : Cfg) : Prop := ∀ (f : FuncId) (fn : Func) (c : Code), P.funcs[f]? = some fn → fn.body = some c → cf.pack f ≠ .no → codeOk cf f fn.ntmps c = true ∧ (fn.name == "runtime.NumGoroutine") = false

theorem runBody_sound (hm : P.follows .mixedOrders = true) (hst : Static P cf) (hcall : CallOK P cf n0 call) (hpre : CallPre call) (hcw : CallWf cf call) (hn : n0 ≤ fl) {f : FuncId} {args : List AV} {h : AH} {v : AV} {h' : AH} (hfl : fl ≤ h.length) (hh : WfH h) (ha : AV.wfs h.length args = true) (hg : WfG cf h.length)
    (hr : runBody P cf call fl f args h = some (v, h')) {μ : Pl} {w : World} {vs : Array Value} (R : Rel cf n0 μ w h) (hv : VAs μ args vs.toList) :
    (∃ fn, P.funcs[f]? = some fn ∧ fn.body.isNone = false ∧ (fn.name == "runtime.NumGoroutine") = false) ∧ Calls P f vs w (fun en w' => ∃ u μ', en = .returned u ∧ VA μ' v u ∧ Step cf n0 fl μ w h μ' w' h') := by
  unfold runBody at hr
  obtain ⟨fn, h1, hr⟩ := Option.bind_eq_some_iff.1 hr
  obtain ⟨c, h2, hr⟩ := Option.bind_eq_some_iff.1 hr
  obtain ⟨q, h3, hr⟩ := Option.bind_eq_some_iff.1 hr
  have hno : cf.pack f ≠ .no := fun e => by
    rw [e] at hr
    cases hq : q.1 <;> rw [hq] at hr <;> simp [leave] at hr
  obtain ⟨s1, s2⟩ := hst f fn c h1 h2 hno
  have kp := evCode_pre hpre c _ h q hfl h3
  have kw := evCode_wf hcw hpre c _ h q hfl ⟨entry_wf ha, hh⟩ hg h3
  refine ⟨⟨fn, h1, by rw [h2]; rfl, s2⟩, calls_of_wp h1 h2 ?_⟩
  refine evCode_sound hm hcall hpre hcw hn c (m := fn.ntmps) hfl ⟨entry_wf ha, hh⟩ hg h3 s1 (by simp; omega) R (fun t x ht => ?_) fun a' w' μ' k1 k2 k3 k4 => ?_
  · obtain ⟨_, g1⟩ := get_entry args 0 t x ht
    obtain ⟨u, u1, u2⟩ := hv.get t x (by simpa using g1)
    have u1' : vs[t]? = some u := by simpa using u1
    have hlt := (Array.getElem?_eq_some_iff.1 u1').1
    exact ⟨u, by simp only []; rw [Array.getElem?_append_left hlt]; exact u1', u2⟩
  · have fin : ∀ vs', resultsA P q.2.1 q.2.2 fn.results.toList = some vs' → leave (cf.pack f) fl h.length vs' q.2.2 = some (v, h') →
        a'.defers = [] ∧ ∃ u, (results fn a'.tmps).run P w' = .ok u w' ∧ ∃ u' μ'', Ending.returned u = .returned u' ∧ VA μ'' v u' ∧ Step cf n0 fl μ w h μ'' w' h' := fun vs' r1 r2 => by
      obtain ⟨us, x1, x2⟩ := results_run (P := P) k4.rel k3 (fn := fn) r1
      obtain ⟨μ'', y1, y2⟩ := leave_sound hn hh hg k4 kp r2 x2
      exact ⟨by rw [k2], _, x1, _, μ'', rfl, y1, y2⟩
    cases hq : q.1 with
    | exit id => rw [hq] at hr; simp at hr
    | norm =>
      rw [hq] at hr
      simp only at hr
      obtain ⟨vs', r1, r2⟩ := Option.bind_eq_some_iff.1 hr
      exact fin vs' r1 r2
    | ret =>
      rw [hq] at hr
      simp only at hr
      obtain ⟨vs', r1, r2⟩ := Option.bind_eq_some_iff.1 hr
      exact fin vs' r1 r2

/-- A function that copies a slice of whole numbers, whether it is nil or not. -/
def CloneOK (P : Program) (cf : Cfg) : Prop := ∀ f k, cf.clone f = some k → ∀ (call : CallF) (h : AH),
  runBody P cf call h.length f [.c .nil] h = some (.c (.sl h.length 0 0 1), h ++ [.ints k []]) ∧
  ∀ (i off len : Nat) (l : List Int), rdI k h (.sn i off len 1) = some l → l.length ≤ 1000000000000 → runBody P cf call h.length f [.c (.sn i off len 1)] h = some (.c (.sl h.length 0 l.length 1), h ++ [.ints k l])

theorem run_sound (hm : P.follows .mixedOrders = true) (hst : Static P cf) (hcl : CloneOK P cf) : ∀ d, CallOK P cf n0 (run P cf d)
  | 0, _, _, _, _, _, _, _, _, _, _, _, hr => by simp [run] at hr
  | d + 1, fl, f, args, h, v, h', hn, hfl, hh, ha, hg, hr => by
    intro μ w vs R hv
    simp only [run] at hr
    split at hr
    · rename_i k hk
      split at hr
      · rename_i a
        obtain ⟨l, h1, hr⟩ := Option.map_eq_some_iff.1 hr
        obtain ⟨h1, hlen⟩ := rdC_some h1
        injection hr with e1 e2; subst e1; subst e2
        obtain ⟨c1, c2⟩ := hcl f k hk (run P cf d) h
        have use : ∀ (x : CV) (l' : List Int), runBody P cf (run P cf d) h.length f [.c x] h = some (.c (.sl h.length 0 l'.length 1), h ++ [.ints k l']) → l' = l → x.wf h.length = true → (∀ u, VC μ a u → vs = #[u] → VC μ x u) → (∃ u, vs = #[u] ∧ VC μ a u) →
            (∃ fn, P.funcs[f]? = some fn ∧ fn.body.isNone = false ∧ (fn.name == "runtime.NumGoroutine") = false) ∧ Calls P f vs w (fun en w' => ∃ u μ', en = .returned u ∧ VA μ' (.c (.sl h.length 0 l.length 1)) u ∧ Step cf n0 fl μ w h μ' w' (h ++ [.ints k l])) := fun x l' hx hl hwf hxu ⟨u, hu, hau⟩ => by
          subst hl
          obtain ⟨g1, g2⟩ := runBody_sound (fl := h.length) hm hst (run_sound hm hst hcl d) (run_pre P cf d) (run_wf P cf d) (Nat.le_trans hn hfl) (Nat.le_refl _) hh (by simp [AV.wfs, AV.wf, hwf]) hg hx R (vs := vs) (by rw [hu]; exact .cons _ _ _ _ (.c _ _ (hxu u hau hu)) .nil)
          exact ⟨g1, g2.mono fun en w' ⟨u, μ', a, b, c⟩ => ⟨u, μ', a, b, c.floor hfl⟩⟩
        have hvs : ∃ u, vs = #[u] ∧ VC μ a u := by
          generalize hvl : vs.toList = vl at hv
          cases hv with
          | cons _ u _ us h1 h2 => cases h2; exact ⟨u, by apply Array.ext'; simpa using hvl, h1.inv_c⟩
        have hwa : a.wf h.length = true := by simpa [AV.wfs, AV.wf] using ha
        obtain ⟨u, hu, hau⟩ := hvs
        have hsn : ∀ i off len, rdI k h (.sl i off len 1) = rdI k h (.sn i off len 1) := fun _ _ _ => rfl
        cases a with
        | nil =>
          have : l = [] := by simpa [rdI] using h1.symm
          exact use .nil [] (by simpa using c1) this.symm rfl (fun u h _ => h) ⟨u, hu, hau⟩
        | sl i off len sz =>
          have hsz : sz = 1 := by
            unfold rdI at h1; simp only at h1
            split at h1
            · assumption
            · simp at h1
          subst hsz
          rcases slInv hau with ⟨b, o, e, cap, hi, hl, he, rfl⟩ | ⟨rfl, p, rfl⟩
          · refine use (.sn i off len 1) l (c2 i off len l (by rw [← hsn]; exact h1) hlen) rfl hwa (fun u' h' hu' => ?_) ⟨_, hu, hau⟩
            rw [hu] at hu'
            have : u' = .slice (some ⟨b, o + off, none⟩) len cap := by simpa using hu'.symm
            rw [this]; exact .sn _ _ _ _ b o e cap hi hl he
          · have hl0 : l = [] := by
              unfold rdI at h1
              simp only [if_true] at h1
              obtain ⟨x, q1, h1⟩ := Option.bind_eq_some_iff.1 h1
              obtain ⟨y, q2, h1⟩ := Option.bind_eq_some_iff.1 h1
              have hy := (sub_cells q2).1
              split at h1
              · split at h1
                · injection h1 with h1; subst h1
                  simp [AO.cells] at hy; exact hy
                · simp at h1
              · simp at h1
            cases p with
            | none =>
              refine use .nil [] (by simpa using c1) hl0.symm rfl (fun u' h' hu' => ?_) ⟨_, hu, hau⟩
              rw [hu] at hu'
              have : u' = .slice none 0 0 := by simpa using hu'.symm
              rw [this]; exact .nil
            | some p =>
              refine use (.sn i off 0 1) l (c2 i off 0 l (by rw [← hsn]; exact h1) hlen) rfl hwa (fun u' h' hu' => ?_) ⟨_, hu, hau⟩
              rw [hu] at hu'
              have : u' = .slice (some p) 0 0 := by simpa using hu'.symm
              rw [this]; exact .snz _ _ _ _
        | sn i off len sz =>
          have hsz : sz = 1 := by
            unfold rdI at h1; simp only at h1
            split at h1
            · assumption
            · simp at h1
          subst hsz
          exact use (.sn i off len 1) l (c2 i off len l h1 hlen) rfl hwa (fun u h _ => h) ⟨u, hu, hau⟩
        | em => simp [rdI] at h1
        | bool b => simp [rdI] at h1
        | int k n => simp [rdI] at h1
        | str s => simp [rdI] at h1
        | ptr i off => simp [rdI] at h1
        | fn f a b => simp [rdI] at h1
      · simp at hr
    · exact runBody_sound hm hst (run_sound hm hst hcl d) (run_pre P cf d) (run_wf P cf d) hn hfl hh ha hg hr R hv
end
end Go.Eng
end
section
/- The engine: how code is evaluated by rewriting. No conditions. -/
namespace Go.Eng

inductive Fr where
  | code (c : Code) | blk (id : Nat)

section
variable (P : Program) (cf : Cfg) (call : CallF) (fl : Nat) (f : FuncId)

def K1 : List Fr → Option (AX × Env × AH) → Option (AX × Env × AH)
  | [], r => r
  | .code c :: ks, r => K1 ks (r.bind fun r => match r.1 with | .norm => evCode P cf call fl f c r.2.1 r.2.2 | x => some (x, r.2))
  | .blk id :: ks, r => K1 ks (r.map fun r => match r.1 with | .exit id' => if id' = id then (.norm, r.2) else r | _ => r)

def goC (c : Code) (ks : List Fr) (e : Env) (h : AH) (ok : Bool) : Option (AX × Env × AH) := if ok = true then K1 P cf call fl f ks (evCode P cf call fl f c e h) else none
def goN (x : AX) (ks : List Fr) (e : Env) (h : AH) (ok : Bool) : Option (AX × Env × AH) := if ok = true then K1 P cf call fl f ks (some (x, e, h)) else none
def goO (id : Nat) (ops : Array Oper) (l : List Oper) (ks : List Fr) (e : Env) (h : AH) (ok : Bool) : Option (AX × Env × AH) :=
  if ok = true then K1 P cf call fl f ks ((evOps P cf call fl ops l e h).map fun r => (.norm, keepOnly (cf.keep f id) r.1, r.2)) else none

def lput (dst : Option Nat) (r : Option (AV × AH)) (e : Env) : Env := match dst with
  | some d => (d, r.map (·.1)) :: e
  | none => e
def lheap (r : Option (AV × AH)) (h : AH) : AH := (r.map (·.2)).getD h

def isT (x : Option CV) : Prop := x = some (.bool true)
def isF (x : Option CV) : Prop := x = some (.bool false)
instance (x : Option CV) : Decidable (isT x) := match x with
  | some (.bool true) => .isTrue rfl
  | some (.bool false) => .isFalse (fun h => by cases h)
  | none => .isFalse (fun h => by cases h)
  | some (.int _ _) => .isFalse (fun h => by cases h)
  | some (.str _) => .isFalse (fun h => by cases h)
  | some .nil => .isFalse (fun h => by cases h)
  | some .em => .isFalse (fun h => by cases h)
  | some (.sl _ _ _ _) => .isFalse (fun h => by cases h)
  | some (.sn _ _ _ _) => .isFalse (fun h => by cases h)
  | some (.ptr _ _) => .isFalse (fun h => by cases h)
  | some (.fn _ _ _) => .isFalse (fun h => by cases h)
instance (x : Option CV) : Decidable (isF x) := match x with
  | some (.bool true) => .isFalse (fun h => by cases h)
  | some (.bool false) => .isTrue rfl
  | none => .isFalse (fun h => by cases h)
  | some (.int _ _) => .isFalse (fun h => by cases h)
  | some (.str _) => .isFalse (fun h => by cases h)
  | some .nil => .isFalse (fun h => by cases h)
  | some .em => .isFalse (fun h => by cases h)
  | some (.sl _ _ _ _) => .isFalse (fun h => by cases h)
  | some (.sn _ _ _ _) => .isFalse (fun h => by cases h)
  | some (.ptr _ _) => .isFalse (fun h => by cases h)
  | some (.fn _ _ _) => .isFalse (fun h => by cases h)
theorem isT_bool (b : Bool) : isT (some (.bool b)) = (b = true) := by cases b <;> simp [isT]
theorem isF_bool (b : Bool) : isF (some (.bool b)) = (b = false) := by cases b <;> simp [isF]

theorem K1_none : ∀ ks, K1 P cf call fl f ks none = none
  | [] => rfl
  | .code c :: ks => by simp [K1, K1_none ks]
  | .blk id :: ks => by simp [K1, K1_none ks]

variable (ks : List Fr) (e : Env) (h : AH) (ok : Bool)

theorem goC_seq (a b : Code) : goC P cf call fl f (.seq a b) ks e h ok = goC P cf call fl f a (.code b :: ks) e h ok := rfl
theorem goC_skip : goC P cf call fl f .skip ks e h ok = goN P cf call fl f .norm ks e h ok := rfl
theorem goC_ret : goC P cf call fl f .ret ks e h ok = goN P cf call fl f .ret ks e h ok := rfl
theorem goC_exit (id : Nat) : goC P cf call fl f (.exit id) ks e h ok = goN P cf call fl f (.exit id) ks e h ok := rfl
theorem goC_block (id : Nat) (c : Code) : goC P cf call fl f (.block id c) ks e h ok = goC P cf call fl f c (.blk id :: ks) e h ok := rfl
theorem goC_region (id : Nat) (l : List Oper) : goC P cf call fl f (.region id l.toArray false) ks e h ok = goO P cf call fl f id l.toArray l ks e h ok := by
  unfold goC goO; rw [evCode]
  simp only [Bool.false_and, Bool.false_eq_true, if_false, regL]
  cases evOps P cf call fl l.toArray l e h <;> rfl
theorem goC_regionW (id : Nat) (l : List Oper) : goC P cf call fl f (.region id l.toArray true) ks e h true = if (cf.wary f id && !stdy P cf call fl l.toArray (ordR (cf.ord f id) l) e h []) = true then none else goO P cf call fl f id l.toArray (ordR (cf.ord f id) l) ks e h true := by
  unfold goC goO; rw [evCode]
  simp only [Bool.true_and, if_true, regL]
  split
  · cases evOps P cf call fl l.toArray (ordR (cf.ord f id) l) e h <;> simp [K1_none]
  · cases evOps P cf call fl l.toArray (ordR (cf.ord f id) l) e h <;> rfl
theorem goC_cond (c : Operand) (a b : Code) : goC P cf call fl f (.cond c a b) ks e h ok =
    if isT (evC cf e c) then goC P cf call fl f a ks e h ok else if isF (evC cf e c) then goC P cf call fl f b ks e h ok else none := by
  unfold goC; rw [evCode]
  cases ok with
  | false => simp
  | true =>
    simp only [if_true]
    cases evC cf e c with
    | none => simp [isT, isF, K1_none]
    | some v => cases v <;> simp [isT, isF, K1_none]; rename_i b; cases b <;> simp
theorem goC_loop (c : Code) : goC P cf call fl f (.loop c) ks e h ok = if ok = true then K1 P cf call fl f ks (iter (evCode P cf call fl f c) cf.rounds e h) else none := rfl

theorem goN_code (c : Code) : goN P cf call fl f .norm (.code c :: ks) e h ok = goC P cf call fl f c ks e h ok := rfl
theorem goN_ret (c : Code) : goN P cf call fl f .ret (.code c :: ks) e h ok = goN P cf call fl f .ret ks e h ok := rfl
theorem goN_exit (id : Nat) (c : Code) : goN P cf call fl f (.exit id) (.code c :: ks) e h ok = goN P cf call fl f (.exit id) ks e h ok := rfl
theorem goN_blk (id : Nat) : goN P cf call fl f .norm (.blk id :: ks) e h ok = goN P cf call fl f .norm ks e h ok := rfl
theorem goN_blk_ret (id : Nat) : goN P cf call fl f .ret (.blk id :: ks) e h ok = goN P cf call fl f .ret ks e h ok := rfl
theorem goN_blk_exit (id id' : Nat) : goN P cf call fl f (.exit id') (.blk id :: ks) e h ok = if id' = id then goN P cf call fl f .norm ks e h ok else goN P cf call fl f (.exit id') ks e h ok := by
  unfold goN
  rw [K1]
  by_cases e : id' = id
  · simp [e]
  · simp [e]
theorem goN_nil (x : AX) : goN P cf call fl f x [] e h ok = if ok = true then some (x, e, h) else none := rfl

theorem goO_nil (id : Nat) (ops : Array Oper) : goO P cf call fl f id ops [] ks e h ok = goN P cf call fl f .norm ks (keepOnly (cf.keep f id) e) h ok := rfl

theorem goO_op (id : Nat) (ops : Array Oper) (dst : Option Nat) (op : Op) (ty : TypeId) (pos : String) (after : Array Edge) (r : List Oper) :
    goO P cf call fl f id ops (⟨dst, op, ty, pos, after, none⟩ :: r) ks e h ok =
      goO P cf call fl f id ops r ks (lput dst (evOp P cf call fl e h op) e) (lheap (evOp P cf call fl e h op) h) (ok && (evOp P cf call fl e h op).isSome) := by
  unfold goO
  cases ok with
  | false => simp
  | true =>
    rw [evOps]
    simp only [wantA, Option.bind_some, if_true]
    cases hx : evOp P cf call fl e h op with
    | none => simp [K1_none]
    | some x => cases dst <;> simp [lput, lheap, put]

theorem goO_if (id : Nat) (ops : Array Oper) (dst : Option Nat) (op : Op) (ty : TypeId) (pos : String) (after : Array Edge) (g : Nat × Bool) (r : List Oper) :
    goO P cf call fl f id ops (⟨dst, op, ty, pos, after, some g⟩ :: r) ks e h ok =
      if isT ((wantA ops e ⟨dst, op, ty, pos, after, some g⟩).map .bool) then goO P cf call fl f id ops r ks (lput dst (evOp P cf call fl e h op) e) (lheap (evOp P cf call fl e h op) h) (ok && (evOp P cf call fl e h op).isSome)
      else if isF ((wantA ops e ⟨dst, op, ty, pos, after, some g⟩).map .bool) then goO P cf call fl f id ops r ks (put dst (.tup []) e) h ok else none := by
  unfold goO
  cases ok with
  | false => simp
  | true =>
    rw [evOps]
    cases hw : wantA ops e ⟨dst, op, ty, pos, after, some g⟩ with
    | none => simp [isT, isF, K1_none]
    | some b =>
      cases b with
      | false => simp [isT, isF]
      | true =>
        simp only [Option.bind_some, if_true, Option.map_some, isT_bool, isT]
        cases hx : evOp P cf call fl e h op with
        | none => simp [K1_none]
        | some x => cases dst <;> simp [lput, lheap, put]
end

theorem lput_some (d : Nat) (v : AV) (h : AH) (e : Env) : lput (some d) (some (v, h)) e = (d, some v) :: e := rfl
theorem lput_none (r : Option (AV × AH)) (e : Env) : lput none r e = e := rfl
theorem lheap_some (v : AV) (h h' : AH) : lheap (some (v, h')) h = h' := rfl

/-- What a body's end makes a call. -/
def fin (P : Program) (cf : Cfg) (fl : Nat) (f : FuncId) (n : Nat) (rs : List ResultVar) (r : Option (AX × Env × AH)) : Option (AV × AH) :=
  r.bind fun r => match r.1 with
    | .exit _ => none
    | _ => (resultsA P r.2.1 r.2.2 rs).bind fun vs => leave (cf.pack f) fl n vs r.2.2

theorem fin_ite {P : Program} {cf : Cfg} {fl : Nat} {f : FuncId} {n : Nat} {rs : List ResultVar} {c : Prop} [Decidable c] {a b : Option (AX × Env × AH)} : fin P cf fl f n rs (if c then a else b) = if c then fin P cf fl f n rs a else fin P cf fl f n rs b := by
  split <;> rfl
theorem fin_none {P : Program} {cf : Cfg} {fl : Nat} {f : FuncId} {n : Nat} {rs : List ResultVar} : fin P cf fl f n rs none = none := rfl
theorem fin_ret {P : Program} {cf : Cfg} {fl : Nat} {f : FuncId} {n : Nat} {rs : List ResultVar} {e : Env} {h : AH} : fin P cf fl f n rs (some (.ret, e, h)) = (resultsA P e h rs).bind fun vs => leave (cf.pack f) fl n vs h := rfl
theorem fin_norm {P : Program} {cf : Cfg} {fl : Nat} {f : FuncId} {n : Nat} {rs : List ResultVar} {e : Env} {h : AH} : fin P cf fl f n rs (some (.norm, e, h)) = (resultsA P e h rs).bind fun vs => leave (cf.pack f) fl n vs h := rfl

theorem body_go {P : Program} {cf : Cfg} {call : CallF} {fl : Nat} {f : FuncId} {fn : Func} {c : Code} {args : List AV} {h : AH} (hf : P.funcs[f]? = some fn) (hb : fn.body = some c) :
    runBody P cf call fl f args h = fin P cf fl f h.length fn.results.toList (goC P cf call fl f c [] (entry args 0) h true) := by
  unfold runBody fin goC
  rw [hf, Option.bind_some, hb, Option.bind_some, if_pos rfl, K1]
  rfl

theorem run_go {P : Program} {cf : Cfg} {d fl : Nat} {f : FuncId} {fn : Func} {c : Code} {args : List AV} {h : AH} (hf : P.funcs[f]? = some fn) (hb : fn.body = some c) (hcl : cf.clone f = none) :
    run P cf (d + 1) fl f args h = fin P cf fl f h.length fn.results.toList (goC P cf (run P cf d) fl f c [] (entry args 0) h true) := by
  rw [run, hcl]; exact body_go hf hb

/-- A loop that is known. -/
theorem loop_go {P : Program} {cf : Cfg} {call : CallF} {fl : Nat} {f : FuncId} {c : Code} {ks : List Fr} {e : Env} {h : AH} {x : AX} {e' : Env} {h' : AH} (hl : iter (evCode P cf call fl f c) cf.rounds e h = some (x, e', h')) :
    goC P cf call fl f (.loop c) ks e h true = goN P cf call fl f x ks e' h' true := by
  rw [goC_loop, if_pos rfl, hl]; rfl

/-- A round of a loop. -/
theorem round_go {P : Program} {cf : Cfg} {call : CallF} {fl : Nat} {f : FuncId} (c : Code) (e : Env) (h : AH) : evCode P cf call fl f c e h = goC P cf call fl f c [] e h true := rfl

/-! ### reading -/

theorem ld_new (h l : AH) (k off : Nat) : ld (h ++ l) (h.length + k) off = ld l k off := by
  unfold ld; rw [List.getElem?_append_right (by omega)]; simp
theorem ld_new0 (h l : AH) (off : Nat) : ld (h ++ l) h.length off = ld l 0 off := ld_new h l 0 off
theorem at_new (h l : AH) (k : Nat) : (h ++ l)[h.length + k]? = l[k]? := by
  rw [List.getElem?_append_right (by omega)]; simp
theorem at_new0 (h l : AH) : (h ++ l)[h.length]? = l[0]? := at_new h l 0
theorem set_new (h l : AH) (k : Nat) (x : AO) : (h ++ l).set (h.length + k) x = h ++ l.set k x := by
  rw [List.set_append_right _ _ (by omega)]; simp
theorem set_new0 (h l : AH) (x : AO) : (h ++ l).set h.length x = h ++ l.set 0 x := set_new h l 0 x

theorem at_old {h : AH} {i : Nat} {o : AO} (l : AH) (ho : h[i]? = some o) : (h ++ l)[i]? = some o := by
  rw [List.getElem?_append_left (List.getElem?_eq_some_iff.1 ho).1, ho]

theorem rdI_app {k : IntKind} {h : AH} {x : CV} {l : List Int} (hr : rdI k h x = some l) (t : AH) : rdI k (h ++ t) x = some l := by
  unfold rdI at *
  cases x <;> simp only at hr ⊢ <;> try exact hr
  all_goals
    split at hr
    · rename_i hs
      rw [if_pos hs]
      obtain ⟨o, h1, hr⟩ := Option.bind_eq_some_iff.1 hr
      rw [at_old t h1]; exact hr
    · simp at hr
end Go.Eng
end
section
/- The engine: slices of whole numbers as lists; loops of a body. No conditions. -/
namespace Go.Eng

/-- The bodies of the loops of a code, in the text's order. -/
def loops : Code → List Code
  | .seq a b => loops a ++ loops b
  | .cond _ a b => loops a ++ loops b
  | .block _ c => loops c
  | .loop c => c :: loops c
  | _ => []

def nthC : List Code → Nat → Code
  | [], _ => .skip
  | c :: _, 0 => c
  | _ :: r, i + 1 => nthC r i
def bodyC : Option Code → Code
  | some c => c
  | none => .skip
def loopAt (fn : Func) (i : Nat) : Code := nthC (loops (bodyC fn.body)) i

def ldO (x : AO) (off : Nat) : Option CV :=
  match x with
  | .ints k l => (l[off]?).map (.int k)
  | .vals l => l[off]?
  | .dead => none

theorem ld_eq (h : AH) (i off : Nat) : ld h i off = (h[i]?).bind fun x => ldO x off := by
  unfold ld ldO
  cases h[i]? with
  | none => rfl
  | some x => cases x <;> rfl
theorem ld_zero (x : AO) (l : AH) (off : Nat) : ld (x :: l) 0 off = ldO x off := by rw [ld_eq]; rfl
theorem ld_succ (x : AO) (l : AH) (i off : Nat) : ld (x :: l) (i + 1) off = ld l i off := by rw [ld_eq, ld_eq]; rfl
theorem ldO_ints (k : IntKind) (l : List Int) (off : Nat) : ldO (.ints k l) off = (l[off]?).map (.int k) := rfl
theorem ldO_vals (l : List CV) (off : Nat) : ldO (.vals l) off = l[off]? := rfl

/-- In a heap that is continued what is told stays told. -/
theorem ld_app {h : AH} {i off : Nat} {v : CV} (hl : ld h i off = some v) (t : AH) : ld (h ++ t) i off = some v := by
  rw [ld_eq] at *
  obtain ⟨x, h1, h2⟩ := Option.bind_eq_some_iff.1 hl
  rw [at_old t h1]; exact h2

section
variable {k : IntKind} {h : AH} {a : CV} {l : List Int}

/-- An element. -/
def gt (l : List Int) (m : Nat) : Int := l.getD m 0
theorem gt_some {l : List Int} {m : Nat} (h : m < l.length) : l[m]? = some (gt l m) := by
  unfold gt; rw [List.getD_eq_getElem?_getD, List.getElem?_eq_getElem h]; rfl

theorem sub_ints {b : List Int} {o : AO} {off n : Nat} (h2 : o.sub off n = some (.ints k b)) : ∃ m, o = .ints k m ∧ off + n ≤ m.length ∧ b = (m.drop off).take n := by
  unfold AO.sub at h2
  split at h2
  · split at h2
    · rename_i hl; injection h2 with h2; injection h2 with e1 e2; subst e1; subst e2; exact ⟨_, rfl, hl, rfl⟩
    · simp at h2
  · split at h2
    · injection h2 with h2; cases h2
    · simp at h2
  · simp at h2

/-- A slice of whole numbers that reads as a list (it is no value that is known not to be nil). -/
def Rd (k : IntKind) (h : AH) (a : CV) (l : List Int) : Prop :=
  (a = .nil ∧ l = []) ∨ ∃ i off m, h[i]? = some (.ints k m) ∧ off + l.length ≤ m.length ∧ l = (m.drop off).take l.length ∧ a = .sl i off l.length 1

theorem Rd.app (hr : Rd k h a l) (t : AH) : Rd k (h ++ t) a l := by
  rcases hr with ⟨e1, e2⟩ | ⟨i, off, m, h1, h2, h3, h4⟩
  · exact .inl ⟨e1, e2⟩
  · exact .inr ⟨i, off, m, at_old t h1, h2, h3, h4⟩

theorem Rd.rdI (hr : Rd k h a l) : rdI k h a = some l := by
  rcases hr with ⟨rfl, rfl⟩ | ⟨i, off, m, h1, h2, h3, rfl⟩
  · rfl
  · simp [_root_.Go.Eng.rdI, h1, AO.sub, h2, ← h3]

theorem Rd.new (t : AH) (n j : Nat) (hj : t[j]? = some (.ints k l)) (hn : n = l.length) : Rd k (h ++ t) (.sl (h.length + j) 0 n 1) l := by
  subst hn
  exact .inr ⟨h.length + j, 0, l, by rw [at_new]; exact hj, by omega, by simp, rfl⟩

def sliceX (P : Program) (t : TypeId) (x : CV) (lo hi : Option CV) : Option CV := sliceA P t x lo hi none

/-- What is known of a slice that reads as a list. -/
structure RdO (P : Program) (k : IntKind) (h : AH) (a : CV) (l : List Int) (i off : Nat) (cut : Int → Int → CV) : Prop where
  len : ∀ t, lenA P t a = (elemS P t).map fun _ => .int .i64 l.length
  idx : ∀ t k' n, indexAddrA P t a (.int k' n) = (elemS P t).bind fun el => (sizeT P el).bind fun s => if s = 1 ∧ 0 ≤ n ∧ n < l.length then some (.ptr i (off + n.toNat)) else none
  ld0 : ∀ m, m < l.length → ld h i (off + m) = some (.int k (gt l m))
  ldt : ∀ t m, m < l.length → ld (h ++ t) i (off + m) = some (.int k (gt l m))
  src0 : srcO (some k) 1 h a = some (.ints k l, l.length)
  srct : ∀ t, srcO (some k) 1 (h ++ t) a = some (.ints k l, l.length)
  below : a.isBelow h.length = true
  belowt : ∀ n, a.isBelow (h.length + n) = true
  slice : ∀ t lo hi, sliceA P t a lo hi none = (elemS P t).bind fun el => (sizeT P el).bind fun s => if s = 1 then (bound lo 0).bind fun x => (bound hi l.length).bind fun y => if 0 ≤ x ∧ x ≤ y ∧ y ≤ l.length then some (cut x y) else none else sliceX P t a lo hi
  cutR : ∀ (x y : Int), 0 ≤ x → x ≤ y → y ≤ l.length → Rd k h (cut x y) ((l.drop x.toNat).take (y - x).toNat)

theorem Rd.of (hr : Rd k h a l) (P : Program) : ∃ i off cut, RdO P k h a l i off cut := by
  rcases hr with ⟨rfl, rfl⟩ | ⟨i, off, m, h1, h2, h3, ha⟩
  · refine ⟨0, 0, fun _ _ => .nil, ?_, ?_, ?_, ?_, ?_, ?_, rfl, fun _ => rfl, ?_, fun x y _ _ _ => .inl ⟨rfl, by simp⟩⟩
    · intro t; unfold lenA elemS; cases P.underlying t with
      | none => rfl
      | some u => cases u <;> rfl
    · intro t k' n
      cases he : elemS P t with
      | none => simp [indexAddrA]
      | some el => cases hs : sizeT P el <;> simp [indexAddrA, hs]
    · intro m hm; simp at hm
    · intro t m hm; simp at hm
    · simp [srcO, mkO, toInts]
    · intro t; simp [srcO, mkO, toInts]
    · intro t lo hi
      cases he : elemS P t with
      | none => simp [sliceA, he]
      | some el =>
        cases hs : sizeT P el with
        | none => simp [sliceA, he, hs]
        | some s =>
          simp only [Option.bind_some, hs]
          split
          · simp only [sliceA, he, hs, Option.bind_some, List.length_nil]
            cases bound lo 0 with
            | none => rfl
            | some x =>
              cases bound hi 0 with
              | none => rfl
              | some y =>
                simp only [Option.bind_some]
                split <;> split <;> first | rfl | (exfalso; omega)
          · rfl
  · subst ha
    have hld : ∀ (g : AH), g[i]? = some (.ints k m) → ∀ j, j < l.length → ld g i (off + j) = some (.int k (gt l j)) := by
      intro g hg j hj
      rw [ld_eq, hg]
      simp only [Option.bind_some, ldO]
      have : m[off + j]? = l[j]? := by
        conv => rhs; rw [h3]
        rw [List.getElem?_take_of_lt hj, List.getElem?_drop]
      rw [this, gt_some hj]; rfl
    have hsrc : ∀ (g : AH), g[i]? = some (.ints k m) → srcO (some k) 1 g (.sl i off l.length 1) = some (.ints k l, l.length) := by
      intro g hg; simp [srcO, hg, AO.sub, h2, ← h3]
    have hlt := (List.getElem?_eq_some_iff.1 h1).1
    refine ⟨i, off, fun x y => .sl i (off + x.toNat) (y - x).toNat 1, ?_, ?_, hld h h1, fun t => hld _ (at_old t h1), hsrc h h1, fun t => hsrc _ (at_old t h1), by simpa [CV.isBelow] using hlt, fun n => by simp [CV.isBelow]; omega, ?_, ?_⟩
    · intro t; unfold lenA elemS; cases P.underlying t with
      | none => rfl
      | some u => cases u <;> rfl
    · intro t k' n
      simp only [indexAddrA]
      cases he : elemS P t with
      | none => rfl
      | some el =>
        cases hs : sizeT P el with
        | none => simp [hs]
        | some s => 
          simp only [hs, Option.bind_some]
          by_cases e : s = 1
          · subst e; simp
          · simp [e]
    · intro t lo hi
      cases he : elemS P t with
      | none => simp [sliceA, he]
      | some el =>
        cases hs : sizeT P el with
        | none => simp [sliceA, he, hs]
        | some s =>
          simp only [Option.bind_some, hs]
          split
          · rename_i e; subst e; simp [sliceA, he, hs]
          · rfl
    · intro x y h0 hxy hy
      have hL : ((l.drop x.toNat).take (y - x).toNat).length = (y - x).toNat := by rw [List.length_take, List.length_drop]; omega
      refine .inr ⟨i, off + x.toNat, m, h1, by rw [hL]; omega, ?_, by rw [hL]⟩
      rw [hL]
      conv => lhs; rw [h3]
      rw [List.drop_take, List.take_take, List.drop_drop, Nat.min_eq_left (by omega)]
end
end Go.Eng
end
section
/- The engine: whole numbers of 64 bits. No conditions. -/
namespace Go.Eng
theorem w64 {x : Int} (h1 : -9223372036854775808 ≤ x) (h2 : x ≤ 9223372036854775807) : IntKind.wrap .i64 x = x := by
  simp [IntKind.wrap, IntKind.bits, IntKind.signed]
  split <;> omega
theorem w8 {x : Int} (h1 : 0 ≤ x) (h2 : x ≤ 255) : IntKind.wrap .u8 x = x := by
  simp [IntKind.wrap, IntKind.bits, IntKind.signed]; omega
theorem wu64 {x : Int} (h1 : 0 ≤ x) (h2 : x ≤ 18446744073709551615) : IntKind.wrap .u64 x = x := by
  simp [IntKind.wrap, IntKind.bits, IntKind.signed]; omega
theorem tdiv_pos {a b : Int} (h : 0 ≤ a) : a.tdiv b = a / b := Int.tdiv_eq_ediv_of_nonneg h
theorem tmod_pos {a b : Int} (h : 0 ≤ a) : a.tmod b = a % b := Int.tmod_eq_emod_of_nonneg h

theorem gt_get (l : List Int) (m : Nat) (h : m < l.length) : l[m]'h = gt l m := by unfold gt; rw [List.getD_eq_getElem?_getD, List.getElem?_eq_getElem h]; rfl
theorem idx0 {α : Type} (a : α) (l : List α) : (a :: l)[0]? = some a := rfl

/-! Comparisons that are known (used with omega as what meets their conditions). -/
theorem iltT {a b : Int} (h : a < b) : (a < b) = True := eq_true h
theorem iltF {a b : Int} (h : b ≤ a) : (a < b) = False := eq_false (Int.not_lt.2 h)
theorem ileT {a b : Int} (h : a ≤ b) : (a ≤ b) = True := eq_true h
theorem ileF {a b : Int} (h : b < a) : (a ≤ b) = False := eq_false (Int.not_le.2 h)
theorem ieqT {a b : Int} (h : a = b) : (a = b) = True := eq_true h
theorem ieqF {a b : Int} (h : ¬ a = b) : (a = b) = False := eq_false h
theorem nltT {a b : Nat} (h : a < b) : (a < b) = True := eq_true h
theorem nltF {a b : Nat} (h : b ≤ a) : (a < b) = False := eq_false (Nat.not_lt.2 h)
theorem nleT {a b : Nat} (h : a ≤ b) : (a ≤ b) = True := eq_true h
theorem nleF {a b : Nat} (h : b < a) : (a ≤ b) = False := eq_false (Nat.not_le.2 h)
theorem neqT {a b : Nat} (h : a = b) : (a = b) = True := eq_true h
theorem neqF {a b : Nat} (h : ¬ a = b) : (a = b) = False := eq_false h

/-- A loop, a round at a time. -/
theorem iter_norm {body : Env → AH → Option (AX × Env × AH)} {n : Nat} {e e' : Env} {h h' : AH} (hb : body e h = some (.norm, e', h')) : iter body (n + 1) e h = iter body n e' h' := by
  rw [iter, hb]; rfl
theorem iter_exit {body : Env → AH → Option (AX × Env × AH)} {n : Nat} {e e' : Env} {h h' : AH} {i : Nat} (hb : body e h = some (.exit i, e', h')) : iter body (n + 1) e h = some (.exit i, e', h') := by
  rw [iter, hb]; rfl
theorem iter_ret {body : Env → AH → Option (AX × Env × AH)} {n : Nat} {e e' : Env} {h h' : AH} (hb : body e h = some (.ret, e', h')) : iter body (n + 1) e h = some (.ret, e', h') := by
  rw [iter, hb]; rfl
end Go.Eng
end
section
/- The engine: code is evaluated by rules without binders (so that rewriting never looks into what is not yet reached). No conditions. -/
namespace Go.Eng

/-! ### values -/
def rV : Option AV → AH → Option (AV × AH)
  | some v, h => some (v, h)
  | none, _ => none
def rC : Option CV → AH → Option (AV × AH)
  | some v, h => some (.c v, h)
  | none, _ => none
def rH : Option (CV × AH) → Option (AV × AH)
  | some (v, h) => some (.c v, h)
  | none => none
def rT : Option AH → Option (AV × AH)
  | some h => some (.tup [], h)
  | none => none
def cOf : Option CV → Option AV
  | some v => some (.c v)
  | none => none
def cell? : Option AV → Option CV
  | some (.c v) => some v
  | _ => none
def app1 {α β : Type} (F : α → Option β) : Option α → Option β
  | some x => F x
  | none => none
def app2 {α β γ : Type} (F : α → β → Option γ) : Option α → Option β → Option γ
  | some x, some y => F x y
  | _, _ => none
def consO {α : Type} : Option α → Option (List α) → Option (List α)
  | some v, some l => some (v :: l)
  | _, _ => none
theorem rV_s (v : AV) (h : AH) : rV (some v) h = some (v, h) := rfl
theorem rC_s (v : CV) (h : AH) : rC (some v) h = some (.c v, h) := rfl
theorem rH_s (v : CV) (h : AH) : rH (some (v, h)) = some (.c v, h) := rfl
theorem rT_s (h : AH) : rT (some h) = some (.tup [], h) := rfl
theorem cOf_s (v : CV) : cOf (some v) = some (.c v) := rfl
theorem cell_s (v : CV) : cell? (some (.c v)) = some v := rfl
theorem app1_s {α β : Type} (F : α → Option β) (x : α) : app1 F (some x) = F x := rfl
theorem app2_s {α β γ : Type} (F : α → β → Option γ) (x : α) (y : β) : app2 F (some x) (some y) = F x y := rfl
theorem consO_s {α : Type} (v : α) (l : List α) : consO (some v) (some l) = some (v :: l) := rfl

theorem rV_n (h : AH) : rV none h = none := rfl
theorem rC_n (h : AH) : rC none h = none := rfl
theorem rV_eq (x : Option AV) (h : AH) : (x.map fun v => (v, h)) = rV x h := by cases x <;> rfl
theorem rC_eq (x : Option CV) (h : AH) : (x.map fun v => (AV.c v, h)) = rC x h := by cases x <;> rfl
theorem rH_eq (x : Option (CV × AH)) : outC x = rH x := by cases x <;> rfl
theorem rT_eq (x : Option AH) : (x.map fun h => (AV.tup [], h)) = rT x := by cases x <;> rfl
theorem cOf_eq (x : Option CV) : x.map .c = cOf x := by cases x <;> rfl
theorem app1_eq {α β : Type} (x : Option α) (F : α → Option β) : x.bind F = app1 F x := by cases x <;> rfl
theorem app2_eq {α β γ : Type} (x : Option α) (y : Option β) (F : α → β → Option γ) : (x.bind fun a => y.bind fun b => F a b) = app2 F x y := by cases x <;> cases y <;> rfl
theorem consO_eq {α : Type} (x : Option α) (l : Option (List α)) : (x.bind fun v => l.map fun l => v :: l) = consO x l := by cases x <;> cases l <;> rfl

section
variable (P : Program) (cf : Cfg) (call : CallF) (fl : Nat) (e : Env) (h : AH)
theorem evC_r (x : Operand) : evC cf e x = cell? (ev cf e x) := by unfold evC; cases ev cf e x with
  | none => rfl
  | some v => cases v <;> rfl
theorem ev_t (t : Nat) : ev cf e (.tmp t) = get e t := rfl
theorem ev_f (g : Nat) : ev cf e (.func g) = some (.c (.fn (.func g) [] [])) := rfl
theorem ev_g (g : Nat) : ev cf e (.global g) = cOf (cf.glob g) := by rw [ev, cOf_eq]
theorem ev_b (b : Bool) : ev cf e (.const (.bool b)) = some (.c (.bool b)) := rfl
theorem ev_i (k : IntKind) (n : Int) : ev cf e (.const (.int k n)) = some (.c (.int k n)) := rfl
theorem ev_s (s : ByteArray) : ev cf e (.const (.string s)) = some (.c (.str s)) := rfl
theorem ev_np : ev cf e (.const (.pointer none)) = some .np := rfl
theorem ev_n : ev cf e (.const (.slice none 0 0)) = some (.c .nil) := rfl
theorem ev_a (cs : List Value) : ev cf e (.const (.agg cs.toArray)) = (ofCs cs).map .agg := rfl
theorem evs_n : evs cf e [] = some [] := rfl
theorem evs_c (x : Operand) (r : List Operand) : evs cf e (x :: r) = consO (ev cf e x) (evs cf e r) := by rw [evs, consO_eq]
theorem evCs_n : evCs cf e [] = some [] := rfl
theorem evCs_c (x : Operand) (r : List Operand) : evCs cf e (x :: r) = consO (cell? (ev cf e x)) (evCs cf e r) := by rw [evCs, consO_eq, evC_r]
def part : Nat → Option AV → Option (List (Nat × AV)) → Option (List (Nat × AV))
  | i, some v, some l => some ((i, v) :: l)
  | _, _, _ => none
theorem part_s (i : Nat) (v : AV) (l : List (Nat × AV)) : part i (some v) (some l) = some ((i, v) :: l) := rfl
theorem evP_n : evParts cf e [] = some [] := rfl
theorem evP_c (i : Nat) (x : Operand) (r : List (Nat × Operand)) : evParts cf e ((i, x) :: r) = part i (ev cf e x) (evParts cf e r) := by
  rw [evParts]; cases ev cf e x <;> cases evParts cf e r <;> rfl

/-! ### operations -/
def pk : Option CV → Option AV → Option AV → AH → Option (AV × AH)
  | some (.bool true), a, _, h => rV a h
  | some (.bool false), _, b, h => rV b h
  | _, _, _, _ => none
theorem pk_t (a b : Option AV) : pk (some (.bool true)) a b h = rV a h := rfl
theorem pk_f (a b : Option AV) : pk (some (.bool false)) a b h = rV b h := rfl
theorem op_move (x : Operand) : evOp P cf call fl e h (.move x) = rV (ev cf e x) h := by rw [evOp, rV_eq]
theorem op_assign (x : Operand) : evOp P cf call fl e h (.assign x) = rV (ev cf e x) h := by rw [evOp, rV_eq]
theorem op_pick (c a b : Operand) : evOp P cf call fl e h (.pick c a b) = pk (cell? (ev cf e c)) (ev cf e a) (ev cf e b) h := by
  rw [evOp, evC_r]
  cases cell? (ev cf e c) with
  | none => rfl
  | some v => cases v <;> try rfl
              rename_i b; cases b <;> simp [pk, rV_eq]
def alo : Option AV → AH → Option (AV × AH)
  | some z, h => if z.one = true then some (.c (.ptr h.length 0), h ++ [.vals z.cells]) else none
  | none, _ => none
theorem alo_s (z : AV) : alo (some z) h = if z.one = true then some (.c (.ptr h.length 0), h ++ [.vals z.cells]) else none := rfl
theorem op_alloc (t : TypeId) : evOp P cf call fl e h (.alloc t) = alo (zeroT P t) h := by rw [evOp]; cases zeroT P t <;> rfl
theorem op_box (t : TypeId) (x : Operand) : evOp P cf call fl e h (.box t x) = alo (ev cf e x) h := by rw [evOp]; cases ev cf e x <;> rfl
theorem op_build (t : TypeId) (l : List (Nat × Operand)) : evOp P cf call fl e h (.build t l.toArray) = rV (app1 (buildA P t) (evParts cf e l)) h := by
  rw [evOp]; show (evParts cf e l).bind _ = _
  cases evParts cf e l with
  | none => rfl
  | some ps => rw [Option.bind_some, rV_eq]; rfl
def bsl (P : Program) (b : Bool) (t : TypeId) (n : Nat) : Option (List (Nat × AV)) → AH → Option (AV × AH)
  | some ps, h => rH (buildSliceA P b t n ps h)
  | none, _ => none
theorem bsl_s (b : Bool) (t : TypeId) (n : Nat) (ps : List (Nat × AV)) : bsl P b t n (some ps) h = rH (buildSliceA P b t n ps h) := rfl
theorem op_buildSlice (t : TypeId) (n : Nat) (l : List (Nat × Operand)) : evOp P cf call fl e h (.buildSlice t n l.toArray) = bsl P (cf.emt t) t n (evParts cf e l) h := by
  rw [evOp]; show (evParts cf e l).bind _ = _
  cases evParts cf e l with
  | none => rfl
  | some ps => rw [Option.bind_some, rH_eq]; rfl
def lod (P : Program) (t : TypeId) : Option CV → AH → Option (AV × AH)
  | some (.ptr i off), h => rV (loadA P t h i off) h
  | _, _ => none
theorem lod_s (t : TypeId) (i off : Nat) : lod P t (some (.ptr i off)) h = rV (loadA P t h i off) h := rfl
theorem op_load (t : TypeId) (a : Operand) : evOp P cf call fl e h (.load t a) = lod P t (cell? (ev cf e a)) h := by
  rw [evOp, evC_r]
  cases cell? (ev cf e a) with
  | none => rfl
  | some v => cases v <;> try rfl
              simp [lod, rV_eq]
def sto (P : Program) (t : TypeId) (fl : Nat) : Option CV → Option AV → AH → Option (AV × AH)
  | some (.ptr i off), some v, h => rT (storeA P t fl h i off v)
  | _, _, _ => none
theorem sto_s (t : TypeId) (i off : Nat) (v : AV) : sto P t fl (some (.ptr i off)) (some v) h = rT (storeA P t fl h i off v) := rfl
theorem op_store (t : TypeId) (a x : Operand) : evOp P cf call fl e h (.store t a x) = sto P t fl (cell? (ev cf e a)) (ev cf e x) h := by
  rw [evOp, evC_r]
  cases cell? (ev cf e a) with
  | none => rfl
  | some v => cases ev cf e x with
    | none => cases v <;> rfl
    | some y => cases v <;> try rfl
                simp [sto, rT_eq]
def nlc : Option CV → AH → Option (AV × AH)
  | some (.ptr i off), h => some (.c (.ptr i off), h)
  | _, _ => none
theorem nlc_s (i off : Nat) : nlc (some (.ptr i off)) h = some (.c (.ptr i off), h) := rfl
theorem op_nilCheck (x : Operand) : evOp P cf call fl e h (.nilCheck x) = nlc (cell? (ev cf e x)) h := by
  rw [evOp, evC_r]
  cases cell? (ev cf e x) with
  | none => rfl
  | some v => cases v <;> rfl
theorem op_bin (op : BinOp) (t t' : TypeId) (x y : Operand) : evOp P cf call fl e h (.binOp op t x y t') = rC (app2 (binE P op t) (cell? (ev cf e x)) (cell? (ev cf e y))) h := by
  rw [evOp, evC_r, evC_r]; cases cell? (ev cf e x) <;> cases cell? (ev cf e y) <;> simp [app2, rC_n, rC_eq]
theorem op_un (op : UnOp) (t : TypeId) (x : Operand) : evOp P cf call fl e h (.unOp op t x) = rC (app1 (unA op) (cell? (ev cf e x))) h := by
  rw [evOp, evC_r]; cases cell? (ev cf e x) <;> simp [app1, rC_n, rC_eq]
def cvt (P : Program) (fl : Nat) (s d : TypeId) : Option CV → AH → Option (AV × AH)
  | some v, h => rH (convB P fl s d v h)
  | none, _ => none
theorem cvt_s (s d : TypeId) (v : CV) : cvt P fl s d (some v) h = rH (convB P fl s d v h) := rfl
theorem op_convert (s d : TypeId) (x : Operand) : evOp P cf call fl e h (.convert s d x) = cvt P fl s d (cell? (ev cf e x)) h := by
  rw [evOp, evC_r]; cases cell? (ev cf e x) <;> simp [cvt, rH_eq]
def mkf : Fn → Option (List CV) → Option (List CV) → AH → Option (AV × AH)
  | f, some a, some b, h => some (.c (.fn f a b), h)
  | _, _, _, _ => none
theorem mkf_s (f : Fn) (a b : List CV) : mkf f (some a) (some b) h = some (.c (.fn f a b), h) := rfl
theorem op_makeFunc (f : Fn) (a b : List Operand) : evOp P cf call fl e h (.makeFunc f a.toArray b.toArray) = mkf f (evCs cf e a) (evCs cf e b) h := by
  rw [evOp]; show (evCs cf e a).bind _ = _
  cases evCs cf e a with
  | none => rfl
  | some a => show (evCs cf e b).map _ = _; cases evCs cf e b <;> rfl
def mks (P : Program) (t : TypeId) : Option CV → Option CV → AH → Option (AV × AH)
  | some a, some b, h => rH (makeSliceA P t a b h)
  | _, _, _ => none
theorem mks_s (t : TypeId) (a b : CV) : mks P t (some a) (some b) h = rH (makeSliceA P t a b h) := rfl
theorem op_makeSlice (t : TypeId) (l c : Operand) : evOp P cf call fl e h (.makeSlice t l c) = mks P t (cell? (ev cf e l)) (cell? (ev cf e c)) h := by
  rw [evOp, evC_r, evC_r]; cases cell? (ev cf e l) <;> cases cell? (ev cf e c) <;> simp [mks, rH_eq]
def opt : Option (Option CV) → Option (Option CV)
  | x => x
def lft : Option CV → Option (Option CV)
  | some v => some (some v)
  | none => none
theorem lft_s (v : CV) : lft (some v) = some (some v) := rfl
theorem evO_n : evO cf e none = some none := rfl
theorem evO_s (x : Operand) : evO cf e (some x) = lft (cell? (ev cf e x)) := by rw [evO, evC_r]; cases cell? (ev cf e x) <;> rfl
def slc (P : Program) (t : TypeId) : Option CV → Option (Option CV) → Option (Option CV) → Option (Option CV) → Option CV
  | some a, some l, some u, some m => sliceA P t a l u m
  | _, _, _, _ => none
theorem slc_s (t : TypeId) (a : CV) (l u m : Option CV) : slc P t (some a) (some l) (some u) (some m) = sliceA P t a l u m := rfl
theorem op_slice (t : TypeId) (x : Operand) (lo hi mx : Option Operand) : evOp P cf call fl e h (.slice t x lo hi mx) = rC (slc P t (cell? (ev cf e x)) (evO cf e lo) (evO cf e hi) (evO cf e mx)) h := by
  rw [evOp, evC_r]
  cases cell? (ev cf e x) <;> cases evO cf e lo <;> cases evO cf e hi <;> cases evO cf e mx <;> simp [slc, rC_n, rC_eq]
def fdA (P : Program) (t : TypeId) (f : Nat) (a : CV) : Option CV := fieldAddrA P t a f
def fdV (P : Program) (t : TypeId) (f : Nat) (a : AV) : Option AV := fieldA P t a f
theorem op_fieldAddr (t : TypeId) (x : Operand) (f : Nat) : evOp P cf call fl e h (.fieldAddr t x f) = rC (app1 (fdA P t f) (cell? (ev cf e x))) h := by
  rw [evOp, evC_r]; cases cell? (ev cf e x) <;> simp [app1, rC_n, fdA, rC_eq]
theorem op_field (t : TypeId) (x : Operand) (f : Nat) : evOp P cf call fl e h (.field t x f) = rV (app1 (fdV P t f) (ev cf e x)) h := by
  rw [evOp]; cases ev cf e x <;> simp [app1, rV_n, fdV, rV_eq]
theorem op_indexAddr (t : TypeId) (x i : Operand) : evOp P cf call fl e h (.indexAddr t x i) = rC (app2 (indexAddrA P t) (cell? (ev cf e x)) (cell? (ev cf e i))) h := by
  rw [evOp, evC_r, evC_r]; cases cell? (ev cf e x) <;> cases cell? (ev cf e i) <;> simp [app2, rC_n, rC_eq]
theorem op_index (t : TypeId) (x i : Operand) : evOp P cf call fl e h (.index t x i) = rC (app2 (indexA P t) (cell? (ev cf e x)) (cell? (ev cf e i))) h := by
  rw [evOp, evC_r, evC_r]; cases cell? (ev cf e x) <;> cases cell? (ev cf e i) <;> simp [app2, rC_n, rC_eq]
def xtr (i : Nat) : Option AV → Option AV
  | some (.tup vs) => vs[i]?
  | _ => none
theorem xtr_s (i : Nat) (vs : List AV) : xtr i (some (.tup vs)) = vs[i]? := rfl
theorem op_extract (x : Operand) (i : Nat) : evOp P cf call fl e h (.extract x i) = rV (xtr i (ev cf e x)) h := by
  rw [evOp]; cases ev cf e x with
  | none => rfl
  | some v => cases v <;> simp [xtr, extractA, rV_n, rV_eq]
def cal (call : CallF) (fl : Nat) : Option CV → Option (List AV) → AH → Option (AV × AH)
  | some (.fn (.func g) first captured), some args, h => call fl g (first.map .c ++ args ++ captured.map .c) h
  | _, _, _ => none
theorem cal_s (g : Nat) (first captured : List CV) (args : List AV) : cal call fl (some (.fn (.func g) first captured)) (some args) h = call fl g (first.map .c ++ args ++ captured.map .c) h := rfl
theorem cal_0 (g : Nat) (args : List AV) : cal call fl (some (.fn (.func g) [] [])) (some args) h = call fl g args h := by simp [cal]
theorem floor_f (g : Nat) (n : Nat) : floorOf cf fl n (.func g) = if cf.pure g = true then n else fl := rfl
theorem floor_t (t : Nat) (n : Nat) : floorOf cf fl n (.tmp t) = n := rfl
theorem op_call (f : Operand) (l : List Operand) (ts : Array TypeId) : evOp P cf call fl e h (.call ⟨.value f, l.toArray, ts⟩) = cal call (floorOf cf fl h.length f) (cell? (ev cf e f)) (evs cf e l) h := by
  rw [evOp, evCall]
  show ((evs cf e l).bind fun args => (evC cf e f).bind fun g => _) = _
  rw [evC_r]
  cases evs cf e l with
  | none => cases cell? (ev cf e f) with
    | none => rfl
    | some v => cases v <;> try rfl
                rename_i g _ _; cases g <;> rfl
  | some args => cases cell? (ev cf e f) with
    | none => rfl
    | some v => cases v <;> try rfl
                rename_i g _ _; cases g <;> rfl
theorem op_len (x : Operand) (t : TypeId) : evOp P cf call fl e h (.call ⟨.builtin .len, #[x], #[t]⟩) = rC (app1 (lenA P t) (cell? (ev cf e x))) h := by
  rw [evOp, evCall]
  simp only [evCs, evC_r]
  cases cell? (ev cf e x) <;> simp [app1, rC_n, rC_eq]
def app : (b : AK) → (P : Program) → (fl : Nat) → (t : TypeId) → Option TypeId → Option CV → Option CV → AH → Option (AV × AH)
  | b, P, fl, t, t', some s, some x, h => rH (appendB b P fl t t' s x h)
  | _, _, _, _, _, _, _, _ => none
theorem app_s (t : TypeId) (t' : Option TypeId) (s x : CV) : app .no P fl t t' (some s) (some x) h = rH (appendA P fl t t' s x h) := rfl
theorem op_append (s x : Operand) (t : TypeId) (r : List TypeId) : evOp P cf call fl e h (.call ⟨.builtin .append, #[s, x], (t :: r).toArray⟩) = app (cf.papp #[s, x]) P fl t (r[0]?) (cell? (ev cf e s)) (cell? (ev cf e x)) h := by
  rw [evOp, evCall]
  simp only [evCs, evC_r]
  cases cell? (ev cf e s) <;> cases cell? (ev cf e x) <;> simp [app, rH_eq]
theorem op_max (l : List Operand) (ts : Array TypeId) : evOp P cf call fl e h (.call ⟨.builtin .max, l.toArray, ts⟩) = rC (app1 (minmaxA true) (evCs cf e l)) h := by
  rw [evOp, evCall]; show (evCs cf e l).bind _ = _; cases evCs cf e l <;> simp [app1, rC_n, rC_eq]
theorem op_min (l : List Operand) (ts : Array TypeId) : evOp P cf call fl e h (.call ⟨.builtin .min, l.toArray, ts⟩) = rC (app1 (minmaxA false) (evCs cf e l)) h := by
  rw [evOp, evCall]; show (evCs cf e l).bind _ = _; cases evCs cf e l <;> simp [app1, rC_n, rC_eq]
end
end Go.Eng
end
section
/- The engine: the course of code, by rules without binders; memory. No conditions. -/
namespace Go.Eng

section
variable (P : Program) (cf : Cfg) (call : CallF) (fl : Nat) (f : FuncId)

def mC (c : Code) (ks : List Fr) (e : Env) (h : AH) : Option (AX × Env × AH) := goC P cf call fl f c ks e h true
def mN (x : AX) (ks : List Fr) (e : Env) (h : AH) : Option (AX × Env × AH) := goN P cf call fl f x ks e h true
def mO (id : Nat) (ops l : List Oper) (ks : List Fr) (e : Env) (h : AH) : Option (AX × Env × AH) := goO P cf call fl f id ops.toArray l ks e h true
def mX (id : Nat) (ops : List Oper) (dst : Option Nat) (l : List Oper) (ks : List Fr) (e : Env) : Option (AV × AH) → Option (AX × Env × AH)
  | some (v, h) => mO P cf call fl f id ops l ks (put dst v e) h
  | none => none
def mB (a b : Code) (ks : List Fr) (e : Env) (h : AH) : Option CV → Option (AX × Env × AH)
  | some (.bool true) => mC P cf call fl f a ks e h
  | some (.bool false) => mC P cf call fl f b ks e h
  | _ => none
def mG (id : Nat) (ops : List Oper) (dst : Option Nat) (op : Op) (l : List Oper) (ks : List Fr) (e : Env) (h : AH) : Option Bool → Option (AX × Env × AH)
  | some true => mX P cf call fl f id ops dst l ks e (evOp P cf call fl e h op)
  | some false => mO P cf call fl f id ops l ks (put dst (.tup []) e) h
  | none => none
def want : Option AV → Bool → Option Bool
  | some (.c (.bool b)), w => some (b == w)
  | some (.tup []), _ => some false
  | _, _ => none
def getO (e : Env) : Option Nat → Option AV
  | some d => get e d
  | none => none
def dstOf : List Oper → Nat → Option Nat
  | [], _ => none
  | o :: _, 0 => o.dst
  | _ :: r, n + 1 => dstOf r n
theorem dstOf_eq : ∀ (l : List Oper) (n : Nat), (l[n]?).bind (·.dst) = dstOf l n
  | [], _ => rfl
  | _ :: _, 0 => rfl
  | _ :: r, n + 1 => by rw [List.getElem?_cons_succ, dstOf_eq r n, dstOf]

variable (ks : List Fr) (e : Env) (h : AH)
theorem mC_seq (a b : Code) : mC P cf call fl f (.seq a b) ks e h = mC P cf call fl f a (.code b :: ks) e h := rfl
theorem mC_skip : mC P cf call fl f .skip ks e h = mN P cf call fl f .norm ks e h := rfl
theorem mC_ret : mC P cf call fl f .ret ks e h = mN P cf call fl f .ret ks e h := rfl
theorem mC_exit (id : Nat) : mC P cf call fl f (.exit id) ks e h = mN P cf call fl f (.exit id) ks e h := rfl
theorem mC_label (s : Nat) : mC P cf call fl f (.label s) ks e h = mN P cf call fl f .norm ks e h := rfl
theorem mC_block (id : Nat) (c : Code) : mC P cf call fl f (.block id c) ks e h = mC P cf call fl f c (.blk id :: ks) e h := rfl
theorem mC_region (id : Nat) (l : List Oper) : mC P cf call fl f (.region id l.toArray false) ks e h = mO P cf call fl f id l l ks e h := goC_region ..
/-- A region that draws its order. -/
def mW (id : Nat) (ops l : List Oper) (ks : List Fr) (e : Env) (h : AH) : Bool → Option (AX × Env × AH)
  | false => mO P cf call fl f id ops l ks e h
  | true => if stdy P cf call fl ops.toArray l e h [] = true then mO P cf call fl f id ops l ks e h else none
theorem ordR_n (l : List Oper) : ordR none l = l := rfl
theorem ordR_s (π : List Nat) (l : List Oper) : ordR (some π) l = π.filterMap fun i => l[i]? := rfl
theorem mC_regionW (id : Nat) (l : List Oper) : mC P cf call fl f (.region id l.toArray true) ks e h = mW P cf call fl f id l (ordR (cf.ord f id) l) ks e h (cf.wary f id) := by
  unfold mC; rw [goC_regionW]
  cases cf.wary f id with
  | false => rfl
  | true => simp only [mW, Bool.true_and]; cases stdy P cf call fl l.toArray (ordR (cf.ord f id) l) e h [] <;> rfl
theorem mW_f (id : Nat) (ops l : List Oper) : mW P cf call fl f id ops l ks e h false = mO P cf call fl f id ops l ks e h := rfl
theorem mW_t (id : Nat) (ops l : List Oper) : mW P cf call fl f id ops l ks e h true = if stdy P cf call fl ops.toArray l e h [] = true then mO P cf call fl f id ops l ks e h else none := rfl
theorem mC_cond (c : Operand) (a b : Code) : mC P cf call fl f (.cond c a b) ks e h = mB P cf call fl f a b ks e h (cell? (ev cf e c)) := by
  unfold mC; rw [goC_cond, evC_r]
  cases cell? (ev cf e c) with
  | none => simp [isT, isF, mB]
  | some v => cases v <;> simp [isT, isF, mB]; rename_i b; cases b <;> simp [mC]
theorem mB_t (a b : Code) : mB P cf call fl f a b ks e h (some (.bool true)) = mC P cf call fl f a ks e h := rfl
theorem mB_f (a b : Code) : mB P cf call fl f a b ks e h (some (.bool false)) = mC P cf call fl f b ks e h := rfl
theorem mN_code (c : Code) : mN P cf call fl f .norm (.code c :: ks) e h = mC P cf call fl f c ks e h := rfl
theorem mN_ret (c : Code) : mN P cf call fl f .ret (.code c :: ks) e h = mN P cf call fl f .ret ks e h := rfl
theorem mN_exit (id : Nat) (c : Code) : mN P cf call fl f (.exit id) (.code c :: ks) e h = mN P cf call fl f (.exit id) ks e h := rfl
theorem mN_blk (id : Nat) : mN P cf call fl f .norm (.blk id :: ks) e h = mN P cf call fl f .norm ks e h := rfl
theorem mN_blk_ret (id : Nat) : mN P cf call fl f .ret (.blk id :: ks) e h = mN P cf call fl f .ret ks e h := rfl
theorem mN_blk_exit (id id' : Nat) : mN P cf call fl f (.exit id') (.blk id :: ks) e h = if id' = id then mN P cf call fl f .norm ks e h else mN P cf call fl f (.exit id') ks e h := goN_blk_exit ..
theorem mN_nil (x : AX) : mN P cf call fl f x [] e h = some (x, e, h) := rfl
theorem mO_nil (id : Nat) (ops : List Oper) : mO P cf call fl f id ops [] ks e h = mN P cf call fl f .norm ks (keepOnly (cf.keep f id) e) h := rfl
theorem mO_op (id : Nat) (ops : List Oper) (dst : Option Nat) (op : Op) (ty : TypeId) (pos : String) (after : Array Edge) (r : List Oper) :
    mO P cf call fl f id ops (⟨dst, op, ty, pos, after, none⟩ :: r) ks e h = mX P cf call fl f id ops dst r ks e (evOp P cf call fl e h op) := by
  unfold mO; rw [goO_op]
  cases evOp P cf call fl e h op with
  | none => simp [goO, mX]
  | some x => cases dst <;> simp [mX, mO, lput, lheap, put]
theorem mO_if (id : Nat) (ops : List Oper) (dst : Option Nat) (op : Op) (ty : TypeId) (pos : String) (after : Array Edge) (g : Nat) (w : Bool) (r : List Oper) :
    mO P cf call fl f id ops (⟨dst, op, ty, pos, after, some (g, w)⟩ :: r) ks e h = mG P cf call fl f id ops dst op r ks e h (want (getO e (dstOf ops g)) w) := by
  unfold mO; rw [goO_if]
  have hw : wantA ops.toArray e ⟨dst, op, ty, pos, after, some (g, w)⟩ = want (getO e (dstOf ops g)) w := by
    unfold wantA
    simp only [List.getElem?_toArray, dstOf_eq]
    cases dstOf ops g with
    | none => rfl
    | some d =>
      simp only [Option.bind_some, getO]
      cases get e d with
      | none => rfl
      | some v => simp only [Option.bind_some]; cases v with
        | c v => cases v <;> rfl
        | agg _ => rfl
        | tup vs => cases vs <;> rfl
        | np => rfl
  rw [hw]
  cases want (getO e (dstOf ops g)) w with
  | none => simp [isT, isF, mG]
  | some b => cases b with
    | false => simp [isT, isF, mG, mO]
    | true =>
      simp only [Option.map_some, isT, if_true, mG]
      cases evOp P cf call fl e h op with
      | none => simp [goO, mX]
      | some x => cases dst <;> simp [mX, mO, lput, lheap, put]
theorem mX_s (id : Nat) (ops : List Oper) (dst : Option Nat) (l : List Oper) (v : AV) : mX P cf call fl f id ops dst l ks e (some (v, h)) = mO P cf call fl f id ops l ks (put dst v e) h := rfl
theorem mG_t (id : Nat) (ops : List Oper) (dst : Option Nat) (op : Op) (l : List Oper) : mG P cf call fl f id ops dst op l ks e h (some true) = mX P cf call fl f id ops dst l ks e (evOp P cf call fl e h op) := rfl
theorem mG_f (id : Nat) (ops : List Oper) (dst : Option Nat) (op : Op) (l : List Oper) : mG P cf call fl f id ops dst op l ks e h (some false) = mO P cf call fl f id ops l ks (put dst (.tup []) e) h := rfl
end
theorem want_tt : want (some (.c (.bool true))) true = some true := rfl
theorem want_tf : want (some (.c (.bool true))) false = some false := rfl
theorem want_ft : want (some (.c (.bool false))) true = some false := rfl
theorem want_ff : want (some (.c (.bool false))) false = some true := rfl
theorem want_u (w : Bool) : want (some (.tup [])) w = some false := rfl
theorem getO_s (e : Env) (d : Nat) : getO e (some d) = get e d := rfl
theorem dstOf_z (o : Oper) (r : List Oper) : dstOf (o :: r) 0 = o.dst := rfl
theorem dstOf_n (o : Oper) (r : List Oper) (n : Nat) : dstOf (o :: r) (n + 1) = dstOf r n := rfl
theorem put_s (d : Nat) (v : AV) (e : Env) : put (some d) v e = (d, some v) :: e := rfl
theorem put_n (v : AV) (e : Env) : put none v e = e := rfl

/-! ### ends -/
def fn1 (P : Program) (cf : Cfg) (fl : Nat) (f : FuncId) (n : Nat) (rs : List ResultVar) : Option (AX × Env × AH) → Option (AV × AH)
  | some (.exit _, _, _) => none
  | some (_, e, h) => app1 (fun vs => leave (cf.pack f) fl n vs h) (resultsA P e h rs)
  | none => none
def lv : PM → Nat → Nat → Option (List AV) → AH → Option (AV × AH)
  | m, fl, n, some vs, h => leave m fl n vs h
  | _, _, _, none, _ => none
theorem lv_s (m : PM) (fl n : Nat) (vs : List AV) (h : AH) : lv m fl n (some vs) h = leave m fl n vs h := rfl
theorem fin_r {P : Program} {cf : Cfg} {fl : Nat} {f : FuncId} {n : Nat} {rs : List ResultVar} {e : Env} {h : AH} : fin P cf fl f n rs (some (.ret, e, h)) = lv (cf.pack f) fl n (resultsA P e h rs) h := by
  rw [fin_ret]; cases resultsA P e h rs <;> rfl
theorem fin_n {P : Program} {cf : Cfg} {fl : Nat} {f : FuncId} {n : Nat} {rs : List ResultVar} {e : Env} {h : AH} : fin P cf fl f n rs (some (.norm, e, h)) = lv (cf.pack f) fl n (resultsA P e h rs) h := by
  rw [fin_norm]; cases resultsA P e h rs <;> rfl
theorem res_n (P : Program) (e : Env) (h : AH) : resultsA P e h [] = some [] := rfl
theorem res_c (P : Program) (e : Env) (h : AH) (x : ResultVar) (r : List ResultVar) : resultsA P e h (x :: r) = consO (resultA P e h x) (resultsA P e h r) := by rw [resultsA, consO_eq]
theorem res_t (P : Program) (e : Env) (h : AH) (t : Nat) : resultA P e h (.tmp t) = get e t := rfl
def rsc (P : Program) (t : TypeId) : Option CV → AH → Option AV
  | some (.ptr i off), h => loadA P t h i off
  | _, _ => none
theorem rsc_s (P : Program) (t : TypeId) (i off : Nat) (h : AH) : rsc P t (some (.ptr i off)) h = loadA P t h i off := rfl
theorem res_cell (P : Program) (e : Env) (h : AH) (a : Nat) (t : TypeId) : resultA P e h (.cell a t) = rsc P t (cell? (get e a)) h := by
  rw [resultA]; cases get e a with
  | none => rfl
  | some v => cases v with
    | c v => cases v <;> rfl
    | _ => rfl
theorem run_m {P : Program} {cf : Cfg} {d fl : Nat} {f : FuncId} {fn : Func} {c : Code} {args : List AV} {h : AH} (hf : P.funcs[f]? = some fn) (hb : fn.body = some c) (hcl : cf.clone f = none) :
    run P cf (d + 1) fl f args h = fin P cf fl f h.length fn.results.toList (mC P cf (run P cf d) fl f c [] (entry args 0) h) := run_go hf hb hcl
theorem body_m {P : Program} {cf : Cfg} {call : CallF} {fl : Nat} {f : FuncId} {fn : Func} {c : Code} {args : List AV} {h : AH} (hf : P.funcs[f]? = some fn) (hb : fn.body = some c) :
    runBody P cf call fl f args h = fin P cf fl f h.length fn.results.toList (mC P cf call fl f c [] (entry args 0) h) := body_go hf hb
theorem round_m {P : Program} {cf : Cfg} {call : CallF} {fl : Nat} {f : FuncId} (c : Code) (e : Env) (h : AH) : evCode P cf call fl f c e h = mC P cf call fl f c [] e h := rfl
theorem loop_m {P : Program} {cf : Cfg} {call : CallF} {fl : Nat} {f : FuncId} {c : Code} {ks : List Fr} {e : Env} {h : AH} {x : AX} {e' : Env} {h' : AH} (hl : iter (evCode P cf call fl f c) cf.rounds e h = some (x, e', h')) :
    mC P cf call fl f (.loop c) ks e h = mN P cf call fl f x ks e' h' := loop_go hl

/-! ### memory -/
def ldG : Option Bool → Option Nat → AH → Nat → Nat → Option AV
  | some false, _, h, i, off => cOf (ld h i off)
  | some true, some s, h, i, off => (h[i]?).bind fun o => (o.sub off s).map fun x => .agg x.cells
  | _, _, _, _, _ => none
theorem ldG_f (s : Option Nat) (h : AH) (i off : Nat) : ldG (some false) s h i off = cOf (ld h i off) := rfl
def agO : Option AO → Option AV
  | some x => some (.agg x.cells)
  | none => none
def subO (s off : Nat) : Option AO → Option AO
  | some o => o.sub off s
  | none => none
theorem agO_s (x : AO) : agO (some x) = some (.agg x.cells) := rfl
theorem subO_s (s off : Nat) (o : AO) : subO s off (some o) = o.sub off s := rfl
theorem ldG_t (s : Nat) (h : AH) (i off : Nat) : ldG (some true) (some s) h i off = agO (subO s off (h[i]?)) := by
  show ((h[i]?).bind fun o => (o.sub off s).map fun x => AV.agg x.cells) = _
  cases h[i]? with
  | none => rfl
  | some o => simp only [Option.bind_some, subO]; cases o.sub off s <;> rfl
theorem loadA_r (P : Program) (t : TypeId) (h : AH) (i off : Nat) : loadA P t h i off = ldG (aggT P t) (sizeT P t) h i off := by
  unfold loadA
  cases aggT P t with
  | none => cases sizeT P t <;> rfl
  | some b => cases b with
    | false => rw [ldG, cOf_eq]
    | true => cases sizeT P t <;> rfl
def stG : Bool → Option Nat → Bool → List CV → Option AO → AH → Nat → Nat → Option AH
  | true, some s, true, cs, some o, h, i, off => if cs.length = s then (o.sets off cs).map fun x => h.set i x else none
  | _, _, _, _, _, _, _, _ => none
def seO : Option AO → AH → Nat → Option AH
  | some x, h, i => some (h.set i x)
  | none, _, _ => none
theorem seO_s (x : AO) (h : AH) (i : Nat) : seO (some x) h i = some (h.set i x) := rfl
theorem stG_t (s : Nat) (cs : List CV) (o : AO) (h : AH) (i off : Nat) : stG true (some s) true cs (some o) h i off = if cs.length = s then seO (o.sets off cs) h i else none := by
  show (if cs.length = s then (o.sets off cs).map fun x => h.set i x else none) = _
  split
  · cases o.sets off cs <;> rfl
  · rfl
theorem storeA_r (P : Program) (t : TypeId) (fl : Nat) (h : AH) (i off : Nat) (v : AV) : storeA P t fl h i off v = stG (decide (fl ≤ i)) (sizeT P t) v.one v.cells (h[i]?) h i off := by
  unfold storeA
  by_cases hf : fl ≤ i
  · rw [if_pos hf, decide_eq_true hf]
    cases sizeT P t with
    | none => simp [stG]
    | some s =>
      simp only [Option.bind_some]
      cases ho : v.one with
      | false => simp [stG]
      | true =>
        cases hi : h[i]? with
        | none => simp [stG]
        | some o => simp [stG]
  · rw [if_neg hf, decide_eq_false hf]; simp [stG]
def faG : Option (Nat × Nat × Bool) → Nat → Nat → Option CV
  | some (o, s, _), i, off => if 0 < s then some (.ptr i (off + o)) else none
  | none, _, _ => none
theorem faG_s (o s : Nat) (b : Bool) (i off : Nat) : faG (some (o, s, b)) i off = if 0 < s then some (.ptr i (off + o)) else none := rfl
theorem fdA_r (P : Program) (t : TypeId) (f i off : Nat) : fdA P t f (.ptr i off) = faG (fieldOf P t f) i off := by
  unfold fdA fieldAddrA; cases fieldOf P t f <;> rfl
def fvG : Option (Nat × Nat × Bool) → List CV → Option AV
  | some (o, s, true), cs => if o + s ≤ cs.length then some (.agg ((cs.drop o).take s)) else none
  | some (o, _, false), cs => cOf (cs[o]?)
  | none, _ => none
theorem fvG_t (o s : Nat) (cs : List CV) : fvG (some (o, s, true)) cs = if o + s ≤ cs.length then some (.agg ((cs.drop o).take s)) else none := rfl
theorem fvG_f (o s : Nat) (cs : List CV) : fvG (some (o, s, false)) cs = cOf (cs[o]?) := rfl
theorem fdV_r (P : Program) (t : TypeId) (f : Nat) (cs : List CV) : fdV P t f (.agg cs) = fvG (fieldOf P t f) cs := by
  unfold fdV fieldA
  cases fieldOf P t f with
  | none => rfl
  | some p => obtain ⟨o, s, b⟩ := p; cases b <;> simp [fvG, cOf_eq]
end Go.Eng
end
section
/- The engine: building, appending, cutting and packing, by rules without binders. No conditions. -/
namespace Go.Eng

/-! ### structs and slices -/
def bd : Option AV → Option (List (Nat × Nat)) → List (Nat × AV) → Option AV
  | some z, some ps, parts => (fillA (ps[·]?) z.cells parts).map .agg
  | _, _, _ => none
def fillP (ps : List (Nat × Nat)) (cs : List CV) (l : List (Nat × AV)) : Option (List CV) := fillA (ps[·]?) cs l
def fillS (s : Nat) (cs : List CV) (l : List (Nat × AV)) : Option (List CV) := fillA (fun i => some (i * s, s)) cs l
def agL : Option (List CV) → Option AV
  | some l => some (.agg l)
  | none => none
theorem agL_s (l : List CV) : agL (some l) = some (.agg l) := rfl
theorem bd_s (z : AV) (ps : List (Nat × Nat)) (parts : List (Nat × AV)) : bd (some z) (some ps) parts = agL (fillP ps z.cells parts) := by
  unfold bd fillP; simp only; cases fillA (ps[·]?) z.cells parts <;> rfl
theorem buildA_r (P : Program) (t : TypeId) (parts : List (Nat × AV)) : buildA P t parts = bd (zeroT P t) (placesB P t) parts := by
  unfold buildA; cases zeroT P t <;> cases placesB P t <;> rfl
def fil (v : AV) (cs : List CV) (o s : Nat) : Option (List CV) := if v.one = true ∧ v.cells.length = s ∧ o + s ≤ cs.length then some (setAll cs o v.cells) else none
theorem fillP_n (ps : List (Nat × Nat)) (cs : List CV) : fillP ps cs [] = some cs := rfl
def fil1 (ps : List (Nat × Nat)) (cs : List CV) (v : AV) (r : List (Nat × AV)) : Option (Nat × Nat) → Option (List CV)
  | some (o, s) => if v.one = true ∧ v.cells.length = s ∧ o + s ≤ cs.length then fillP ps (setAll cs o v.cells) r else none
  | none => none
theorem fil1_s (ps : List (Nat × Nat)) (cs : List CV) (v : AV) (r : List (Nat × AV)) (o s : Nat) : fil1 ps cs v r (some (o, s)) = if v.one = true ∧ v.cells.length = s ∧ o + s ≤ cs.length then fillP ps (setAll cs o v.cells) r else none := rfl
theorem fillP_c (ps : List (Nat × Nat)) (cs : List CV) (i : Nat) (v : AV) (r : List (Nat × AV)) : fillP ps cs ((i, v) :: r) = fil1 ps cs v r (ps[i]?) := by
  unfold fillP; rw [fillA]; cases ps[i]? <;> rfl
theorem fillS_n (s : Nat) (cs : List CV) : fillS s cs [] = some cs := rfl
theorem fillS_c (s : Nat) (cs : List CV) (i : Nat) (v : AV) (r : List (Nat × AV)) : fillS s cs ((i, v) :: r) = if v.one = true ∧ v.cells.length = s ∧ i * s + s ≤ cs.length then fillS s (setAll cs (i * s) v.cells) r else none := by
  unfold fillS; rw [fillA]; rfl
theorem setAll_n (cs : List CV) (o : Nat) : setAll cs o [] = cs := rfl
theorem setAll_c (cs : List CV) (o : Nat) (v : CV) (r : List CV) : setAll cs o (v :: r) = setAll (cs.set o v) (o + 1) r := rfl

def consI : Int → Option (List Int) → Option (List Int)
  | n, some l => some (n :: l)
  | _, none => none
theorem consI_s (n : Int) (l : List Int) : consI n (some l) = some (n :: l) := rfl
theorem toInts_n (k : IntKind) : toInts k [] = some [] := rfl
theorem toInts_c (k : IntKind) (n : Int) (r : List CV) : toInts k (.int k n :: r) = consI n (toInts k r) := by rw [toInts, if_pos rfl]; cases toInts k r <;> rfl
def intO (k : IntKind) : Option (List Int) → Option AO
  | some l => some (.ints k l)
  | none => none
theorem intO_s (k : IntKind) (l : List Int) : intO k (some l) = some (.ints k l) := rfl
theorem mkO_i (k : IntKind) (cs : List CV) : mkO (some k) cs = intO k (toInts k cs) := by unfold mkO; simp only; cases toInts k cs <;> rfl
theorem mkO_v (cs : List CV) : mkO none cs = some (.vals cs) := rfl

def bs1 (P : Program) (em : Bool) (n : Nat) (ps : List (Nat × AV)) (h : AH) : Option TypeId → Option (CV × AH)
  | some el => (sizeT P el).bind fun s => (zeroT P el).bind fun z =>
    if n * s ≤ 16777216 ∧ z.cells.length = s then
      (fillA (fun i => some (i * s, s)) (reps n z.cells) ps).bind fun cs => (mkO (kindOf P el) cs).map fun o => (if em = true ∧ n = 0 then .em else .sl h.length 0 n s, h ++ [o])
    else none
  | none => none
def bs2 (em : Bool) (n : Nat) (ps : List (Nat × AV)) (h : AH) (ko : Option IntKind) : Option Nat → Option AV → Option (CV × AH)
  | some s, some z => if n * s ≤ 16777216 ∧ z.cells.length = s then
      (fillA (fun i => some (i * s, s)) (reps n z.cells) ps).bind fun cs => (mkO ko cs).map fun o => (if em = true ∧ n = 0 then .em else .sl h.length 0 n s, h ++ [o])
    else none
  | _, _ => none
def bs3 (em : Bool) (n s : Nat) (h : AH) (ko : Option IntKind) : Option (List CV) → Option (CV × AH)
  | some cs => (mkO ko cs).map fun o => (if em = true ∧ n = 0 then .em else .sl h.length 0 n s, h ++ [o])
  | none => none
def bs4 (em : Bool) (n s : Nat) (h : AH) : Option AO → Option (CV × AH)
  | some o => some (if em = true ∧ n = 0 then .em else .sl h.length 0 n s, h ++ [o])
  | none => none
theorem bs_r (P : Program) (em : Bool) (t : TypeId) (n : Nat) (ps : List (Nat × AV)) (h : AH) : buildSliceA P em t n ps h = bs1 P em n ps h (elemS P t) := by unfold buildSliceA; cases elemS P t <;> rfl
theorem bs1_s (P : Program) (em : Bool) (n : Nat) (ps : List (Nat × AV)) (h : AH) (el : TypeId) : bs1 P em n ps h (some el) = bs2 em n ps h (kindOf P el) (sizeT P el) (zeroT P el) := by
  unfold bs1; simp only; cases sizeT P el <;> cases zeroT P el <;> rfl
theorem bs2_s (em : Bool) (n : Nat) (ps : List (Nat × AV)) (h : AH) (ko : Option IntKind) (s : Nat) (z : AV) : bs2 em n ps h ko (some s) (some z) = if n * s ≤ 16777216 ∧ z.cells.length = s then bs3 em n s h ko (fillS s (reps n z.cells) ps) else none := by
  unfold bs2 fillS; simp only; split
  · cases fillA (fun i => some (i * s, s)) (reps n z.cells) ps <;> rfl
  · rfl
theorem bs3_s (em : Bool) (n s : Nat) (h : AH) (ko : Option IntKind) (cs : List CV) : bs3 em n s h ko (some cs) = bs4 em n s h (mkO ko cs) := by unfold bs3; simp only; cases mkO ko cs <;> rfl
theorem bs4_s (em : Bool) (n s : Nat) (h : AH) (o : AO) : bs4 em n s h (some o) = some (if em = true ∧ n = 0 then .em else .sl h.length 0 n s, h ++ [o]) := rfl
theorem reps_z (cs : List CV) : reps 0 cs = [] := rfl
theorem reps_n (n : Nat) (cs : List CV) : reps (n + 1) cs = cs ++ reps n cs := rfl

/-! ### zeros, make -/
def zoI (k : IntKind) (n : Nat) : Option AV → Option AO
  | some (.c (.int k' m)) => if k = k' ∧ m = 0 then some (.ints k (List.replicate n 0)) else none
  | _ => none
theorem zoI_s (k : IntKind) (n : Nat) : zoI k n (some (.c (.int k 0))) = some (.ints k (List.replicate n 0)) := by simp [zoI]
def zoV (n : Nat) : Option AV → Option AO
  | some z => some (.vals (reps n z.cells))
  | none => none
theorem zoV_s (n : Nat) (z : AV) : zoV n (some z) = some (.vals (reps n z.cells)) := rfl
def zo (P : Program) (el : TypeId) (n : Nat) : Option IntKind → Option AO
  | some k => zoI k n (zeroT P el)
  | none => zoV n (zeroT P el)
theorem zo_i (P : Program) (el : TypeId) (n : Nat) (k : IntKind) : zo P el n (some k) = zoI k n (zeroT P el) := rfl
theorem zo_v (P : Program) (el : TypeId) (n : Nat) : zo P el n none = zoV n (zeroT P el) := rfl
theorem zeros_r (P : Program) (el : TypeId) (n : Nat) : zerosO P el n = zo P el n (kindOf P el) := by
  unfold zerosO
  cases kindOf P el with
  | none => simp only [zo]; cases zeroT P el <;> rfl
  | some k => simp only [zo]; cases zeroT P el with
    | none => rfl
    | some z => cases z with
      | c v => cases v <;> rfl
      | _ => rfl
def mk1 (P : Program) (l c : Int) (h : AH) : Option TypeId → Option (CV × AH)
  | some el => (sizeT P el).bind fun s => (bytesT P el).bind fun b =>
      if 0 ≤ l ∧ l ≤ c ∧ c ≤ 140737488355328 ∧ c * b ≤ 140737488355328 then (zerosO P el l.toNat).bind fun o => if o.cells.length = l.toNat * s then some (.sl h.length 0 l.toNat s, h ++ [o]) else none else none
  | none => none
def mk2 (P : Program) (el : TypeId) (l c : Int) (h : AH) : Option Nat → Option Nat → Option (CV × AH)
  | some s, some b => if 0 ≤ l ∧ l ≤ c ∧ c ≤ 140737488355328 ∧ c * b ≤ 140737488355328 then (zerosO P el l.toNat).bind fun o => if o.cells.length = l.toNat * s then some (.sl h.length 0 l.toNat s, h ++ [o]) else none else none
  | _, _ => none
def mk3 (n s : Nat) (h : AH) : Option AO → Option (CV × AH)
  | some o => if o.cells.length = n * s then some (.sl h.length 0 n s, h ++ [o]) else none
  | none => none
theorem mk_r (P : Program) (t : TypeId) (l c : Int) (h : AH) : makeSliceA P t (.int .i64 l) (.int .i64 c) h = mk1 P l c h (elemS P t) := by unfold makeSliceA; cases elemS P t <;> rfl
theorem mk1_s (P : Program) (l c : Int) (h : AH) (el : TypeId) : mk1 P l c h (some el) = mk2 P el l c h (sizeT P el) (bytesT P el) := by
  unfold mk1; simp only; cases sizeT P el <;> cases bytesT P el <;> rfl
theorem mk2_s (P : Program) (el : TypeId) (l c : Int) (h : AH) (s b : Nat) : mk2 P el l c h (some s) (some b) = if 0 ≤ l ∧ l ≤ c ∧ c ≤ 140737488355328 ∧ c * b ≤ 140737488355328 then mk3 l.toNat s h (zerosO P el l.toNat) else none := by
  unfold mk2; simp only; split
  · cases zerosO P el l.toNat <;> rfl
  · rfl
theorem mk3_s (n s : Nat) (h : AH) (o : AO) : mk3 n s h (some o) = if o.cells.length = n * s then some (.sl h.length 0 n s, h ++ [o]) else none := rfl
theorem cells_i (k : IntKind) (l : List Int) : (AO.ints k l).cells.length = l.length := by simp [AO.cells]
theorem cells_v (l : List CV) : (AO.vals l).cells.length = l.length := rfl

/-! ### append -/
def sr (off m n : Nat) : Option AO → Option (AO × Nat)
  | some o => (o.sub off m).map fun y => (y, n)
  | none => none
def sr2 (n : Nat) : Option AO → Option (AO × Nat)
  | some y => some (y, n)
  | none => none
theorem sr_s (off m n : Nat) (o : AO) : sr off m n (some o) = sr2 n (o.sub off m) := by unfold sr; simp only; cases o.sub off m <;> rfl
theorem sr2_s (n : Nat) (y : AO) : sr2 n (some y) = some (y, n) := rfl
theorem src_sl (ko : Option IntKind) (size : Nat) (h : AH) (j off n sz : Nat) : srcO ko size h (.sl j off n sz) = if sz = size then sr off (n * sz) n (h[j]?) else none := by
  unfold srcO; simp only; split
  · cases h[j]? <;> rfl
  · rfl
theorem src_nil (ko : Option IntKind) (size : Nat) (h : AH) : srcO ko size h .nil = sr2 0 (mkO ko []) := by
  unfold srcO; simp only; cases mkO ko [] <;> rfl
theorem src_str (ko : Option IntKind) (h : AH) (s : ByteArray) : srcO ko 1 h (.str s) = some (bytesO s, s.size) := by
  unfold srcO; simp
def or1 (off m n : Nat) (h : AH) (j : Nat) : Option AO → Option (AO × Nat × AH)
  | some o => (o.sub off m).map fun y => (y, n, h.set j .dead)
  | none => none
def or2 (n : Nat) (h : AH) (j : Nat) : Option AO → Option (AO × Nat × AH)
  | some y => some (y, n, h.set j .dead)
  | none => none
def or3 (h : AH) : Option AO → Option (AO × Nat × AH)
  | some y => some (y, 0, h)
  | none => none
theorem or1_s (off m n : Nat) (h : AH) (j : Nat) (o : AO) : or1 off m n h j (some o) = or2 n h j (o.sub off m) := by unfold or1; simp only; cases o.sub off m <;> rfl
theorem or2_s (n : Nat) (h : AH) (j : Nat) (y : AO) : or2 n h j (some y) = some (y, n, h.set j .dead) := rfl
theorem or3_s (h : AH) (y : AO) : or3 h (some y) = some (y, 0, h) := rfl
theorem old_sl (P : Program) (el : TypeId) (size fl : Nat) (h : AH) (j off n sz : Nat) : oldO P el size fl h (.sl j off n sz) = if fl ≤ j ∧ sz = size then or1 off (n * sz) n h j (h[j]?) else none := by
  unfold oldO; simp only; split
  · cases h[j]? <;> rfl
  · rfl
theorem old_nil (P : Program) (el : TypeId) (size fl : Nat) (h : AH) : oldO P el size fl h .nil = or3 h (mkO (kindOf P el) []) := by
  unfold oldO; simp only; cases mkO (kindOf P el) [] <;> rfl
theorem new_f (P : Program) (el : TypeId) (size : Nat) (h : AH) (x : CV) : newO P el size false h x = srcO (kindOf P el) size h x := rfl
def nw (n size : Nat) : Option AO → Option (AO × Nat)
  | some o => if o.cells.length = n * size then some (o, n) else none
  | none => none
theorem nw_s (n size : Nat) (o : AO) : nw n size (some o) = if o.cells.length = n * size then some (o, n) else none := rfl
theorem new_t (P : Program) (el : TypeId) (size : Nat) (h : AH) (n : Int) : newO P el size true h (.int .i64 n) = if 0 ≤ n ∧ n ≤ 140737488355328 then nw n.toNat size (zerosO P el n.toNat) else none := by
  unfold newO; simp only [if_true]; split
  · cases zerosO P el n.toNat <;> rfl
  · rfl
def ap1 (P : Program) (fl : Nat) (t' : Option TypeId) (s x : CV) (h : AH) : Option TypeId → Option (CV × AH)
  | some el => (sizeT P el).bind fun size => (bytesT P el).bind fun b => (zeroT P el).bind fun z => (zerosT P t').bind fun zs =>
    (newO P el size zs h x).bind fun new => (oldO P el size fl h s).bind fun old =>
      if z.cells.length = size ∧ old.2.1 + new.2 ≤ 140737488355328 ∧ (old.2.1 + new.2) * b ≤ 140737488355328 then (old.1.cat new.1).map fun y => (.sl h.length 0 (old.2.1 + new.2) size, old.2.2 ++ [y]) else none
  | none => none
def ap2 (P : Program) (fl : Nat) (s x : CV) (h : AH) (el : TypeId) : Option Nat → Option Nat → Option AV → Option Bool → Option (CV × AH)
  | some size, some b, some z, some zs =>
    (newO P el size zs h x).bind fun new => (oldO P el size fl h s).bind fun old =>
      if z.cells.length = size ∧ old.2.1 + new.2 ≤ 140737488355328 ∧ (old.2.1 + new.2) * b ≤ 140737488355328 then (old.1.cat new.1).map fun y => (.sl h.length 0 (old.2.1 + new.2) size, old.2.2 ++ [y]) else none
  | _, _, _, _ => none
def ap3 (m size b : Nat) (n : Nat) : Option (AO × Nat) → Option (AO × Nat × AH) → Option (CV × AH)
  | some new, some old => if m = size ∧ old.2.1 + new.2 ≤ 140737488355328 ∧ (old.2.1 + new.2) * b ≤ 140737488355328 then (old.1.cat new.1).map fun y => (.sl n 0 (old.2.1 + new.2) size, old.2.2 ++ [y]) else none
  | _, _ => none
def ap4 (n k size : Nat) (h : AH) : Option AO → Option (CV × AH)
  | some y => some (.sl n 0 k size, h ++ [y])
  | none => none
theorem ap_r (P : Program) (fl : Nat) (t : TypeId) (t' : Option TypeId) (s x : CV) (h : AH) : appendA P fl t t' s x h = ap1 P fl t' s x h (elemS P t) := by unfold appendA; cases elemS P t <;> rfl
theorem ap1_s (P : Program) (fl : Nat) (t' : Option TypeId) (s x : CV) (h : AH) (el : TypeId) : ap1 P fl t' s x h (some el) = ap2 P fl s x h el (sizeT P el) (bytesT P el) (zeroT P el) (zerosT P t') := by
  unfold ap1; simp only; cases sizeT P el <;> cases bytesT P el <;> cases zeroT P el <;> cases zerosT P t' <;> rfl
theorem ap2_s (P : Program) (fl : Nat) (s x : CV) (h : AH) (el : TypeId) (size b : Nat) (z : AV) (zs : Bool) : ap2 P fl s x h el (some size) (some b) (some z) (some zs) = ap3 z.cells.length size b h.length (newO P el size zs h x) (oldO P el size fl h s) := by
  unfold ap2; simp only; cases newO P el size zs h x <;> cases oldO P el size fl h s <;> rfl
theorem ap3_s (m size b n : Nat) (o : AO) (k : Nat) (o' : AO) (k' : Nat) (h : AH) : ap3 m size b n (some (o, k)) (some (o', k', h)) = if m = size ∧ k' + k ≤ 140737488355328 ∧ (k' + k) * b ≤ 140737488355328 then ap4 n (k' + k) size h (o'.cat o) else none := by
  unfold ap3; simp only; split
  · cases o'.cat o <;> rfl
  · rfl
theorem ap4_s (n k size : Nat) (h : AH) (y : AO) : ap4 n k size h (some y) = some (.sl n 0 k size, h ++ [y]) := rfl
theorem zerosT_n (P : Program) : zerosT P none = some false := rfl
def zt : Option TypeDesc → Option Bool
  | some (.int _) => some true
  | some _ => some false
  | none => none
theorem zerosT_s (P : Program) (t : TypeId) : zerosT P (some t) = zt (P.underlying t) := rfl
theorem zt_i (k : IntKind) : zt (some (.int k)) = some true := rfl
theorem zt_sl (t : TypeId) : zt (some (.slice t)) = some false := rfl
theorem zt_st : zt (some .string) = some false := rfl
theorem cat_i (k : IntKind) (a b : List Int) : (AO.ints k a).cat (.ints k b) = some (.ints k (a ++ b)) := by simp [AO.cat]
theorem cat_v (a b : List CV) : (AO.vals a).cat (.vals b) = some (.vals (a ++ b)) := rfl
theorem sub_i (k : IntKind) (l : List Int) (off n : Nat) : (AO.ints k l).sub off n = if off + n ≤ l.length then some (.ints k ((l.drop off).take n)) else none := rfl
theorem sub_v (l : List CV) (off n : Nat) : (AO.vals l).sub off n = if off + n ≤ l.length then some (.vals ((l.drop off).take n)) else none := rfl
theorem sub_all (k : IntKind) (l : List Int) {n : Nat} (hn : n = l.length) : (AO.ints k l).sub 0 n = some (.ints k l) := by subst hn; simp [sub_i]
theorem set_i (k : IntKind) (l : List Int) (off : Nat) (n : Int) : (AO.ints k l).set1 off (.int k n) = if off < l.length then some (.ints k (l.set off n)) else none := by simp [AO.set1]
theorem set_v (l : List CV) (off : Nat) (v : CV) : (AO.vals l).set1 off v = if off < l.length then some (.vals (l.set off v)) else none := by cases v <;> rfl
theorem sets_n (x : AO) (off : Nat) : x.sets off [] = some x := rfl
def se (off : Nat) (r : List CV) : Option AO → Option AO
  | some y => y.sets off r
  | none => none
theorem sets_c (x : AO) (off : Nat) (v : CV) (r : List CV) : x.sets off (v :: r) = se (off + 1) r (x.set1 off v) := by rw [AO.sets]; cases x.set1 off v <;> rfl
theorem se_s (off : Nat) (r : List CV) (y : AO) : se off r (some y) = y.sets off r := rfl

/-! ### cutting, indexing, lengths -/
theorem bound_n (d : Nat) : bound none d = some d := rfl
theorem bound_i (k : IntKind) (n : Int) (d : Nat) : bound (some (.int k n)) d = some n := rfl
def sl1 (P : Program) (i off len sz : Nat) (lo hi : Option Int) : Option TypeId → Option CV
  | some el => sl2 (sizeT P el) lo hi
  | none => none
where sl2 : Option Nat → Option Int → Option Int → Option CV
  | some s, some l, some u => if s = sz ∧ 0 ≤ l ∧ l ≤ u ∧ u ≤ len then some (.sl i (off + l.toNat * sz) (u - l).toNat sz) else none
  | _, _, _ => none
theorem sl1_s (P : Program) (i off len sz : Nat) (lo hi : Option Int) (el : TypeId) : sl1 P i off len sz lo hi (some el) = sl1.sl2 i off len sz (sizeT P el) lo hi := rfl
theorem sl2_s (i off len sz s : Nat) (l u : Int) : sl1.sl2 i off len sz (some s) (some l) (some u) = if s = sz ∧ 0 ≤ l ∧ l ≤ u ∧ u ≤ len then some (.sl i (off + l.toNat * sz) (u - l).toNat sz) else none := rfl
theorem slice_r (P : Program) (t : TypeId) (i off len sz : Nat) (lo hi : Option CV) : sliceA P t (.sl i off len sz) lo hi none = sl1 P i off len sz (bound lo 0) (bound hi len) (elemS P t) := by
  unfold sliceA; simp only
  cases elemS P t with
  | none => rfl
  | some el => simp only [Option.bind_some, sl1_s]; cases sizeT P el <;> cases bound lo 0 <;> cases bound hi len <;> rfl
def ix1 (P : Program) (i off len sz : Nat) (n : Int) : Option TypeId → Option CV
  | some el => ix2 (sizeT P el)
  | none => none
where ix2 : Option Nat → Option CV
  | some s => if s = sz ∧ 0 ≤ n ∧ n < len then some (.ptr i (off + n.toNat * sz)) else none
  | none => none
theorem ix1_s (P : Program) (i off len sz : Nat) (n : Int) (el : TypeId) : ix1 P i off len sz n (some el) = ix1.ix2 i off len sz n (sizeT P el) := rfl
theorem ix2_s (i off len sz : Nat) (n : Int) (s : Nat) : ix1.ix2 i off len sz n (some s) = if s = sz ∧ 0 ≤ n ∧ n < len then some (.ptr i (off + n.toNat * sz)) else none := rfl
theorem index_r (P : Program) (t : TypeId) (i off len sz : Nat) (k : IntKind) (n : Int) : indexAddrA P t (.sl i off len sz) (.int k n) = ix1 P i off len sz n (elemS P t) := by
  unfold indexAddrA; simp only
  cases elemS P t with
  | none => rfl
  | some el => simp only [Option.bind_some, ix1_s]; cases sizeT P el <;> rfl
def lnG (n : Int) : Option TypeDesc → Option CV
  | some (.slice _) => some (.int .i64 n)
  | _ => none
theorem lnG_s (n : Int) (t : TypeId) : lnG n (some (.slice t)) = some (.int .i64 n) := rfl
theorem len_sl (P : Program) (t : TypeId) (i off n sz : Nat) : lenA P t (.sl i off n sz) = lnG n (P.underlying t) := by
  unfold lenA lnG; cases P.underlying t with
  | none => rfl
  | some u => cases u <;> rfl
theorem len_nil (P : Program) (t : TypeId) : lenA P t .nil = lnG 0 (P.underlying t) := by
  unfold lenA lnG; cases P.underlying t with
  | none => rfl
  | some u => cases u <;> rfl
end Go.Eng
end
section
/- The engine: what is left of a call; arithmetic. No conditions. -/
namespace Go.Eng

/-! ### leaving -/
theorem leave_w (fl n : Nat) (vs : List AV) (h : AH) : leave .whole fl n vs h = some (tupA vs, h) := rfl
theorem leave_d (fl n : Nat) (vs : List AV) (h : AH) : leave .drop fl n vs h = if fl = n ∧ vs.all (·.isBelow n) = true then some (tupA vs, h.take n) else none := rfl
def allB (n : Nat) : List AV → Bool
  | [] => true
  | v :: r => v.isBelow n && allB n r
def cellsB (n : Nat) : List CV → Bool
  | [] => true
  | v :: r => v.isBelow n && cellsB n r
theorem allB_eq (n : Nat) : ∀ vs : List AV, vs.all (·.isBelow n) = allB n vs
  | [] => rfl
  | v :: r => by rw [List.all_cons, allB_eq n r, allB]
theorem cellsB_eq (n : Nat) : ∀ vs : List CV, vs.all (·.isBelow n) = cellsB n vs
  | [] => rfl
  | v :: r => by rw [List.all_cons, cellsB_eq n r, cellsB]
theorem leave_D (fl n : Nat) (vs : List AV) (h : AH) : leave .drop fl n vs h = if fl = n ∧ allB n vs = true then some (tupA vs, h.take n) else none := by rw [leave_d, allB_eq]
theorem below_c (n : Nat) (v : CV) : (AV.c v).isBelow n = v.isBelow n := rfl
theorem below_a (n : Nat) (cs : List CV) : (AV.agg cs).isBelow n = cellsB n cs := cellsB_eq n cs
abbrev PS := List CV × AH × List IntKind × List AO
def pkl (n : Nat) (h : AH) : Option (List AV × AH × List IntKind × List AO) → Option (AV × AH)
  | some (vs, _, [], os) => some (tupA vs, h.take n ++ os)
  | _ => none
theorem pkl_s (n : Nat) (h : AH) (vs : List AV) (h' : AH) (os : List AO) : pkl n h (some (vs, h', [], os)) = some (tupA vs, h.take n ++ os) := rfl
theorem leave_p (fl n : Nat) (vs : List AV) (h : AH) (ks : List IntKind) : leave (.pack ks) fl n vs h = if fl = n then pkl n h (packVs n vs h ks []) else none := by
  unfold leave; simp only; split
  · cases packVs n vs h ks [] with
    | none => rfl
    | some r => obtain ⟨a, b, c, d⟩ := r; cases c <;> rfl
  · rfl
def pvs (n : Nat) (r : List AV) : Option (AV × AH × List IntKind × List AO) → Option (List AV × AH × List IntKind × List AO)
  | some (v, h, ks, acc) => pv2 v (packVs n r h ks acc)
  | none => none
where pv2 (v : AV) : Option (List AV × AH × List IntKind × List AO) → Option (List AV × AH × List IntKind × List AO)
  | some (l, y) => some (v :: l, y)
  | none => none
theorem pvs_s (n : Nat) (r : List AV) (v : AV) (h : AH) (ks : List IntKind) (acc : List AO) : pvs n r (some (v, h, ks, acc)) = pvs.pv2 v (packVs n r h ks acc) := rfl
theorem pv2_s (v : AV) (l : List AV) (y : AH × List IntKind × List AO) : pvs.pv2 v (some (l, y)) = some (v :: l, y) := rfl
theorem packVs_n (n : Nat) (h : AH) (ks : List IntKind) (acc : List AO) : packVs n [] h ks acc = some ([], h, ks, acc) := rfl
theorem packVs_c (n : Nat) (v : AV) (r : List AV) (h : AH) (ks : List IntKind) (acc : List AO) : packVs n (v :: r) h ks acc = pvs n r (packV n v h ks acc) := by
  rw [packVs]; cases packV n v h ks acc with
  | none => rfl
  | some x => obtain ⟨v', h', ks', acc'⟩ := x; simp only [Option.bind_some, pvs]; cases packVs n r h' ks' acc' <;> rfl
def pcs (n : Nat) (r : List CV) : Option (CV × AH × List IntKind × List AO) → Option PS
  | some (v, h, ks, acc) => pc2 v (packCs n r h ks acc)
  | none => none
where pc2 (v : CV) : Option PS → Option PS
  | some (l, y) => some (v :: l, y)
  | none => none
theorem pcs_s (n : Nat) (r : List CV) (v : CV) (h : AH) (ks : List IntKind) (acc : List AO) : pcs n r (some (v, h, ks, acc)) = pcs.pc2 v (packCs n r h ks acc) := rfl
theorem pc2_s (v : CV) (l : List CV) (y : AH × List IntKind × List AO) : pcs.pc2 v (some (l, y)) = some (v :: l, y) := rfl
theorem packCs_n (n : Nat) (h : AH) (ks : List IntKind) (acc : List AO) : packCs n [] h ks acc = some ([], h, ks, acc) := rfl
theorem packCs_c (n : Nat) (v : CV) (r : List CV) (h : AH) (ks : List IntKind) (acc : List AO) : packCs n (v :: r) h ks acc = pcs n r (packC n v h ks acc) := by
  rw [packCs]; cases packC n v h ks acc with
  | none => rfl
  | some x => obtain ⟨v', h', ks', acc'⟩ := x; simp only [Option.bind_some, pcs]; cases packCs n r h' ks' acc' <;> rfl
def pv1 : Option (CV × AH × List IntKind × List AO) → Option (AV × AH × List IntKind × List AO)
  | some (v, y) => some (.c v, y)
  | none => none
def pva : Option PS → Option (AV × AH × List IntKind × List AO)
  | some (l, y) => some (.agg l, y)
  | none => none
theorem pv1_s (v : CV) (y : AH × List IntKind × List AO) : pv1 (some (v, y)) = some (.c v, y) := rfl
theorem pva_s (l : List CV) (y : AH × List IntKind × List AO) : pva (some (l, y)) = some (.agg l, y) := rfl
theorem packV_c (n : Nat) (v : CV) (h : AH) (ks : List IntKind) (acc : List AO) : packV n (.c v) h ks acc = pv1 (packC n v h ks acc) := by rw [packV]; cases packC n v h ks acc <;> rfl
theorem packV_a (n : Nat) (l : List CV) (h : AH) (ks : List IntKind) (acc : List AO) : packV n (.agg l) h ks acc = pva (packCs n l h ks acc) := by rw [packV]; cases packCs n l h ks acc <;> rfl
theorem packC_nil (n : Nat) (h : AH) (k : IntKind) (ks : List IntKind) (acc : List AO) : packC n .nil h (k :: ks) acc = some (.sl (n + acc.length) 0 0 1, h, ks, acc ++ [.ints k []]) := rfl
def psl (n i len : Nat) (h : AH) (k : IntKind) (ks : List IntKind) (acc : List AO) : Option AO → Option (CV × AH × List IntKind × List AO)
  | some (.ints k' l) => if k = k' then some (.sl (n + acc.length) 0 len 1, h.set i .dead, ks, acc ++ [.ints k l]) else none
  | _ => none
theorem psl_s (n i len : Nat) (h : AH) (k : IntKind) (ks : List IntKind) (acc : List AO) (l : List Int) : psl n i len h k ks acc (some (.ints k l)) = some (.sl (n + acc.length) 0 len 1, h.set i .dead, ks, acc ++ [.ints k l]) := if_pos rfl
theorem packC_sl (n i off len sz : Nat) (h : AH) (k : IntKind) (ks : List IntKind) (acc : List AO) : packC n (.sl i off len sz) h (k :: ks) acc = if n ≤ i ∧ sz = 1 then psl n i len h k ks acc (subO len off (h[i]?)) else none := by
  unfold packC; simp only; split
  · cases h[i]? with
    | none => rfl
    | some o => simp only [Option.bind_some, subO]; cases o.sub off len with
      | none => rfl
      | some y => cases y <;> rfl
  · rfl
theorem packC_b (n : Nat) (h : AH) (ks : List IntKind) (acc : List AO) (b : Bool) : packC n (.bool b) h ks acc = some (.bool b, h, ks, acc) := by unfold packC; rfl
theorem packC_i (n : Nat) (h : AH) (ks : List IntKind) (acc : List AO) (k : IntKind) (x : Int) : packC n (.int k x) h ks acc = some (.int k x, h, ks, acc) := by unfold packC; rfl
theorem packC_s (n : Nat) (h : AH) (ks : List IntKind) (acc : List AO) (s : ByteArray) : packC n (.str s) h ks acc = some (.str s, h, ks, acc) := by unfold packC; rfl
theorem tup_1 (v : AV) : tupA [v] = v := rfl
theorem tup_2 (v w : AV) (r : List AV) : tupA (v :: w :: r) = .tup (v :: w :: r) := rfl
theorem tup_0 : tupA [] = .tup [] := rfl

/-! ### arithmetic -/
section
variable (P : Program) (t : TypeId) (k : IntKind) (a b : Int)
theorem b_add : binE P .add t (.int k a) (.int k b) = some (.int k (k.wrap (a + b))) := by simp [binE, binA]
theorem b_sub : binE P .sub t (.int k a) (.int k b) = some (.int k (k.wrap (a - b))) := by simp [binE, binA]
theorem b_mul : binE P .mul t (.int k a) (.int k b) = some (.int k (k.wrap (a * b))) := by simp [binE, binA]
theorem b_quo : binE P .quo t (.int k a) (.int k b) = if b = 0 then none else some (.int k (k.wrap (a.tdiv b))) := by simp [binE, binA]
theorem b_rem : binE P .rem t (.int k a) (.int k b) = if b = 0 then none else some (.int k (a.tmod b)) := by simp [binE, binA]
theorem b_shl (k' : IntKind) : binE P .shl t (.int k a) (.int k' b) = if b < 0 then none else some (.int k (k.wrap (a * 2 ^ (min b.toNat k.bits)))) := by simp [binE, binA]
theorem b_shr (k' : IntKind) : binE P .shr t (.int k a) (.int k' b) = if b < 0 then none else some (.int k (a.fdiv (2 ^ (min b.toNat k.bits)))) := by simp [binE, binA]
theorem b_eql : binE P .eql t (.int k a) (.int k b) = some (.bool (decide (a = b))) := by simp [binE, binA]; rfl
theorem b_neq : binE P .neq t (.int k a) (.int k b) = some (.bool (!decide (a = b))) := by simp [binE, binA]; rfl
theorem b_lss : binE P .lss t (.int k a) (.int k b) = some (.bool (decide (a < b))) := by simp [binE, binA]
theorem b_leq : binE P .leq t (.int k a) (.int k b) = some (.bool (decide (a ≤ b))) := by simp [binE, binA]
theorem b_gtr : binE P .gtr t (.int k a) (.int k b) = some (.bool (decide (b < a))) := by simp [binE, binA]
theorem b_geq : binE P .geq t (.int k a) (.int k b) = some (.bool (decide (b ≤ a))) := by simp [binE, binA]
theorem b_beq (x y : Bool) : binE P .eql t (.bool x) (.bool y) = eqA P t .eql (.bool x) (.bool y) := rfl
theorem b_bne (x y : Bool) : binE P .neq t (.bool x) (.bool y) = eqA P t .neq (.bool x) (.bool y) := rfl
def eqB (x : Bool) : Option TypeDesc → Option CV
  | some .bool => some (.bool x)
  | _ => none
theorem eqB_s (x : Bool) : eqB x (some .bool) = some (.bool x) := rfl
theorem b_eqB (x y : Bool) : binE P .eql t (.bool x) (.bool y) = eqB (x == y) (P.underlying t) := by
  rw [b_beq]; unfold eqA eqB; cases P.underlying t with
  | none => rfl
  | some u => cases u <;> rfl
theorem b_neB (x y : Bool) : binE P .neq t (.bool x) (.bool y) = eqB (!(x == y)) (P.underlying t) := by
  rw [b_bne]; unfold eqA eqB; cases P.underlying t with
  | none => rfl
  | some u => cases u <;> rfl
theorem u_neg : unA .neg (.int k a) = some (.int k (k.wrap (0 - a))) := rfl
theorem u_not (x : Bool) : unA .not (.bool x) = some (.bool (!x)) := rfl
end
end Go.Eng
end
section
/- The engine: calls. No conditions. -/
namespace Go.Eng

/-- A call of what is pure (all of the heap is its floor); a call of what writes. -/
def callP (call : CallF) (g : FuncId) (args : List AV) (h : AH) : Option (AV × AH) := call h.length g args h
def callE (call : CallF) (fl : Nat) (g : FuncId) (args : List AV) (h : AH) : Option (AV × AH) := call fl g args h
def cal1 (call : CallF) (cf : Cfg) (fl : Nat) (g : FuncId) : Option (List AV) → AH → Option (AV × AH)
  | some args, h => if cf.pure g = true then callP call g args h else callE call fl g args h
  | none, _ => none
theorem cal1_s (call : CallF) (cf : Cfg) (fl : Nat) (g : FuncId) (args : List AV) (h : AH) : cal1 call cf fl g (some args) h = if cf.pure g = true then callP call g args h else callE call fl g args h := rfl
theorem op_callf (P : Program) (cf : Cfg) (call : CallF) (fl : Nat) (e : Env) (h : AH) (g : FuncId) (l : List Operand) (ts : Array TypeId) :
    evOp P cf call fl e h (.call ⟨.value (.func g), l.toArray, ts⟩) = cal1 call cf fl g (evs cf e l) h := by
  rw [op_call, ev_f, cell_s]
  cases evs cf e l with
  | none => rfl
  | some a => rw [cal_0, floor_f, cal1_s]; unfold callP callE; split <;> rfl
def calP (call : CallF) : Option CV → Option (List AV) → AH → Option (AV × AH)
  | some (.fn (.func g) first captured), some args, h => callP call g (first.map .c ++ args ++ captured.map .c) h
  | _, _, _ => none
theorem calP_s (call : CallF) (h : AH) (g : Nat) (first captured : List CV) (args : List AV) : calP call (some (.fn (.func g) first captured)) (some args) h = callP call g (first.map .c ++ args ++ captured.map .c) h := rfl
theorem op_callt (P : Program) (cf : Cfg) (call : CallF) (fl : Nat) (e : Env) (h : AH) (t : Nat) (l : List Operand) (ts : Array TypeId) :
    evOp P cf call fl e h (.call ⟨.value (.tmp t), l.toArray, ts⟩) = calP call (cell? (get e t)) (evs cf e l) h := by
  rw [op_call, ev_t, floor_t]
  cases evs cf e l with
  | none => cases cell? (get e t) with
    | none => rfl
    | some v => cases v <;> try rfl
                rename_i g _ _; cases g <;> rfl
  | some a => cases cell? (get e t) with
    | none => rfl
    | some v => cases v <;> try rfl
                rename_i g _ _; cases g <;> rfl
theorem callP_of {call : CallF} {g : FuncId} {args : List AV} {h : AH} {r : Option (AV × AH)} (hr : call h.length g args h = r) : callP call g args h = r := hr
theorem callE_of {call : CallF} {g : FuncId} {fl : Nat} {args : List AV} {h : AH} {r : Option (AV × AH)} (hr : call fl g args h = r) : callE call fl g args h = r := hr

/-- One more slot of what is opened: lengths. -/
theorem w64n {n : Nat} (h : n ≤ 9223372036854775807) : IntKind.wrap .i64 (n : Int) = n := w64 (by omega) (by omega)
end Go.Eng
end
section
/- The engine: comparisons with nil; copies. No conditions. -/
namespace Go.Eng
def eqS (x : Bool) : Option TypeDesc → Option CV
  | some (.slice _) => some (.bool x)
  | _ => none
theorem eqS_s (x : Bool) (t : TypeId) : eqS x (some (.slice t)) = some (.bool x) := rfl
section
variable (P : Program) (t : TypeId) (i off n sz : Nat)
theorem b_nn : binE P .eql t .nil .nil = eqS true (P.underlying t) := by
  unfold binE; simp only; unfold eqA eqS; cases P.underlying t with
  | none => rfl
  | some u => cases u <;> rfl
theorem b_nn' : binE P .neq t .nil .nil = eqS false (P.underlying t) := by
  unfold binE; simp only; unfold eqA eqS; cases P.underlying t with
  | none => rfl
  | some u => cases u <;> rfl
theorem b_snn : binE P .eql t (.sn i off n sz) .nil = eqS false (P.underlying t) := by
  unfold binE; simp only; unfold eqA eqS; cases P.underlying t with
  | none => rfl
  | some u => cases u <;> rfl
theorem b_snn' : binE P .neq t (.sn i off n sz) .nil = eqS true (P.underlying t) := by
  unfold binE; simp only; unfold eqA eqS; cases P.underlying t with
  | none => rfl
  | some u => cases u <;> rfl
theorem src_sn (ko : Option IntKind) (size : Nat) (h : AH) (j off n sz : Nat) : srcO ko size h (.sn j off n sz) = if sz = size then sr off (n * sz) n (h[j]?) else none := by
  unfold srcO; simp only; split
  · cases h[j]? <;> rfl
  · rfl
end

theorem b_and (P : Program) (t : TypeId) (k : IntKind) (a b : Int) : binE P .and t (.int k a) (.int k b) = some (.int k (k.wrap (BitVec.ofInt k.bits a &&& BitVec.ofInt k.bits b).toNat)) := by simp [binE, binA]
theorem b_or (P : Program) (t : TypeId) (k : IntKind) (a b : Int) : binE P .or t (.int k a) (.int k b) = some (.int k (k.wrap (BitVec.ofInt k.bits a ||| BitVec.ofInt k.bits b).toNat)) := by simp [binE, binA]
theorem b_xor (P : Program) (t : TypeId) (k : IntKind) (a b : Int) : binE P .xor t (.int k a) (.int k b) = some (.int k (k.wrap (BitVec.ofInt k.bits a ^^^ BitVec.ofInt k.bits b).toNat)) := by simp [binE, binA]
def xor64 (a b : Int) : Int := IntKind.wrap .i64 (BitVec.ofInt 64 a ^^^ BitVec.ofInt 64 b).toNat
theorem b_xor64 (P : Program) (t : TypeId) (a b : Int) : binE P .xor t (.int .i64 a) (.int .i64 b) = some (.int .i64 (xor64 a b)) := b_xor ..
/-- & 255. -/
def and255 (a : Int) : Int := IntKind.wrap .i64 (BitVec.ofInt 64 a &&& BitVec.ofInt 64 255).toNat
theorem and255_bd (a : Int) : 0 ≤ and255 a ∧ and255 a < 256 := by
  have h : (BitVec.ofInt 64 a &&& BitVec.ofInt 64 255).toNat < 256 := by
    rw [BitVec.toNat_and]
    exact Nat.lt_of_le_of_lt Nat.and_le_right (by decide)
  unfold and255
  rw [w64n (by omega)]
  omega
theorem b_and255 (P : Program) (t : TypeId) (a : Int) : binE P .and t (.int .i64 a) (.int .i64 255) = some (.int .i64 (and255 a)) := b_and ..
theorem rdI_sn {k : IntKind} {h : AH} {l : List Int} {i off n : Nat} (hr : rdI k h (.sn i off n 1) = some l) : ∃ m, h[i]? = some (.ints k m) ∧ off + n ≤ m.length ∧ l = (m.drop off).take n ∧ l.length = n := by
  unfold rdI at hr
  simp only [if_true] at hr
  obtain ⟨o, h1, hr⟩ := Option.bind_eq_some_iff.1 hr
  obtain ⟨y, h2, hr⟩ := Option.bind_eq_some_iff.1 hr
  split at hr
  · split at hr
    · rename_i hk; subst hk; injection hr with hr; subst hr
      obtain ⟨m, rfl, h4, h5⟩ := sub_ints h2
      exact ⟨m, h1, h4, h5, by rw [h5, List.length_take, List.length_drop]; omega⟩
    · simp at hr
  · simp at hr
theorem cells_vals (l : List CV) : (AO.vals l).cells = l := rfl
theorem take_new (h l : AH) (k : Nat) : (h ++ l).take (h.length + k) = h ++ l.take k := by
  rw [List.take_append, List.take_of_length_le (by omega)]; simp
end Go.Eng
end
section
/- The engine: a law over bytes is called. No conditions. -/
namespace Go.Eng
/-- What is told of a slice of whole numbers that is an argument. -/
def RowI (k : IntKind) (w : World) (a : Option Addr) (len cap : Nat) (zs : List Int) : Prop :=
  (a = none ∧ len = 0 ∧ cap = 0 ∧ zs = []) ∨
  ∃ x, a = some x ∧ len ≤ cap ∧ cap ≤ maxLen ∧ zs.length = cap ∧ (∀ i, i < zs.length → w.cell? (x.add i) = some (.int k (zs.getD i 0))) ∧ ∀ n ∈ zs, (Lit.int k n).wf = true

theorem cell_add {w : World} {x : Addr} {i : Nat} {v : Value} (hs : x.spot = none) (hc : w.cell? (x.add i) = some v) : w.cell? ⟨x.block, x.off + i, none⟩ = some v := by
  unfold Addr.add at hc
  split at hc
  · rename_i e; subst e; obtain ⟨b, o, s⟩ := x; simp at hs; subst hs; exact hc
  · obtain ⟨b, o, s⟩ := x; exact hc

theorem row_open {cf : Cfg} (hg : ∀ g, cf.glob g = none) {k : IntKind} {w : World} {a : Option Addr} {len cap : Nat} {zs : List Int} (hr : RowI k w a len cap zs) :
    ∃ μ : Pl, Rel cf 1 μ w [.ints k (zs.take len)] ∧ VC μ (.sl 0 0 len 1) (.slice a len cap) ∧ (zs.take len).length = len := by
  by_cases hcap : cap = 0
  · have h0 : len = 0 ∧ zs = [] := by
      rcases hr with ⟨_, h1, _, h2⟩ | ⟨x, _, h1, _, h2, _⟩
      · exact ⟨h1, h2⟩
      · exact ⟨by omega, List.eq_nil_of_length_eq_zero (by omega)⟩
    obtain ⟨rfl, rfl⟩ := h0
    subst hcap
    refine ⟨fun _ => none, ⟨fun i p h => by simp at h, fun i b o e h => by simp at h, fun i b o e h => by simp at h, fun i b o e x h => by simp at h, fun i j p q _ h => by simp at h, fun g c h => by rw [hg] at h; simp at h⟩, .sz _ _ _ _, rfl⟩
  · rcases hr with ⟨_, _, h1, _⟩ | ⟨x, rfl, h1, h2, h3, h4, h5⟩
    · exact absurd h1 hcap
    · have hx : x.spot = none := by
        have := h4 0 (by omega)
        unfold Addr.add at this
        rw [if_pos rfl] at this
        unfold World.cell? at this
        split at this
        · split at this
          · simp at this
          · rename_i hs; simpa using hs
        · simp at this
      have hlast := cell_add hx (h4 (cap - 1) (by omega))
      have hb : ∃ cs t fz, w.heap[x.block]? = some (.cells cs t fz) ∧ x.off + cap ≤ cs.size := by
        unfold World.cell? at hlast
        split at hlast
        · rename_i c t fz hc
          refine ⟨_, _, _, hc, ?_⟩
          simp only [Option.isSome_none, Bool.false_eq_true, if_false] at hlast
          have := (Array.getElem?_eq_some_iff.1 hlast).1
          omega
        · simp at hlast
      have hl : (zs.take len).length = len := by rw [List.length_take]; omega
      refine ⟨fun i => if i = 0 then some (x.block, x.off, cap) else none, ⟨?_, ?_, ?_, ?_, ?_, fun g c h => by rw [hg] at h; simp at h⟩, ?_, hl⟩
      · intro i p h
        by_cases e : i = 0
        · subst e; simp
        · simp [e] at h
      · intro i b o e h
        by_cases e' : i = 0
        · simp [e'] at h; obtain ⟨rfl, rfl, rfl⟩ := h; exact hb
        · simp [e'] at h
      · intro i b o e h hi
        by_cases e' : i = 0
        · omega
        · simp [e'] at h
      · intro i b o e y h hy
        by_cases e' : i = 0
        · subst e'
          simp at h; obtain ⟨rfl, rfl, rfl⟩ := h
          simp at hy; subst hy
          refine ⟨by simp only [AO.cells, List.length_map]; omega, fun c v hc => ?_⟩
          simp only [AO.cells, List.getElem?_map] at hc
          obtain ⟨n, hn, rfl⟩ := Option.map_eq_some_iff.1 hc
          have hlt : c < len := by have := (List.getElem?_eq_some_iff.1 hn).1; omega
          rw [List.getElem?_take_of_lt hlt] at hn
          have := cell_add hx (h4 c (by omega))
          rw [List.getD_eq_getElem?_getD, hn] at this
          exact ⟨_, this, .int _ _⟩
        · simp [e'] at h
      · intro i j p q hij hi hj hn
        by_cases e' : j = 0
        · omega
        · simp [e'] at hj
      · have := VC.sl (μ := fun i => if i = 0 then some (x.block, x.off, cap) else none) 0 0 len 1 x.block x.off cap cap (by simp) h1 (by omega)
        obtain ⟨b, o, s⟩ := x
        simp at hx; subst hx
        simpa using this

/-- A law over bytes: what the engine computes, it does. -/
theorem law_bytes {P : Program} {cf : Cfg} (hm : P.follows .mixedOrders = true) (hst : Static P cf) (hcl : CloneOK P cf) (hg : ∀ g, cf.glob g = none) {d : Nat} {f : FuncId} {k : IntKind} {w : World} {a : Option Addr} {len cap : Nat} {zs : List Int} (hr : RowI k w a len cap zs) {h' : AH}
    (hrun : run P cf d 1 f [.c (.sl 0 0 len 1)] [.ints k (zs.take len)] = some (.c (.bool true), h')) :
    Calls P f #[.slice a len cap] w (fun e w' => e = .returned (.bool true) ∧ Go.RowKit.Below w.heap.size w w') := by
  obtain ⟨μ, R, hv, _⟩ := row_open hg hr
  obtain ⟨_, hc⟩ := run_sound (n0 := 1) hm hst hcl d 1 f _ _ _ _ (Nat.le_refl _) (Nat.le_refl _)
    (fun x hx c hc => by
      simp at hx; subst hx
      simp only [AO.cells] at hc
      obtain ⟨n, _, rfl⟩ := List.mem_map.1 hc
      rfl) rfl (fun g c h => by rw [hg] at h; simp at h) hrun μ w #[.slice a len cap] R (.cons _ _ _ _ (.c _ _ hv) .nil)
  refine hc.mono fun e w' ⟨u, μ', e1, e2, s⟩ => ?_
  have hu : u = .bool true := by
    cases e2 with
    | c _ _ h => cases h; rfl
  subst hu
  refine ⟨e1, ⟨s.os, s.tape, s.out, s.size, fun b hb => s.frame b hb fun j q hj hq => ?_⟩⟩
  have := R.lt j q hq
  simp at this; omega
end Go.Eng
end
