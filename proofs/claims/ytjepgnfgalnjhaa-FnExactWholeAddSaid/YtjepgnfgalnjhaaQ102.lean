/- The machine side of Go functions, written by a program of this session over the print of the translation. No conditions. -/
import Derived.Test.YtjepgnfgalnjhaaQ0
import Derived.Test.YtjepgnfgalnjhaaQ98
import Derived.Test.YtjepgnfgalnjhaaQ99
import Derived.Test.YtjepgnfgalnjhaaQ101
namespace Go.Proofs.Ytjepgnfgalnjhaa.Q
open Go.RowKit Go.Proofs.YtjepgnfgalnjhaaW.PrintWords Go.Proofs.YtjepgnfgalnjhaaW.PrintLast Go.Proofs.YtjepgnfgalnjhaaW.PrintMore
attribute [local go_sem] max2_int min2_int max_two min_two max_three min_three max_four min_four   -- for this text's walks alone
set_option linter.unusedVariables false
set_option linter.unusedSimpArgs false

/-! ### spec_WholeAdd: function 51 -/
def spec_WholeAdd.j0 : Nat → Bool → Bool → List Int → Bool → List Int → Option (Bool × List Int × Bool)
  | 0, _, _, _, _, _ => none
  | k + 1, x13, x1203000, x1203001, x1204000, x1204001 => if x13 = true then (some (false, ([] : List Int), false)) else ((spec_l3add.f k x1203000 x1203001 x1204000 x1204001).bind fun bt1207 => ((spec_l3fits.f bt1207.1 bt1207.2).bind fun bt1211 => (some (bt1211.1, bt1211.2.1, bt1211.2.2))))
def spec_WholeAdd.f (k : Nat) (a0_0 : Bool) (l0_1 : List Int) (a1_0 : Bool) (l1_1 : List Int) : Option (Bool × List Int × Bool) := (spec_WholeOk.f k a0_0 l0_1).bind fun t1205 => (if t1205 = true then ((spec_WholeOk.f k a1_0 l1_1).bind fun t1206 => (spec_WholeAdd.j0 k (!t1206) a0_0 l0_1 a1_0 l1_1)) else (spec_WholeAdd.j0 k true a0_0 l0_1 a1_0 l1_1))
set_option maxHeartbeats 8000000 in
set_option maxRecDepth 100000 in
theorem spec_WholeAdd.calls (k : Nat) (a0_0 : Bool) (A0_1 : Option Addr) (c0_1 : Nat) (l0_1 : List Int) (a1_0 : Bool) (A1_1 : Option Addr) (c1_1 : Nat) (l1_1 : List Int) (r1 : Bool) (r2 : List Int) (r3 : Bool) (w : World) (hr0_1 : Kd.C (Kd.int .i64) w A0_1 l0_1.length l0_1) (hc0_1 : l0_1.length ≤ c0_1) (hr1_1 : Kd.C (Kd.int .i64) w A1_1 l1_1.length l1_1) (hc1_1 : l1_1.length ≤ c1_1) (h : spec_WholeAdd.f k a0_0 l0_1 a1_0 l1_1 = some (r1, r2, r3)) :
    Calls Try.prog 51 #[.agg #[.bool a0_0, .slice A0_1 l0_1.length c0_1], .agg #[.bool a1_0, .slice A1_1 l1_1.length c1_1]] w fun e w' => ∃ v1_ : Value, e = .returned (.tuple #[.agg #[.bool r1, v1_], .bool r3]) ∧ Kd.R (Kd.int .i64) 3 w' w.heap.size (fun _ => True) v1_ r2 ∧ Below w.heap.size w w' := by
  have hu59 := Try.underlying59
  have HR0_1 := Aside0.mk hr0_1
  have HC0_1 := Aside0.mk hc0_1
  clear hr0_1 hc0_1
  have HR1_1 := Aside0.mk hr1_1
  have HC1_1 := Aside0.mk hc1_1
  clear hr1_1 hc1_1
  have HB := Aside0.mk (Below.refl w.heap.size w)
  have H : ((spec_WholeOk.f k a0_0 l0_1).bind fun t1205 => (if t1205 = true then ((spec_WholeOk.f k a1_0 l1_1).bind fun t1206 => (spec_WholeAdd.j0 k (!t1206) a0_0 l0_1 a1_0 l1_1)) else (spec_WholeAdd.j0 k true a0_0 l0_1 a1_0 l1_1))) = some (r1, r2, r3) := h
  clear h
  have HC3 := Aside0.mk H
  clear H
  go_enter Try.func51, Try.ntmps51
  go_upto_region 1 with (first | ((with_reducible refine gate_dst (N := 2) rfl ?_); refine box_event ?hg (N := 2) ?hd (cs := #[.bool a0_0, .slice A0_1 l0_1.length c0_1]) (t := 59) ?hr ?_; (case hd => rfl); (case hg => rfl); (case hr => first | (go_simp; done) | (go_simp; rfl)); intro gb1202 hg w4 hbox hb; have n0_ := Aside0.mk (below_step (by repeat (first | (with_reducible first | exact HB.out | apply below_alloc | apply pw_below_drewN | apply below_drew1) | exact HB.out)) hb); have n1_ := Aside0.mk (hbox); have n2_ := Aside0.mk ((by rw [hg]; exact (below_size (by repeat (first | (with_reducible first | exact HB.out | apply below_alloc | apply pw_below_drewN | apply below_drew1) | exact HB.out))) : w.heap.size ≤ gb1202)); have n3_ := Aside0.mk ((by rw [hg]; exact (below_size (by repeat (first | (with_reducible first | exact HB.out | apply below_alloc | apply pw_below_drewN | apply below_drew1) | exact HB.out))) : w.heap.size ≤ gb1202)); clear HB; have HB := n0_; have BK1202 := n1_; have GW1202 := n2_; have GE1202 := n3_; clear n0_ n1_ n2_ n3_; clear hb hbox hg) | ((with_reducible refine gate_dst (N := 3) rfl ?_); refine box_event ?hg (N := 3) ?hd (cs := #[.bool a1_0, .slice A1_1 l1_1.length c1_1]) (t := 59) ?hr ?_; (case hd => rfl); (case hg => rfl); (case hr => first | (go_simp; done) | (go_simp; rfl)); intro gb1203 hg w5 hbox hb; have n0_ := Aside0.mk (blk_below (g := gb1202) (o := .cells #[.bool a0_0, .slice A0_1 l0_1.length c0_1] 59 (0, 0)) (by (with_reducible repeat (first | refine blk_drewN ?_ _ | refine blk_drew ?_ | refine blk_alloc ?_ _)); exact BK1202.out) hb); have n1_ := Aside0.mk (below_step (by repeat (first | (with_reducible first | exact HB.out | apply below_alloc | apply pw_below_drewN | apply below_drew1 | refine below_set ?_ GE1202.out) | exact HB.out)) hb); have n2_ := Aside0.mk (hbox); have n3_ := Aside0.mk ((by rw [hg]; exact (below_size (by repeat (first | (with_reducible first | exact HB.out | apply below_alloc | apply pw_below_drewN | apply below_drew1 | refine below_set ?_ GE1202.out) | exact HB.out))) : w.heap.size ≤ gb1203)); have n4_ := Aside0.mk ((by rw [hg]; exact (below_size (by repeat (first | (with_reducible first | exact HB.out | apply below_alloc | apply pw_below_drewN | apply below_drew1 | refine below_set ?_ GE1202.out) | exact HB.out))) : w.heap.size ≤ gb1203)); have n5_ := Aside0.mk ((by rw [hg]; exact Nat.ne_of_lt (blk_lt (g := gb1202) (o := .cells #[.bool a0_0, .slice A0_1 l0_1.length c0_1] 59 (0, 0)) (by (with_reducible repeat (first | refine blk_drewN ?_ _ | refine blk_drew ?_ | refine blk_alloc ?_ _)); exact BK1202.out)) : gb1202 ≠ gb1203)); have n6_ := Aside0.mk ((by rw [hg]; exact Nat.ne_of_gt (blk_lt (g := gb1202) (o := .cells #[.bool a0_0, .slice A0_1 l0_1.length c0_1] 59 (0, 0)) (by (with_reducible repeat (first | refine blk_drewN ?_ _ | refine blk_drew ?_ | refine blk_alloc ?_ _)); exact BK1202.out)) : gb1203 ≠ gb1202)); clear BK1202; clear HB; have BK1202 := n0_; have HB := n1_; have BK1203 := n2_; have GW1203 := n3_; have GE1203 := n4_; have NB1202_1203 := n5_; have NB1203_1202 := n6_; clear n0_ n1_ n2_ n3_ n4_ n5_ n6_; clear hb hbox hg) | ((with_reducible refine gate_dst (N := 4) rfl ?_); refine box_event ?hg (N := 4) ?hd (cs := #[.bool false, .slice none 0 0]) (t := 59) ?hr ?_; (case hd => rfl); (case hg => rfl); (case hr => first | (go_simp; done) | (go_simp; rfl)); intro gb1204 hg w6 hbox hb; have n0_ := Aside0.mk (blk_below (g := gb1202) (o := .cells #[.bool a0_0, .slice A0_1 l0_1.length c0_1] 59 (0, 0)) (by (with_reducible repeat (first | refine blk_drewN ?_ _ | refine blk_drew ?_ | refine blk_alloc ?_ _)); exact BK1202.out) hb); have n1_ := Aside0.mk (blk_below (g := gb1203) (o := .cells #[.bool a1_0, .slice A1_1 l1_1.length c1_1] 59 (0, 0)) (by (with_reducible repeat (first | refine blk_drewN ?_ _ | refine blk_drew ?_ | refine blk_alloc ?_ _)); exact BK1203.out) hb); have n2_ := Aside0.mk (below_step (by repeat (first | (with_reducible first | exact HB.out | apply below_alloc | apply pw_below_drewN | apply below_drew1 | refine below_set ?_ GE1202.out | refine below_set ?_ GE1203.out) | exact HB.out)) hb); have n3_ := Aside0.mk (hbox); have n4_ := Aside0.mk ((by rw [hg]; exact (below_size (by repeat (first | (with_reducible first | exact HB.out | apply below_alloc | apply pw_below_drewN | apply below_drew1 | refine below_set ?_ GE1202.out | refine below_set ?_ GE1203.out) | exact HB.out))) : w.heap.size ≤ gb1204)); have n5_ := Aside0.mk ((by rw [hg]; exact (below_size (by repeat (first | (with_reducible first | exact HB.out | apply below_alloc | apply pw_below_drewN | apply below_drew1 | refine below_set ?_ GE1202.out | refine below_set ?_ GE1203.out) | exact HB.out))) : w.heap.size ≤ gb1204)); have n6_ := Aside0.mk ((by rw [hg]; exact Nat.ne_of_lt (blk_lt (g := gb1202) (o := .cells #[.bool a0_0, .slice A0_1 l0_1.length c0_1] 59 (0, 0)) (by (with_reducible repeat (first | refine blk_drewN ?_ _ | refine blk_drew ?_ | refine blk_alloc ?_ _)); exact BK1202.out)) : gb1202 ≠ gb1204)); have n7_ := Aside0.mk ((by rw [hg]; exact Nat.ne_of_gt (blk_lt (g := gb1202) (o := .cells #[.bool a0_0, .slice A0_1 l0_1.length c0_1] 59 (0, 0)) (by (with_reducible repeat (first | refine blk_drewN ?_ _ | refine blk_drew ?_ | refine blk_alloc ?_ _)); exact BK1202.out)) : gb1204 ≠ gb1202)); have n8_ := Aside0.mk ((by rw [hg]; exact Nat.ne_of_lt (blk_lt (g := gb1203) (o := .cells #[.bool a1_0, .slice A1_1 l1_1.length c1_1] 59 (0, 0)) (by (with_reducible repeat (first | refine blk_drewN ?_ _ | refine blk_drew ?_ | refine blk_alloc ?_ _)); exact BK1203.out)) : gb1203 ≠ gb1204)); have n9_ := Aside0.mk ((by rw [hg]; exact Nat.ne_of_gt (blk_lt (g := gb1203) (o := .cells #[.bool a1_0, .slice A1_1 l1_1.length c1_1] 59 (0, 0)) (by (with_reducible repeat (first | refine blk_drewN ?_ _ | refine blk_drew ?_ | refine blk_alloc ?_ _)); exact BK1203.out)) : gb1204 ≠ gb1203)); clear BK1202; clear BK1203; clear HB; have BK1202 := n0_; have BK1203 := n1_; have HB := n2_; have BK1204 := n3_; have GW1204 := n4_; have GE1204 := n5_; have NB1202_1204 := n6_; have NB1204_1202 := n7_; have NB1203_1204 := n8_; have NB1204_1203 := n9_; clear n0_ n1_ n2_ n3_ n4_ n5_ n6_ n7_ n8_ n9_; clear hb hbox hg))
  (try simp only [Act.put, List.setIfInBounds_toArray, List.set_cons_zero, List.set_cons_succ])
  go_cut [13] (fun v13 wc => ∃ (kq : Nat) (x13_2 : Bool), v13 = .bool x13_2 ∧ Aside0 (spec_WholeAdd.j0 kq x13_2 a0_0 l0_1 a1_0 l1_1 = some (r1, r2, r3)) ∧ Aside0 (kq ≤ k) ∧ Aside0 (wc.heap[gb1202]? = some (.cells #[.bool a0_0, (.slice A0_1 l0_1.length c0_1)] 59 (0, 0))) ∧ Aside0 (wc.heap[gb1203]? = some (.cells #[.bool a1_0, (.slice A1_1 l1_1.length c1_1)] 59 (0, 0))) ∧ Aside0 (wc.heap[gb1204]? = some (.cells #[.bool false, (.slice none 0 0)] 59 (0, 0))) ∧ Aside0 (Below w.heap.size w wc))
  case first =>
    have H := HC3.out
    clear HC3
    replace H := Option.bind_eq_some_iff.mp H
    obtain ⟨t1205, A70, H⟩ := H
    replace H : (if t1205 = true then ((spec_WholeOk.f k a1_0 l1_1).bind fun t1206 => (spec_WholeAdd.j0 k (!t1206) a0_0 l0_1 a1_0 l1_1)) else (spec_WholeAdd.j0 k true a0_0 l0_1 a1_0 l1_1)) = some (r1, r2, r3) := H
    have A7 := Aside0.mk A70
    clear A70
    by_cases c8 : t1205 = true
    · subst c8
      have H1 : ((spec_WholeOk.f k a1_0 l1_1).bind fun t1206 => (spec_WholeAdd.j0 k (!t1206) a0_0 l0_1 a1_0 l1_1)) = some (r1, r2, r3) := by rw [if_pos rfl] at H; exact H
      clear H
      have H := H1
      clear H1
      replace H := Option.bind_eq_some_iff.mp H
      obtain ⟨t1206, A90, H⟩ := H
      replace H : (spec_WholeAdd.j0 k (!t1206) a0_0 l0_1 a1_0 l1_1) = some (r1, r2, r3) := H
      have A9 := Aside0.mk A90
      clear A90
      have H' := Aside0.mk H
      clear H
      have hnb10 := NB1202_1203.out
      have hnc10 := NB1203_1202.out
      have hnb11 := NB1202_1204.out
      have hnc11 := NB1204_1202.out
      have hcz12_0 : w6.cell? ⟨gb1202, 0, none⟩ = some (.bool a0_0) := (blk_cell BK1202.out 0).trans rfl
      have hcz12_1 : w6.cell? ⟨gb1202, 1, none⟩ = some (.slice A0_1 l0_1.length c0_1) := (blk_cell BK1202.out 1).trans rfl
      have hfz12_0 := blk_frozen BK1202.out 0
      have hfz12_1 := blk_frozen BK1202.out 1
      go_wp2_with (first | ((with_reducible refine gate_callee (f := 96) rfl ?_); refine goesL_ (some 7) rfl rfl Try.func96 (by kernel_rfl) rfl #[.agg #[.bool a0_0, .slice A0_1 l0_1.length c0_1]] rfl (by (try simp only [List.map_toArray, List.map_cons, List.map_nil]); first | done | rfl | (simp only [List.length_drop, List.length_take]; rfl) | (simp only [i64_w, u8_w, w64_b]; rfl)) ?_; (with_reducible refine (spec_WholeOk.calls k a0_0 _ _ l0_1 true _ ?side1 ?side2 A7.out).mono ?_); (case side1 => repeat (first | exact (Kd.C_below HR0_1.out HB.out) | (with_reducible refine Kd.C_alloc ?_ _) | (with_reducible refine Kd.C_drewN ?_ _) | (with_reducible refine Kd.C_drew ?_))); (case side2 => exact HC0_1.out); rintro e w13 ⟨rfl, hb⟩; refine ⟨_, rfl, ?_⟩; have n0_ := Aside0.mk (blk_below (g := gb1202) (o := .cells #[.bool a0_0, .slice A0_1 l0_1.length c0_1] 59 (0, 0)) (by (with_reducible repeat (first | refine blk_drewN ?_ _ | refine blk_drew ?_ | refine blk_alloc ?_ _)); exact BK1202.out) hb); have n1_ := Aside0.mk (blk_below (g := gb1203) (o := .cells #[.bool a1_0, .slice A1_1 l1_1.length c1_1] 59 (0, 0)) (by (with_reducible repeat (first | refine blk_drewN ?_ _ | refine blk_drew ?_ | refine blk_alloc ?_ _)); exact BK1203.out) hb); have n2_ := Aside0.mk (blk_below (g := gb1204) (o := .cells #[.bool false, .slice none 0 0] 59 (0, 0)) (by (with_reducible repeat (first | refine blk_drewN ?_ _ | refine blk_drew ?_ | refine blk_alloc ?_ _)); exact BK1204.out) hb); have n3_ := Aside0.mk (below_step (by repeat (first | (with_reducible first | exact HB.out | apply below_alloc | apply pw_below_drewN | apply below_drew1 | refine below_set ?_ GE1202.out | refine below_set ?_ GE1203.out | refine below_set ?_ GE1204.out) | exact HB.out)) hb); clear BK1202; clear BK1203; clear BK1204; clear HB; have BK1202 := n0_; have BK1203 := n1_; have BK1204 := n2_; have HB := n3_; clear n0_ n1_ n2_ n3_; (try clear hb); (try clear hb2); (try clear hk); (try clear hi); have hnb14 := NB1203_1204.out; have hnc14 := NB1204_1203.out; have hcz15_0 : w13.cell? ⟨gb1203, 0, none⟩ = some (.bool a1_0) := (blk_cell BK1203.out 0).trans rfl; have hcz15_1 : w13.cell? ⟨gb1203, 1, none⟩ = some (.slice A1_1 l1_1.length c1_1) := (blk_cell BK1203.out 1).trans rfl; have hfz15_0 := blk_frozen BK1203.out 0; have hfz15_1 := blk_frozen BK1203.out 1) | (go_at_call 96; (with_reducible refine (spec_WholeOk.calls k a1_0 _ _ l1_1 t1206 _ ?side1 ?side2 A9.out).mono ?_); (case side1 => repeat (first | exact (Kd.C_below HR1_1.out HB.out) | (with_reducible refine Kd.C_alloc ?_ _) | (with_reducible refine Kd.C_drewN ?_ _) | (with_reducible refine Kd.C_drew ?_))); (case side2 => exact HC1_1.out); rintro e w16 ⟨rfl, hb⟩; have n0_ := Aside0.mk (blk_below (g := gb1202) (o := .cells #[.bool a0_0, .slice A0_1 l0_1.length c0_1] 59 (0, 0)) (by (with_reducible repeat (first | refine blk_drewN ?_ _ | refine blk_drew ?_ | refine blk_alloc ?_ _)); exact BK1202.out) hb); have n1_ := Aside0.mk (blk_below (g := gb1203) (o := .cells #[.bool a1_0, .slice A1_1 l1_1.length c1_1] 59 (0, 0)) (by (with_reducible repeat (first | refine blk_drewN ?_ _ | refine blk_drew ?_ | refine blk_alloc ?_ _)); exact BK1203.out) hb); have n2_ := Aside0.mk (blk_below (g := gb1204) (o := .cells #[.bool false, .slice none 0 0] 59 (0, 0)) (by (with_reducible repeat (first | refine blk_drewN ?_ _ | refine blk_drew ?_ | refine blk_alloc ?_ _)); exact BK1204.out) hb); have n3_ := Aside0.mk (below_step (by repeat (first | (with_reducible first | exact HB.out | apply below_alloc | apply pw_below_drewN | apply below_drew1 | refine below_set ?_ GE1202.out | refine below_set ?_ GE1203.out | refine below_set ?_ GE1204.out) | exact HB.out)) hb); clear BK1202; clear BK1203; clear BK1204; clear HB; have BK1202 := n0_; have BK1203 := n1_; have BK1204 := n2_; have HB := n3_; clear n0_ n1_ n2_ n3_; (try clear hb); (try clear hb2); (try clear hk); (try clear hi)))
      go_meet
      case rel => exact ⟨_, (!t1206), (by first | rfl | (simp; done) | (simp [*]; done)), H', ⟨by first | omega | exact Nat.le_refl _⟩, ⟨by (with_reducible repeat (first | refine blk_drewN ?_ _ | refine blk_drew ?_ | refine blk_alloc ?_ _)); exact BK1202.out⟩, ⟨by (with_reducible repeat (first | refine blk_drewN ?_ _ | refine blk_drew ?_ | refine blk_alloc ?_ _)); exact BK1203.out⟩, ⟨by (with_reducible repeat (first | refine blk_drewN ?_ _ | refine blk_drew ?_ | refine blk_alloc ?_ _)); exact BK1204.out⟩, ⟨by repeat (first | (with_reducible first | exact HB.out | apply below_alloc | apply pw_below_drewN | apply below_drew1 | refine below_set ?_ GE1202.out | refine below_set ?_ GE1203.out | refine below_set ?_ GE1204.out) | exact HB.out)⟩⟩
    · replace c8 := Bool.eq_false_iff.mpr c8
      subst c8
      have H1 : (spec_WholeAdd.j0 k true a0_0 l0_1 a1_0 l1_1) = some (r1, r2, r3) := by rw [if_neg (show ¬ (false = true) by decide)] at H; exact H
      clear H
      have H := H1
      clear H1
      have H' := Aside0.mk H
      clear H
      have hnb17 := NB1202_1203.out
      have hnc17 := NB1203_1202.out
      have hnb18 := NB1202_1204.out
      have hnc18 := NB1204_1202.out
      have hcz19_0 : w6.cell? ⟨gb1202, 0, none⟩ = some (.bool a0_0) := (blk_cell BK1202.out 0).trans rfl
      have hcz19_1 : w6.cell? ⟨gb1202, 1, none⟩ = some (.slice A0_1 l0_1.length c0_1) := (blk_cell BK1202.out 1).trans rfl
      have hfz19_0 := blk_frozen BK1202.out 0
      have hfz19_1 := blk_frozen BK1202.out 1
      go_wp2_with (first | ((with_reducible refine gate_callee (f := 96) rfl ?_); refine goesL_ (some 7) rfl rfl Try.func96 (by kernel_rfl) rfl #[.agg #[.bool a0_0, .slice A0_1 l0_1.length c0_1]] rfl (by (try simp only [List.map_toArray, List.map_cons, List.map_nil]); first | done | rfl | (simp only [List.length_drop, List.length_take]; rfl) | (simp only [i64_w, u8_w, w64_b]; rfl)) ?_; (with_reducible refine (spec_WholeOk.calls k a0_0 _ _ l0_1 false _ ?side1 ?side2 A7.out).mono ?_); (case side1 => repeat (first | exact (Kd.C_below HR0_1.out HB.out) | (with_reducible refine Kd.C_alloc ?_ _) | (with_reducible refine Kd.C_drewN ?_ _) | (with_reducible refine Kd.C_drew ?_))); (case side2 => exact HC0_1.out); rintro e w20 ⟨rfl, hb⟩; refine ⟨_, rfl, ?_⟩; have n0_ := Aside0.mk (blk_below (g := gb1202) (o := .cells #[.bool a0_0, .slice A0_1 l0_1.length c0_1] 59 (0, 0)) (by (with_reducible repeat (first | refine blk_drewN ?_ _ | refine blk_drew ?_ | refine blk_alloc ?_ _)); exact BK1202.out) hb); have n1_ := Aside0.mk (blk_below (g := gb1203) (o := .cells #[.bool a1_0, .slice A1_1 l1_1.length c1_1] 59 (0, 0)) (by (with_reducible repeat (first | refine blk_drewN ?_ _ | refine blk_drew ?_ | refine blk_alloc ?_ _)); exact BK1203.out) hb); have n2_ := Aside0.mk (blk_below (g := gb1204) (o := .cells #[.bool false, .slice none 0 0] 59 (0, 0)) (by (with_reducible repeat (first | refine blk_drewN ?_ _ | refine blk_drew ?_ | refine blk_alloc ?_ _)); exact BK1204.out) hb); have n3_ := Aside0.mk (below_step (by repeat (first | (with_reducible first | exact HB.out | apply below_alloc | apply pw_below_drewN | apply below_drew1 | refine below_set ?_ GE1202.out | refine below_set ?_ GE1203.out | refine below_set ?_ GE1204.out) | exact HB.out)) hb); clear BK1202; clear BK1203; clear BK1204; clear HB; have BK1202 := n0_; have BK1203 := n1_; have BK1204 := n2_; have HB := n3_; clear n0_ n1_ n2_ n3_; (try clear hb); (try clear hb2); (try clear hk); (try clear hi)))
      go_meet
      case rel => exact ⟨_, (true), (by first | rfl | (simp; done) | (simp [*]; done)), H', ⟨by first | omega | exact Nat.le_refl _⟩, ⟨by (with_reducible repeat (first | refine blk_drewN ?_ _ | refine blk_drew ?_ | refine blk_alloc ?_ _)); exact BK1202.out⟩, ⟨by (with_reducible repeat (first | refine blk_drewN ?_ _ | refine blk_drew ?_ | refine blk_alloc ?_ _)); exact BK1203.out⟩, ⟨by (with_reducible repeat (first | refine blk_drewN ?_ _ | refine blk_drew ?_ | refine blk_alloc ?_ _)); exact BK1204.out⟩, ⟨by repeat (first | (with_reducible first | exact HB.out | apply below_alloc | apply pw_below_drewN | apply below_drew1 | refine below_set ?_ GE1202.out | refine below_set ?_ GE1203.out | refine below_set ?_ GE1204.out) | exact HB.out)⟩⟩
  case rest =>
    clear HC3
    try clear c1
    try clear p2
    try clear c5
    try clear c8
    try clear c9
    try clear c10
    try clear c11
    try clear c14
    try clear c17
    try clear c18
    try clear hcz12_0
    try clear hcz12_1
    try clear hcz15_0
    try clear hcz15_1
    try clear hcz19_0
    try clear hcz19_1
    try clear hfz12_0
    try clear hfz12_1
    try clear hfz15_0
    try clear hfz15_1
    try clear hfz19_0
    try clear hfz19_1
    obtain ⟨kq, x13_2, rfl, HA, HJ2, BK1202, BK1203, BK1204, HB⟩ := hcut
    cases kq with
    | zero => exact absurd HA.out (by simp [spec_WholeAdd.j0])
    | succ kj2 =>
      have H := HA.out
      clear HA
      simp only [spec_WholeAdd.j0] at H
      by_cases c21 : x13_2 = true
      · subst c21
        have H1 : (some (false, ([] : List Int), false)) = some (r1, r2, r3) := by rw [if_pos rfl] at H; exact H
        clear H
        have H := H1
        clear H1
        simp only [Option.some.injEq, Prod.mk.injEq] at H
        obtain ⟨rfl, rfl, rfl⟩ := H
        have hnb22 := NB1204_1202.out
        have hnc22 := NB1202_1204.out
        have hnb23 := NB1204_1203.out
        have hnc23 := NB1203_1204.out
        have hcz24_0 : wc.cell? ⟨gb1204, 0, none⟩ = some (.bool false) := (blk_cell BK1204.out 0).trans rfl
        have hcz24_1 : wc.cell? ⟨gb1204, 1, none⟩ = some (.slice none 0 0) := (blk_cell BK1204.out 1).trans rfl
        have hfz24_0 := blk_frozen BK1204.out 0
        have hfz24_1 := blk_frozen BK1204.out 1
        go_wp2
        refine bodyPost_ret (results_ct rfl _ _ gb1204 59 #[.bool false, .slice none 0 0] (0, 0) _ rfl (by (with_reducible repeat (first | refine blk_drewN ?_ _ | refine blk_drew ?_ | refine blk_alloc ?_ _)); refine blk_put (cs := #[.bool false, .slice none 0 0]) ?_ 1 _ rfl; (with_reducible repeat (first | refine blk_drewN ?_ _ | refine blk_drew ?_ | refine blk_alloc ?_ _)); refine blk_put (cs := #[.bool false, .slice none 0 0]) ?_ 0 _ rfl; (with_reducible repeat (first | refine blk_drewN ?_ _ | refine blk_drew ?_ | refine blk_alloc ?_ _)); exact BK1204.out) Try.underlying59 rfl (by kernel_rfl)) rfl ?_
        exact ⟨_, by first | rfl | (simp [errW_none, errW_some] <;> rfl) | (simp [*, errW_none, errW_some] <;> rfl), by first | exact Kd.R_nil _ _ _ _ _ | exact Kd.N_nil _ _ _ _ _ | exact Kd.V_nil _ _ _ _ _ | exact Kd.Q_nil _ _ _ _ _ | exact Kd.S_nil _ _ _ _ _, by repeat (first | (with_reducible first | exact HB.out | apply below_alloc | apply pw_below_drewN | apply below_drew1 | refine below_set ?_ GE1202.out | refine below_set ?_ GE1203.out | refine below_set ?_ GE1204.out) | exact HB.out)⟩
      · replace c21 := Bool.eq_false_iff.mpr c21
        subst c21
        have H1 : ((spec_l3add.f kj2 a0_0 l0_1 a1_0 l1_1).bind fun bt1207 => ((spec_l3fits.f bt1207.1 bt1207.2).bind fun bt1211 => (some (bt1211.1, bt1211.2.1, bt1211.2.2)))) = some (r1, r2, r3) := by rw [if_neg (show ¬ (false = true) by decide)] at H; exact H
        clear H
        have H := H1
        clear H1
        replace H := Option.bind_eq_some_iff.mp H
        obtain ⟨⟨t1207, t1208⟩, A250, H⟩ := H
        replace H : ((spec_l3fits.f t1207 t1208).bind fun bt1211 => (some (bt1211.1, bt1211.2.1, bt1211.2.2))) = some (r1, r2, r3) := H
        have A25 := Aside0.mk A250
        clear A250
        replace H := Option.bind_eq_some_iff.mp H
        obtain ⟨⟨t1211, t1212, t1215⟩, A260, H⟩ := H
        replace H : (some (t1211, t1212, t1215)) = some (r1, r2, r3) := H
        have A26 := Aside0.mk A260
        clear A260
        simp only [Option.some.injEq, Prod.mk.injEq] at H
        obtain ⟨rfl, rfl, rfl⟩ := H
        have hnb27 := NB1202_1203.out
        have hnc27 := NB1203_1202.out
        have hnb28 := NB1202_1204.out
        have hnc28 := NB1204_1202.out
        have hcz29_0 : wc.cell? ⟨gb1202, 0, none⟩ = some (.bool a0_0) := (blk_cell BK1202.out 0).trans rfl
        have hcz29_1 : wc.cell? ⟨gb1202, 1, none⟩ = some (.slice A0_1 l0_1.length c0_1) := (blk_cell BK1202.out 1).trans rfl
        have hfz29_0 := blk_frozen BK1202.out 0
        have hfz29_1 := blk_frozen BK1202.out 1
        have hnb30 := NB1203_1204.out
        have hnc30 := NB1204_1203.out
        have hcz31_0 : wc.cell? ⟨gb1203, 0, none⟩ = some (.bool a1_0) := (blk_cell BK1203.out 0).trans rfl
        have hcz31_1 : wc.cell? ⟨gb1203, 1, none⟩ = some (.slice A1_1 l1_1.length c1_1) := (blk_cell BK1203.out 1).trans rfl
        have hfz31_0 := blk_frozen BK1203.out 0
        have hfz31_1 := blk_frozen BK1203.out 1
        go_wp2_with (first | ((with_reducible refine gate_callee (f := 98) rfl ?_); refine goesL_ (some 17) rfl rfl Try.func98 (by kernel_rfl) rfl #[.agg #[.bool a0_0, .slice A0_1 l0_1.length c0_1], .agg #[.bool a1_0, .slice A1_1 l1_1.length c1_1]] rfl (by (try simp only [List.map_toArray, List.map_cons, List.map_nil]); first | done | rfl | (simp only [List.length_drop, List.length_take]; rfl) | (simp only [i64_w, u8_w, w64_b]; rfl)) ?_; (with_reducible refine (spec_l3add.calls kj2 a0_0 _ _ l0_1 a1_0 _ _ l1_1 t1207 t1208 _ ?side1 ?side2 ?side3 ?side4 A25.out).mono ?_); (case side1 => repeat (first | exact (Kd.C_below HR0_1.out HB.out) | (with_reducible refine Kd.C_alloc ?_ _) | (with_reducible refine Kd.C_drewN ?_ _) | (with_reducible refine Kd.C_drew ?_))); (case side2 => exact HC0_1.out); (case side3 => repeat (first | exact (Kd.C_below HR1_1.out HB.out) | (with_reducible refine Kd.C_alloc ?_ _) | (with_reducible refine Kd.C_drewN ?_ _) | (with_reducible refine Kd.C_drew ?_))); (case side4 => exact HC1_1.out); rintro e w32 ⟨v1209, rfl, ho0, hb⟩; refine ⟨_, rfl, ?_⟩; have n0_ := Aside0.mk (Kd.R_lower ho0 (below_size (by repeat (first | (with_reducible first | exact HB.out | apply below_alloc | apply pw_below_drewN | apply below_drew1 | refine below_set ?_ GE1202.out | refine below_set ?_ GE1203.out | refine below_set ?_ GE1204.out) | exact HB.out)))); have n1_ := Aside0.mk (blk_below (g := gb1202) (o := .cells #[.bool a0_0, .slice A0_1 l0_1.length c0_1] 59 (0, 0)) (by (with_reducible repeat (first | refine blk_drewN ?_ _ | refine blk_drew ?_ | refine blk_alloc ?_ _)); exact BK1202.out) hb); have n2_ := Aside0.mk (blk_below (g := gb1203) (o := .cells #[.bool a1_0, .slice A1_1 l1_1.length c1_1] 59 (0, 0)) (by (with_reducible repeat (first | refine blk_drewN ?_ _ | refine blk_drew ?_ | refine blk_alloc ?_ _)); exact BK1203.out) hb); have n3_ := Aside0.mk (blk_below (g := gb1204) (o := .cells #[.bool false, .slice none 0 0] 59 (0, 0)) (by (with_reducible repeat (first | refine blk_drewN ?_ _ | refine blk_drew ?_ | refine blk_alloc ?_ _)); exact BK1204.out) hb); have n4_ := Aside0.mk (below_step (by repeat (first | (with_reducible first | exact HB.out | apply below_alloc | apply pw_below_drewN | apply below_drew1 | refine below_set ?_ GE1202.out | refine below_set ?_ GE1203.out | refine below_set ?_ GE1204.out) | exact HB.out)) hb); clear BK1202; clear BK1203; clear BK1204; clear HB; have HO1210 := n0_; have BK1202 := n1_; have BK1203 := n2_; have BK1204 := n3_; have HB := n4_; clear n0_ n1_ n2_ n3_ n4_; (try clear hb); (try clear hb2); (try clear hk); (try clear hi); (try clear ho0); obtain ⟨Ao33, co33, eo33⟩ := Kd.R_slice HO1210.out; subst eo33) | ((with_reducible refine gate_callee (f := 97) rfl ?_); refine goesL_ (some 18) rfl rfl Try.func97 (by kernel_rfl) rfl #[.agg #[.bool t1207, .slice Ao33 t1208.length co33]] rfl (by (try simp only [List.map_toArray, List.map_cons, List.map_nil]); first | done | rfl | (simp only [List.length_drop, List.length_take]; rfl) | (simp only [i64_w, u8_w, w64_b]; rfl)) ?_; (with_reducible refine (spec_l3fits.calls t1207 (fun k_ => some k_ = (.slice Ao33 t1208.length co33 : Value).ownBlock) (.slice Ao33 t1208.length co33) t1208 t1211 t1212 t1215 w _ ?side1 ?side2 A26.out).mono ?_); (case side1 => repeat (first | (with_reducible first | exact HB.out | apply below_alloc | apply pw_below_drewN | apply below_drew1 | refine below_set ?_ GE1202.out | refine below_set ?_ GE1203.out | refine below_set ?_ GE1204.out) | exact HB.out)); (case side2 => exact Kd.R_tight rfl HO1210.out); rintro e w34 ⟨v1213, rfl, ho0, hb, hkp⟩; refine ⟨_, rfl, ?_⟩; have n0_ := Aside0.mk (blk_kept (by (with_reducible repeat (first | refine blk_drewN ?_ _ | refine blk_drew ?_ | refine blk_alloc ?_ _)); exact BK1202.out) hkp (fun hs_ => (fun e_ => (Kd.R_ne HO1210.out BK1202.out (by decide)) e_) hs_)); have n1_ := Aside0.mk (blk_kept (by (with_reducible repeat (first | refine blk_drewN ?_ _ | refine blk_drew ?_ | refine blk_alloc ?_ _)); exact BK1203.out) hkp (fun hs_ => (fun e_ => (Kd.R_ne HO1210.out BK1203.out (by decide)) e_) hs_)); have n2_ := Aside0.mk (blk_kept (by (with_reducible repeat (first | refine blk_drewN ?_ _ | refine blk_drew ?_ | refine blk_alloc ?_ _)); exact BK1204.out) hkp (fun hs_ => (fun e_ => (Kd.R_ne HO1210.out BK1204.out (by decide)) e_) hs_)); have n3_ := Aside0.mk (Kd.R_mono (ok' := fun k_ => True) ho0 (fun k_ hk_ => trivial)); have n4_ := Aside0.mk (hb); clear BK1202; clear BK1203; clear BK1204; clear HB; clear HO1210; have BK1202 := n0_; have BK1203 := n1_; have BK1204 := n2_; have HO1214 := n3_; have HB := n4_; clear n0_ n1_ n2_ n3_ n4_; (try clear hb); (try clear hkp); (try clear ho0); have hcz35_0 : w34.cell? ⟨gb1204, 0, none⟩ = some (.bool false) := (blk_cell BK1204.out 0).trans rfl; have hcz35_1 : w34.cell? ⟨gb1204, 1, none⟩ = some (.slice none 0 0) := (blk_cell BK1204.out 1).trans rfl; have hfz35_0 := blk_frozen BK1204.out 0; have hfz35_1 := blk_frozen BK1204.out 1; obtain ⟨Ao36, co36, eo36⟩ := Kd.R_slice HO1214.out; subst eo36))
        refine bodyPost_ret (results_ct rfl _ _ gb1204 59 #[.bool t1211, .slice Ao36 t1212.length co36] (0, 0) _ rfl (by (with_reducible repeat (first | refine blk_drewN ?_ _ | refine blk_drew ?_ | refine blk_alloc ?_ _)); refine blk_put (cs := #[.bool t1211, .slice none 0 0]) ?_ 1 _ rfl; (with_reducible repeat (first | refine blk_drewN ?_ _ | refine blk_drew ?_ | refine blk_alloc ?_ _)); refine blk_put (cs := #[.bool false, .slice none 0 0]) ?_ 0 _ rfl; (with_reducible repeat (first | refine blk_drewN ?_ _ | refine blk_drew ?_ | refine blk_alloc ?_ _)); exact BK1204.out) Try.underlying59 rfl (by kernel_rfl)) rfl ?_
        exact ⟨_, by first | rfl | (simp [errW_none, errW_some] <;> rfl) | (simp [*, errW_none, errW_some] <;> rfl), by (with_reducible repeat (first | apply Kd.R_alloc | apply Kd.R_drewN | apply Kd.R_drew)); exact Kd.R_mono (Kd.R_far (p := ⟨gb1204, 1, none⟩) (Kd.R_far (p := ⟨gb1204, 0, none⟩) (Kd.R_types HO1214.out BK1204.out (by decide)) (fun _ hk => hk.2) (.bool t1211)) (fun _ hk => hk.2) (.slice Ao36 t1212.length co36)) (fun _ hk => trivial), by repeat (first | (with_reducible first | exact HB.out | apply below_alloc | apply pw_below_drewN | apply below_drew1 | refine below_set ?_ GE1202.out | refine below_set ?_ GE1203.out | refine below_set ?_ GE1204.out) | exact HB.out)⟩

end Go.Proofs.Ytjepgnfgalnjhaa.Q
