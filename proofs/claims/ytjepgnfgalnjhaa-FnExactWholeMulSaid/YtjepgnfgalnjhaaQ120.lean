/- The machine side of Go functions, written by a program of this session over the print of the translation. No conditions. -/
import Derived.Test.YtjepgnfgalnjhaaSq
import Derived.Test.YtjepgnfgalnjhaaQ0
import Derived.Test.YtjepgnfgalnjhaaQ97
import Derived.Test.YtjepgnfgalnjhaaQ103
import Derived.Test.YtjepgnfgalnjhaaQ109
import Derived.Test.YtjepgnfgalnjhaaQ110
import Derived.Test.YtjepgnfgalnjhaaQ111
import Derived.Test.YtjepgnfgalnjhaaQ118
import Derived.Test.YtjepgnfgalnjhaaQ119
namespace Go.Proofs.Ytjepgnfgalnjhaa.Q
open Go.RowKit Go.Proofs.YtjepgnfgalnjhaaW.PrintWords Go.Proofs.YtjepgnfgalnjhaaW.PrintLast Go.Proofs.YtjepgnfgalnjhaaW.PrintMore
attribute [local go_sem] max2_int min2_int max_two min_two max_three min_three max_four min_four   -- for this text's walks alone
set_option linter.unusedVariables false
set_option linter.unusedSimpArgs false

/-! ### laws_FnExactWholeMul: function 14 -/
def laws_FnExactWholeMul.f (k : Nat) (a0_0 : Bool) (l0_1 : List Int) (a1_0 : Bool) (l1_1 : List Int) : Option (Bool) := (laws_szWhole.f a0_0 l0_1 1048576).bind fun t1478 => (if t1478 < 0 then (some true) else ((laws_szWhole.f a1_0 l1_1 t1478).bind fun t1479 => (if t1479 < 0 then (some true) else ((laws_toWhole.f k a0_0 l0_1).bind fun bt1480 => ((laws_toWhole.f k a1_0 l1_1).bind fun bt1484 => ((spec_WholeMul.f k bt1480.1 bt1480.2 bt1484.1 bt1484.2).bind fun bt1488 => ((laws_toWhole.f k a0_0 l0_1).bind fun bt1494 => ((laws_toWhole.f k a1_0 l1_1).bind fun bt1499 => ((impl_WholeMul.f k bt1494.1 bt1494.2 bt1499.1 bt1499.2).bind fun bt1504 => ((laws_eqWhole.f k bt1504.1 bt1504.2.1 bt1488.1 bt1488.2.1).bind fun t1510 => (if t1510 = true then (if (bt1504.2.2 != bt1488.2.2) = true then (none) else ((laws_toWhole.f k a0_0 l0_1).bind fun bt1511 => ((laws_eqWhole.f k bt1494.1 bt1494.2 bt1511.1 bt1511.2).bind fun t1515 => (if t1515 = true then ((laws_toWhole.f k a1_0 l1_1).bind fun bt1516 => ((laws_eqWhole.f k bt1499.1 bt1499.2 bt1516.1 bt1516.2).bind fun t1520 => (if t1520 = true then ((laws_markWhole.f k bt1494.1 bt1494.2 1).bind fun bt1521 => ((laws_markWhole.f k bt1499.1 bt1499.2 bt1521.1).bind fun bt1523 => (if bt1523.1 < 0 then (none) else ((laws_eqWhole.f k bt1504.1 bt1504.2.1 bt1488.1 bt1488.2.1).bind fun t1525 => (if t1525 = true then ((laws_markWhole.f k bt1504.1 bt1504.2.1 1).bind fun bt1526 => ((laws_heldWhole.f k bt1504.1 bt1526.2 1).bind fun t1528 => (if t1528 < 0 then (none) else (if t1528 = bt1526.1 then ((laws_toWhole.f k a0_0 l0_1).bind fun bt1529 => ((laws_toWhole.f k a1_0 l1_1).bind fun bt1533 => ((impl_WholeMul.f k bt1529.1 bt1529.2 bt1533.1 bt1533.2).bind fun bt1537 => ((laws_eqWhole.f k bt1537.1 bt1537.2.1 bt1488.1 bt1488.2.1).bind fun t1543 => (if t1543 = true then (if (bt1537.2.2 != bt1488.2.2) = true then (none) else ((laws_heldWhole.f k bt1504.1 bt1526.2 1).bind fun t1544 => (if t1544 < 0 then (none) else (if t1544 = bt1526.1 then (some true) else (none))))) else (none)))))) else (none))))) else (none)))))) else (none)))) else (none))))) else (none))))))))))))
def laws_FnExactWholeMul.T8 : Bool × List (List Nat × List Nat) := (true, [([], []), ([0], [0]), ([], []), ([2, 1], [2]), ([1, 3, 3], [1, 3]), ([4], [4]), ([5], [5]), ([5], [5]), ([], []), ([8, 6, 4, 0, 1, 2, 3, 4, 5, 6, 8], [6, 8]), ([7, 9, 0, 1, 2, 3, 4, 5, 6, 7, 8, 9], [7])])
def laws_FnExactWholeMul.B8 : List Nat := [0, 1, 0, 7, 15, 31, 63, 63, 0, 383, 1023]
theorem laws_FnExactWholeMul.tab8 : rtab .any (opsOf Try.f14 8) = laws_FnExactWholeMul.T8 := by kernel_rfl
theorem laws_FnExactWholeMul.bits8 : waitsOk laws_FnExactWholeMul.T8.2 laws_FnExactWholeMul.B8 = true := by kernel_rfl
def laws_FnExactWholeMul.T31 : Bool × List (List Nat × List Nat) := (true, [([], []), ([0], [0]), ([], []), ([2, 1], [2]), ([1, 3, 3], [1, 3]), ([4], [4]), ([5], [5]), ([5], [5]), ([], []), ([8, 6, 4, 0, 1, 2, 3, 4, 5, 6, 8], [6, 8]), ([7, 9, 0, 1, 2, 3, 4, 5, 6, 7, 8, 9], [7])])
def laws_FnExactWholeMul.B31 : List Nat := [0, 1, 0, 7, 15, 31, 63, 63, 0, 383, 1023]
theorem laws_FnExactWholeMul.tab31 : rtab .any (opsOf Try.f14 31) = laws_FnExactWholeMul.T31 := by kernel_rfl
theorem laws_FnExactWholeMul.bits31 : waitsOk laws_FnExactWholeMul.T31.2 laws_FnExactWholeMul.B31 = true := by kernel_rfl
set_option maxHeartbeats 8000000 in
set_option maxRecDepth 100000 in
theorem laws_FnExactWholeMul.calls (k : Nat) (a0_0 : Bool) (A0_1 : Option Addr) (c0_1 : Nat) (l0_1 : List Int) (a1_0 : Bool) (A1_1 : Option Addr) (c1_1 : Nat) (l1_1 : List Int) (r : Bool) (w : World) (hr0_1 : Kd.C (Kd.int .i64) w A0_1 l0_1.length l0_1) (hc0_1 : l0_1.length ≤ c0_1) (hr1_1 : Kd.C (Kd.int .i64) w A1_1 l1_1.length l1_1) (hc1_1 : l1_1.length ≤ c1_1) (h : laws_FnExactWholeMul.f k a0_0 l0_1 a1_0 l1_1 = some r) :
  Calls Try.prog 14 #[.agg #[.bool a0_0, .slice A0_1 l0_1.length c0_1], .agg #[.bool a1_0, .slice A1_1 l1_1.length c1_1]] w fun e w' => e = .returned (.bool r) ∧ Below w.heap.size w w' := by
 have hu56 := Try.underlying56
 have hu59 := Try.underlying59
 have HR0_1 := Aside0.mk hr0_1
 have HC0_1 := Aside0.mk hc0_1
 clear hr0_1 hc0_1
 have HR1_1 := Aside0.mk hr1_1
 have HC1_1 := Aside0.mk hc1_1
 clear hr1_1 hc1_1
 have HB := Sq.m (Below.refl w.heap.size w)
 have H : ((laws_szWhole.f a0_0 l0_1 1048576).bind fun t1478 => (if t1478 < 0 then (some true) else ((laws_szWhole.f a1_0 l1_1 t1478).bind fun t1479 => (if t1479 < 0 then (some true) else ((laws_toWhole.f k a0_0 l0_1).bind fun bt1480 => ((laws_toWhole.f k a1_0 l1_1).bind fun bt1484 => ((spec_WholeMul.f k bt1480.1 bt1480.2 bt1484.1 bt1484.2).bind fun bt1488 => ((laws_toWhole.f k a0_0 l0_1).bind fun bt1494 => ((laws_toWhole.f k a1_0 l1_1).bind fun bt1499 => ((impl_WholeMul.f k bt1494.1 bt1494.2 bt1499.1 bt1499.2).bind fun bt1504 => ((laws_eqWhole.f k bt1504.1 bt1504.2.1 bt1488.1 bt1488.2.1).bind fun t1510 => (if t1510 = true then (if (bt1504.2.2 != bt1488.2.2) = true then (none) else ((laws_toWhole.f k a0_0 l0_1).bind fun bt1511 => ((laws_eqWhole.f k bt1494.1 bt1494.2 bt1511.1 bt1511.2).bind fun t1515 => (if t1515 = true then ((laws_toWhole.f k a1_0 l1_1).bind fun bt1516 => ((laws_eqWhole.f k bt1499.1 bt1499.2 bt1516.1 bt1516.2).bind fun t1520 => (if t1520 = true then ((laws_markWhole.f k bt1494.1 bt1494.2 1).bind fun bt1521 => ((laws_markWhole.f k bt1499.1 bt1499.2 bt1521.1).bind fun bt1523 => (if bt1523.1 < 0 then (none) else ((laws_eqWhole.f k bt1504.1 bt1504.2.1 bt1488.1 bt1488.2.1).bind fun t1525 => (if t1525 = true then ((laws_markWhole.f k bt1504.1 bt1504.2.1 1).bind fun bt1526 => ((laws_heldWhole.f k bt1504.1 bt1526.2 1).bind fun t1528 => (if t1528 < 0 then (none) else (if t1528 = bt1526.1 then ((laws_toWhole.f k a0_0 l0_1).bind fun bt1529 => ((laws_toWhole.f k a1_0 l1_1).bind fun bt1533 => ((impl_WholeMul.f k bt1529.1 bt1529.2 bt1533.1 bt1533.2).bind fun bt1537 => ((laws_eqWhole.f k bt1537.1 bt1537.2.1 bt1488.1 bt1488.2.1).bind fun t1543 => (if t1543 = true then (if (bt1537.2.2 != bt1488.2.2) = true then (none) else ((laws_heldWhole.f k bt1504.1 bt1526.2 1).bind fun t1544 => (if t1544 < 0 then (none) else (if t1544 = bt1526.1 then (some true) else (none))))) else (none)))))) else (none))))) else (none)))))) else (none)))) else (none))))) else (none))))))))))))) = some r := h
 clear h
 replace H := Option.bind_eq_some_iff.mp H
 obtain ⟨t1478, A30, H⟩ := H
 try dsimp only at H
 have A3 := Aside0.mk A30
 clear A30
 by_cases c4 : t1478 < 0
 ·rw [if_pos c4] at H
  have c4b0 : decide (t1478 < 0) = true := decide_eq_true c4
  clear c4
  obtain rfl := Option.some.inj H
  go_enter Try.func14, Try.ntmps14
  go_wp2_with (first | ((with_reducible refine gate_dst (N := 2) rfl ?_); refine box_event ?hg (N := 2) ?hd (cs := #[.bool a0_0, .slice A0_1 l0_1.length c0_1]) (t := 56) ?hr ?_; (case hd => rfl); (case hg => rfl); (case hr => first | (go_simp; done) | (go_simp; rfl)); intro gb1476 hg w5 hbox hb; have n0_ := Sq.m (below_step (by repeat (first | (with_reducible first | exact HB.out | apply Sq.rc) | exact HB.out)) hb); have n1_ := Sq.m (hbox); have n2_ := Sq.m ((by rw [hg]; exact (below_size (by repeat (first | (with_reducible first | exact HB.out | apply Sq.rc) | exact HB.out))) : w.heap.size ≤ gb1476)); have n3_ := Sq.m ((by rw [hg]; exact (below_size (by repeat (first | (with_reducible first | exact HB.out | apply Sq.rc) | exact HB.out))) : w.heap.size ≤ gb1476)); clear HB; have HB := n0_; have BK1476 := n1_; have GW1476 := n2_; have GE1476 := n3_; clear n0_ n1_ n2_ n3_; clear hb hbox hg) | ((with_reducible refine gate_dst (N := 3) rfl ?_); refine box_event ?hg (N := 3) ?hd (cs := #[.bool a1_0, .slice A1_1 l1_1.length c1_1]) (t := 56) ?hr ?_; (case hd => rfl); (case hg => rfl); (case hr => first | (go_simp; done) | (go_simp; rfl)); intro gb1477 hg w6 hbox hb; have n0_ := Sq.m (blk_below (g := gb1476) (o := .cells #[.bool a0_0, .slice A0_1 l0_1.length c0_1] 56 (0, 0)) (by apply Sq.rb; exact BK1476.out) hb); have n1_ := Sq.m (below_step (by repeat (first | (with_reducible first | exact HB.out | apply Sq.rc | refine below_set ?_ GE1476.out) | exact HB.out)) hb); have n2_ := Sq.m (hbox); have n3_ := Sq.m ((by rw [hg]; exact (below_size (by repeat (first | (with_reducible first | exact HB.out | apply Sq.rc | refine below_set ?_ GE1476.out) | exact HB.out))) : w.heap.size ≤ gb1477)); have n4_ := Sq.m ((by rw [hg]; exact (below_size (by repeat (first | (with_reducible first | exact HB.out | apply Sq.rc | refine below_set ?_ GE1476.out) | exact HB.out))) : w.heap.size ≤ gb1477)); have n5_ := Sq.m ((by rw [hg]; exact Nat.ne_of_lt (blk_lt (g := gb1476) (o := .cells #[.bool a0_0, .slice A0_1 l0_1.length c0_1] 56 (0, 0)) (by apply Sq.rb; exact BK1476.out)) : gb1476 ≠ gb1477)); have n6_ := Sq.m ((by rw [hg]; exact Nat.ne_of_gt (blk_lt (g := gb1476) (o := .cells #[.bool a0_0, .slice A0_1 l0_1.length c0_1] 56 (0, 0)) (by apply Sq.rb; exact BK1476.out)) : gb1477 ≠ gb1476)); clear BK1476; clear HB; have BK1476 := n0_; have HB := n1_; have BK1477 := n2_; have GW1477 := n3_; have GE1477 := n4_; have NB1476_1477 := n5_; have NB1477_1476 := n6_; clear n0_ n1_ n2_ n3_ n4_ n5_ n6_; clear hb hbox hg; have hnb7 := NB1476_1477.out; have hnc7 := NB1477_1476.out; have hcz8_0 : w6.cell? ⟨gb1476, 0, none⟩ = some (.bool a0_0) := (blk_cell BK1476.out 0).trans rfl; have hcz8_1 : w6.cell? ⟨gb1476, 1, none⟩ = some (.slice A0_1 l0_1.length c0_1) := (blk_cell BK1476.out 1).trans rfl; have hfz8_0 := blk_frozen BK1476.out 0; have hfz8_1 := blk_frozen BK1476.out 1) | ((with_reducible refine gate_callee (f := 50) rfl ?_); refine goesL_ (some 19) rfl rfl Try.func50 (by kernel_rfl) rfl #[.agg #[.bool a0_0, .slice A0_1 l0_1.length c0_1], .int .i64 1048576] rfl (by (try simp only [List.map_toArray, List.map_cons, List.map_nil]); first | done | rfl | (simp only [List.length_drop, List.length_take]; rfl) | (simp only [i64_w, u8_w, w64_b]; rfl)) ?_; (with_reducible refine (laws_szWhole.calls a0_0 _ _ l0_1 1048576 t1478 _ ?side1 ?side2 A3.out).mono ?_); (case side1 => repeat (first | exact (Kd.C_below HR0_1.out HB.out) | (with_reducible refine Kd.C_alloc ?_ _) | (with_reducible refine Kd.C_drewN ?_ _) | (with_reducible refine Kd.C_drew ?_))); (case side2 => exact HC0_1.out); rintro e w9 ⟨rfl, hb⟩; refine ⟨_, rfl, ?_⟩; have n0_ := Sq.m (blk_below (g := gb1476) (o := .cells #[.bool a0_0, .slice A0_1 l0_1.length c0_1] 56 (0, 0)) (by apply Sq.rb; exact BK1476.out) hb); have n1_ := Sq.m (blk_below (g := gb1477) (o := .cells #[.bool a1_0, .slice A1_1 l1_1.length c1_1] 56 (0, 0)) (by apply Sq.rb; exact BK1477.out) hb); have n2_ := Sq.m (below_step (by repeat (first | (with_reducible first | exact HB.out | apply Sq.rc | refine below_set ?_ GE1476.out | refine below_set ?_ GE1477.out) | exact HB.out)) hb); clear BK1476; clear BK1477; clear HB; have BK1476 := n0_; have BK1477 := n1_; have HB := n2_; clear n0_ n1_ n2_; (try clear hb); (try clear hb2); (try clear hk); (try clear hi)))
  go_ret
  exact ⟨by first | rfl | (simp [errW_none, errW_some] <;> rfl) | (simp [*, errW_none, errW_some] <;> rfl), by repeat (first | (with_reducible first | exact HB.out | apply Sq.rc | refine below_set ?_ GE1476.out | refine below_set ?_ GE1477.out) | exact HB.out)⟩
 ·rw [if_neg c4] at H
  have c4b0 : decide (t1478 < 0) = false := decide_eq_false c4
  clear c4
  replace H := Option.bind_eq_some_iff.mp H
  obtain ⟨t1479, A100, H⟩ := H
  try dsimp only at H
  have A10 := Aside0.mk A100
  clear A100
  by_cases c11 : t1479 < 0
  ·rw [if_pos c11] at H
   have c11b0 : decide (t1479 < 0) = true := decide_eq_true c11
   clear c11
   obtain rfl := Option.some.inj H
   go_enter Try.func14, Try.ntmps14
   go_wp2_with (first | ((with_reducible refine gate_dst (N := 2) rfl ?_); refine box_event ?hg (N := 2) ?hd (cs := #[.bool a0_0, .slice A0_1 l0_1.length c0_1]) (t := 56) ?hr ?_; (case hd => rfl); (case hg => rfl); (case hr => first | (go_simp; done) | (go_simp; rfl)); intro gb1476 hg w12 hbox hb; have n0_ := Sq.m (below_step (by repeat (first | (with_reducible first | exact HB.out | apply Sq.rc) | exact HB.out)) hb); have n1_ := Sq.m (hbox); have n2_ := Sq.m ((by rw [hg]; exact (below_size (by repeat (first | (with_reducible first | exact HB.out | apply Sq.rc) | exact HB.out))) : w.heap.size ≤ gb1476)); have n3_ := Sq.m ((by rw [hg]; exact (below_size (by repeat (first | (with_reducible first | exact HB.out | apply Sq.rc) | exact HB.out))) : w.heap.size ≤ gb1476)); clear HB; have HB := n0_; have BK1476 := n1_; have GW1476 := n2_; have GE1476 := n3_; clear n0_ n1_ n2_ n3_; clear hb hbox hg) | ((with_reducible refine gate_dst (N := 3) rfl ?_); refine box_event ?hg (N := 3) ?hd (cs := #[.bool a1_0, .slice A1_1 l1_1.length c1_1]) (t := 56) ?hr ?_; (case hd => rfl); (case hg => rfl); (case hr => first | (go_simp; done) | (go_simp; rfl)); intro gb1477 hg w13 hbox hb; have n0_ := Sq.m (blk_below (g := gb1476) (o := .cells #[.bool a0_0, .slice A0_1 l0_1.length c0_1] 56 (0, 0)) (by apply Sq.rb; exact BK1476.out) hb); have n1_ := Sq.m (below_step (by repeat (first | (with_reducible first | exact HB.out | apply Sq.rc | refine below_set ?_ GE1476.out) | exact HB.out)) hb); have n2_ := Sq.m (hbox); have n3_ := Sq.m ((by rw [hg]; exact (below_size (by repeat (first | (with_reducible first | exact HB.out | apply Sq.rc | refine below_set ?_ GE1476.out) | exact HB.out))) : w.heap.size ≤ gb1477)); have n4_ := Sq.m ((by rw [hg]; exact (below_size (by repeat (first | (with_reducible first | exact HB.out | apply Sq.rc | refine below_set ?_ GE1476.out) | exact HB.out))) : w.heap.size ≤ gb1477)); have n5_ := Sq.m ((by rw [hg]; exact Nat.ne_of_lt (blk_lt (g := gb1476) (o := .cells #[.bool a0_0, .slice A0_1 l0_1.length c0_1] 56 (0, 0)) (by apply Sq.rb; exact BK1476.out)) : gb1476 ≠ gb1477)); have n6_ := Sq.m ((by rw [hg]; exact Nat.ne_of_gt (blk_lt (g := gb1476) (o := .cells #[.bool a0_0, .slice A0_1 l0_1.length c0_1] 56 (0, 0)) (by apply Sq.rb; exact BK1476.out)) : gb1477 ≠ gb1476)); clear BK1476; clear HB; have BK1476 := n0_; have HB := n1_; have BK1477 := n2_; have GW1477 := n3_; have GE1477 := n4_; have NB1476_1477 := n5_; have NB1477_1476 := n6_; clear n0_ n1_ n2_ n3_ n4_ n5_ n6_; clear hb hbox hg; have hnb14 := NB1476_1477.out; have hnc14 := NB1477_1476.out; have hcz15_0 : w13.cell? ⟨gb1476, 0, none⟩ = some (.bool a0_0) := (blk_cell BK1476.out 0).trans rfl; have hcz15_1 : w13.cell? ⟨gb1476, 1, none⟩ = some (.slice A0_1 l0_1.length c0_1) := (blk_cell BK1476.out 1).trans rfl; have hfz15_0 := blk_frozen BK1476.out 0; have hfz15_1 := blk_frozen BK1476.out 1) | ((with_reducible refine gate_callee (f := 50) rfl ?_); refine goesL_ (some 19) rfl rfl Try.func50 (by kernel_rfl) rfl #[.agg #[.bool a0_0, .slice A0_1 l0_1.length c0_1], .int .i64 1048576] rfl (by (try simp only [List.map_toArray, List.map_cons, List.map_nil]); first | done | rfl | (simp only [List.length_drop, List.length_take]; rfl) | (simp only [i64_w, u8_w, w64_b]; rfl)) ?_; (with_reducible refine (laws_szWhole.calls a0_0 _ _ l0_1 1048576 t1478 _ ?side1 ?side2 A3.out).mono ?_); (case side1 => repeat (first | exact (Kd.C_below HR0_1.out HB.out) | (with_reducible refine Kd.C_alloc ?_ _) | (with_reducible refine Kd.C_drewN ?_ _) | (with_reducible refine Kd.C_drew ?_))); (case side2 => exact HC0_1.out); rintro e w16 ⟨rfl, hb⟩; refine ⟨_, rfl, ?_⟩; have n0_ := Sq.m (blk_below (g := gb1476) (o := .cells #[.bool a0_0, .slice A0_1 l0_1.length c0_1] 56 (0, 0)) (by apply Sq.rb; exact BK1476.out) hb); have n1_ := Sq.m (blk_below (g := gb1477) (o := .cells #[.bool a1_0, .slice A1_1 l1_1.length c1_1] 56 (0, 0)) (by apply Sq.rb; exact BK1477.out) hb); have n2_ := Sq.m (below_step (by repeat (first | (with_reducible first | exact HB.out | apply Sq.rc | refine below_set ?_ GE1476.out | refine below_set ?_ GE1477.out) | exact HB.out)) hb); clear BK1476; clear BK1477; clear HB; have BK1476 := n0_; have BK1477 := n1_; have HB := n2_; clear n0_ n1_ n2_; (try clear hb); (try clear hb2); (try clear hk); (try clear hi); have hcz17_0 : w16.cell? ⟨gb1477, 0, none⟩ = some (.bool a1_0) := (blk_cell BK1477.out 0).trans rfl; have hcz17_1 : w16.cell? ⟨gb1477, 1, none⟩ = some (.slice A1_1 l1_1.length c1_1) := (blk_cell BK1477.out 1).trans rfl; have hfz17_0 := blk_frozen BK1477.out 0; have hfz17_1 := blk_frozen BK1477.out 1) | ((with_reducible refine gate_callee (f := 50) rfl ?_); refine goesL_ (some 24) rfl rfl Try.func50 (by kernel_rfl) rfl #[.agg #[.bool a1_0, .slice A1_1 l1_1.length c1_1], .int .i64 t1478] rfl (by (try simp only [List.map_toArray, List.map_cons, List.map_nil]); first | done | rfl | (simp only [List.length_drop, List.length_take]; rfl) | (simp only [i64_w, u8_w, w64_b]; rfl)) ?_; (with_reducible refine (laws_szWhole.calls a1_0 _ _ l1_1 t1478 t1479 _ ?side1 ?side2 A10.out).mono ?_); (case side1 => repeat (first | exact (Kd.C_below HR1_1.out HB.out) | (with_reducible refine Kd.C_alloc ?_ _) | (with_reducible refine Kd.C_drewN ?_ _) | (with_reducible refine Kd.C_drew ?_))); (case side2 => exact HC1_1.out); rintro e w18 ⟨rfl, hb⟩; refine ⟨_, rfl, ?_⟩; have n0_ := Sq.m (blk_below (g := gb1476) (o := .cells #[.bool a0_0, .slice A0_1 l0_1.length c0_1] 56 (0, 0)) (by apply Sq.rb; exact BK1476.out) hb); have n1_ := Sq.m (blk_below (g := gb1477) (o := .cells #[.bool a1_0, .slice A1_1 l1_1.length c1_1] 56 (0, 0)) (by apply Sq.rb; exact BK1477.out) hb); have n2_ := Sq.m (below_step (by repeat (first | (with_reducible first | exact HB.out | apply Sq.rc | refine below_set ?_ GE1476.out | refine below_set ?_ GE1477.out) | exact HB.out)) hb); clear BK1476; clear BK1477; clear HB; have BK1476 := n0_; have BK1477 := n1_; have HB := n2_; clear n0_ n1_ n2_; (try clear hb); (try clear hb2); (try clear hk); (try clear hi)))
   go_ret
   exact ⟨by first | rfl | (simp [errW_none, errW_some] <;> rfl) | (simp [*, errW_none, errW_some] <;> rfl), by repeat (first | (with_reducible first | exact HB.out | apply Sq.rc | refine below_set ?_ GE1476.out | refine below_set ?_ GE1477.out) | exact HB.out)⟩
  ·rw [if_neg c11] at H
   have c11b0 : decide (t1479 < 0) = false := decide_eq_false c11
   clear c11
   replace H := Option.bind_eq_some_iff.mp H
   obtain ⟨⟨t1480, t1481⟩, A190, H⟩ := H
   try dsimp only at H
   have A19 := Aside0.mk A190
   clear A190
   replace H := Option.bind_eq_some_iff.mp H
   obtain ⟨⟨t1484, t1485⟩, A200, H⟩ := H
   try dsimp only at H
   have A20 := Aside0.mk A200
   clear A200
   replace H := Option.bind_eq_some_iff.mp H
   obtain ⟨⟨t1488, t1489, t1492⟩, A210, H⟩ := H
   try dsimp only at H
   have A21 := Aside0.mk A210
   clear A210
   replace H := Option.bind_eq_some_iff.mp H
   obtain ⟨⟨t1494, t1495⟩, A220, H⟩ := H
   try dsimp only at H
   have A22 := Aside0.mk A220
   clear A220
   replace H := Option.bind_eq_some_iff.mp H
   obtain ⟨⟨t1499, t1500⟩, A230, H⟩ := H
   try dsimp only at H
   have A23 := Aside0.mk A230
   clear A230
   replace H := Option.bind_eq_some_iff.mp H
   obtain ⟨⟨t1504, t1505, t1508⟩, A240, H⟩ := H
   try dsimp only at H
   have A24 := Aside0.mk A240
   clear A240
   replace H := Option.bind_eq_some_iff.mp H
   obtain ⟨t1510, A250, H⟩ := H
   try dsimp only at H
   have A25 := Aside0.mk A250
   clear A250
   by_cases c26 : t1510 = true
   ·subst c26
    have H1 : (if (t1508 != t1492) = true then (none) else ((laws_toWhole.f k a0_0 l0_1).bind fun bt1511 => ((laws_eqWhole.f k t1494 t1495 bt1511.1 bt1511.2).bind fun t1515 => (if t1515 = true then ((laws_toWhole.f k a1_0 l1_1).bind fun bt1516 => ((laws_eqWhole.f k t1499 t1500 bt1516.1 bt1516.2).bind fun t1520 => (if t1520 = true then ((laws_markWhole.f k t1494 t1495 1).bind fun bt1521 => ((laws_markWhole.f k t1499 t1500 bt1521.1).bind fun bt1523 => (if bt1523.1 < 0 then (none) else ((laws_eqWhole.f k t1504 t1505 t1488 t1489).bind fun t1525 => (if t1525 = true then ((laws_markWhole.f k t1504 t1505 1).bind fun bt1526 => ((laws_heldWhole.f k t1504 bt1526.2 1).bind fun t1528 => (if t1528 < 0 then (none) else (if t1528 = bt1526.1 then ((laws_toWhole.f k a0_0 l0_1).bind fun bt1529 => ((laws_toWhole.f k a1_0 l1_1).bind fun bt1533 => ((impl_WholeMul.f k bt1529.1 bt1529.2 bt1533.1 bt1533.2).bind fun bt1537 => ((laws_eqWhole.f k bt1537.1 bt1537.2.1 t1488 t1489).bind fun t1543 => (if t1543 = true then (if (bt1537.2.2 != t1492) = true then (none) else ((laws_heldWhole.f k t1504 bt1526.2 1).bind fun t1544 => (if t1544 < 0 then (none) else (if t1544 = bt1526.1 then (some true) else (none))))) else (none)))))) else (none))))) else (none)))))) else (none)))) else (none))))) = some r := by rw [if_pos rfl] at H; exact H
    clear H
    have H := H1
    clear H1
    by_cases c27 : (t1508 != t1492) = true
    ·rw [if_pos c27] at H
     exact absurd H (by simp)
    ·rw [if_neg c27] at H
     have c27b0 : (t1508 != t1492) = false := by simpa using c27
     (try (have c27b1 : decide (t1508 = t1492) = true := by simpa using c27))
     (try (have c27b2 : (t1508 == t1492) = true := by simpa using c27))
     clear c27
     replace H := Option.bind_eq_some_iff.mp H
     obtain ⟨⟨t1511, t1512⟩, A280, H⟩ := H
     try dsimp only at H
     have A28 := Aside0.mk A280
     clear A280
     replace H := Option.bind_eq_some_iff.mp H
     obtain ⟨t1515, A290, H⟩ := H
     try dsimp only at H
     have A29 := Aside0.mk A290
     clear A290
     by_cases c30 : t1515 = true
     ·subst c30
      have H1 : ((laws_toWhole.f k a1_0 l1_1).bind fun bt1516 => ((laws_eqWhole.f k t1499 t1500 bt1516.1 bt1516.2).bind fun t1520 => (if t1520 = true then ((laws_markWhole.f k t1494 t1495 1).bind fun bt1521 => ((laws_markWhole.f k t1499 t1500 bt1521.1).bind fun bt1523 => (if bt1523.1 < 0 then (none) else ((laws_eqWhole.f k t1504 t1505 t1488 t1489).bind fun t1525 => (if t1525 = true then ((laws_markWhole.f k t1504 t1505 1).bind fun bt1526 => ((laws_heldWhole.f k t1504 bt1526.2 1).bind fun t1528 => (if t1528 < 0 then (none) else (if t1528 = bt1526.1 then ((laws_toWhole.f k a0_0 l0_1).bind fun bt1529 => ((laws_toWhole.f k a1_0 l1_1).bind fun bt1533 => ((impl_WholeMul.f k bt1529.1 bt1529.2 bt1533.1 bt1533.2).bind fun bt1537 => ((laws_eqWhole.f k bt1537.1 bt1537.2.1 t1488 t1489).bind fun t1543 => (if t1543 = true then (if (bt1537.2.2 != t1492) = true then (none) else ((laws_heldWhole.f k t1504 bt1526.2 1).bind fun t1544 => (if t1544 < 0 then (none) else (if t1544 = bt1526.1 then (some true) else (none))))) else (none)))))) else (none))))) else (none)))))) else (none)))) = some r := by rw [if_pos rfl] at H; exact H
      clear H
      have H := H1
      clear H1
      replace H := Option.bind_eq_some_iff.mp H
      obtain ⟨⟨t1516, t1517⟩, A310, H⟩ := H
      try dsimp only at H
      have A31 := Aside0.mk A310
      clear A310
      replace H := Option.bind_eq_some_iff.mp H
      obtain ⟨t1520, A320, H⟩ := H
      try dsimp only at H
      have A32 := Aside0.mk A320
      clear A320
      by_cases c33 : t1520 = true
      ·subst c33
       have H1 : ((laws_markWhole.f k t1494 t1495 1).bind fun bt1521 => ((laws_markWhole.f k t1499 t1500 bt1521.1).bind fun bt1523 => (if bt1523.1 < 0 then (none) else ((laws_eqWhole.f k t1504 t1505 t1488 t1489).bind fun t1525 => (if t1525 = true then ((laws_markWhole.f k t1504 t1505 1).bind fun bt1526 => ((laws_heldWhole.f k t1504 bt1526.2 1).bind fun t1528 => (if t1528 < 0 then (none) else (if t1528 = bt1526.1 then ((laws_toWhole.f k a0_0 l0_1).bind fun bt1529 => ((laws_toWhole.f k a1_0 l1_1).bind fun bt1533 => ((impl_WholeMul.f k bt1529.1 bt1529.2 bt1533.1 bt1533.2).bind fun bt1537 => ((laws_eqWhole.f k bt1537.1 bt1537.2.1 t1488 t1489).bind fun t1543 => (if t1543 = true then (if (bt1537.2.2 != t1492) = true then (none) else ((laws_heldWhole.f k t1504 bt1526.2 1).bind fun t1544 => (if t1544 < 0 then (none) else (if t1544 = bt1526.1 then (some true) else (none))))) else (none)))))) else (none))))) else (none)))))) = some r := by rw [if_pos rfl] at H; exact H
       clear H
       have H := H1
       clear H1
       replace H := Option.bind_eq_some_iff.mp H
       obtain ⟨⟨t1521, t1522⟩, A340, H⟩ := H
       try dsimp only at H
       have A34 := Aside0.mk A340
       clear A340
       replace H := Option.bind_eq_some_iff.mp H
       obtain ⟨⟨t1523, t1524⟩, A350, H⟩ := H
       try dsimp only at H
       have A35 := Aside0.mk A350
       clear A350
       by_cases c36 : t1523 < 0
       ·rw [if_pos c36] at H
        exact absurd H (by simp)
       ·rw [if_neg c36] at H
        have c36b0 : decide (t1523 < 0) = false := decide_eq_false c36
        clear c36
        replace H := Option.bind_eq_some_iff.mp H
        obtain ⟨t1525, A370, H⟩ := H
        try dsimp only at H
        have A37 := Aside0.mk A370
        clear A370
        by_cases c38 : t1525 = true
        ·subst c38
         have H1 : ((laws_markWhole.f k t1504 t1505 1).bind fun bt1526 => ((laws_heldWhole.f k t1504 bt1526.2 1).bind fun t1528 => (if t1528 < 0 then (none) else (if t1528 = bt1526.1 then ((laws_toWhole.f k a0_0 l0_1).bind fun bt1529 => ((laws_toWhole.f k a1_0 l1_1).bind fun bt1533 => ((impl_WholeMul.f k bt1529.1 bt1529.2 bt1533.1 bt1533.2).bind fun bt1537 => ((laws_eqWhole.f k bt1537.1 bt1537.2.1 t1488 t1489).bind fun t1543 => (if t1543 = true then (if (bt1537.2.2 != t1492) = true then (none) else ((laws_heldWhole.f k t1504 bt1526.2 1).bind fun t1544 => (if t1544 < 0 then (none) else (if t1544 = bt1526.1 then (some true) else (none))))) else (none)))))) else (none))))) = some r := by rw [if_pos rfl] at H; exact H
         clear H
         have H := H1
         clear H1
         replace H := Option.bind_eq_some_iff.mp H
         obtain ⟨⟨t1526, t1527⟩, A390, H⟩ := H
         try dsimp only at H
         have A39 := Aside0.mk A390
         clear A390
         replace H := Option.bind_eq_some_iff.mp H
         obtain ⟨t1528, A400, H⟩ := H
         try dsimp only at H
         have A40 := Aside0.mk A400
         clear A400
         by_cases c41 : t1528 < 0
         ·rw [if_pos c41] at H
          exact absurd H (by simp)
         ·rw [if_neg c41] at H
          have c41b0 : decide (t1528 < 0) = false := decide_eq_false c41
          clear c41
          by_cases c42 : t1528 = t1526
          ·rw [if_pos c42] at H
           have c42b0 : (t1528 == t1526) = true := beq_iff_eq.mpr c42
           have c42b1 : (t1528 != t1526) = false := bne_eq_false_iff_eq.mpr c42
           clear c42
           replace H := Option.bind_eq_some_iff.mp H
           obtain ⟨⟨t1529, t1530⟩, A430, H⟩ := H
           try dsimp only at H
           have A43 := Aside0.mk A430
           clear A430
           replace H := Option.bind_eq_some_iff.mp H
           obtain ⟨⟨t1533, t1534⟩, A440, H⟩ := H
           try dsimp only at H
           have A44 := Aside0.mk A440
           clear A440
           replace H := Option.bind_eq_some_iff.mp H
           obtain ⟨⟨t1537, t1538, t1541⟩, A450, H⟩ := H
           try dsimp only at H
           have A45 := Aside0.mk A450
           clear A450
           replace H := Option.bind_eq_some_iff.mp H
           obtain ⟨t1543, A460, H⟩ := H
           try dsimp only at H
           have A46 := Aside0.mk A460
           clear A460
           by_cases c47 : t1543 = true
           ·subst c47
            have H1 : (if (t1541 != t1492) = true then (none) else ((laws_heldWhole.f k t1504 t1527 1).bind fun t1544 => (if t1544 < 0 then (none) else (if t1544 = t1526 then (some true) else (none))))) = some r := by rw [if_pos rfl] at H; exact H
            clear H
            have H := H1
            clear H1
            by_cases c48 : (t1541 != t1492) = true
            ·rw [if_pos c48] at H
             exact absurd H (by simp)
            ·rw [if_neg c48] at H
             have c48b0 : (t1541 != t1492) = false := by simpa using c48
             (try (have c48b1 : decide (t1541 = t1492) = true := by simpa using c48))
             (try (have c48b2 : (t1541 == t1492) = true := by simpa using c48))
             clear c48
             replace H := Option.bind_eq_some_iff.mp H
             obtain ⟨t1544, A490, H⟩ := H
             try dsimp only at H
             have A49 := Aside0.mk A490
             clear A490
             by_cases c50 : t1544 < 0
             ·rw [if_pos c50] at H
              exact absurd H (by simp)
             ·rw [if_neg c50] at H
              have c50b0 : decide (t1544 < 0) = false := decide_eq_false c50
              clear c50
              by_cases c51 : t1544 = t1526
              ·rw [if_pos c51] at H
               have c51b0 : (t1544 == t1526) = true := beq_iff_eq.mpr c51
               have c51b1 : (t1544 != t1526) = false := bne_eq_false_iff_eq.mpr c51
               clear c51
               obtain rfl := Option.some.inj H
               go_enter Try.func14, Try.ntmps14
               try go_wp2_with (first | ((with_reducible refine gate_dst (N := 2) rfl ?_); refine box_event ?hg (N := 2) ?hd (cs := #[.bool a0_0, .slice A0_1 l0_1.length c0_1]) (t := 56) ?hr ?_; (case hd => rfl); (case hg => rfl); (case hr => first | (go_simp; done) | (go_simp; rfl)); intro gb1476 hg w52 hbox hb; have n0_ := Sq.m (below_step (by repeat (first | (with_reducible first | exact HB.out | apply Sq.rc) | exact HB.out)) hb); have n1_ := Sq.m (hbox); have n2_ := Sq.m ((by rw [hg]; exact (below_size (by repeat (first | (with_reducible first | exact HB.out | apply Sq.rc) | exact HB.out))) : w.heap.size ≤ gb1476)); have n3_ := Sq.m ((by rw [hg]; exact (below_size (by repeat (first | (with_reducible first | exact HB.out | apply Sq.rc) | exact HB.out))) : w.heap.size ≤ gb1476)); clear HB; have HB := n0_; have BK1476 := n1_; have GW1476 := n2_; have GE1476 := n3_; clear n0_ n1_ n2_ n3_; clear hb hbox hg) | ((with_reducible refine gate_dst (N := 3) rfl ?_); refine box_event ?hg (N := 3) ?hd (cs := #[.bool a1_0, .slice A1_1 l1_1.length c1_1]) (t := 56) ?hr ?_; (case hd => rfl); (case hg => rfl); (case hr => first | (go_simp; done) | (go_simp; rfl)); intro gb1477 hg w53 hbox hb; have n0_ := Sq.m (blk_below (g := gb1476) (o := .cells #[.bool a0_0, .slice A0_1 l0_1.length c0_1] 56 (0, 0)) (by apply Sq.rb; exact BK1476.out) hb); have n1_ := Sq.m (below_step (by repeat (first | (with_reducible first | exact HB.out | apply Sq.rc | refine below_set ?_ GE1476.out) | exact HB.out)) hb); have n2_ := Sq.m (hbox); have n3_ := Sq.m ((by rw [hg]; exact (below_size (by repeat (first | (with_reducible first | exact HB.out | apply Sq.rc | refine below_set ?_ GE1476.out) | exact HB.out))) : w.heap.size ≤ gb1477)); have n4_ := Sq.m ((by rw [hg]; exact (below_size (by repeat (first | (with_reducible first | exact HB.out | apply Sq.rc | refine below_set ?_ GE1476.out) | exact HB.out))) : w.heap.size ≤ gb1477)); have n5_ := Sq.m ((by rw [hg]; exact Nat.ne_of_lt (blk_lt (g := gb1476) (o := .cells #[.bool a0_0, .slice A0_1 l0_1.length c0_1] 56 (0, 0)) (by apply Sq.rb; exact BK1476.out)) : gb1476 ≠ gb1477)); have n6_ := Sq.m ((by rw [hg]; exact Nat.ne_of_gt (blk_lt (g := gb1476) (o := .cells #[.bool a0_0, .slice A0_1 l0_1.length c0_1] 56 (0, 0)) (by apply Sq.rb; exact BK1476.out)) : gb1477 ≠ gb1476)); clear BK1476; clear HB; have BK1476 := n0_; have HB := n1_; have BK1477 := n2_; have GW1477 := n3_; have GE1477 := n4_; have NB1476_1477 := n5_; have NB1477_1476 := n6_; clear n0_ n1_ n2_ n3_ n4_ n5_ n6_; clear hb hbox hg; have hnb54 := NB1476_1477.out; have hnc54 := NB1477_1476.out; have hcz55_0 : w53.cell? ⟨gb1476, 0, none⟩ = some (.bool a0_0) := (blk_cell BK1476.out 0).trans rfl; have hcz55_1 : w53.cell? ⟨gb1476, 1, none⟩ = some (.slice A0_1 l0_1.length c0_1) := (blk_cell BK1476.out 1).trans rfl; have hfz55_0 := blk_frozen BK1476.out 0; have hfz55_1 := blk_frozen BK1476.out 1) | ((with_reducible refine gate_callee (f := 50) rfl ?_); refine goesL_ (some 19) rfl rfl Try.func50 (by kernel_rfl) rfl #[.agg #[.bool a0_0, .slice A0_1 l0_1.length c0_1], .int .i64 1048576] rfl (by (try simp only [List.map_toArray, List.map_cons, List.map_nil]); first | done | rfl | (simp only [List.length_drop, List.length_take]; rfl) | (simp only [i64_w, u8_w, w64_b]; rfl)) ?_; (with_reducible refine (laws_szWhole.calls a0_0 _ _ l0_1 1048576 t1478 _ ?side1 ?side2 A3.out).mono ?_); (case side1 => repeat (first | exact (Kd.C_below HR0_1.out HB.out) | (with_reducible refine Kd.C_alloc ?_ _) | (with_reducible refine Kd.C_drewN ?_ _) | (with_reducible refine Kd.C_drew ?_))); (case side2 => exact HC0_1.out); rintro e w56 ⟨rfl, hb⟩; refine ⟨_, rfl, ?_⟩; have n0_ := Sq.m (blk_below (g := gb1476) (o := .cells #[.bool a0_0, .slice A0_1 l0_1.length c0_1] 56 (0, 0)) (by apply Sq.rb; exact BK1476.out) hb); have n1_ := Sq.m (blk_below (g := gb1477) (o := .cells #[.bool a1_0, .slice A1_1 l1_1.length c1_1] 56 (0, 0)) (by apply Sq.rb; exact BK1477.out) hb); have n2_ := Sq.m (below_step (by repeat (first | (with_reducible first | exact HB.out | apply Sq.rc | refine below_set ?_ GE1476.out | refine below_set ?_ GE1477.out) | exact HB.out)) hb); clear BK1476; clear BK1477; clear HB; have BK1476 := n0_; have BK1477 := n1_; have HB := n2_; clear n0_ n1_ n2_; (try clear hb); (try clear hb2); (try clear hk); (try clear hi); have hcz57_0 : w56.cell? ⟨gb1477, 0, none⟩ = some (.bool a1_0) := (blk_cell BK1477.out 0).trans rfl; have hcz57_1 : w56.cell? ⟨gb1477, 1, none⟩ = some (.slice A1_1 l1_1.length c1_1) := (blk_cell BK1477.out 1).trans rfl; have hfz57_0 := blk_frozen BK1477.out 0; have hfz57_1 := blk_frozen BK1477.out 1) | ((with_reducible refine gate_callee (f := 50) rfl ?_); refine goesL_ (some 24) rfl rfl Try.func50 (by kernel_rfl) rfl #[.agg #[.bool a1_0, .slice A1_1 l1_1.length c1_1], .int .i64 t1478] rfl (by (try simp only [List.map_toArray, List.map_cons, List.map_nil]); first | done | rfl | (simp only [List.length_drop, List.length_take]; rfl) | (simp only [i64_w, u8_w, w64_b]; rfl)) ?_; (with_reducible refine (laws_szWhole.calls a1_0 _ _ l1_1 t1478 t1479 _ ?side1 ?side2 A10.out).mono ?_); (case side1 => repeat (first | exact (Kd.C_below HR1_1.out HB.out) | (with_reducible refine Kd.C_alloc ?_ _) | (with_reducible refine Kd.C_drewN ?_ _) | (with_reducible refine Kd.C_drew ?_))); (case side2 => exact HC1_1.out); rintro e w58 ⟨rfl, hb⟩; refine ⟨_, rfl, ?_⟩; have n0_ := Sq.m (blk_below (g := gb1476) (o := .cells #[.bool a0_0, .slice A0_1 l0_1.length c0_1] 56 (0, 0)) (by apply Sq.rb; exact BK1476.out) hb); have n1_ := Sq.m (blk_below (g := gb1477) (o := .cells #[.bool a1_0, .slice A1_1 l1_1.length c1_1] 56 (0, 0)) (by apply Sq.rb; exact BK1477.out) hb); have n2_ := Sq.m (below_step (by repeat (first | (with_reducible first | exact HB.out | apply Sq.rc | refine below_set ?_ GE1476.out | refine below_set ?_ GE1477.out) | exact HB.out)) hb); clear BK1476; clear BK1477; clear HB; have BK1476 := n0_; have BK1477 := n1_; have HB := n2_; clear n0_ n1_ n2_; (try clear hb); (try clear hb2); (try clear hk); (try clear hi)))
               have n0_ := Sq.m (blk_drew BK1476.out)
               have n1_ := Sq.m (blk_drew BK1477.out)
               have n2_ := Sq.m (below_drew1 HB.out)
               clear BK1476
               clear BK1477
               clear HB
               have BK1476 := n0_
               have BK1477 := n1_
               have HB := n2_
               clear n0_ n1_ n2_
               refine start_ (n := 11) (S := fun w' => True) (ds := []) #[false, false, false, false, false, false, false, false, false, false, false] (by kernel_rfl) rfl rfl trivial (fun hHeld => ?_); refine with_tabW laws_FnExactWholeMul.tab8 laws_FnExactWholeMul.bits8 (fun HT_ HW_ => ?_)
               generalize w58.drew = w59 at BK1476 BK1477 HB hHeld ⊢
               refine inv_at [0, 1, 2, 3, 4, 5, 6, 7, 8, 9, 10] (fun a0_ b a w' => ∃ (v1482 : Value) (v1486 : Value) (v1490 : Value) (gb1493 : Nat) (m1_ : Value) (m3_ : Value) (m4_ : Value) (m5_ : Value) (m6_ : Value) (m8_ : Value), a = putSel a0_ b [(0, 28, .agg #[.bool a0_0, .slice A0_1 l0_1.length c0_1]), (1, 29, m1_), (2, 30, .agg #[.bool a1_0, .slice A1_1 l1_1.length c1_1]), (3, 31, m3_), (4, 32, m4_), (5, 27, m5_), (6, 33, m6_), (7, 34, .bool t1492), (8, 6, m8_), (10, 7, .bool t1492)] ∧ (w'.heap[gb1476]? = some (.cells #[.bool a0_0, .slice A0_1 l0_1.length c0_1] 56 (0, 0))) ∧ (w'.heap[gb1477]? = some (.cells #[.bool a1_0, .slice A1_1 l1_1.length c1_1] 56 (0, 0))) ∧ (Below w.heap.size w w') ∧ (b 1 = true → Kd.R (Kd.int .i64) 3 w' w.heap.size (fun _ => True) v1482 t1481) ∧ (b 3 = true → Kd.R (Kd.int .i64) 3 w' w.heap.size (fun _ => True) v1486 t1485) ∧ (b 4 = true → Kd.R (Kd.int .i64) 3 w' w.heap.size (fun _ => True) v1490 t1489) ∧ (b 8 = true → b 9 = false → w'.heap[gb1493]? = some (.cells #[.bool false, .slice none 0 0] 59 (0, 0))) ∧ (b 8 = true → w.heap.size ≤ gb1493) ∧ (b 8 = true → w.heap.size ≤ gb1493) ∧ (b 8 = true → gb1476 ≠ gb1493) ∧ (b 8 = true → gb1493 ≠ gb1476) ∧ (b 8 = true → gb1477 ≠ gb1493) ∧ (b 8 = true → gb1493 ≠ gb1477) ∧ (b 9 = true → w'.heap[gb1493]? = some (.cells #[.bool t1488, v1490] 59 (0, 0))) ∧ (b 1 = true → (m1_ : Value) = .agg #[.bool t1480, v1482]) ∧ (b 3 = true → (m3_ : Value) = .agg #[.bool t1484, v1486]) ∧ (b 4 = true → (m4_ : Value) = .tuple #[.agg #[.bool t1488, v1490], .bool t1492]) ∧ (b 5 = true → (m5_ : Value) = .tuple #[.agg #[.bool t1488, v1490], .bool t1492]) ∧ (b 6 = true → (m6_ : Value) = .agg #[.bool t1488, v1490]) ∧ (b 8 = true → (m8_ : Value) = .pointer (some ⟨gb1493, 0, none⟩))) HT_.out HW_.out (by kernel_rfl) (by kernel_rfl) ?_ ?_ ?_
               ·exact ⟨.bool false, .bool false, .bool false, 0, .bool false, .bool false, .bool false, .bool false, .bool false, .bool false, by simp only [putSel, Bool.false_eq_true, if_false], BK1476.out, BK1477.out, HB.out, fun h_ => absurd h_ (by decide), fun h_ => absurd h_ (by decide), fun h_ => absurd h_ (by decide), fun h_ => absurd h_ (by decide), fun h_ => absurd h_ (by decide), fun h_ => absurd h_ (by decide), fun h_ => absurd h_ (by decide), fun h_ => absurd h_ (by decide), fun h_ => absurd h_ (by decide), fun h_ => absurd h_ (by decide), fun h_ => absurd h_ (by decide), fun h_ => absurd h_ (by decide), fun h_ => absurd h_ (by decide), fun h_ => absurd h_ (by decide), fun h_ => absurd h_ (by decide), fun h_ => absurd h_ (by decide), fun h_ => absurd h_ (by decide)⟩
               ·skip
                clear BK1476 BK1477 HB
                refine steps_cons ?_ ?_
                ·rintro b a w' ⟨v1482, v1486, v1490, gb1493, m1_, m3_, m4_, m5_, m6_, m8_, ha, Q_BK1476, Q_BK1477, Q_HB, Q_HO1483, Q_HO1487, Q_HO1491, Q_BK1493, Q_GW1493, Q_GE1493, Q_NB1476_1493, Q_NB1493_1476, Q_NB1477_1493, Q_NB1493_1477, Q_BK1493_e9, Q_X1_, Q_X3_, Q_X4_, Q_X5_, Q_X6_, Q_X8_⟩ hb_ hon hoff
                 refine ⟨_, rfl, fun K hK => ?_⟩
                 have e2 : a.tmps[2]? = some (.pointer (some ⟨gb1476, 0, none⟩)) := by rw [ha]; exact (putSel_off rfl).trans rfl
                 replace ha := Aside0.mk ha
                 have BK1476 := Aside0.mk Q_BK1476
                 have BK1477 := Aside0.mk Q_BK1477
                 have HB := Aside0.mk Q_HB
                 have hc0_ : w'.cell? ⟨gb1476, 0, none⟩ = some (.bool a0_0) := (blk_cell BK1476.out 0).trans rfl
                 have hc1_ : w'.cell? ⟨gb1476, 1, none⟩ = some (.slice A0_1 l0_1.length c0_1) := (blk_cell BK1476.out 1).trans rfl
                 refine value_ (w1 := w') (v := .agg #[.bool a0_0, .slice A0_1 l0_1.length c0_1]) (by rfl) rfl ?_ ?_
                 ·go_simp
                  (try simp only [i64_w])
                  try rfl
                 refine hK.out _ _ ⟨v1482, v1486, v1490, gb1493, m1_, m3_, m4_, m5_, m6_, m8_, (by rw [ha.out]; exact putSel_upk 0 hb_ rfl rfl rfl), Q_BK1476, Q_BK1477, Q_HB, fun h0_ => absurd ((hoff 1 (by kernel_rfl)).symm.trans h0_) (by decide), fun h0_ => absurd ((hoff 3 (by kernel_rfl)).symm.trans h0_) (by decide), fun h0_ => absurd ((hoff 4 (by kernel_rfl)).symm.trans h0_) (by decide), Q_BK1493, Q_GW1493, Q_GE1493, Q_NB1476_1493, Q_NB1493_1476, Q_NB1477_1493, Q_NB1493_1477, fun h0_ => absurd ((hoff 9 (by kernel_rfl)).symm.trans h0_) (by decide), fun h0_ => absurd ((hoff 1 (by kernel_rfl)).symm.trans h0_) (by decide), fun h0_ => absurd ((hoff 3 (by kernel_rfl)).symm.trans h0_) (by decide), fun h0_ => absurd ((hoff 4 (by kernel_rfl)).symm.trans h0_) (by decide), fun h0_ => absurd ((hoff 5 (by kernel_rfl)).symm.trans h0_) (by decide), fun h0_ => absurd ((hoff 6 (by kernel_rfl)).symm.trans h0_) (by decide), Q_X8_⟩
                refine steps_cons ?_ ?_
                ·rintro b a w' ⟨v1482, v1486, v1490, gb1493, m1_, m3_, m4_, m5_, m6_, m8_, ha, Q_BK1476, Q_BK1477, Q_HB, Q_HO1483, Q_HO1487, Q_HO1491, Q_BK1493, Q_GW1493, Q_GE1493, Q_NB1476_1493, Q_NB1493_1476, Q_NB1477_1493, Q_NB1493_1477, Q_BK1493_e9, Q_X1_, Q_X3_, Q_X4_, Q_X5_, Q_X6_, Q_X8_⟩ hb_ hon hoff
                 refine ⟨_, rfl, fun K hK => ?_⟩
                 have e28 : a.tmps[28]? = some (.agg #[.bool a0_0, .slice A0_1 l0_1.length c0_1]) := by rw [ha]; exact putSel_on (e := (0, 28, .agg #[.bool a0_0, .slice A0_1 l0_1.length c0_1])) 0 rfl rfl (hon 0 (by kernel_rfl)) rfl
                 replace ha := Aside0.mk ha
                 have BK1476 := Aside0.mk Q_BK1476
                 have BK1477 := Aside0.mk Q_BK1477
                 have HB := Aside0.mk Q_HB
                 refine goes_ Try.func52 (by kernel_rfl) rfl #[.agg #[.bool a0_0, .slice A0_1 l0_1.length c0_1]] (by rfl) rfl rfl (by first | (simp only [List.map_toArray, List.map_cons, List.map_nil, Act.eval, Array.getD_eq_getD_getElem?, Option.getD_some, e28]; done) | (simp only [List.map_toArray, List.map_cons, List.map_nil, Act.eval, Array.getD_eq_getD_getElem?, Option.getD_some, e28]; rfl)) ?_
                 with_reducible refine (laws_toWhole.calls k a0_0 _ _ l0_1 t1480 t1481 _ ?side1 ?side2 A19.out).mono ?_
                 (case side1 => repeat (first | exact (Kd.C_below HR0_1.out HB.out) | (with_reducible refine Kd.C_alloc ?_ _) | (with_reducible refine Kd.C_drewN ?_ _) | (with_reducible refine Kd.C_drew ?_)))
                 (case side2 => exact HC0_1.out)
                 rintro e w60 ⟨v1482, rfl, ho0, hb⟩
                 refine ⟨_, rfl, ?_⟩
                 have n0_ := Sq.m (Kd.R_lower ho0 (below_size (by repeat (first | (with_reducible first | exact HB.out | apply Sq.rc | refine below_set ?_ GE1476.out | refine below_set ?_ GE1477.out) | exact HB.out))))
                 have n1_ := Sq.m (blk_below (g := gb1476) (o := .cells #[.bool a0_0, .slice A0_1 l0_1.length c0_1] 56 (0, 0)) (by apply Sq.rb; exact BK1476.out) hb)
                 have n2_ := Sq.m (blk_below (g := gb1477) (o := .cells #[.bool a1_0, .slice A1_1 l1_1.length c1_1] 56 (0, 0)) (by apply Sq.rb; exact BK1477.out) hb)
                 have n3_ := Sq.m (below_step (by repeat (first | (with_reducible first | exact HB.out | apply Sq.rc | refine below_set ?_ GE1476.out | refine below_set ?_ GE1477.out) | exact HB.out)) hb)
                 have z_BK1493 := fun (h0_ : b 8 = true) (h1_ : b 9 = false) => (show w60.heap[gb1493]? = some (.cells #[.bool false, .slice none 0 0] 59 (0, 0)) from by first | exact (blk_below (g := gb1493) (o := .cells #[.bool false, .slice none 0 0] 59 (0, 0)) (by apply Sq.rb; exact (Q_BK1493 h0_ h1_)) hb))
                 clear BK1476
                 clear BK1477
                 clear HB
                 have HO1483 := n0_
                 have BK1476 := n1_
                 have BK1477 := n2_
                 have HB := n3_
                 clear n0_ n1_ n2_ n3_
                 (try clear hb)
                 (try clear hb2)
                 (try clear hk)
                 (try clear hi)
                 (try clear ho0)
                 refine hK.out _ _ ⟨v1482, v1486, v1490, gb1493, (.agg #[.bool t1480, v1482]), m3_, m4_, m5_, m6_, m8_, (by rw [ha.out]; exact putSel_upk 1 hb_ rfl rfl rfl), (by apply Sq.rb; exact BK1476.out), (by apply Sq.rb; exact BK1477.out), (by repeat (first | (with_reducible first | exact HB.out | apply Sq.rc | refine below_set ?_ GE1476.out | refine below_set ?_ GE1477.out) | exact HB.out)), fun _ => (by apply Sq.ra; exact HO1483.out), fun h0_ => absurd ((hoff 3 (by kernel_rfl)).symm.trans h0_) (by decide), fun h0_ => absurd ((hoff 4 (by kernel_rfl)).symm.trans h0_) (by decide), z_BK1493, Q_GW1493, Q_GE1493, Q_NB1476_1493, Q_NB1493_1476, Q_NB1477_1493, Q_NB1493_1477, fun h0_ => absurd ((hoff 9 (by kernel_rfl)).symm.trans h0_) (by decide), fun _ => rfl, fun h0_ => absurd ((hoff 3 (by kernel_rfl)).symm.trans h0_) (by decide), fun h0_ => absurd ((hoff 4 (by kernel_rfl)).symm.trans h0_) (by decide), fun h0_ => absurd ((hoff 5 (by kernel_rfl)).symm.trans h0_) (by decide), fun h0_ => absurd ((hoff 6 (by kernel_rfl)).symm.trans h0_) (by decide), Q_X8_⟩
                refine steps_cons ?_ ?_
                ·rintro b a w' ⟨v1482, v1486, v1490, gb1493, m1_, m3_, m4_, m5_, m6_, m8_, ha, Q_BK1476, Q_BK1477, Q_HB, Q_HO1483, Q_HO1487, Q_HO1491, Q_BK1493, Q_GW1493, Q_GE1493, Q_NB1476_1493, Q_NB1493_1476, Q_NB1477_1493, Q_NB1493_1477, Q_BK1493_e9, Q_X1_, Q_X3_, Q_X4_, Q_X5_, Q_X6_, Q_X8_⟩ hb_ hon hoff
                 refine ⟨_, rfl, fun K hK => ?_⟩
                 have e3 : a.tmps[3]? = some (.pointer (some ⟨gb1477, 0, none⟩)) := by rw [ha]; exact (putSel_off rfl).trans rfl
                 replace ha := Aside0.mk ha
                 have BK1476 := Aside0.mk Q_BK1476
                 have BK1477 := Aside0.mk Q_BK1477
                 have HB := Aside0.mk Q_HB
                 have hc0_ : w'.cell? ⟨gb1477, 0, none⟩ = some (.bool a1_0) := (blk_cell BK1477.out 0).trans rfl
                 have hc1_ : w'.cell? ⟨gb1477, 1, none⟩ = some (.slice A1_1 l1_1.length c1_1) := (blk_cell BK1477.out 1).trans rfl
                 refine value_ (w1 := w') (v := .agg #[.bool a1_0, .slice A1_1 l1_1.length c1_1]) (by rfl) rfl ?_ ?_
                 ·go_simp
                  (try simp only [i64_w])
                  try rfl
                 refine hK.out _ _ ⟨v1482, v1486, v1490, gb1493, m1_, m3_, m4_, m5_, m6_, m8_, (by rw [ha.out]; exact putSel_upk 2 hb_ rfl rfl rfl), Q_BK1476, Q_BK1477, Q_HB, Q_HO1483, fun h0_ => absurd ((hoff 3 (by kernel_rfl)).symm.trans h0_) (by decide), fun h0_ => absurd ((hoff 4 (by kernel_rfl)).symm.trans h0_) (by decide), Q_BK1493, Q_GW1493, Q_GE1493, Q_NB1476_1493, Q_NB1493_1476, Q_NB1477_1493, Q_NB1493_1477, fun h0_ => absurd ((hoff 9 (by kernel_rfl)).symm.trans h0_) (by decide), Q_X1_, fun h0_ => absurd ((hoff 3 (by kernel_rfl)).symm.trans h0_) (by decide), fun h0_ => absurd ((hoff 4 (by kernel_rfl)).symm.trans h0_) (by decide), fun h0_ => absurd ((hoff 5 (by kernel_rfl)).symm.trans h0_) (by decide), fun h0_ => absurd ((hoff 6 (by kernel_rfl)).symm.trans h0_) (by decide), Q_X8_⟩
                refine steps_cons ?_ ?_
                ·rintro b a w' ⟨v1482, v1486, v1490, gb1493, m1_, m3_, m4_, m5_, m6_, m8_, ha, Q_BK1476, Q_BK1477, Q_HB, Q_HO1483, Q_HO1487, Q_HO1491, Q_BK1493, Q_GW1493, Q_GE1493, Q_NB1476_1493, Q_NB1493_1476, Q_NB1477_1493, Q_NB1493_1477, Q_BK1493_e9, Q_X1_, Q_X3_, Q_X4_, Q_X5_, Q_X6_, Q_X8_⟩ hb_ hon hoff
                 refine ⟨_, rfl, fun K hK => ?_⟩
                 have e30 : a.tmps[30]? = some (.agg #[.bool a1_0, .slice A1_1 l1_1.length c1_1]) := by rw [ha]; exact putSel_on (e := (2, 30, .agg #[.bool a1_0, .slice A1_1 l1_1.length c1_1])) 2 rfl rfl (hon 2 (by kernel_rfl)) rfl
                 replace ha := Aside0.mk ha
                 have BK1476 := Aside0.mk Q_BK1476
                 have BK1477 := Aside0.mk Q_BK1477
                 have HB := Aside0.mk Q_HB
                 have HO1483 := Sq.m (Q_HO1483 (hon 1 (by kernel_rfl)))
                 refine goes_ Try.func52 (by kernel_rfl) rfl #[.agg #[.bool a1_0, .slice A1_1 l1_1.length c1_1]] (by rfl) rfl rfl (by first | (simp only [List.map_toArray, List.map_cons, List.map_nil, Act.eval, Array.getD_eq_getD_getElem?, Option.getD_some, e30]; done) | (simp only [List.map_toArray, List.map_cons, List.map_nil, Act.eval, Array.getD_eq_getD_getElem?, Option.getD_some, e30]; rfl)) ?_
                 with_reducible refine (laws_toWhole.calls k a1_0 _ _ l1_1 t1484 t1485 _ ?side1 ?side2 A20.out).mono ?_
                 (case side1 => repeat (first | exact (Kd.C_below HR1_1.out HB.out) | (with_reducible refine Kd.C_alloc ?_ _) | (with_reducible refine Kd.C_drewN ?_ _) | (with_reducible refine Kd.C_drew ?_)))
                 (case side2 => exact HC1_1.out)
                 rintro e w62 ⟨v1486, rfl, ho0, hb⟩
                 refine ⟨_, rfl, ?_⟩
                 have n0_ := Sq.m (Kd.R_elder' (by apply Sq.ra; exact HO1483.out) (Kd.R_base ho0) hb)
                 have n1_ := Sq.m (Kd.R_lower (Kd.R_new' ho0 (Kd.R_lt (by apply Sq.ra; exact HO1483.out))) (below_size (by repeat (first | (with_reducible first | exact HB.out | apply Sq.rc | refine below_set ?_ GE1476.out | refine below_set ?_ GE1477.out) | exact HB.out))))
                 have n2_ := Sq.m (blk_below (g := gb1476) (o := .cells #[.bool a0_0, .slice A0_1 l0_1.length c0_1] 56 (0, 0)) (by apply Sq.rb; exact BK1476.out) hb)
                 have n3_ := Sq.m (blk_below (g := gb1477) (o := .cells #[.bool a1_0, .slice A1_1 l1_1.length c1_1] 56 (0, 0)) (by apply Sq.rb; exact BK1477.out) hb)
                 have n4_ := Sq.m (below_step (by repeat (first | (with_reducible first | exact HB.out | apply Sq.rc | refine below_set ?_ GE1476.out | refine below_set ?_ GE1477.out) | exact HB.out)) hb)
                 have z_BK1493 := fun (h0_ : b 8 = true) (h1_ : b 9 = false) => (show w62.heap[gb1493]? = some (.cells #[.bool false, .slice none 0 0] 59 (0, 0)) from by first | exact (blk_below (g := gb1493) (o := .cells #[.bool false, .slice none 0 0] 59 (0, 0)) (by apply Sq.rb; exact (Q_BK1493 h0_ h1_)) hb))
                 clear HO1483
                 clear BK1476
                 clear BK1477
                 clear HB
                 have HO1483 := n0_
                 have HO1487 := n1_
                 have BK1476 := n2_
                 have BK1477 := n3_
                 have HB := n4_
                 clear n0_ n1_ n2_ n3_ n4_
                 (try clear hb)
                 (try clear hb2)
                 (try clear hk)
                 (try clear hi)
                 (try clear ho0)
                 refine hK.out _ _ ⟨v1482, v1486, v1490, gb1493, m1_, (.agg #[.bool t1484, v1486]), m4_, m5_, m6_, m8_, (by rw [ha.out]; exact putSel_upk 3 hb_ rfl rfl rfl), (by apply Sq.rb; exact BK1476.out), (by apply Sq.rb; exact BK1477.out), (by repeat (first | (with_reducible first | exact HB.out | apply Sq.rc | refine below_set ?_ GE1476.out | refine below_set ?_ GE1477.out) | exact HB.out)), fun _ => (by apply Sq.ra; exact Kd.R_mono HO1483.out (fun _ hk => by first | exact True.intro | exact hk.1 | exact hk | exact hk.2 | simp only [hk, ne_eq, not_false_eq_true, and_self, and_true, true_and])), fun _ => (by apply Sq.ra; exact Kd.R_mono HO1487.out (fun _ hk => by first | exact True.intro | exact hk.1 | exact hk | exact hk.2 | simp only [hk, ne_eq, not_false_eq_true, and_self, and_true, true_and])), fun h0_ => absurd ((hoff 4 (by kernel_rfl)).symm.trans h0_) (by decide), z_BK1493, Q_GW1493, Q_GE1493, Q_NB1476_1493, Q_NB1493_1476, Q_NB1477_1493, Q_NB1493_1477, fun h0_ => absurd ((hoff 9 (by kernel_rfl)).symm.trans h0_) (by decide), Q_X1_, fun _ => rfl, fun h0_ => absurd ((hoff 4 (by kernel_rfl)).symm.trans h0_) (by decide), fun h0_ => absurd ((hoff 5 (by kernel_rfl)).symm.trans h0_) (by decide), fun h0_ => absurd ((hoff 6 (by kernel_rfl)).symm.trans h0_) (by decide), Q_X8_⟩
                refine steps_cons ?_ ?_
                ·rintro b a w' ⟨v1482, v1486, v1490, gb1493, m1_, m3_, m4_, m5_, m6_, m8_, ha, Q_BK1476, Q_BK1477, Q_HB, Q_HO1483, Q_HO1487, Q_HO1491, Q_BK1493, Q_GW1493, Q_GE1493, Q_NB1476_1493, Q_NB1493_1476, Q_NB1477_1493, Q_NB1493_1477, Q_BK1493_e9, Q_X1_, Q_X3_, Q_X4_, Q_X5_, Q_X6_, Q_X8_⟩ hb_ hon hoff
                 refine ⟨_, rfl, fun K hK => ?_⟩
                 have e29 : a.tmps[29]? = some (m1_) := by rw [ha]; exact putSel_on (e := (1, 29, m1_)) 1 rfl rfl (hon 1 (by kernel_rfl)) rfl
                 rw [Q_X1_ (hon 1 (by kernel_rfl))] at e29
                 have e31 : a.tmps[31]? = some (m3_) := by rw [ha]; exact putSel_on (e := (3, 31, m3_)) 3 rfl rfl (hon 3 (by kernel_rfl)) rfl
                 rw [Q_X3_ (hon 3 (by kernel_rfl))] at e31
                 replace ha := Aside0.mk ha
                 have BK1476 := Aside0.mk Q_BK1476
                 have BK1477 := Aside0.mk Q_BK1477
                 have HB := Aside0.mk Q_HB
                 have HO1483 := Sq.m (Q_HO1483 (hon 1 (by kernel_rfl)))
                 have HO1487 := Sq.m (Q_HO1487 (hon 3 (by kernel_rfl)))
                 obtain ⟨Ao63, co63, eo63⟩ := Kd.R_slice HO1483.out
                 (first | subst eo63 | (injection eo63 with f1_ f2_ f3_; have f4_ := f1_.symm; have f5_ := f3_.symm; clear f1_ f2_ f3_; subst f4_; subst f5_))
                 obtain ⟨Ao64, co64, eo64⟩ := Kd.R_slice HO1487.out
                 (first | subst eo64 | (injection eo64 with f1_ f2_ f3_; have f4_ := f1_.symm; have f5_ := f3_.symm; clear f1_ f2_ f3_; subst f4_; subst f5_))
                 refine goes_ Try.func59 (by kernel_rfl) rfl #[.agg #[.bool t1480, .slice Ao63 t1481.length co63], .agg #[.bool t1484, .slice Ao64 t1485.length co64]] (by rfl) rfl rfl (by first | (simp only [List.map_toArray, List.map_cons, List.map_nil, Act.eval, Array.getD_eq_getD_getElem?, Option.getD_some, e29, e31]; done) | (simp only [List.map_toArray, List.map_cons, List.map_nil, Act.eval, Array.getD_eq_getD_getElem?, Option.getD_some, e29, e31]; rfl)) ?_
                 with_reducible refine (spec_WholeMul.calls k t1480 _ _ t1481 t1484 _ _ t1485 t1488 t1489 t1492 _ ?side1 ?side2 ?side3 ?side4 A21.out).mono ?_
                 (case side1 => repeat (first | exact (Kd.R_reads' HO1483.out).2.2 | (with_reducible refine Kd.C_alloc ?_ _) | (with_reducible refine Kd.C_drewN ?_ _) | (with_reducible refine Kd.C_drew ?_)))
                 (case side2 => exact (Kd.R_reads' HO1483.out).2.1)
                 (case side3 => repeat (first | exact (Kd.R_reads' HO1487.out).2.2 | (with_reducible refine Kd.C_alloc ?_ _) | (with_reducible refine Kd.C_drewN ?_ _) | (with_reducible refine Kd.C_drew ?_)))
                 (case side4 => exact (Kd.R_reads' HO1487.out).2.1)
                 rintro e w65 ⟨v1490, rfl, ho0, hb⟩
                 refine ⟨_, rfl, ?_⟩
                 have n0_ := Sq.m (Kd.R_elder' (by apply Sq.ra; exact HO1483.out) (Kd.R_base ho0) hb)
                 have n1_ := Sq.m (Kd.R_elder' (by apply Sq.ra; exact HO1487.out) (Kd.R_base ho0) hb)
                 have n2_ := Sq.m (Kd.R_lower (Kd.R_new' (Kd.R_new' ho0 (Kd.R_lt (by apply Sq.ra; exact HO1483.out))) (Kd.R_lt (by apply Sq.ra; exact HO1487.out))) (below_size (by repeat (first | (with_reducible first | exact HB.out | apply Sq.rc | refine below_set ?_ GE1476.out | refine below_set ?_ GE1477.out) | exact HB.out))))
                 have n3_ := Sq.m (blk_below (g := gb1476) (o := .cells #[.bool a0_0, .slice A0_1 l0_1.length c0_1] 56 (0, 0)) (by apply Sq.rb; exact BK1476.out) hb)
                 have n4_ := Sq.m (blk_below (g := gb1477) (o := .cells #[.bool a1_0, .slice A1_1 l1_1.length c1_1] 56 (0, 0)) (by apply Sq.rb; exact BK1477.out) hb)
                 have n5_ := Sq.m (below_step (by repeat (first | (with_reducible first | exact HB.out | apply Sq.rc | refine below_set ?_ GE1476.out | refine below_set ?_ GE1477.out) | exact HB.out)) hb)
                 have z_BK1493 := fun (h0_ : b 8 = true) (h1_ : b 9 = false) => (show w65.heap[gb1493]? = some (.cells #[.bool false, .slice none 0 0] 59 (0, 0)) from by first | exact (blk_below (g := gb1493) (o := .cells #[.bool false, .slice none 0 0] 59 (0, 0)) (by apply Sq.rb; exact (Q_BK1493 h0_ h1_)) hb))
                 clear HO1483
                 clear HO1487
                 clear BK1476
                 clear BK1477
                 clear HB
                 have HO1483 := n0_
                 have HO1487 := n1_
                 have HO1491 := n2_
                 have BK1476 := n3_
                 have BK1477 := n4_
                 have HB := n5_
                 clear n0_ n1_ n2_ n3_ n4_ n5_
                 (try clear hb)
                 (try clear hb2)
                 (try clear hk)
                 (try clear hi)
                 (try clear ho0)
                 refine hK.out _ _ ⟨.slice Ao63 t1481.length co63, .slice Ao64 t1485.length co64, v1490, gb1493, m1_, m3_, (.tuple #[.agg #[.bool t1488, v1490], .bool t1492]), m5_, m6_, m8_, (by rw [ha.out]; exact putSel_upk 4 hb_ rfl rfl rfl), (by apply Sq.rb; exact BK1476.out), (by apply Sq.rb; exact BK1477.out), (by repeat (first | (with_reducible first | exact HB.out | apply Sq.rc | refine below_set ?_ GE1476.out | refine below_set ?_ GE1477.out) | exact HB.out)), fun _ => (by apply Sq.ra; exact Kd.R_mono HO1483.out (fun _ hk => by first | exact True.intro | exact hk.1 | exact hk | exact hk.2 | simp only [hk, ne_eq, not_false_eq_true, and_self, and_true, true_and])), fun _ => (by apply Sq.ra; exact Kd.R_mono HO1487.out (fun _ hk => by first | exact True.intro | exact hk.1 | exact hk | exact hk.2 | simp only [hk, ne_eq, not_false_eq_true, and_self, and_true, true_and])), fun _ => (by apply Sq.ra; exact Kd.R_mono HO1491.out (fun _ hk => by first | exact True.intro | exact hk.1 | exact hk | exact ⟨hk.1.2, hk.2⟩ | simp only [hk, ne_eq, not_false_eq_true, and_self, and_true, true_and])), z_BK1493, Q_GW1493, Q_GE1493, Q_NB1476_1493, Q_NB1493_1476, Q_NB1477_1493, Q_NB1493_1477, fun h0_ => absurd ((hoff 9 (by kernel_rfl)).symm.trans h0_) (by decide), Q_X1_, Q_X3_, fun _ => rfl, fun h0_ => absurd ((hoff 5 (by kernel_rfl)).symm.trans h0_) (by decide), fun h0_ => absurd ((hoff 6 (by kernel_rfl)).symm.trans h0_) (by decide), Q_X8_⟩
                refine steps_cons ?_ ?_
                ·rintro b a w' ⟨v1482, v1486, v1490, gb1493, m1_, m3_, m4_, m5_, m6_, m8_, ha, Q_BK1476, Q_BK1477, Q_HB, Q_HO1483, Q_HO1487, Q_HO1491, Q_BK1493, Q_GW1493, Q_GE1493, Q_NB1476_1493, Q_NB1493_1476, Q_NB1477_1493, Q_NB1493_1477, Q_BK1493_e9, Q_X1_, Q_X3_, Q_X4_, Q_X5_, Q_X6_, Q_X8_⟩ hb_ hon hoff
                 refine ⟨_, rfl, fun K hK => ?_⟩
                 have e32 : a.tmps[32]? = some (m4_) := by rw [ha]; exact putSel_on (e := (4, 32, m4_)) 4 rfl rfl (hon 4 (by kernel_rfl)) rfl
                 rw [Q_X4_ (hon 4 (by kernel_rfl))] at e32
                 replace ha := Aside0.mk ha
                 have BK1476 := Aside0.mk Q_BK1476
                 have BK1477 := Aside0.mk Q_BK1477
                 have HB := Aside0.mk Q_HB
                 have HO1483 := Sq.m (Q_HO1483 (hon 1 (by kernel_rfl)))
                 have HO1487 := Sq.m (Q_HO1487 (hon 3 (by kernel_rfl)))
                 have HO1491 := Sq.m (Q_HO1491 (hon 4 (by kernel_rfl)))
                 refine value_ (w1 := w') (v := .tuple #[.agg #[.bool t1488, v1490], .bool t1492]) (by rfl) rfl ?_ ?_
                 ·go_simp
                  (try simp only [i64_w])
                  try rfl
                 refine hK.out _ _ ⟨v1482, v1486, v1490, gb1493, m1_, m3_, m4_, (.tuple #[.agg #[.bool t1488, v1490], .bool t1492]), m6_, m8_, (by rw [ha.out]; exact putSel_upk 5 hb_ rfl rfl rfl), Q_BK1476, Q_BK1477, Q_HB, Q_HO1483, Q_HO1487, Q_HO1491, Q_BK1493, Q_GW1493, Q_GE1493, Q_NB1476_1493, Q_NB1493_1476, Q_NB1477_1493, Q_NB1493_1477, fun h0_ => absurd ((hoff 9 (by kernel_rfl)).symm.trans h0_) (by decide), Q_X1_, Q_X3_, Q_X4_, fun _ => rfl, fun h0_ => absurd ((hoff 6 (by kernel_rfl)).symm.trans h0_) (by decide), Q_X8_⟩
                refine steps_cons ?_ ?_
                ·rintro b a w' ⟨v1482, v1486, v1490, gb1493, m1_, m3_, m4_, m5_, m6_, m8_, ha, Q_BK1476, Q_BK1477, Q_HB, Q_HO1483, Q_HO1487, Q_HO1491, Q_BK1493, Q_GW1493, Q_GE1493, Q_NB1476_1493, Q_NB1493_1476, Q_NB1477_1493, Q_NB1493_1477, Q_BK1493_e9, Q_X1_, Q_X3_, Q_X4_, Q_X5_, Q_X6_, Q_X8_⟩ hb_ hon hoff
                 refine ⟨_, rfl, fun K hK => ?_⟩
                 have e27 : a.tmps[27]? = some (m5_) := by rw [ha]; exact putSel_on (e := (5, 27, m5_)) 5 rfl rfl (hon 5 (by kernel_rfl)) rfl
                 rw [Q_X5_ (hon 5 (by kernel_rfl))] at e27
                 replace ha := Aside0.mk ha
                 have BK1476 := Aside0.mk Q_BK1476
                 have BK1477 := Aside0.mk Q_BK1477
                 have HB := Aside0.mk Q_HB
                 have HO1483 := Sq.m (Q_HO1483 (hon 1 (by kernel_rfl)))
                 have HO1487 := Sq.m (Q_HO1487 (hon 3 (by kernel_rfl)))
                 have HO1491 := Sq.m (Q_HO1491 (hon 4 (by kernel_rfl)))
                 refine value_ (w1 := w') (v := .agg #[.bool t1488, v1490]) (by rfl) rfl ?_ ?_
                 ·go_simp
                  (try simp only [i64_w])
                  try rfl
                 refine hK.out _ _ ⟨v1482, v1486, v1490, gb1493, m1_, m3_, m4_, m5_, (.agg #[.bool t1488, v1490]), m8_, (by rw [ha.out]; exact putSel_upk 6 hb_ rfl rfl rfl), Q_BK1476, Q_BK1477, Q_HB, Q_HO1483, Q_HO1487, Q_HO1491, Q_BK1493, Q_GW1493, Q_GE1493, Q_NB1476_1493, Q_NB1493_1476, Q_NB1477_1493, Q_NB1493_1477, fun h0_ => absurd ((hoff 9 (by kernel_rfl)).symm.trans h0_) (by decide), Q_X1_, Q_X3_, Q_X4_, Q_X5_, fun _ => rfl, Q_X8_⟩
                refine steps_cons ?_ ?_
                ·rintro b a w' ⟨v1482, v1486, v1490, gb1493, m1_, m3_, m4_, m5_, m6_, m8_, ha, Q_BK1476, Q_BK1477, Q_HB, Q_HO1483, Q_HO1487, Q_HO1491, Q_BK1493, Q_GW1493, Q_GE1493, Q_NB1476_1493, Q_NB1493_1476, Q_NB1477_1493, Q_NB1493_1477, Q_BK1493_e9, Q_X1_, Q_X3_, Q_X4_, Q_X5_, Q_X6_, Q_X8_⟩ hb_ hon hoff
                 refine ⟨_, rfl, fun K hK => ?_⟩
                 have e27 : a.tmps[27]? = some (m5_) := by rw [ha]; exact putSel_on (e := (5, 27, m5_)) 5 rfl rfl (hon 5 (by kernel_rfl)) rfl
                 rw [Q_X5_ (hon 5 (by kernel_rfl))] at e27
                 replace ha := Aside0.mk ha
                 have BK1476 := Aside0.mk Q_BK1476
                 have BK1477 := Aside0.mk Q_BK1477
                 have HB := Aside0.mk Q_HB
                 have HO1483 := Sq.m (Q_HO1483 (hon 1 (by kernel_rfl)))
                 have HO1487 := Sq.m (Q_HO1487 (hon 3 (by kernel_rfl)))
                 have HO1491 := Sq.m (Q_HO1491 (hon 4 (by kernel_rfl)))
                 refine value_ (w1 := w') (v := .bool t1492) (by rfl) rfl ?_ ?_
                 ·go_simp
                  (try simp only [i64_w])
                  try rfl
                 refine hK.out _ _ ⟨v1482, v1486, v1490, gb1493, m1_, m3_, m4_, m5_, m6_, m8_, (by rw [ha.out]; exact putSel_upk 7 hb_ rfl rfl rfl), Q_BK1476, Q_BK1477, Q_HB, Q_HO1483, Q_HO1487, Q_HO1491, Q_BK1493, Q_GW1493, Q_GE1493, Q_NB1476_1493, Q_NB1493_1476, Q_NB1477_1493, Q_NB1493_1477, Q_BK1493_e9, Q_X1_, Q_X3_, Q_X4_, Q_X5_, Q_X6_, Q_X8_⟩
                refine steps_cons ?_ ?_
                ·rintro b a w' ⟨v1482, v1486, v1490, gb1493, m1_, m3_, m4_, m5_, m6_, m8_, ha, Q_BK1476, Q_BK1477, Q_HB, Q_HO1483, Q_HO1487, Q_HO1491, Q_BK1493, Q_GW1493, Q_GE1493, Q_NB1476_1493, Q_NB1493_1476, Q_NB1477_1493, Q_NB1493_1477, Q_BK1493_e9, Q_X1_, Q_X3_, Q_X4_, Q_X5_, Q_X6_, Q_X8_⟩ hb_ hon hoff
                 refine ⟨_, rfl, fun K hK => ?_⟩
                 replace ha := Aside0.mk ha
                 have BK1476 := Aside0.mk Q_BK1476
                 have BK1477 := Aside0.mk Q_BK1477
                 have HB := Aside0.mk Q_HB
                 refine box_step ?hg (N := 6) ?hd (cs := #[.bool false, .slice none 0 0]) (t := 59) ?hr ?_; (case hd => rfl); (case hg => rfl); (case hr => first | (go_simp; done) | (go_simp; rfl))
                 intro gb1493 hg w60 hbox hb
                 have n0_ := Sq.m (blk_below (g := gb1476) (o := .cells #[.bool a0_0, .slice A0_1 l0_1.length c0_1] 56 (0, 0)) (by apply Sq.rb; exact BK1476.out) hb)
                 have n1_ := Sq.m (blk_below (g := gb1477) (o := .cells #[.bool a1_0, .slice A1_1 l1_1.length c1_1] 56 (0, 0)) (by apply Sq.rb; exact BK1477.out) hb)
                 have n2_ := Sq.m (below_step (by repeat (first | (with_reducible first | exact HB.out | apply Sq.rc | refine below_set ?_ GE1476.out | refine below_set ?_ GE1477.out) | exact HB.out)) hb)
                 have n3_ := Sq.m (hbox)
                 have n4_ := Sq.m ((by rw [hg]; exact (below_size (by repeat (first | (with_reducible first | exact HB.out | apply Sq.rc | refine below_set ?_ GE1476.out | refine below_set ?_ GE1477.out) | exact HB.out))) : w.heap.size ≤ gb1493))
                 have n5_ := Sq.m ((by rw [hg]; exact (below_size (by repeat (first | (with_reducible first | exact HB.out | apply Sq.rc | refine below_set ?_ GE1476.out | refine below_set ?_ GE1477.out) | exact HB.out))) : w.heap.size ≤ gb1493))
                 have n6_ := Sq.m ((by rw [hg]; exact Nat.ne_of_lt (blk_lt (g := gb1476) (o := .cells #[.bool a0_0, .slice A0_1 l0_1.length c0_1] 56 (0, 0)) (by apply Sq.rb; exact BK1476.out)) : gb1476 ≠ gb1493))
                 have n7_ := Sq.m ((by rw [hg]; exact Nat.ne_of_gt (blk_lt (g := gb1476) (o := .cells #[.bool a0_0, .slice A0_1 l0_1.length c0_1] 56 (0, 0)) (by apply Sq.rb; exact BK1476.out)) : gb1493 ≠ gb1476))
                 have n8_ := Sq.m ((by rw [hg]; exact Nat.ne_of_lt (blk_lt (g := gb1477) (o := .cells #[.bool a1_0, .slice A1_1 l1_1.length c1_1] 56 (0, 0)) (by apply Sq.rb; exact BK1477.out)) : gb1477 ≠ gb1493))
                 have n9_ := Sq.m ((by rw [hg]; exact Nat.ne_of_gt (blk_lt (g := gb1477) (o := .cells #[.bool a1_0, .slice A1_1 l1_1.length c1_1] 56 (0, 0)) (by apply Sq.rb; exact BK1477.out)) : gb1493 ≠ gb1477))
                 have z_HO1483 := fun (h0_ : b 1 = true) => (show Kd.R (Kd.int .i64) 3 w60 w.heap.size (fun _ => True) v1482 t1481 from by first | exact (Kd.R_below (by apply Sq.ra; exact (Q_HO1483 h0_)) hb) | exact Kd.R_mono (Kd.R_below (by apply Sq.ra; exact (Q_HO1483 h0_)) hb) (fun _ h_ => by first | trivial | exact h_ | exact h_.1))
                 have z_HO1487 := fun (h0_ : b 3 = true) => (show Kd.R (Kd.int .i64) 3 w60 w.heap.size (fun _ => True) v1486 t1485 from by first | exact (Kd.R_below (by apply Sq.ra; exact (Q_HO1487 h0_)) hb) | exact Kd.R_mono (Kd.R_below (by apply Sq.ra; exact (Q_HO1487 h0_)) hb) (fun _ h_ => by first | trivial | exact h_ | exact h_.1))
                 have z_HO1491 := fun (h0_ : b 4 = true) => (show Kd.R (Kd.int .i64) 3 w60 w.heap.size (fun _ => True) v1490 t1489 from by first | exact (Kd.R_below (by apply Sq.ra; exact (Q_HO1491 h0_)) hb) | exact Kd.R_mono (Kd.R_below (by apply Sq.ra; exact (Q_HO1491 h0_)) hb) (fun _ h_ => by first | trivial | exact h_ | exact h_.1))
                 clear BK1476
                 clear BK1477
                 clear HB
                 have BK1476 := n0_
                 have BK1477 := n1_
                 have HB := n2_
                 have BK1493 := n3_
                 have GW1493 := n4_
                 have GE1493 := n5_
                 have NB1476_1493 := n6_
                 have NB1493_1476 := n7_
                 have NB1477_1493 := n8_
                 have NB1493_1477 := n9_
                 clear n0_ n1_ n2_ n3_ n4_ n5_ n6_ n7_ n8_ n9_
                 clear hb hbox hg
                 refine hK.out _ _ ⟨v1482, v1486, v1490, gb1493, m1_, m3_, m4_, m5_, m6_, (.pointer (some ⟨gb1493, 0, none⟩)), (by rw [ha.out]; exact putSel_upk 8 hb_ rfl rfl rfl), (by apply Sq.rb; exact BK1476.out), (by apply Sq.rb; exact BK1477.out), (by repeat (first | (with_reducible first | exact HB.out | apply Sq.rc | refine below_set ?_ GE1476.out | refine below_set ?_ GE1477.out | refine below_set ?_ GE1493.out) | exact HB.out)), z_HO1483, z_HO1487, z_HO1491, fun _ _ => (by apply Sq.rb; exact BK1493.out), fun _ => GW1493.out, fun _ => GE1493.out, fun _ => NB1476_1493.out, fun _ => NB1493_1476.out, fun _ => NB1477_1493.out, fun _ => NB1493_1477.out, fun h0_ => absurd ((hoff 9 (by kernel_rfl)).symm.trans h0_) (by decide), Q_X1_, Q_X3_, Q_X4_, Q_X5_, Q_X6_, fun _ => rfl⟩
                refine steps_cons ?_ ?_
                ·rintro b a w' ⟨v1482, v1486, v1490, gb1493, m1_, m3_, m4_, m5_, m6_, m8_, ha, Q_BK1476, Q_BK1477, Q_HB, Q_HO1483, Q_HO1487, Q_HO1491, Q_BK1493, Q_GW1493, Q_GE1493, Q_NB1476_1493, Q_NB1493_1476, Q_NB1477_1493, Q_NB1493_1477, Q_BK1493_e9, Q_X1_, Q_X3_, Q_X4_, Q_X5_, Q_X6_, Q_X8_⟩ hb_ hon hoff
                 refine ⟨_, rfl, fun K hK => ?_⟩
                 have e6 : a.tmps[6]? = some (m8_) := by rw [ha]; exact putSel_on (e := (8, 6, m8_)) 8 rfl rfl (hon 8 (by kernel_rfl)) rfl
                 rw [Q_X8_ (hon 8 (by kernel_rfl))] at e6
                 have e33 : a.tmps[33]? = some (m6_) := by rw [ha]; exact putSel_on (e := (6, 33, m6_)) 6 rfl rfl (hon 6 (by kernel_rfl)) rfl
                 rw [Q_X6_ (hon 6 (by kernel_rfl))] at e33
                 replace ha := Aside0.mk ha
                 have BK1476 := Aside0.mk Q_BK1476
                 have BK1477 := Aside0.mk Q_BK1477
                 have HB := Aside0.mk Q_HB
                 have HO1483 := Sq.m (Q_HO1483 (hon 1 (by kernel_rfl)))
                 have HO1487 := Sq.m (Q_HO1487 (hon 3 (by kernel_rfl)))
                 have HO1491 := Sq.m (Q_HO1491 (hon 4 (by kernel_rfl)))
                 have BK1493 := Sq.m (Q_BK1493 (hon 8 (by kernel_rfl)) hb_)
                 have GW1493 := Sq.m (Q_GW1493 (hon 8 (by kernel_rfl)))
                 have GE1493 := Sq.m (Q_GE1493 (hon 8 (by kernel_rfl)))
                 have NB1476_1493 := Sq.m (Q_NB1476_1493 (hon 8 (by kernel_rfl)))
                 have NB1493_1476 := Sq.m (Q_NB1493_1476 (hon 8 (by kernel_rfl)))
                 have NB1477_1493 := Sq.m (Q_NB1477_1493 (hon 8 (by kernel_rfl)))
                 have NB1493_1477 := Sq.m (Q_NB1493_1477 (hon 8 (by kernel_rfl)))
                 obtain ⟨Ao68, co68, eo68⟩ := Kd.R_slice HO1491.out
                 (first | subst eo68 | (injection eo68 with f1_ f2_ f3_; have f4_ := f1_.symm; have f5_ := f3_.symm; clear f1_ f2_ f3_; subst f4_; subst f5_))
                 have hs67 : w'.cell? ⟨gb1493, 0, none⟩ = some (.bool false) := (blk_cell BK1493.out 0).trans rfl
                 have hfs67 := blk_frozen BK1493.out 0
                 have hns67_0 := NB1476_1493.out
                 have hns67_1 := NB1477_1493.out
                 have hms67_0 := NB1493_1476.out
                 have hms67_1 := NB1493_1477.out
                 have hs69 : w'.cell? ⟨gb1493, 1, none⟩ = some (.slice none 0 0) := (blk_cell BK1493.out 1).trans rfl
                 have hfs69 := blk_frozen BK1493.out 1
                 have hns69_0 := NB1476_1493.out
                 have hns69_1 := NB1477_1493.out
                 have hms69_0 := NB1493_1476.out
                 have hms69_1 := NB1493_1477.out
                 refine skip_ (w1 := ?_) (by rfl) rfl ?_ ?_
                 rotate_left
                 ·go_simp
                  rfl
                 refine hK.out _ _ ⟨v1482, v1486, .slice Ao68 t1489.length co68, gb1493, m1_, m3_, m4_, m5_, m6_, m8_, (by rw [ha.out]; exact putSel_none (v := undef) rfl), (by apply Sq.rb; refine blk_far ?_ NB1476_1493.out _; apply Sq.rb; refine blk_far ?_ NB1476_1493.out _; apply Sq.rb; exact BK1476.out), (by apply Sq.rb; refine blk_far ?_ NB1477_1493.out _; apply Sq.rb; refine blk_far ?_ NB1477_1493.out _; apply Sq.rb; exact BK1477.out), (by repeat (first | (with_reducible first | exact HB.out | apply Sq.rc | refine below_set ?_ GE1476.out | refine below_set ?_ GE1477.out | refine below_set ?_ GE1493.out) | exact HB.out)), fun _ => (by apply Sq.ra; exact Kd.R_mono (Kd.R_far (p := ⟨gb1493, 1, none⟩) (Kd.R_far (p := ⟨gb1493, 0, none⟩) (Kd.R_types HO1483.out BK1493.out (by decide)) (fun _ hk => hk.2) (.bool t1488)) (fun _ hk => hk.2) (.slice Ao68 t1489.length co68)) (fun _ hk => trivial)), fun _ => (by apply Sq.ra; exact Kd.R_mono (Kd.R_far (p := ⟨gb1493, 1, none⟩) (Kd.R_far (p := ⟨gb1493, 0, none⟩) (Kd.R_types HO1487.out BK1493.out (by decide)) (fun _ hk => hk.2) (.bool t1488)) (fun _ hk => hk.2) (.slice Ao68 t1489.length co68)) (fun _ hk => trivial)), fun _ => (by apply Sq.ra; exact Kd.R_mono (Kd.R_far (p := ⟨gb1493, 1, none⟩) (Kd.R_far (p := ⟨gb1493, 0, none⟩) (Kd.R_types HO1491.out BK1493.out (by decide)) (fun _ hk => hk.2) (.bool t1488)) (fun _ hk => hk.2) (.slice Ao68 t1489.length co68)) (fun _ hk => trivial)), fun _ h1_ => absurd ((up_self b 9).symm.trans h1_) (by decide), fun _ => GW1493.out, fun _ => GE1493.out, fun _ => NB1476_1493.out, fun _ => NB1493_1476.out, fun _ => NB1477_1493.out, fun _ => NB1493_1477.out, fun _ => (by apply Sq.rb; refine blk_put (cs := #[.bool t1488, .slice none 0 0]) ?_ 1 _ rfl; apply Sq.rb; refine blk_put (cs := #[.bool false, .slice none 0 0]) ?_ 0 _ rfl; apply Sq.rb; exact BK1493.out), Q_X1_, Q_X3_, Q_X4_, Q_X5_, Q_X6_, Q_X8_⟩
                refine steps_cons ?_ ?_
                ·rintro b a w' ⟨v1482, v1486, v1490, gb1493, m1_, m3_, m4_, m5_, m6_, m8_, ha, Q_BK1476, Q_BK1477, Q_HB, Q_HO1483, Q_HO1487, Q_HO1491, Q_BK1493, Q_GW1493, Q_GE1493, Q_NB1476_1493, Q_NB1493_1476, Q_NB1477_1493, Q_NB1493_1477, Q_BK1493_e9, Q_X1_, Q_X3_, Q_X4_, Q_X5_, Q_X6_, Q_X8_⟩ hb_ hon hoff
                 refine ⟨_, rfl, fun K hK => ?_⟩
                 have e34 : a.tmps[34]? = some (.bool t1492) := by rw [ha]; exact putSel_on (e := (7, 34, .bool t1492)) 7 rfl rfl (hon 7 (by kernel_rfl)) rfl
                 replace ha := Aside0.mk ha
                 have BK1476 := Aside0.mk Q_BK1476
                 have BK1477 := Aside0.mk Q_BK1477
                 have HB := Aside0.mk Q_HB
                 have HO1483 := Sq.m (Q_HO1483 (hon 1 (by kernel_rfl)))
                 have HO1487 := Sq.m (Q_HO1487 (hon 3 (by kernel_rfl)))
                 have HO1491 := Sq.m (Q_HO1491 (hon 4 (by kernel_rfl)))
                 have GW1493 := Sq.m (Q_GW1493 (hon 8 (by kernel_rfl)))
                 have GE1493 := Sq.m (Q_GE1493 (hon 8 (by kernel_rfl)))
                 have NB1476_1493 := Sq.m (Q_NB1476_1493 (hon 8 (by kernel_rfl)))
                 have NB1493_1476 := Sq.m (Q_NB1493_1476 (hon 8 (by kernel_rfl)))
                 have NB1477_1493 := Sq.m (Q_NB1477_1493 (hon 8 (by kernel_rfl)))
                 have NB1493_1477 := Sq.m (Q_NB1493_1477 (hon 8 (by kernel_rfl)))
                 have BK1493 := Sq.m (Q_BK1493_e9 (hon 9 (by kernel_rfl)))
                 refine value_ (w1 := w') (v := .bool t1492) (by rfl) rfl ?_ ?_
                 ·go_simp
                  (try simp only [i64_w])
                  try rfl
                 refine hK.out _ _ ⟨v1482, v1486, v1490, gb1493, m1_, m3_, m4_, m5_, m6_, m8_, (by rw [ha.out]; exact putSel_upk 9 hb_ rfl rfl rfl), Q_BK1476, Q_BK1477, Q_HB, Q_HO1483, Q_HO1487, Q_HO1491, fun _ h1_ => absurd ((hon 9 (by kernel_rfl)).symm.trans h1_) (by decide), Q_GW1493, Q_GE1493, Q_NB1476_1493, Q_NB1493_1476, Q_NB1477_1493, Q_NB1493_1477, Q_BK1493_e9, Q_X1_, Q_X3_, Q_X4_, Q_X5_, Q_X6_, Q_X8_⟩
                exact steps_nil
               rintro b a w69 hall ⟨v1482, v1486, v1490, gb1493, m1_, m3_, m4_, m5_, m6_, m8_, ha, Q_BK1476, Q_BK1477, Q_HB, Q_HO1483, Q_HO1487, Q_HO1491, Q_BK1493, Q_GW1493, Q_GE1493, Q_NB1476_1493, Q_NB1493_1476, Q_NB1477_1493, Q_NB1493_1477, Q_BK1493_e9, Q_X1_, Q_X3_, Q_X4_, Q_X5_, Q_X6_, Q_X8_⟩
               clear BK1476 BK1477 HB
               have hb0_ := hall 0 (by kernel_rfl)
               have hb1_ := hall 1 (by kernel_rfl)
               have hb2_ := hall 2 (by kernel_rfl)
               have hb3_ := hall 3 (by kernel_rfl)
               have hb4_ := hall 4 (by kernel_rfl)
               have hb5_ := hall 5 (by kernel_rfl)
               have hb6_ := hall 6 (by kernel_rfl)
               have hb7_ := hall 7 (by kernel_rfl)
               have hb8_ := hall 8 (by kernel_rfl)
               have hb9_ := hall 9 (by kernel_rfl)
               have hb10_ := hall 10 (by kernel_rfl)
               subst ha
               obtain rfl := Q_X1_ hb1_
               obtain rfl := Q_X3_ hb3_
               obtain rfl := Q_X4_ hb4_
               obtain rfl := Q_X5_ hb5_
               obtain rfl := Q_X6_ hb6_
               obtain rfl := Q_X8_ hb8_
               simp only [putSel, hb0_, hb1_, hb2_, hb3_, hb4_, hb5_, hb6_, hb7_, hb8_, hb9_, hb10_, if_true, Act.put, List.setIfInBounds_toArray, List.set_cons_zero, List.set_cons_succ]
               have BK1476 := Aside0.mk Q_BK1476
               clear Q_BK1476
               have BK1477 := Aside0.mk Q_BK1477
               clear Q_BK1477
               have HB := Aside0.mk Q_HB
               clear Q_HB
               have HO1483 := Sq.m (Q_HO1483 hb1_)
               clear Q_HO1483
               have HO1487 := Sq.m (Q_HO1487 hb3_)
               clear Q_HO1487
               have HO1491 := Sq.m (Q_HO1491 hb4_)
               clear Q_HO1491
               clear Q_BK1493
               have GW1493 := Sq.m (Q_GW1493 hb8_)
               clear Q_GW1493
               have GE1493 := Sq.m (Q_GE1493 hb8_)
               clear Q_GE1493
               have NB1476_1493 := Sq.m (Q_NB1476_1493 hb8_)
               clear Q_NB1476_1493
               have NB1493_1476 := Sq.m (Q_NB1493_1476 hb8_)
               clear Q_NB1493_1476
               have NB1477_1493 := Sq.m (Q_NB1477_1493 hb8_)
               clear Q_NB1477_1493
               have NB1493_1477 := Sq.m (Q_NB1493_1477 hb8_)
               clear Q_NB1493_1477
               have BK1493 := Sq.m (Q_BK1493_e9 hb9_)
               clear Q_BK1493_e9
               clear hall hb0_ hb1_ hb2_ hb3_ hb4_ hb5_ hb6_ hb7_ hb8_ hb9_ hb10_
               have hnb70 := NB1476_1493.out
               have hnc70 := NB1493_1476.out
               have hcz71_0 : w69.cell? ⟨gb1476, 0, none⟩ = some (.bool a0_0) := (blk_cell BK1476.out 0).trans rfl
               have hcz71_1 : w69.cell? ⟨gb1476, 1, none⟩ = some (.slice A0_1 l0_1.length c0_1) := (blk_cell BK1476.out 1).trans rfl
               have hfz71_0 := blk_frozen BK1476.out 0
               have hfz71_1 := blk_frozen BK1476.out 1
               try go_wp2_with (first | ((with_reducible refine gate_callee (f := 52) rfl ?_); refine goesL_ (some 36) rfl rfl Try.func52 (by kernel_rfl) rfl #[.agg #[.bool a0_0, .slice A0_1 l0_1.length c0_1]] rfl (by (try simp only [List.map_toArray, List.map_cons, List.map_nil]); first | done | rfl | (simp only [List.length_drop, List.length_take]; rfl) | (simp only [i64_w, u8_w, w64_b]; rfl)) ?_; (with_reducible refine (laws_toWhole.calls k a0_0 _ _ l0_1 t1494 t1495 _ ?side1 ?side2 A22.out).mono ?_); (case side1 => repeat (first | exact (Kd.C_below HR0_1.out HB.out) | (with_reducible refine Kd.C_alloc ?_ _) | (with_reducible refine Kd.C_drewN ?_ _) | (with_reducible refine Kd.C_drew ?_))); (case side2 => exact HC0_1.out); rintro e w72 ⟨v1496, rfl, ho0, hb⟩; refine ⟨_, rfl, ?_⟩; have n0_ := Sq.m (Kd.R_elder' (by apply Sq.ra; exact HO1483.out) (Kd.R_base ho0) hb); have n1_ := Sq.m (Kd.R_elder' (by apply Sq.ra; exact HO1487.out) (Kd.R_base ho0) hb); have n2_ := Sq.m (Kd.R_elder' (by apply Sq.ra; exact HO1491.out) (Kd.R_base ho0) hb); have n3_ := Sq.m (Kd.R_lower (Kd.R_new' (Kd.R_new' (Kd.R_new' ho0 (Kd.R_lt (by apply Sq.ra; exact HO1483.out))) (Kd.R_lt (by apply Sq.ra; exact HO1487.out))) (Kd.R_lt (by apply Sq.ra; exact HO1491.out))) (below_size (by repeat (first | (with_reducible first | exact HB.out | apply Sq.rc | refine below_set ?_ GE1476.out | refine below_set ?_ GE1477.out | refine below_set ?_ GE1493.out) | exact HB.out)))); have n4_ := Sq.m (blk_below (g := gb1476) (o := .cells #[.bool a0_0, .slice A0_1 l0_1.length c0_1] 56 (0, 0)) (by apply Sq.rb; exact BK1476.out) hb); have n5_ := Sq.m (blk_below (g := gb1477) (o := .cells #[.bool a1_0, .slice A1_1 l1_1.length c1_1] 56 (0, 0)) (by apply Sq.rb; exact BK1477.out) hb); have n6_ := Sq.m (blk_below (g := gb1493) (o := .cells #[.bool t1488, v1490] 59 (0, 0)) (by apply Sq.rb; exact BK1493.out) hb); have n7_ := Sq.m (below_step (by repeat (first | (with_reducible first | exact HB.out | apply Sq.rc | refine below_set ?_ GE1476.out | refine below_set ?_ GE1477.out | refine below_set ?_ GE1493.out) | exact HB.out)) hb); clear HO1483; clear HO1487; clear HO1491; clear BK1476; clear BK1477; clear BK1493; clear HB; have HO1483 := n0_; have HO1487 := n1_; have HO1491 := n2_; have HO1497 := n3_; have BK1476 := n4_; have BK1477 := n5_; have BK1493 := n6_; have HB := n7_; clear n0_ n1_ n2_ n3_ n4_ n5_ n6_ n7_; (try clear hb); (try clear hb2); (try clear hk); (try clear hi); (try clear ho0)) | ((with_reducible refine gate_dst (N := 8) rfl ?_); refine box_event ?hg (N := 8) ?hd (cs := #[.bool false, .slice none 0 0]) (t := 59) ?hr ?_; (case hd => rfl); (case hg => rfl); (case hr => first | (go_simp; done) | (go_simp; rfl)); intro gb1498 hg w73 hbox hb; have n0_ := Sq.m (Kd.R_below (by apply Sq.ra; exact HO1483.out) hb); have n1_ := Sq.m (Kd.R_below (by apply Sq.ra; exact HO1487.out) hb); have n2_ := Sq.m (Kd.R_below (by apply Sq.ra; exact HO1491.out) hb); have n3_ := Sq.m (Kd.R_below (by apply Sq.ra; exact HO1497.out) hb); have n4_ := Sq.m (blk_below (g := gb1476) (o := .cells #[.bool a0_0, .slice A0_1 l0_1.length c0_1] 56 (0, 0)) (by apply Sq.rb; exact BK1476.out) hb); have n5_ := Sq.m (blk_below (g := gb1477) (o := .cells #[.bool a1_0, .slice A1_1 l1_1.length c1_1] 56 (0, 0)) (by apply Sq.rb; exact BK1477.out) hb); have n6_ := Sq.m (blk_below (g := gb1493) (o := .cells #[.bool t1488, v1490] 59 (0, 0)) (by apply Sq.rb; exact BK1493.out) hb); have n7_ := Sq.m (below_step (by repeat (first | (with_reducible first | exact HB.out | apply Sq.rc | refine below_set ?_ GE1476.out | refine below_set ?_ GE1477.out | refine below_set ?_ GE1493.out) | exact HB.out)) hb); have n8_ := Sq.m (hbox); have n9_ := Sq.m ((by rw [hg]; exact (below_size (by repeat (first | (with_reducible first | exact HB.out | apply Sq.rc | refine below_set ?_ GE1476.out | refine below_set ?_ GE1477.out | refine below_set ?_ GE1493.out) | exact HB.out))) : w.heap.size ≤ gb1498)); have n10_ := Sq.m ((by rw [hg]; exact (below_size (by repeat (first | (with_reducible first | exact HB.out | apply Sq.rc | refine below_set ?_ GE1476.out | refine below_set ?_ GE1477.out | refine below_set ?_ GE1493.out) | exact HB.out))) : w.heap.size ≤ gb1498)); have n11_ := Sq.m ((by rw [hg]; exact Nat.ne_of_lt (blk_lt (g := gb1476) (o := .cells #[.bool a0_0, .slice A0_1 l0_1.length c0_1] 56 (0, 0)) (by apply Sq.rb; exact BK1476.out)) : gb1476 ≠ gb1498)); have n12_ := Sq.m ((by rw [hg]; exact Nat.ne_of_gt (blk_lt (g := gb1476) (o := .cells #[.bool a0_0, .slice A0_1 l0_1.length c0_1] 56 (0, 0)) (by apply Sq.rb; exact BK1476.out)) : gb1498 ≠ gb1476)); have n13_ := Sq.m ((by rw [hg]; exact Nat.ne_of_lt (blk_lt (g := gb1477) (o := .cells #[.bool a1_0, .slice A1_1 l1_1.length c1_1] 56 (0, 0)) (by apply Sq.rb; exact BK1477.out)) : gb1477 ≠ gb1498)); have n14_ := Sq.m ((by rw [hg]; exact Nat.ne_of_gt (blk_lt (g := gb1477) (o := .cells #[.bool a1_0, .slice A1_1 l1_1.length c1_1] 56 (0, 0)) (by apply Sq.rb; exact BK1477.out)) : gb1498 ≠ gb1477)); have n15_ := Sq.m ((by rw [hg]; exact Nat.ne_of_lt (blk_lt (g := gb1493) (o := .cells #[.bool t1488, v1490] 59 (0, 0)) (by apply Sq.rb; exact BK1493.out)) : gb1493 ≠ gb1498)); have n16_ := Sq.m ((by rw [hg]; exact Nat.ne_of_gt (blk_lt (g := gb1493) (o := .cells #[.bool t1488, v1490] 59 (0, 0)) (by apply Sq.rb; exact BK1493.out)) : gb1498 ≠ gb1493)); clear HO1483; clear HO1487; clear HO1491; clear HO1497; clear BK1476; clear BK1477; clear BK1493; clear HB; have HO1483 := n0_; have HO1487 := n1_; have HO1491 := n2_; have HO1497 := n3_; have BK1476 := n4_; have BK1477 := n5_; have BK1493 := n6_; have HB := n7_; have BK1498 := n8_; have GW1498 := n9_; have GE1498 := n10_; have NB1476_1498 := n11_; have NB1498_1476 := n12_; have NB1477_1498 := n13_; have NB1498_1477 := n14_; have NB1493_1498 := n15_; have NB1498_1493 := n16_; clear n0_ n1_ n2_ n3_ n4_ n5_ n6_ n7_ n8_ n9_ n10_ n11_ n12_ n13_ n14_ n15_ n16_; clear hb hbox hg; have hnb74 := NB1498_1476.out; have hnc74 := NB1476_1498.out; have hnb75 := NB1498_1477.out; have hnc75 := NB1477_1498.out; have hnb76 := NB1498_1493.out; have hnc76 := NB1493_1498.out; have hcz77_0 : w73.cell? ⟨gb1498, 0, none⟩ = some (.bool false) := (blk_cell BK1498.out 0).trans rfl; have hcz77_1 : w73.cell? ⟨gb1498, 1, none⟩ = some (.slice none 0 0) := (blk_cell BK1498.out 1).trans rfl; have hfz77_0 := blk_frozen BK1498.out 0; have hfz77_1 := blk_frozen BK1498.out 1; obtain ⟨Ao78, co78, eo78⟩ := Kd.R_slice HO1497.out; subst eo78; have hnb79 := NB1477_1493.out; have hnc79 := NB1493_1477.out; have hcz80_0 : w73.cell? ⟨gb1477, 0, none⟩ = some (.bool a1_0) := (blk_cell BK1477.out 0).trans rfl; have hcz80_1 : w73.cell? ⟨gb1477, 1, none⟩ = some (.slice A1_1 l1_1.length c1_1) := (blk_cell BK1477.out 1).trans rfl; have hfz80_0 := blk_frozen BK1477.out 0; have hfz80_1 := blk_frozen BK1477.out 1) | ((with_reducible refine gate_callee (f := 52) rfl ?_); refine goesL_ (some 38) rfl rfl Try.func52 (by kernel_rfl) rfl #[.agg #[.bool a1_0, .slice A1_1 l1_1.length c1_1]] rfl (by (try simp only [List.map_toArray, List.map_cons, List.map_nil]); first | done | rfl | (simp only [List.length_drop, List.length_take]; rfl) | (simp only [i64_w, u8_w, w64_b]; rfl)) ?_; (with_reducible refine (laws_toWhole.calls k a1_0 _ _ l1_1 t1499 t1500 _ ?side1 ?side2 A23.out).mono ?_); (case side1 => exact Kd.C_below HR1_1.out (by repeat (first | (with_reducible first | exact HB.out | apply Sq.rc | refine below_set ?_ GE1476.out | refine below_set ?_ GE1477.out | refine below_set ?_ GE1493.out | refine below_set ?_ GE1498.out) | exact HB.out))); (case side2 => exact HC1_1.out); rintro e w81 ⟨v1501, rfl, ho0, hb⟩; refine ⟨_, rfl, ?_⟩; have n0_ := Sq.m (Kd.R_elder' (by apply Sq.ra; exact (Kd.R_mono (Kd.R_far (p := ⟨gb1498, 1, none⟩) (Kd.R_far (p := ⟨gb1498, 0, none⟩) (Kd.R_types HO1483.out BK1498.out (by decide)) (fun _ hk => hk.2) (.bool t1494)) (fun _ hk => hk.2) (.slice Ao78 t1495.length co78)) (fun _ h_ => h_.1))) (Kd.R_base ho0) hb); have n1_ := Sq.m (Kd.R_elder' (by apply Sq.ra; exact (Kd.R_mono (Kd.R_far (p := ⟨gb1498, 1, none⟩) (Kd.R_far (p := ⟨gb1498, 0, none⟩) (Kd.R_types HO1487.out BK1498.out (by decide)) (fun _ hk => hk.2) (.bool t1494)) (fun _ hk => hk.2) (.slice Ao78 t1495.length co78)) (fun _ h_ => h_.1))) (Kd.R_base ho0) hb); have n2_ := Sq.m (Kd.R_elder' (by apply Sq.ra; exact (Kd.R_mono (Kd.R_far (p := ⟨gb1498, 1, none⟩) (Kd.R_far (p := ⟨gb1498, 0, none⟩) (Kd.R_types HO1491.out BK1498.out (by decide)) (fun _ hk => hk.2) (.bool t1494)) (fun _ hk => hk.2) (.slice Ao78 t1495.length co78)) (fun _ h_ => h_.1))) (Kd.R_base ho0) hb); have n3_ := Sq.m (Kd.R_elder' (by apply Sq.ra; exact (Kd.R_mono (Kd.R_far (p := ⟨gb1498, 1, none⟩) (Kd.R_far (p := ⟨gb1498, 0, none⟩) (Kd.R_types HO1497.out BK1498.out (by decide)) (fun _ hk => hk.2) (.bool t1494)) (fun _ hk => hk.2) (.slice Ao78 t1495.length co78)) (fun _ h_ => h_.1))) (Kd.R_base ho0) hb); have n4_ := Sq.m (Kd.R_lower (Kd.R_new' (Kd.R_new' (Kd.R_new' (Kd.R_new' ho0 (Kd.R_lt (by apply Sq.ra; exact (Kd.R_mono (Kd.R_far (p := ⟨gb1498, 1, none⟩) (Kd.R_far (p := ⟨gb1498, 0, none⟩) (Kd.R_types HO1483.out BK1498.out (by decide)) (fun _ hk => hk.2) (.bool t1494)) (fun _ hk => hk.2) (.slice Ao78 t1495.length co78)) (fun _ h_ => h_.1))))) (Kd.R_lt (by apply Sq.ra; exact (Kd.R_mono (Kd.R_far (p := ⟨gb1498, 1, none⟩) (Kd.R_far (p := ⟨gb1498, 0, none⟩) (Kd.R_types HO1487.out BK1498.out (by decide)) (fun _ hk => hk.2) (.bool t1494)) (fun _ hk => hk.2) (.slice Ao78 t1495.length co78)) (fun _ h_ => h_.1))))) (Kd.R_lt (by apply Sq.ra; exact (Kd.R_mono (Kd.R_far (p := ⟨gb1498, 1, none⟩) (Kd.R_far (p := ⟨gb1498, 0, none⟩) (Kd.R_types HO1491.out BK1498.out (by decide)) (fun _ hk => hk.2) (.bool t1494)) (fun _ hk => hk.2) (.slice Ao78 t1495.length co78)) (fun _ h_ => h_.1))))) (Kd.R_lt (by apply Sq.ra; exact (Kd.R_mono (Kd.R_far (p := ⟨gb1498, 1, none⟩) (Kd.R_far (p := ⟨gb1498, 0, none⟩) (Kd.R_types HO1497.out BK1498.out (by decide)) (fun _ hk => hk.2) (.bool t1494)) (fun _ hk => hk.2) (.slice Ao78 t1495.length co78)) (fun _ h_ => h_.1))))) (below_size (by repeat (first | (with_reducible first | exact HB.out | apply Sq.rc | refine below_set ?_ GE1476.out | refine below_set ?_ GE1477.out | refine below_set ?_ GE1493.out | refine below_set ?_ GE1498.out) | exact HB.out)))); have n5_ := Sq.m (blk_below (g := gb1476) (o := .cells #[.bool a0_0, .slice A0_1 l0_1.length c0_1] 56 (0, 0)) (by apply Sq.rb; refine blk_far ?_ NB1476_1498.out _; apply Sq.rb; refine blk_far ?_ NB1476_1498.out _; apply Sq.rb; exact BK1476.out) hb); have n6_ := Sq.m (blk_below (g := gb1477) (o := .cells #[.bool a1_0, .slice A1_1 l1_1.length c1_1] 56 (0, 0)) (by apply Sq.rb; refine blk_far ?_ NB1477_1498.out _; apply Sq.rb; refine blk_far ?_ NB1477_1498.out _; apply Sq.rb; exact BK1477.out) hb); have n7_ := Sq.m (blk_below (g := gb1493) (o := .cells #[.bool t1488, v1490] 59 (0, 0)) (by apply Sq.rb; refine blk_far ?_ NB1493_1498.out _; apply Sq.rb; refine blk_far ?_ NB1493_1498.out _; apply Sq.rb; exact BK1493.out) hb); have n8_ := Sq.m (blk_below (g := gb1498) (o := .cells #[.bool t1494, .slice Ao78 t1495.length co78] 59 (0, 0)) (by apply Sq.rb; refine blk_put (cs := #[.bool t1494, .slice none 0 0]) ?_ 1 _ rfl; apply Sq.rb; refine blk_put (cs := #[.bool false, .slice none 0 0]) ?_ 0 _ rfl; apply Sq.rb; exact BK1498.out) hb); have n9_ := Sq.m (below_step (by repeat (first | (with_reducible first | exact HB.out | apply Sq.rc | refine below_set ?_ GE1476.out | refine below_set ?_ GE1477.out | refine below_set ?_ GE1493.out | refine below_set ?_ GE1498.out) | exact HB.out)) hb); clear HO1483; clear HO1487; clear HO1491; clear HO1497; clear BK1476; clear BK1477; clear BK1493; clear BK1498; clear HB; have HO1483 := n0_; have HO1487 := n1_; have HO1491 := n2_; have HO1497 := n3_; have HO1502 := n4_; have BK1476 := n5_; have BK1477 := n6_; have BK1493 := n7_; have BK1498 := n8_; have HB := n9_; clear n0_ n1_ n2_ n3_ n4_ n5_ n6_ n7_ n8_ n9_; (try clear hb); (try clear hb2); (try clear hk); (try clear hi); (try clear ho0)) | ((with_reducible refine gate_dst (N := 9) rfl ?_); refine box_event ?hg (N := 9) ?hd (cs := #[.bool false, .slice none 0 0]) (t := 59) ?hr ?_; (case hd => rfl); (case hg => rfl); (case hr => first | (go_simp; done) | (go_simp; rfl)); intro gb1503 hg w82 hbox hb; have n0_ := Sq.m (Kd.R_below (by apply Sq.ra; exact HO1483.out) hb); have n1_ := Sq.m (Kd.R_below (by apply Sq.ra; exact HO1487.out) hb); have n2_ := Sq.m (Kd.R_below (by apply Sq.ra; exact HO1491.out) hb); have n3_ := Sq.m (Kd.R_below (by apply Sq.ra; exact HO1497.out) hb); have n4_ := Sq.m (Kd.R_below (by apply Sq.ra; exact HO1502.out) hb); have n5_ := Sq.m (blk_below (g := gb1476) (o := .cells #[.bool a0_0, .slice A0_1 l0_1.length c0_1] 56 (0, 0)) (by apply Sq.rb; exact BK1476.out) hb); have n6_ := Sq.m (blk_below (g := gb1477) (o := .cells #[.bool a1_0, .slice A1_1 l1_1.length c1_1] 56 (0, 0)) (by apply Sq.rb; exact BK1477.out) hb); have n7_ := Sq.m (blk_below (g := gb1493) (o := .cells #[.bool t1488, v1490] 59 (0, 0)) (by apply Sq.rb; exact BK1493.out) hb); have n8_ := Sq.m (blk_below (g := gb1498) (o := .cells #[.bool t1494, .slice Ao78 t1495.length co78] 59 (0, 0)) (by apply Sq.rb; exact BK1498.out) hb); have n9_ := Sq.m (below_step (by repeat (first | (with_reducible first | exact HB.out | apply Sq.rc | refine below_set ?_ GE1476.out | refine below_set ?_ GE1477.out | refine below_set ?_ GE1493.out | refine below_set ?_ GE1498.out) | exact HB.out)) hb); have n10_ := Sq.m (hbox); have n11_ := Sq.m ((by rw [hg]; exact (below_size (by repeat (first | (with_reducible first | exact HB.out | apply Sq.rc | refine below_set ?_ GE1476.out | refine below_set ?_ GE1477.out | refine below_set ?_ GE1493.out | refine below_set ?_ GE1498.out) | exact HB.out))) : w.heap.size ≤ gb1503)); have n12_ := Sq.m ((by rw [hg]; exact (below_size (by repeat (first | (with_reducible first | exact HB.out | apply Sq.rc | refine below_set ?_ GE1476.out | refine below_set ?_ GE1477.out | refine below_set ?_ GE1493.out | refine below_set ?_ GE1498.out) | exact HB.out))) : w.heap.size ≤ gb1503)); have n13_ := Sq.m ((by rw [hg]; exact Nat.ne_of_lt (blk_lt (g := gb1476) (o := .cells #[.bool a0_0, .slice A0_1 l0_1.length c0_1] 56 (0, 0)) (by apply Sq.rb; exact BK1476.out)) : gb1476 ≠ gb1503)); have n14_ := Sq.m ((by rw [hg]; exact Nat.ne_of_gt (blk_lt (g := gb1476) (o := .cells #[.bool a0_0, .slice A0_1 l0_1.length c0_1] 56 (0, 0)) (by apply Sq.rb; exact BK1476.out)) : gb1503 ≠ gb1476)); have n15_ := Sq.m ((by rw [hg]; exact Nat.ne_of_lt (blk_lt (g := gb1477) (o := .cells #[.bool a1_0, .slice A1_1 l1_1.length c1_1] 56 (0, 0)) (by apply Sq.rb; exact BK1477.out)) : gb1477 ≠ gb1503)); have n16_ := Sq.m ((by rw [hg]; exact Nat.ne_of_gt (blk_lt (g := gb1477) (o := .cells #[.bool a1_0, .slice A1_1 l1_1.length c1_1] 56 (0, 0)) (by apply Sq.rb; exact BK1477.out)) : gb1503 ≠ gb1477)); have n17_ := Sq.m ((by rw [hg]; exact Nat.ne_of_lt (blk_lt (g := gb1493) (o := .cells #[.bool t1488, v1490] 59 (0, 0)) (by apply Sq.rb; exact BK1493.out)) : gb1493 ≠ gb1503)); have n18_ := Sq.m ((by rw [hg]; exact Nat.ne_of_gt (blk_lt (g := gb1493) (o := .cells #[.bool t1488, v1490] 59 (0, 0)) (by apply Sq.rb; exact BK1493.out)) : gb1503 ≠ gb1493)); have n19_ := Sq.m ((by rw [hg]; exact Nat.ne_of_lt (blk_lt (g := gb1498) (o := .cells #[.bool t1494, .slice Ao78 t1495.length co78] 59 (0, 0)) (by apply Sq.rb; exact BK1498.out)) : gb1498 ≠ gb1503)); have n20_ := Sq.m ((by rw [hg]; exact Nat.ne_of_gt (blk_lt (g := gb1498) (o := .cells #[.bool t1494, .slice Ao78 t1495.length co78] 59 (0, 0)) (by apply Sq.rb; exact BK1498.out)) : gb1503 ≠ gb1498)); clear HO1483; clear HO1487; clear HO1491; clear HO1497; clear HO1502; clear BK1476; clear BK1477; clear BK1493; clear BK1498; clear HB; have HO1483 := n0_; have HO1487 := n1_; have HO1491 := n2_; have HO1497 := n3_; have HO1502 := n4_; have BK1476 := n5_; have BK1477 := n6_; have BK1493 := n7_; have BK1498 := n8_; have HB := n9_; have BK1503 := n10_; have GW1503 := n11_; have GE1503 := n12_; have NB1476_1503 := n13_; have NB1503_1476 := n14_; have NB1477_1503 := n15_; have NB1503_1477 := n16_; have NB1493_1503 := n17_; have NB1503_1493 := n18_; have NB1498_1503 := n19_; have NB1503_1498 := n20_; clear n0_ n1_ n2_ n3_ n4_ n5_ n6_ n7_ n8_ n9_ n10_ n11_ n12_ n13_ n14_ n15_ n16_ n17_ n18_ n19_ n20_; clear hb hbox hg; have hnb83 := NB1503_1476.out; have hnc83 := NB1476_1503.out; have hnb84 := NB1503_1477.out; have hnc84 := NB1477_1503.out; have hnb85 := NB1503_1493.out; have hnc85 := NB1493_1503.out; have hnb86 := NB1503_1498.out; have hnc86 := NB1498_1503.out; have hcz87_0 : w82.cell? ⟨gb1503, 0, none⟩ = some (.bool false) := (blk_cell BK1503.out 0).trans rfl; have hcz87_1 : w82.cell? ⟨gb1503, 1, none⟩ = some (.slice none 0 0) := (blk_cell BK1503.out 1).trans rfl; have hfz87_0 := blk_frozen BK1503.out 0; have hfz87_1 := blk_frozen BK1503.out 1; obtain ⟨Ao88, co88, eo88⟩ := Kd.R_slice HO1502.out; subst eo88; have hcz89_0 : w82.cell? ⟨gb1498, 0, none⟩ = some (.bool t1494) := (blk_cell BK1498.out 0).trans rfl; have hcz89_1 : w82.cell? ⟨gb1498, 1, none⟩ = some (.slice Ao78 t1495.length co78) := (blk_cell BK1498.out 1).trans rfl; have hfz89_0 := blk_frozen BK1498.out 0; have hfz89_1 := blk_frozen BK1498.out 1) | ((with_reducible refine gate_callee (f := 60) rfl ?_); refine goesL_ (some 42) rfl rfl Try.func60 (by kernel_rfl) rfl #[.agg #[.bool t1494, .slice Ao78 t1495.length co78], .agg #[.bool t1499, .slice Ao88 t1500.length co88]] rfl (by (try simp only [List.map_toArray, List.map_cons, List.map_nil]); first | done | rfl | (simp only [List.length_drop, List.length_take]; rfl) | (simp only [i64_w, u8_w, w64_b]; rfl)) ?_; (with_reducible refine (impl_WholeMul.calls k t1494 _ _ t1495 t1499 _ _ t1500 t1504 t1505 t1508 _ ?side1 ?side2 ?side3 ?side4 A24.out).mono ?_); (case side1 => refine (Kd.R_reads' (e := 3) (base := w.heap.size) (ok := fun k_ => ((((True ∧ some k_ ≠ (v1482 : Value).ownBlock) ∧ some k_ ≠ (v1486 : Value).ownBlock) ∧ some k_ ≠ (v1490 : Value).ownBlock) ∧ some k_ ≠ (.slice Ao88 t1500.length co88 : Value).ownBlock)) (n := t1495.length) (c := co78) ?_).2.2; exact (by apply Sq.ra; exact (Kd.R_mono (Kd.R_far (p := ⟨gb1503, 1, none⟩) (Kd.R_far (p := ⟨gb1503, 0, none⟩) (Kd.R_types HO1497.out BK1503.out (by decide)) (fun _ hk => hk.2) (.bool t1499)) (fun _ hk => hk.2) (.slice Ao88 t1500.length co88)) (fun _ h_ => h_.1)))); (case side2 => exact (Kd.R_reads' HO1497.out).2.1); (case side3 => refine (Kd.R_reads' (e := 3) (base := w.heap.size) (ok := fun k_ => ((((True ∧ some k_ ≠ (v1482 : Value).ownBlock) ∧ some k_ ≠ (v1486 : Value).ownBlock) ∧ some k_ ≠ (v1490 : Value).ownBlock) ∧ some k_ ≠ (.slice Ao78 t1495.length co78 : Value).ownBlock)) (n := t1500.length) (c := co88) ?_).2.2; exact (by apply Sq.ra; exact (Kd.R_mono (Kd.R_far (p := ⟨gb1503, 1, none⟩) (Kd.R_far (p := ⟨gb1503, 0, none⟩) (Kd.R_types HO1502.out BK1503.out (by decide)) (fun _ hk => hk.2) (.bool t1499)) (fun _ hk => hk.2) (.slice Ao88 t1500.length co88)) (fun _ h_ => h_.1)))); (case side4 => exact (Kd.R_reads' HO1502.out).2.1); rintro e w90 ⟨v1506, rfl, ho0, hb⟩; refine ⟨_, rfl, ?_⟩; have n0_ := Sq.m (Kd.R_elder' (by apply Sq.ra; exact (Kd.R_mono (Kd.R_far (p := ⟨gb1503, 1, none⟩) (Kd.R_far (p := ⟨gb1503, 0, none⟩) (Kd.R_types HO1483.out BK1503.out (by decide)) (fun _ hk => hk.2) (.bool t1499)) (fun _ hk => hk.2) (.slice Ao88 t1500.length co88)) (fun _ h_ => h_.1))) (Kd.R_base ho0) hb); have n1_ := Sq.m (Kd.R_elder' (by apply Sq.ra; exact (Kd.R_mono (Kd.R_far (p := ⟨gb1503, 1, none⟩) (Kd.R_far (p := ⟨gb1503, 0, none⟩) (Kd.R_types HO1487.out BK1503.out (by decide)) (fun _ hk => hk.2) (.bool t1499)) (fun _ hk => hk.2) (.slice Ao88 t1500.length co88)) (fun _ h_ => h_.1))) (Kd.R_base ho0) hb); have n2_ := Sq.m (Kd.R_elder' (by apply Sq.ra; exact (Kd.R_mono (Kd.R_far (p := ⟨gb1503, 1, none⟩) (Kd.R_far (p := ⟨gb1503, 0, none⟩) (Kd.R_types HO1491.out BK1503.out (by decide)) (fun _ hk => hk.2) (.bool t1499)) (fun _ hk => hk.2) (.slice Ao88 t1500.length co88)) (fun _ h_ => h_.1))) (Kd.R_base ho0) hb); have n3_ := Sq.m (Kd.R_elder' (by apply Sq.ra; exact (Kd.R_mono (Kd.R_far (p := ⟨gb1503, 1, none⟩) (Kd.R_far (p := ⟨gb1503, 0, none⟩) (Kd.R_types HO1497.out BK1503.out (by decide)) (fun _ hk => hk.2) (.bool t1499)) (fun _ hk => hk.2) (.slice Ao88 t1500.length co88)) (fun _ h_ => h_.1))) (Kd.R_base ho0) hb); have n4_ := Sq.m (Kd.R_elder' (by apply Sq.ra; exact (Kd.R_mono (Kd.R_far (p := ⟨gb1503, 1, none⟩) (Kd.R_far (p := ⟨gb1503, 0, none⟩) (Kd.R_types HO1502.out BK1503.out (by decide)) (fun _ hk => hk.2) (.bool t1499)) (fun _ hk => hk.2) (.slice Ao88 t1500.length co88)) (fun _ h_ => h_.1))) (Kd.R_base ho0) hb); have n5_ := Sq.m (Kd.R_lower (Kd.R_new' (Kd.R_new' (Kd.R_new' (Kd.R_new' (Kd.R_new' ho0 (Kd.R_lt (by apply Sq.ra; exact (Kd.R_mono (Kd.R_far (p := ⟨gb1503, 1, none⟩) (Kd.R_far (p := ⟨gb1503, 0, none⟩) (Kd.R_types HO1483.out BK1503.out (by decide)) (fun _ hk => hk.2) (.bool t1499)) (fun _ hk => hk.2) (.slice Ao88 t1500.length co88)) (fun _ h_ => h_.1))))) (Kd.R_lt (by apply Sq.ra; exact (Kd.R_mono (Kd.R_far (p := ⟨gb1503, 1, none⟩) (Kd.R_far (p := ⟨gb1503, 0, none⟩) (Kd.R_types HO1487.out BK1503.out (by decide)) (fun _ hk => hk.2) (.bool t1499)) (fun _ hk => hk.2) (.slice Ao88 t1500.length co88)) (fun _ h_ => h_.1))))) (Kd.R_lt (by apply Sq.ra; exact (Kd.R_mono (Kd.R_far (p := ⟨gb1503, 1, none⟩) (Kd.R_far (p := ⟨gb1503, 0, none⟩) (Kd.R_types HO1491.out BK1503.out (by decide)) (fun _ hk => hk.2) (.bool t1499)) (fun _ hk => hk.2) (.slice Ao88 t1500.length co88)) (fun _ h_ => h_.1))))) (Kd.R_lt (by apply Sq.ra; exact (Kd.R_mono (Kd.R_far (p := ⟨gb1503, 1, none⟩) (Kd.R_far (p := ⟨gb1503, 0, none⟩) (Kd.R_types HO1497.out BK1503.out (by decide)) (fun _ hk => hk.2) (.bool t1499)) (fun _ hk => hk.2) (.slice Ao88 t1500.length co88)) (fun _ h_ => h_.1))))) (Kd.R_lt (by apply Sq.ra; exact (Kd.R_mono (Kd.R_far (p := ⟨gb1503, 1, none⟩) (Kd.R_far (p := ⟨gb1503, 0, none⟩) (Kd.R_types HO1502.out BK1503.out (by decide)) (fun _ hk => hk.2) (.bool t1499)) (fun _ hk => hk.2) (.slice Ao88 t1500.length co88)) (fun _ h_ => h_.1))))) (below_size (by repeat (first | (with_reducible first | exact HB.out | apply Sq.rc | refine below_set ?_ GE1476.out | refine below_set ?_ GE1477.out | refine below_set ?_ GE1493.out | refine below_set ?_ GE1498.out | refine below_set ?_ GE1503.out) | exact HB.out)))); have n6_ := Sq.m (blk_below (g := gb1476) (o := .cells #[.bool a0_0, .slice A0_1 l0_1.length c0_1] 56 (0, 0)) (by apply Sq.rb; refine blk_far ?_ NB1476_1503.out _; apply Sq.rb; refine blk_far ?_ NB1476_1503.out _; apply Sq.rb; exact BK1476.out) hb); have n7_ := Sq.m (blk_below (g := gb1477) (o := .cells #[.bool a1_0, .slice A1_1 l1_1.length c1_1] 56 (0, 0)) (by apply Sq.rb; refine blk_far ?_ NB1477_1503.out _; apply Sq.rb; refine blk_far ?_ NB1477_1503.out _; apply Sq.rb; exact BK1477.out) hb); have n8_ := Sq.m (blk_below (g := gb1493) (o := .cells #[.bool t1488, v1490] 59 (0, 0)) (by apply Sq.rb; refine blk_far ?_ NB1493_1503.out _; apply Sq.rb; refine blk_far ?_ NB1493_1503.out _; apply Sq.rb; exact BK1493.out) hb); have n9_ := Sq.m (blk_below (g := gb1498) (o := .cells #[.bool t1494, .slice Ao78 t1495.length co78] 59 (0, 0)) (by apply Sq.rb; refine blk_far ?_ NB1498_1503.out _; apply Sq.rb; refine blk_far ?_ NB1498_1503.out _; apply Sq.rb; exact BK1498.out) hb); have n10_ := Sq.m (blk_below (g := gb1503) (o := .cells #[.bool t1499, .slice Ao88 t1500.length co88] 59 (0, 0)) (by apply Sq.rb; refine blk_put (cs := #[.bool t1499, .slice none 0 0]) ?_ 1 _ rfl; apply Sq.rb; refine blk_put (cs := #[.bool false, .slice none 0 0]) ?_ 0 _ rfl; apply Sq.rb; exact BK1503.out) hb); have n11_ := Sq.m (below_step (by repeat (first | (with_reducible first | exact HB.out | apply Sq.rc | refine below_set ?_ GE1476.out | refine below_set ?_ GE1477.out | refine below_set ?_ GE1493.out | refine below_set ?_ GE1498.out | refine below_set ?_ GE1503.out) | exact HB.out)) hb); clear HO1483; clear HO1487; clear HO1491; clear HO1497; clear HO1502; clear BK1476; clear BK1477; clear BK1493; clear BK1498; clear BK1503; clear HB; have HO1483 := n0_; have HO1487 := n1_; have HO1491 := n2_; have HO1497 := n3_; have HO1502 := n4_; have HO1507 := n5_; have BK1476 := n6_; have BK1477 := n7_; have BK1493 := n8_; have BK1498 := n9_; have BK1503 := n10_; have HB := n11_; clear n0_ n1_ n2_ n3_ n4_ n5_ n6_ n7_ n8_ n9_ n10_ n11_; (try clear hb); (try clear hb2); (try clear hk); (try clear hi); (try clear ho0)) | ((with_reducible refine gate_dst (N := 10) rfl ?_); refine box_event ?hg (N := 10) ?hd (cs := #[.bool false, .slice none 0 0]) (t := 59) ?hr ?_; (case hd => rfl); (case hg => rfl); (case hr => first | (go_simp; done) | (go_simp; rfl)); intro gb1509 hg w91 hbox hb; have n0_ := Sq.m (Kd.R_below (by apply Sq.ra; exact HO1483.out) hb); have n1_ := Sq.m (Kd.R_below (by apply Sq.ra; exact HO1487.out) hb); have n2_ := Sq.m (Kd.R_below (by apply Sq.ra; exact HO1491.out) hb); have n3_ := Sq.m (Kd.R_below (by apply Sq.ra; exact HO1497.out) hb); have n4_ := Sq.m (Kd.R_below (by apply Sq.ra; exact HO1502.out) hb); have n5_ := Sq.m (Kd.R_below (by apply Sq.ra; exact HO1507.out) hb); have n6_ := Sq.m (blk_below (g := gb1476) (o := .cells #[.bool a0_0, .slice A0_1 l0_1.length c0_1] 56 (0, 0)) (by apply Sq.rb; exact BK1476.out) hb); have n7_ := Sq.m (blk_below (g := gb1477) (o := .cells #[.bool a1_0, .slice A1_1 l1_1.length c1_1] 56 (0, 0)) (by apply Sq.rb; exact BK1477.out) hb); have n8_ := Sq.m (blk_below (g := gb1493) (o := .cells #[.bool t1488, v1490] 59 (0, 0)) (by apply Sq.rb; exact BK1493.out) hb); have n9_ := Sq.m (blk_below (g := gb1498) (o := .cells #[.bool t1494, .slice Ao78 t1495.length co78] 59 (0, 0)) (by apply Sq.rb; exact BK1498.out) hb); have n10_ := Sq.m (blk_below (g := gb1503) (o := .cells #[.bool t1499, .slice Ao88 t1500.length co88] 59 (0, 0)) (by apply Sq.rb; exact BK1503.out) hb); have n11_ := Sq.m (below_step (by repeat (first | (with_reducible first | exact HB.out | apply Sq.rc | refine below_set ?_ GE1476.out | refine below_set ?_ GE1477.out | refine below_set ?_ GE1493.out | refine below_set ?_ GE1498.out | refine below_set ?_ GE1503.out) | exact HB.out)) hb); have n12_ := Sq.m (hbox); have n13_ := Sq.m ((by rw [hg]; exact (below_size (by repeat (first | (with_reducible first | exact HB.out | apply Sq.rc | refine below_set ?_ GE1476.out | refine below_set ?_ GE1477.out | refine below_set ?_ GE1493.out | refine below_set ?_ GE1498.out | refine below_set ?_ GE1503.out) | exact HB.out))) : w.heap.size ≤ gb1509)); have n14_ := Sq.m ((by rw [hg]; exact (below_size (by repeat (first | (with_reducible first | exact HB.out | apply Sq.rc | refine below_set ?_ GE1476.out | refine below_set ?_ GE1477.out | refine below_set ?_ GE1493.out | refine below_set ?_ GE1498.out | refine below_set ?_ GE1503.out) | exact HB.out))) : w.heap.size ≤ gb1509)); have n15_ := Sq.m ((by rw [hg]; exact Nat.ne_of_lt (blk_lt (g := gb1476) (o := .cells #[.bool a0_0, .slice A0_1 l0_1.length c0_1] 56 (0, 0)) (by apply Sq.rb; exact BK1476.out)) : gb1476 ≠ gb1509)); have n16_ := Sq.m ((by rw [hg]; exact Nat.ne_of_gt (blk_lt (g := gb1476) (o := .cells #[.bool a0_0, .slice A0_1 l0_1.length c0_1] 56 (0, 0)) (by apply Sq.rb; exact BK1476.out)) : gb1509 ≠ gb1476)); have n17_ := Sq.m ((by rw [hg]; exact Nat.ne_of_lt (blk_lt (g := gb1477) (o := .cells #[.bool a1_0, .slice A1_1 l1_1.length c1_1] 56 (0, 0)) (by apply Sq.rb; exact BK1477.out)) : gb1477 ≠ gb1509)); have n18_ := Sq.m ((by rw [hg]; exact Nat.ne_of_gt (blk_lt (g := gb1477) (o := .cells #[.bool a1_0, .slice A1_1 l1_1.length c1_1] 56 (0, 0)) (by apply Sq.rb; exact BK1477.out)) : gb1509 ≠ gb1477)); have n19_ := Sq.m ((by rw [hg]; exact Nat.ne_of_lt (blk_lt (g := gb1493) (o := .cells #[.bool t1488, v1490] 59 (0, 0)) (by apply Sq.rb; exact BK1493.out)) : gb1493 ≠ gb1509)); have n20_ := Sq.m ((by rw [hg]; exact Nat.ne_of_gt (blk_lt (g := gb1493) (o := .cells #[.bool t1488, v1490] 59 (0, 0)) (by apply Sq.rb; exact BK1493.out)) : gb1509 ≠ gb1493)); have n21_ := Sq.m ((by rw [hg]; exact Nat.ne_of_lt (blk_lt (g := gb1498) (o := .cells #[.bool t1494, .slice Ao78 t1495.length co78] 59 (0, 0)) (by apply Sq.rb; exact BK1498.out)) : gb1498 ≠ gb1509)); have n22_ := Sq.m ((by rw [hg]; exact Nat.ne_of_gt (blk_lt (g := gb1498) (o := .cells #[.bool t1494, .slice Ao78 t1495.length co78] 59 (0, 0)) (by apply Sq.rb; exact BK1498.out)) : gb1509 ≠ gb1498)); have n23_ := Sq.m ((by rw [hg]; exact Nat.ne_of_lt (blk_lt (g := gb1503) (o := .cells #[.bool t1499, .slice Ao88 t1500.length co88] 59 (0, 0)) (by apply Sq.rb; exact BK1503.out)) : gb1503 ≠ gb1509)); have n24_ := Sq.m ((by rw [hg]; exact Nat.ne_of_gt (blk_lt (g := gb1503) (o := .cells #[.bool t1499, .slice Ao88 t1500.length co88] 59 (0, 0)) (by apply Sq.rb; exact BK1503.out)) : gb1509 ≠ gb1503)); clear HO1483; clear HO1487; clear HO1491; clear HO1497; clear HO1502; clear HO1507; clear BK1476; clear BK1477; clear BK1493; clear BK1498; clear BK1503; clear HB; have HO1483 := n0_; have HO1487 := n1_; have HO1491 := n2_; have HO1497 := n3_; have HO1502 := n4_; have HO1507 := n5_; have BK1476 := n6_; have BK1477 := n7_; have BK1493 := n8_; have BK1498 := n9_; have BK1503 := n10_; have HB := n11_; have BK1509 := n12_; have GW1509 := n13_; have GE1509 := n14_; have NB1476_1509 := n15_; have NB1509_1476 := n16_; have NB1477_1509 := n17_; have NB1509_1477 := n18_; have NB1493_1509 := n19_; have NB1509_1493 := n20_; have NB1498_1509 := n21_; have NB1509_1498 := n22_; have NB1503_1509 := n23_; have NB1509_1503 := n24_; clear n0_ n1_ n2_ n3_ n4_ n5_ n6_ n7_ n8_ n9_ n10_ n11_ n12_ n13_ n14_ n15_ n16_ n17_ n18_ n19_ n20_ n21_ n22_ n23_ n24_; clear hb hbox hg; have hnb92 := NB1509_1476.out; have hnc92 := NB1476_1509.out; have hnb93 := NB1509_1477.out; have hnc93 := NB1477_1509.out; have hnb94 := NB1509_1493.out; have hnc94 := NB1493_1509.out; have hnb95 := NB1509_1498.out; have hnc95 := NB1498_1509.out; have hnb96 := NB1509_1503.out; have hnc96 := NB1503_1509.out; have hcz97_0 : w91.cell? ⟨gb1509, 0, none⟩ = some (.bool false) := (blk_cell BK1509.out 0).trans rfl; have hcz97_1 : w91.cell? ⟨gb1509, 1, none⟩ = some (.slice none 0 0) := (blk_cell BK1509.out 1).trans rfl; have hfz97_0 := blk_frozen BK1509.out 0; have hfz97_1 := blk_frozen BK1509.out 1; obtain ⟨Ao98, co98, eo98⟩ := Kd.R_slice HO1507.out; subst eo98; have hcz99_0 : w91.cell? ⟨gb1493, 0, none⟩ = some (.bool t1488) := (blk_cell BK1493.out 0).trans rfl; have hcz99_1 : w91.cell? ⟨gb1493, 1, none⟩ = some (v1490) := (blk_cell BK1493.out 1).trans rfl; have hfz99_0 := blk_frozen BK1493.out 0; have hfz99_1 := blk_frozen BK1493.out 1; obtain ⟨Ao100, co100, eo100⟩ := Kd.R_slice HO1491.out; subst eo100) | ((with_reducible refine gate_callee (f := 54) rfl ?_); refine goesL_ (some 47) rfl rfl Try.func54 (by kernel_rfl) rfl #[.agg #[.bool t1504, .slice Ao98 t1505.length co98], .agg #[.bool t1488, .slice Ao100 t1489.length co100]] rfl (by (try simp only [List.map_toArray, List.map_cons, List.map_nil]); first | done | rfl | (simp only [List.length_drop, List.length_take]; rfl) | (simp only [i64_w, u8_w, w64_b]; rfl)) ?_; (with_reducible refine (laws_eqWhole.calls k t1504 _ _ t1505 t1488 _ _ t1489 true _ ?side1 ?side2 ?side3 ?side4 A25.out).mono ?_); (case side1 => refine (Kd.R_reads' (e := 3) (base := w.heap.size) (ok := fun k_ => (((((True ∧ some k_ ≠ (v1482 : Value).ownBlock) ∧ some k_ ≠ (v1486 : Value).ownBlock) ∧ some k_ ≠ (.slice Ao100 t1489.length co100 : Value).ownBlock) ∧ some k_ ≠ (.slice Ao78 t1495.length co78 : Value).ownBlock) ∧ some k_ ≠ (.slice Ao88 t1500.length co88 : Value).ownBlock)) (n := t1505.length) (c := co98) ?_).2.2; exact (by apply Sq.ra; exact (Kd.R_mono (Kd.R_far (p := ⟨gb1509, 1, none⟩) (Kd.R_far (p := ⟨gb1509, 0, none⟩) (Kd.R_types HO1507.out BK1509.out (by decide)) (fun _ hk => hk.2) (.bool t1504)) (fun _ hk => hk.2) (.slice Ao98 t1505.length co98)) (fun _ h_ => h_.1)))); (case side2 => exact (Kd.R_reads' HO1507.out).2.1); (case side3 => refine (Kd.R_reads' (e := 3) (base := w.heap.size) (ok := fun k_ => (((True ∧ some k_ ≠ (.slice Ao78 t1495.length co78 : Value).ownBlock) ∧ some k_ ≠ (.slice Ao88 t1500.length co88 : Value).ownBlock) ∧ some k_ ≠ (.slice Ao98 t1505.length co98 : Value).ownBlock)) (n := t1489.length) (c := co100) ?_).2.2; exact (by apply Sq.ra; exact (Kd.R_mono (Kd.R_far (p := ⟨gb1509, 1, none⟩) (Kd.R_far (p := ⟨gb1509, 0, none⟩) (Kd.R_types HO1491.out BK1509.out (by decide)) (fun _ hk => hk.2) (.bool t1504)) (fun _ hk => hk.2) (.slice Ao98 t1505.length co98)) (fun _ h_ => h_.1)))); (case side4 => exact (Kd.R_reads' HO1491.out).2.1); rintro e w101 ⟨rfl, hb⟩; refine ⟨_, rfl, ?_⟩; have n0_ := Sq.m (Kd.R_below (by apply Sq.ra; exact (Kd.R_mono (Kd.R_far (p := ⟨gb1509, 1, none⟩) (Kd.R_far (p := ⟨gb1509, 0, none⟩) (Kd.R_types HO1483.out BK1509.out (by decide)) (fun _ hk => hk.2) (.bool t1504)) (fun _ hk => hk.2) (.slice Ao98 t1505.length co98)) (fun _ h_ => h_.1))) hb); have n1_ := Sq.m (Kd.R_below (by apply Sq.ra; exact (Kd.R_mono (Kd.R_far (p := ⟨gb1509, 1, none⟩) (Kd.R_far (p := ⟨gb1509, 0, none⟩) (Kd.R_types HO1487.out BK1509.out (by decide)) (fun _ hk => hk.2) (.bool t1504)) (fun _ hk => hk.2) (.slice Ao98 t1505.length co98)) (fun _ h_ => h_.1))) hb); have n2_ := Sq.m (Kd.R_below (by apply Sq.ra; exact (Kd.R_mono (Kd.R_far (p := ⟨gb1509, 1, none⟩) (Kd.R_far (p := ⟨gb1509, 0, none⟩) (Kd.R_types HO1491.out BK1509.out (by decide)) (fun _ hk => hk.2) (.bool t1504)) (fun _ hk => hk.2) (.slice Ao98 t1505.length co98)) (fun _ h_ => h_.1))) hb); have n3_ := Sq.m (Kd.R_below (by apply Sq.ra; exact (Kd.R_mono (Kd.R_far (p := ⟨gb1509, 1, none⟩) (Kd.R_far (p := ⟨gb1509, 0, none⟩) (Kd.R_types HO1497.out BK1509.out (by decide)) (fun _ hk => hk.2) (.bool t1504)) (fun _ hk => hk.2) (.slice Ao98 t1505.length co98)) (fun _ h_ => h_.1))) hb); have n4_ := Sq.m (Kd.R_below (by apply Sq.ra; exact (Kd.R_mono (Kd.R_far (p := ⟨gb1509, 1, none⟩) (Kd.R_far (p := ⟨gb1509, 0, none⟩) (Kd.R_types HO1502.out BK1509.out (by decide)) (fun _ hk => hk.2) (.bool t1504)) (fun _ hk => hk.2) (.slice Ao98 t1505.length co98)) (fun _ h_ => h_.1))) hb); have n5_ := Sq.m (Kd.R_below (by apply Sq.ra; exact (Kd.R_mono (Kd.R_far (p := ⟨gb1509, 1, none⟩) (Kd.R_far (p := ⟨gb1509, 0, none⟩) (Kd.R_types HO1507.out BK1509.out (by decide)) (fun _ hk => hk.2) (.bool t1504)) (fun _ hk => hk.2) (.slice Ao98 t1505.length co98)) (fun _ h_ => h_.1))) hb); have n6_ := Sq.m (blk_below (g := gb1476) (o := .cells #[.bool a0_0, .slice A0_1 l0_1.length c0_1] 56 (0, 0)) (by apply Sq.rb; refine blk_far ?_ NB1476_1509.out _; apply Sq.rb; refine blk_far ?_ NB1476_1509.out _; apply Sq.rb; exact BK1476.out) hb); have n7_ := Sq.m (blk_below (g := gb1477) (o := .cells #[.bool a1_0, .slice A1_1 l1_1.length c1_1] 56 (0, 0)) (by apply Sq.rb; refine blk_far ?_ NB1477_1509.out _; apply Sq.rb; refine blk_far ?_ NB1477_1509.out _; apply Sq.rb; exact BK1477.out) hb); have n8_ := Sq.m (blk_below (g := gb1493) (o := .cells #[.bool t1488, .slice Ao100 t1489.length co100] 59 (0, 0)) (by apply Sq.rb; refine blk_far ?_ NB1493_1509.out _; apply Sq.rb; refine blk_far ?_ NB1493_1509.out _; apply Sq.rb; exact BK1493.out) hb); have n9_ := Sq.m (blk_below (g := gb1498) (o := .cells #[.bool t1494, .slice Ao78 t1495.length co78] 59 (0, 0)) (by apply Sq.rb; refine blk_far ?_ NB1498_1509.out _; apply Sq.rb; refine blk_far ?_ NB1498_1509.out _; apply Sq.rb; exact BK1498.out) hb); have n10_ := Sq.m (blk_below (g := gb1503) (o := .cells #[.bool t1499, .slice Ao88 t1500.length co88] 59 (0, 0)) (by apply Sq.rb; refine blk_far ?_ NB1503_1509.out _; apply Sq.rb; refine blk_far ?_ NB1503_1509.out _; apply Sq.rb; exact BK1503.out) hb); have n11_ := Sq.m (blk_below (g := gb1509) (o := .cells #[.bool t1504, .slice Ao98 t1505.length co98] 59 (0, 0)) (by apply Sq.rb; refine blk_put (cs := #[.bool t1504, .slice none 0 0]) ?_ 1 _ rfl; apply Sq.rb; refine blk_put (cs := #[.bool false, .slice none 0 0]) ?_ 0 _ rfl; apply Sq.rb; exact BK1509.out) hb); have n12_ := Sq.m (below_step (by repeat (first | (with_reducible first | exact HB.out | apply Sq.rc | refine below_set ?_ GE1476.out | refine below_set ?_ GE1477.out | refine below_set ?_ GE1493.out | refine below_set ?_ GE1498.out | refine below_set ?_ GE1503.out | refine below_set ?_ GE1509.out) | exact HB.out)) hb); clear HO1483; clear HO1487; clear HO1491; clear HO1497; clear HO1502; clear HO1507; clear BK1476; clear BK1477; clear BK1493; clear BK1498; clear BK1503; clear BK1509; clear HB; have HO1483 := n0_; have HO1487 := n1_; have HO1491 := n2_; have HO1497 := n3_; have HO1502 := n4_; have HO1507 := n5_; have BK1476 := n6_; have BK1477 := n7_; have BK1493 := n8_; have BK1498 := n9_; have BK1503 := n10_; have BK1509 := n11_; have HB := n12_; clear n0_ n1_ n2_ n3_ n4_ n5_ n6_ n7_ n8_ n9_ n10_ n11_ n12_; (try clear hb); (try clear hb2); (try clear hk); (try clear hi)))
               have n0_ := Sq.m (Kd.R_drew HO1483.out)
               have n1_ := Sq.m (Kd.R_drew HO1487.out)
               have n2_ := Sq.m (Kd.R_drew HO1491.out)
               have n3_ := Sq.m (Kd.R_drew HO1497.out)
               have n4_ := Sq.m (Kd.R_drew HO1502.out)
               have n5_ := Sq.m (Kd.R_drew HO1507.out)
               have n6_ := Sq.m (blk_drew BK1476.out)
               have n7_ := Sq.m (blk_drew BK1477.out)
               have n8_ := Sq.m (blk_drew BK1493.out)
               have n9_ := Sq.m (blk_drew BK1498.out)
               have n10_ := Sq.m (blk_drew BK1503.out)
               have n11_ := Sq.m (blk_drew BK1509.out)
               have n12_ := Sq.m (below_drew1 HB.out)
               clear HO1483
               clear HO1487
               clear HO1491
               clear HO1497
               clear HO1502
               clear HO1507
               clear BK1476
               clear BK1477
               clear BK1493
               clear BK1498
               clear BK1503
               clear BK1509
               clear HB
               have HO1483 := n0_
               have HO1487 := n1_
               have HO1491 := n2_
               have HO1497 := n3_
               have HO1502 := n4_
               have HO1507 := n5_
               have BK1476 := n6_
               have BK1477 := n7_
               have BK1493 := n8_
               have BK1498 := n9_
               have BK1503 := n10_
               have BK1509 := n11_
               have HB := n12_
               clear n0_ n1_ n2_ n3_ n4_ n5_ n6_ n7_ n8_ n9_ n10_ n11_ n12_
               refine start_ (n := 5) (S := fun w' => w'.cell? ⟨gb1498, 0, none⟩ = some (.bool t1494) ∧ w'.cell? ⟨gb1498, 1, none⟩ = some (.slice Ao78 t1495.length co78) ∧ w'.cell? ⟨gb1476, 0, none⟩ = some (.bool a0_0) ∧ w'.cell? ⟨gb1476, 1, none⟩ = some (.slice A0_1 l0_1.length c0_1)) (ds := []) #[false, false, false, false, false] (by kernel_rfl) rfl rfl ⟨(blk_cell BK1498.out 0).trans rfl, (blk_cell BK1498.out 1).trans rfl, (blk_cell BK1476.out 0).trans rfl, (blk_cell BK1476.out 1).trans rfl⟩ (fun hHeld => ?_)
               generalize w101.drew = w102 at HO1483 HO1487 HO1491 HO1497 HO1502 HO1507 BK1476 BK1477 BK1493 BK1498 BK1503 BK1509 HB hHeld ⊢
               refine take_ (i := 0) (N := some 54) (v := ?_) (a' := ?_) #[true, false, false, false, false] rfl rfl (by kernel_rfl) (fun _ _ _ h => h) (Or.inl ⟨by rfl, ?_⟩) hHeld ?_ ?_
               rotate_left
               ·rintro w' ⟨s0, s1, s2, s3⟩
                go_simp
                with_reducible rfl
               rotate_left
               ·simp only [Act.put, List.setIfInBounds_toArray, List.set_cons_zero, List.set_cons_succ, i64_w, i32_w, u8_w, w64_b]
                rfl
               refine take_ (i := 1) (N := some 55) (v := ?_) (a' := ?_) #[true, true, false, false, false] rfl rfl (by kernel_rfl) (fun _ _ _ h => h) (Or.inl ⟨by rfl, ?_⟩) hHeld ?_ ?_
               rotate_left
               ·rintro w' ⟨s0, s1, s2, s3⟩
                go_simp
                with_reducible rfl
               rotate_left
               ·simp only [Act.put, List.setIfInBounds_toArray, List.set_cons_zero, List.set_cons_succ, i64_w, i32_w, u8_w, w64_b]
                rfl
               refine one_ (i := 2) (N := some 56) #[true, true, true, false, false] rfl rfl (by kernel_rfl) (by decide) (fun K hK => ?_)
               refine goes_ Try.func52 (by kernel_rfl) rfl #[.agg #[.bool a0_0, .slice A0_1 l0_1.length c0_1]] (by rfl) rfl rfl (by (try simp only [List.map_toArray, List.map_cons, List.map_nil]); first | done | rfl | (simp only [List.length_drop, List.length_take]; rfl) | (simp only [i64_w, u8_w, w64_b]; rfl)) ?_
               with_reducible refine (laws_toWhole.calls k a0_0 _ _ l0_1 t1511 t1512 _ ?side1 ?side2 A28.out).mono ?_
               (case side1 => repeat (first | exact (Kd.C_below HR0_1.out HB.out) | (with_reducible refine Kd.C_alloc ?_ _) | (with_reducible refine Kd.C_drewN ?_ _) | (with_reducible refine Kd.C_drew ?_)))
               (case side2 => exact HC0_1.out)
               rintro e w103 ⟨v1513, rfl, ho0, hb⟩
               refine ⟨_, rfl, ?_⟩
               have n0_ := Sq.m (Kd.R_elder' (by apply Sq.ra; exact HO1483.out) (Kd.R_base ho0) hb)
               have n1_ := Sq.m (Kd.R_elder' (by apply Sq.ra; exact HO1487.out) (Kd.R_base ho0) hb)
               have n2_ := Sq.m (Kd.R_elder' (by apply Sq.ra; exact HO1491.out) (Kd.R_base ho0) hb)
               have n3_ := Sq.m (Kd.R_elder' (by apply Sq.ra; exact HO1497.out) (Kd.R_base ho0) hb)
               have n4_ := Sq.m (Kd.R_elder' (by apply Sq.ra; exact HO1502.out) (Kd.R_base ho0) hb)
               have n5_ := Sq.m (Kd.R_elder' (by apply Sq.ra; exact HO1507.out) (Kd.R_base ho0) hb)
               have n6_ := Sq.m (Kd.R_lower (Kd.R_new' (Kd.R_new' (Kd.R_new' (Kd.R_new' (Kd.R_new' (Kd.R_new' ho0 (Kd.R_lt (by apply Sq.ra; exact HO1483.out))) (Kd.R_lt (by apply Sq.ra; exact HO1487.out))) (Kd.R_lt (by apply Sq.ra; exact HO1491.out))) (Kd.R_lt (by apply Sq.ra; exact HO1497.out))) (Kd.R_lt (by apply Sq.ra; exact HO1502.out))) (Kd.R_lt (by apply Sq.ra; exact HO1507.out))) (below_size (by repeat (first | (with_reducible first | exact HB.out | apply Sq.rc | refine below_set ?_ GE1476.out | refine below_set ?_ GE1477.out | refine below_set ?_ GE1493.out | refine below_set ?_ GE1498.out | refine below_set ?_ GE1503.out | refine below_set ?_ GE1509.out) | exact HB.out))))
               have n7_ := Sq.m (blk_below (g := gb1476) (o := .cells #[.bool a0_0, .slice A0_1 l0_1.length c0_1] 56 (0, 0)) (by apply Sq.rb; exact BK1476.out) hb)
               have n8_ := Sq.m (blk_below (g := gb1477) (o := .cells #[.bool a1_0, .slice A1_1 l1_1.length c1_1] 56 (0, 0)) (by apply Sq.rb; exact BK1477.out) hb)
               have n9_ := Sq.m (blk_below (g := gb1493) (o := .cells #[.bool t1488, .slice Ao100 t1489.length co100] 59 (0, 0)) (by apply Sq.rb; exact BK1493.out) hb)
               have n10_ := Sq.m (blk_below (g := gb1498) (o := .cells #[.bool t1494, .slice Ao78 t1495.length co78] 59 (0, 0)) (by apply Sq.rb; exact BK1498.out) hb)
               have n11_ := Sq.m (blk_below (g := gb1503) (o := .cells #[.bool t1499, .slice Ao88 t1500.length co88] 59 (0, 0)) (by apply Sq.rb; exact BK1503.out) hb)
               have n12_ := Sq.m (blk_below (g := gb1509) (o := .cells #[.bool t1504, .slice Ao98 t1505.length co98] 59 (0, 0)) (by apply Sq.rb; exact BK1509.out) hb)
               have n13_ := Sq.m (below_step (by repeat (first | (with_reducible first | exact HB.out | apply Sq.rc | refine below_set ?_ GE1476.out | refine below_set ?_ GE1477.out | refine below_set ?_ GE1493.out | refine below_set ?_ GE1498.out | refine below_set ?_ GE1503.out | refine below_set ?_ GE1509.out) | exact HB.out)) hb)
               clear HO1483
               clear HO1487
               clear HO1491
               clear HO1497
               clear HO1502
               clear HO1507
               clear BK1476
               clear BK1477
               clear BK1493
               clear BK1498
               clear BK1503
               clear BK1509
               clear HB
               have HO1483 := n0_
               have HO1487 := n1_
               have HO1491 := n2_
               have HO1497 := n3_
               have HO1502 := n4_
               have HO1507 := n5_
               have HO1514 := n6_
               have BK1476 := n7_
               have BK1477 := n8_
               have BK1493 := n9_
               have BK1498 := n10_
               have BK1503 := n11_
               have BK1509 := n12_
               have HB := n13_
               clear n0_ n1_ n2_ n3_ n4_ n5_ n6_ n7_ n8_ n9_ n10_ n11_ n12_ n13_
               (try clear hb)
               (try clear hb2)
               (try clear hk)
               (try clear hi)
               (try clear ho0)
               obtain ⟨Ao104, co104, eo104⟩ := Kd.R_slice HO1514.out
               (first | subst eo104 | (injection eo104 with f1_ f2_ f3_; have f4_ := f1_.symm; have f5_ := f3_.symm; clear f1_ f2_ f3_; subst f4_; subst f5_))
               refine hK.out _ _ ⟨(blk_cell BK1498.out 0).trans rfl, (blk_cell BK1498.out 1).trans rfl, (blk_cell BK1476.out 0).trans rfl, (blk_cell BK1476.out 1).trans rfl⟩ (fun hHeld => ?_)
               clear hK K
               refine norm_ (a' := ?_) ?_ ?_
               rotate_left
               ·show Act.put _ (some 56) _ = _
                simp only [Act.put, List.setIfInBounds_toArray, List.set_cons_zero, List.set_cons_succ, i64_w, i32_w, u8_w, w64_b]
                rfl
               refine one_ (i := 3) (N := some 57) #[true, true, true, true, false] rfl rfl (by kernel_rfl) (by decide) (fun K hK => ?_)
               refine goes_ Try.func54 (by kernel_rfl) rfl #[.agg #[.bool t1494, .slice Ao78 t1495.length co78], .agg #[.bool t1511, .slice Ao104 t1512.length co104]] (by rfl) rfl rfl (by (try simp only [List.map_toArray, List.map_cons, List.map_nil]); first | done | rfl | (simp only [List.length_drop, List.length_take]; rfl) | (simp only [i64_w, u8_w, w64_b]; rfl)) ?_
               with_reducible refine (laws_eqWhole.calls k t1494 _ _ t1495 t1511 _ _ t1512 true _ ?side1 ?side2 ?side3 ?side4 A29.out).mono ?_
               (case side1 => repeat (first | exact (Kd.R_reads' HO1497.out).2.2 | (with_reducible refine Kd.C_alloc ?_ _) | (with_reducible refine Kd.C_drewN ?_ _) | (with_reducible refine Kd.C_drew ?_)))
               (case side2 => exact (Kd.R_reads' HO1497.out).2.1)
               (case side3 => repeat (first | exact (Kd.R_reads' HO1514.out).2.2 | (with_reducible refine Kd.C_alloc ?_ _) | (with_reducible refine Kd.C_drewN ?_ _) | (with_reducible refine Kd.C_drew ?_)))
               (case side4 => exact (Kd.R_reads' HO1514.out).2.1)
               rintro e w105 ⟨rfl, hb⟩
               refine ⟨_, rfl, ?_⟩
               have n0_ := Sq.m (Kd.R_below (by apply Sq.ra; exact HO1483.out) hb)
               have n1_ := Sq.m (Kd.R_below (by apply Sq.ra; exact HO1487.out) hb)
               have n2_ := Sq.m (Kd.R_below (by apply Sq.ra; exact HO1491.out) hb)
               have n3_ := Sq.m (Kd.R_below (by apply Sq.ra; exact HO1497.out) hb)
               have n4_ := Sq.m (Kd.R_below (by apply Sq.ra; exact HO1502.out) hb)
               have n5_ := Sq.m (Kd.R_below (by apply Sq.ra; exact HO1507.out) hb)
               have n6_ := Sq.m (Kd.R_below (by apply Sq.ra; exact HO1514.out) hb)
               have n7_ := Sq.m (blk_below (g := gb1476) (o := .cells #[.bool a0_0, .slice A0_1 l0_1.length c0_1] 56 (0, 0)) (by apply Sq.rb; exact BK1476.out) hb)
               have n8_ := Sq.m (blk_below (g := gb1477) (o := .cells #[.bool a1_0, .slice A1_1 l1_1.length c1_1] 56 (0, 0)) (by apply Sq.rb; exact BK1477.out) hb)
               have n9_ := Sq.m (blk_below (g := gb1493) (o := .cells #[.bool t1488, .slice Ao100 t1489.length co100] 59 (0, 0)) (by apply Sq.rb; exact BK1493.out) hb)
               have n10_ := Sq.m (blk_below (g := gb1498) (o := .cells #[.bool t1494, .slice Ao78 t1495.length co78] 59 (0, 0)) (by apply Sq.rb; exact BK1498.out) hb)
               have n11_ := Sq.m (blk_below (g := gb1503) (o := .cells #[.bool t1499, .slice Ao88 t1500.length co88] 59 (0, 0)) (by apply Sq.rb; exact BK1503.out) hb)
               have n12_ := Sq.m (blk_below (g := gb1509) (o := .cells #[.bool t1504, .slice Ao98 t1505.length co98] 59 (0, 0)) (by apply Sq.rb; exact BK1509.out) hb)
               have n13_ := Sq.m (below_step (by repeat (first | (with_reducible first | exact HB.out | apply Sq.rc | refine below_set ?_ GE1476.out | refine below_set ?_ GE1477.out | refine below_set ?_ GE1493.out | refine below_set ?_ GE1498.out | refine below_set ?_ GE1503.out | refine below_set ?_ GE1509.out) | exact HB.out)) hb)
               clear HO1483
               clear HO1487
               clear HO1491
               clear HO1497
               clear HO1502
               clear HO1507
               clear HO1514
               clear BK1476
               clear BK1477
               clear BK1493
               clear BK1498
               clear BK1503
               clear BK1509
               clear HB
               have HO1483 := n0_
               have HO1487 := n1_
               have HO1491 := n2_
               have HO1497 := n3_
               have HO1502 := n4_
               have HO1507 := n5_
               have HO1514 := n6_
               have BK1476 := n7_
               have BK1477 := n8_
               have BK1493 := n9_
               have BK1498 := n10_
               have BK1503 := n11_
               have BK1509 := n12_
               have HB := n13_
               clear n0_ n1_ n2_ n3_ n4_ n5_ n6_ n7_ n8_ n9_ n10_ n11_ n12_ n13_
               (try clear hb)
               (try clear hb2)
               (try clear hk)
               (try clear hi)
               refine hK.out _ _ ⟨(blk_cell BK1498.out 0).trans rfl, (blk_cell BK1498.out 1).trans rfl, (blk_cell BK1476.out 0).trans rfl, (blk_cell BK1476.out 1).trans rfl⟩ (fun hHeld => ?_)
               clear hK K
               refine norm_ (a' := ?_) ?_ ?_
               rotate_left
               ·show Act.put _ (some 57) _ = _
                simp only [Act.put, List.setIfInBounds_toArray, List.set_cons_zero, List.set_cons_succ, i64_w, i32_w, u8_w, w64_b]
                rfl
               refine pure_ (i := 4) (N := some 58) (v := ?_) (a' := ?_) #[true, true, true, true, true] rfl rfl (by kernel_rfl) (fun _ _ _ h => h) (Or.inl ⟨by rfl, ?_⟩) ?_ ?_
               rotate_left
               ·intro w'
                go_simp
                with_reducible rfl
               rotate_left
               ·simp only [Act.put, List.setIfInBounds_toArray, List.set_cons_zero, List.set_cons_succ, i64_w, i32_w, u8_w, w64_b]
                rfl
               refine done_ (by kernel_rfl) ?_
               try go_wp2
               have n0_ := Sq.m (Kd.R_drew HO1483.out)
               have n1_ := Sq.m (Kd.R_drew HO1487.out)
               have n2_ := Sq.m (Kd.R_drew HO1491.out)
               have n3_ := Sq.m (Kd.R_drew HO1497.out)
               have n4_ := Sq.m (Kd.R_drew HO1502.out)
               have n5_ := Sq.m (Kd.R_drew HO1507.out)
               have n6_ := Sq.m (Kd.R_drew HO1514.out)
               have n7_ := Sq.m (blk_drew BK1476.out)
               have n8_ := Sq.m (blk_drew BK1477.out)
               have n9_ := Sq.m (blk_drew BK1493.out)
               have n10_ := Sq.m (blk_drew BK1498.out)
               have n11_ := Sq.m (blk_drew BK1503.out)
               have n12_ := Sq.m (blk_drew BK1509.out)
               have n13_ := Sq.m (below_drew1 HB.out)
               clear HO1483
               clear HO1487
               clear HO1491
               clear HO1497
               clear HO1502
               clear HO1507
               clear HO1514
               clear BK1476
               clear BK1477
               clear BK1493
               clear BK1498
               clear BK1503
               clear BK1509
               clear HB
               have HO1483 := n0_
               have HO1487 := n1_
               have HO1491 := n2_
               have HO1497 := n3_
               have HO1502 := n4_
               have HO1507 := n5_
               have HO1514 := n6_
               have BK1476 := n7_
               have BK1477 := n8_
               have BK1493 := n9_
               have BK1498 := n10_
               have BK1503 := n11_
               have BK1509 := n12_
               have HB := n13_
               clear n0_ n1_ n2_ n3_ n4_ n5_ n6_ n7_ n8_ n9_ n10_ n11_ n12_ n13_
               refine start_ (n := 5) (S := fun w' => w'.cell? ⟨gb1503, 0, none⟩ = some (.bool t1499) ∧ w'.cell? ⟨gb1503, 1, none⟩ = some (.slice Ao88 t1500.length co88) ∧ w'.cell? ⟨gb1477, 0, none⟩ = some (.bool a1_0) ∧ w'.cell? ⟨gb1477, 1, none⟩ = some (.slice A1_1 l1_1.length c1_1)) (ds := []) #[false, false, false, false, false] (by kernel_rfl) rfl rfl ⟨(blk_cell BK1503.out 0).trans rfl, (blk_cell BK1503.out 1).trans rfl, (blk_cell BK1477.out 0).trans rfl, (blk_cell BK1477.out 1).trans rfl⟩ (fun hHeld => ?_)
               generalize w105.drew = w106 at HO1483 HO1487 HO1491 HO1497 HO1502 HO1507 HO1514 BK1476 BK1477 BK1493 BK1498 BK1503 BK1509 HB hHeld ⊢
               refine take_ (i := 0) (N := some 59) (v := ?_) (a' := ?_) #[true, false, false, false, false] rfl rfl (by kernel_rfl) (fun _ _ _ h => h) (Or.inl ⟨by rfl, ?_⟩) hHeld ?_ ?_
               rotate_left
               ·rintro w' ⟨s0, s1, s2, s3⟩
                go_simp
                with_reducible rfl
               rotate_left
               ·simp only [Act.put, List.setIfInBounds_toArray, List.set_cons_zero, List.set_cons_succ, i64_w, i32_w, u8_w, w64_b]
                rfl
               refine take_ (i := 1) (N := some 60) (v := ?_) (a' := ?_) #[true, true, false, false, false] rfl rfl (by kernel_rfl) (fun _ _ _ h => h) (Or.inl ⟨by rfl, ?_⟩) hHeld ?_ ?_
               rotate_left
               ·rintro w' ⟨s0, s1, s2, s3⟩
                go_simp
                with_reducible rfl
               rotate_left
               ·simp only [Act.put, List.setIfInBounds_toArray, List.set_cons_zero, List.set_cons_succ, i64_w, i32_w, u8_w, w64_b]
                rfl
               refine one_ (i := 2) (N := some 61) #[true, true, true, false, false] rfl rfl (by kernel_rfl) (by decide) (fun K hK => ?_)
               refine goes_ Try.func52 (by kernel_rfl) rfl #[.agg #[.bool a1_0, .slice A1_1 l1_1.length c1_1]] (by rfl) rfl rfl (by (try simp only [List.map_toArray, List.map_cons, List.map_nil]); first | done | rfl | (simp only [List.length_drop, List.length_take]; rfl) | (simp only [i64_w, u8_w, w64_b]; rfl)) ?_
               with_reducible refine (laws_toWhole.calls k a1_0 _ _ l1_1 t1516 t1517 _ ?side1 ?side2 A31.out).mono ?_
               (case side1 => repeat (first | exact (Kd.C_below HR1_1.out HB.out) | (with_reducible refine Kd.C_alloc ?_ _) | (with_reducible refine Kd.C_drewN ?_ _) | (with_reducible refine Kd.C_drew ?_)))
               (case side2 => exact HC1_1.out)
               rintro e w107 ⟨v1518, rfl, ho0, hb⟩
               refine ⟨_, rfl, ?_⟩
               have n0_ := Sq.m (Kd.R_elder' (by apply Sq.ra; exact HO1483.out) (Kd.R_base ho0) hb)
               have n1_ := Sq.m (Kd.R_elder' (by apply Sq.ra; exact HO1487.out) (Kd.R_base ho0) hb)
               have n2_ := Sq.m (Kd.R_elder' (by apply Sq.ra; exact HO1491.out) (Kd.R_base ho0) hb)
               have n3_ := Sq.m (Kd.R_elder' (by apply Sq.ra; exact HO1497.out) (Kd.R_base ho0) hb)
               have n4_ := Sq.m (Kd.R_elder' (by apply Sq.ra; exact HO1502.out) (Kd.R_base ho0) hb)
               have n5_ := Sq.m (Kd.R_elder' (by apply Sq.ra; exact HO1507.out) (Kd.R_base ho0) hb)
               have n6_ := Sq.m (Kd.R_elder' (by apply Sq.ra; exact HO1514.out) (Kd.R_base ho0) hb)
               have n7_ := Sq.m (Kd.R_lower (Kd.R_new' (Kd.R_new' (Kd.R_new' (Kd.R_new' (Kd.R_new' (Kd.R_new' (Kd.R_new' ho0 (Kd.R_lt (by apply Sq.ra; exact HO1483.out))) (Kd.R_lt (by apply Sq.ra; exact HO1487.out))) (Kd.R_lt (by apply Sq.ra; exact HO1491.out))) (Kd.R_lt (by apply Sq.ra; exact HO1497.out))) (Kd.R_lt (by apply Sq.ra; exact HO1502.out))) (Kd.R_lt (by apply Sq.ra; exact HO1507.out))) (Kd.R_lt (by apply Sq.ra; exact HO1514.out))) (below_size (by repeat (first | (with_reducible first | exact HB.out | apply Sq.rc | refine below_set ?_ GE1476.out | refine below_set ?_ GE1477.out | refine below_set ?_ GE1493.out | refine below_set ?_ GE1498.out | refine below_set ?_ GE1503.out | refine below_set ?_ GE1509.out) | exact HB.out))))
               have n8_ := Sq.m (blk_below (g := gb1476) (o := .cells #[.bool a0_0, .slice A0_1 l0_1.length c0_1] 56 (0, 0)) (by apply Sq.rb; exact BK1476.out) hb)
               have n9_ := Sq.m (blk_below (g := gb1477) (o := .cells #[.bool a1_0, .slice A1_1 l1_1.length c1_1] 56 (0, 0)) (by apply Sq.rb; exact BK1477.out) hb)
               have n10_ := Sq.m (blk_below (g := gb1493) (o := .cells #[.bool t1488, .slice Ao100 t1489.length co100] 59 (0, 0)) (by apply Sq.rb; exact BK1493.out) hb)
               have n11_ := Sq.m (blk_below (g := gb1498) (o := .cells #[.bool t1494, .slice Ao78 t1495.length co78] 59 (0, 0)) (by apply Sq.rb; exact BK1498.out) hb)
               have n12_ := Sq.m (blk_below (g := gb1503) (o := .cells #[.bool t1499, .slice Ao88 t1500.length co88] 59 (0, 0)) (by apply Sq.rb; exact BK1503.out) hb)
               have n13_ := Sq.m (blk_below (g := gb1509) (o := .cells #[.bool t1504, .slice Ao98 t1505.length co98] 59 (0, 0)) (by apply Sq.rb; exact BK1509.out) hb)
               have n14_ := Sq.m (below_step (by repeat (first | (with_reducible first | exact HB.out | apply Sq.rc | refine below_set ?_ GE1476.out | refine below_set ?_ GE1477.out | refine below_set ?_ GE1493.out | refine below_set ?_ GE1498.out | refine below_set ?_ GE1503.out | refine below_set ?_ GE1509.out) | exact HB.out)) hb)
               clear HO1483
               clear HO1487
               clear HO1491
               clear HO1497
               clear HO1502
               clear HO1507
               clear HO1514
               clear BK1476
               clear BK1477
               clear BK1493
               clear BK1498
               clear BK1503
               clear BK1509
               clear HB
               have HO1483 := n0_
               have HO1487 := n1_
               have HO1491 := n2_
               have HO1497 := n3_
               have HO1502 := n4_
               have HO1507 := n5_
               have HO1514 := n6_
               have HO1519 := n7_
               have BK1476 := n8_
               have BK1477 := n9_
               have BK1493 := n10_
               have BK1498 := n11_
               have BK1503 := n12_
               have BK1509 := n13_
               have HB := n14_
               clear n0_ n1_ n2_ n3_ n4_ n5_ n6_ n7_ n8_ n9_ n10_ n11_ n12_ n13_ n14_
               (try clear hb)
               (try clear hb2)
               (try clear hk)
               (try clear hi)
               (try clear ho0)
               obtain ⟨Ao108, co108, eo108⟩ := Kd.R_slice HO1519.out
               (first | subst eo108 | (injection eo108 with f1_ f2_ f3_; have f4_ := f1_.symm; have f5_ := f3_.symm; clear f1_ f2_ f3_; subst f4_; subst f5_))
               refine hK.out _ _ ⟨(blk_cell BK1503.out 0).trans rfl, (blk_cell BK1503.out 1).trans rfl, (blk_cell BK1477.out 0).trans rfl, (blk_cell BK1477.out 1).trans rfl⟩ (fun hHeld => ?_)
               clear hK K
               refine norm_ (a' := ?_) ?_ ?_
               rotate_left
               ·show Act.put _ (some 61) _ = _
                simp only [Act.put, List.setIfInBounds_toArray, List.set_cons_zero, List.set_cons_succ, i64_w, i32_w, u8_w, w64_b]
                rfl
               refine one_ (i := 3) (N := some 62) #[true, true, true, true, false] rfl rfl (by kernel_rfl) (by decide) (fun K hK => ?_)
               refine goes_ Try.func54 (by kernel_rfl) rfl #[.agg #[.bool t1499, .slice Ao88 t1500.length co88], .agg #[.bool t1516, .slice Ao108 t1517.length co108]] (by rfl) rfl rfl (by (try simp only [List.map_toArray, List.map_cons, List.map_nil]); first | done | rfl | (simp only [List.length_drop, List.length_take]; rfl) | (simp only [i64_w, u8_w, w64_b]; rfl)) ?_
               with_reducible refine (laws_eqWhole.calls k t1499 _ _ t1500 t1516 _ _ t1517 true _ ?side1 ?side2 ?side3 ?side4 A32.out).mono ?_
               (case side1 => repeat (first | exact (Kd.R_reads' HO1502.out).2.2 | (with_reducible refine Kd.C_alloc ?_ _) | (with_reducible refine Kd.C_drewN ?_ _) | (with_reducible refine Kd.C_drew ?_)))
               (case side2 => exact (Kd.R_reads' HO1502.out).2.1)
               (case side3 => repeat (first | exact (Kd.R_reads' HO1519.out).2.2 | (with_reducible refine Kd.C_alloc ?_ _) | (with_reducible refine Kd.C_drewN ?_ _) | (with_reducible refine Kd.C_drew ?_)))
               (case side4 => exact (Kd.R_reads' HO1519.out).2.1)
               rintro e w109 ⟨rfl, hb⟩
               refine ⟨_, rfl, ?_⟩
               have n0_ := Sq.m (Kd.R_below (by apply Sq.ra; exact HO1483.out) hb)
               have n1_ := Sq.m (Kd.R_below (by apply Sq.ra; exact HO1487.out) hb)
               have n2_ := Sq.m (Kd.R_below (by apply Sq.ra; exact HO1491.out) hb)
               have n3_ := Sq.m (Kd.R_below (by apply Sq.ra; exact HO1497.out) hb)
               have n4_ := Sq.m (Kd.R_below (by apply Sq.ra; exact HO1502.out) hb)
               have n5_ := Sq.m (Kd.R_below (by apply Sq.ra; exact HO1507.out) hb)
               have n6_ := Sq.m (Kd.R_below (by apply Sq.ra; exact HO1514.out) hb)
               have n7_ := Sq.m (Kd.R_below (by apply Sq.ra; exact HO1519.out) hb)
               have n8_ := Sq.m (blk_below (g := gb1476) (o := .cells #[.bool a0_0, .slice A0_1 l0_1.length c0_1] 56 (0, 0)) (by apply Sq.rb; exact BK1476.out) hb)
               have n9_ := Sq.m (blk_below (g := gb1477) (o := .cells #[.bool a1_0, .slice A1_1 l1_1.length c1_1] 56 (0, 0)) (by apply Sq.rb; exact BK1477.out) hb)
               have n10_ := Sq.m (blk_below (g := gb1493) (o := .cells #[.bool t1488, .slice Ao100 t1489.length co100] 59 (0, 0)) (by apply Sq.rb; exact BK1493.out) hb)
               have n11_ := Sq.m (blk_below (g := gb1498) (o := .cells #[.bool t1494, .slice Ao78 t1495.length co78] 59 (0, 0)) (by apply Sq.rb; exact BK1498.out) hb)
               have n12_ := Sq.m (blk_below (g := gb1503) (o := .cells #[.bool t1499, .slice Ao88 t1500.length co88] 59 (0, 0)) (by apply Sq.rb; exact BK1503.out) hb)
               have n13_ := Sq.m (blk_below (g := gb1509) (o := .cells #[.bool t1504, .slice Ao98 t1505.length co98] 59 (0, 0)) (by apply Sq.rb; exact BK1509.out) hb)
               have n14_ := Sq.m (below_step (by repeat (first | (with_reducible first | exact HB.out | apply Sq.rc | refine below_set ?_ GE1476.out | refine below_set ?_ GE1477.out | refine below_set ?_ GE1493.out | refine below_set ?_ GE1498.out | refine below_set ?_ GE1503.out | refine below_set ?_ GE1509.out) | exact HB.out)) hb)
               clear HO1483
               clear HO1487
               clear HO1491
               clear HO1497
               clear HO1502
               clear HO1507
               clear HO1514
               clear HO1519
               clear BK1476
               clear BK1477
               clear BK1493
               clear BK1498
               clear BK1503
               clear BK1509
               clear HB
               have HO1483 := n0_
               have HO1487 := n1_
               have HO1491 := n2_
               have HO1497 := n3_
               have HO1502 := n4_
               have HO1507 := n5_
               have HO1514 := n6_
               have HO1519 := n7_
               have BK1476 := n8_
               have BK1477 := n9_
               have BK1493 := n10_
               have BK1498 := n11_
               have BK1503 := n12_
               have BK1509 := n13_
               have HB := n14_
               clear n0_ n1_ n2_ n3_ n4_ n5_ n6_ n7_ n8_ n9_ n10_ n11_ n12_ n13_ n14_
               (try clear hb)
               (try clear hb2)
               (try clear hk)
               (try clear hi)
               refine hK.out _ _ ⟨(blk_cell BK1503.out 0).trans rfl, (blk_cell BK1503.out 1).trans rfl, (blk_cell BK1477.out 0).trans rfl, (blk_cell BK1477.out 1).trans rfl⟩ (fun hHeld => ?_)
               clear hK K
               refine norm_ (a' := ?_) ?_ ?_
               rotate_left
               ·show Act.put _ (some 62) _ = _
                simp only [Act.put, List.setIfInBounds_toArray, List.set_cons_zero, List.set_cons_succ, i64_w, i32_w, u8_w, w64_b]
                rfl
               refine pure_ (i := 4) (N := some 63) (v := ?_) (a' := ?_) #[true, true, true, true, true] rfl rfl (by kernel_rfl) (fun _ _ _ h => h) (Or.inl ⟨by rfl, ?_⟩) ?_ ?_
               rotate_left
               ·intro w'
                go_simp
                with_reducible rfl
               rotate_left
               ·simp only [Act.put, List.setIfInBounds_toArray, List.set_cons_zero, List.set_cons_succ, i64_w, i32_w, u8_w, w64_b]
                rfl
               refine done_ (by kernel_rfl) ?_
               have hcz110_0 : w109.cell? ⟨gb1498, 0, none⟩ = some (.bool t1494) := (blk_cell BK1498.out 0).trans rfl
               have hcz110_1 : w109.cell? ⟨gb1498, 1, none⟩ = some (.slice Ao78 t1495.length co78) := (blk_cell BK1498.out 1).trans rfl
               have hfz110_0 := blk_frozen BK1498.out 0
               have hfz110_1 := blk_frozen BK1498.out 1
               try go_wp2_with (first | ((with_reducible refine gate_callee (f := 55) rfl ?_); refine goesL_ (some 66) rfl rfl Try.func55 (by kernel_rfl) rfl #[.agg #[.bool t1494, .slice Ao78 t1495.length co78], .int .i64 1] rfl (by (try simp only [List.map_toArray, List.map_cons, List.map_nil]); first | done | rfl | (simp only [List.length_drop, List.length_take]; rfl) | (simp only [i64_w, u8_w, w64_b]; rfl)) ?_; (with_reducible refine (laws_markWhole.calls k t1494 (fun k_ => some k_ = (.slice Ao78 t1495.length co78 : Value).ownBlock) (.slice Ao78 t1495.length co78) t1495 1 t1521 t1522 w _ ?side1 ?side2 A34.out).mono ?_); (case side1 => repeat (first | (with_reducible first | exact HB.out | apply Sq.rc | refine below_set ?_ GE1476.out | refine below_set ?_ GE1477.out | refine below_set ?_ GE1493.out | refine below_set ?_ GE1498.out | refine below_set ?_ GE1503.out | refine below_set ?_ GE1509.out) | exact HB.out)); (case side2 => exact Kd.R_tight rfl HO1497.out); rintro e w111 ⟨rfl, hy0, hb, hkp⟩; refine ⟨_, rfl, ?_⟩; have n0_ := Sq.m (blk_kept (by apply Sq.rb; exact BK1476.out) hkp (fun hs_ => (fun e_ => (Kd.R_ne HO1497.out BK1476.out (by decide)) e_) hs_)); have n1_ := Sq.m (blk_kept (by apply Sq.rb; exact BK1477.out) hkp (fun hs_ => (fun e_ => (Kd.R_ne HO1497.out BK1477.out (by decide)) e_) hs_)); have n2_ := Sq.m (Kd.R_mono (ok' := fun k_ => some k_ ≠ (.slice Ao78 t1495.length co78 : Value).ownBlock ∧ some k_ ≠ (.slice Ao88 t1500.length co88 : Value).ownBlock ∧ some k_ ≠ (.slice Ao98 t1505.length co98 : Value).ownBlock ∧ some k_ ≠ (.slice Ao104 t1512.length co104 : Value).ownBlock ∧ some k_ ≠ (.slice Ao108 t1517.length co108 : Value).ownBlock) (Kd.R_keptB (HO1483.out) hkp (fun k_ hk_ hs_ => (hk_.1.1.1.1.2) hs_)) (fun k_ hk_ => ⟨hk_.1.1.1.1.1.2, hk_.1.1.1.1.2, hk_.1.1.1.2, hk_.1.1.2, hk_.1.2⟩)); have n3_ := Sq.m (Kd.R_mono (ok' := fun k_ => some k_ ≠ (.slice Ao78 t1495.length co78 : Value).ownBlock ∧ some k_ ≠ (.slice Ao88 t1500.length co88 : Value).ownBlock ∧ some k_ ≠ (.slice Ao98 t1505.length co98 : Value).ownBlock ∧ some k_ ≠ (.slice Ao104 t1512.length co104 : Value).ownBlock ∧ some k_ ≠ (.slice Ao108 t1517.length co108 : Value).ownBlock) (Kd.R_keptB (HO1487.out) hkp (fun k_ hk_ hs_ => (hk_.1.1.1.1.2) hs_)) (fun k_ hk_ => ⟨hk_.1.1.1.1.1.2, hk_.1.1.1.1.2, hk_.1.1.1.2, hk_.1.1.2, hk_.1.2⟩)); have n4_ := Sq.m (Kd.R_mono (ok' := fun k_ => some k_ ≠ (.slice Ao78 t1495.length co78 : Value).ownBlock ∧ some k_ ≠ (.slice Ao88 t1500.length co88 : Value).ownBlock ∧ some k_ ≠ (.slice Ao98 t1505.length co98 : Value).ownBlock ∧ some k_ ≠ (.slice Ao104 t1512.length co104 : Value).ownBlock ∧ some k_ ≠ (.slice Ao108 t1517.length co108 : Value).ownBlock) (Kd.R_keptB (HO1491.out) hkp (fun k_ hk_ hs_ => (hk_.1.1.1.1.2) hs_)) (fun k_ hk_ => ⟨hk_.1.1.1.1.1.2, hk_.1.1.1.1.2, hk_.1.1.1.2, hk_.1.1.2, hk_.1.2⟩)); have n5_ := Sq.m (blk_kept (by apply Sq.rb; exact BK1493.out) hkp (fun hs_ => (fun e_ => (Kd.R_ne HO1497.out BK1493.out (by decide)) e_) hs_)); have n6_ := Sq.m (Kd.R_reok rfl hy0 (fun k_ e_ => HO1497.out.1 k_ e_)); have n7_ := Sq.m (blk_kept (by apply Sq.rb; exact BK1498.out) hkp (fun hs_ => (fun e_ => (Kd.R_ne HO1497.out BK1498.out (by decide)) e_) hs_)); have n8_ := Sq.m (Kd.R_mono (ok' := fun k_ => some k_ ≠ (v1482 : Value).ownBlock ∧ some k_ ≠ (v1486 : Value).ownBlock ∧ some k_ ≠ (.slice Ao100 t1489.length co100 : Value).ownBlock ∧ some k_ ≠ (.slice Ao78 t1495.length co78 : Value).ownBlock ∧ some k_ ≠ (.slice Ao98 t1505.length co98 : Value).ownBlock ∧ some k_ ≠ (.slice Ao104 t1512.length co104 : Value).ownBlock ∧ some k_ ≠ (.slice Ao108 t1517.length co108 : Value).ownBlock) (Kd.R_keptB (HO1502.out) hkp (fun k_ hk_ hs_ => (hk_.1.1.1.2) hs_)) (fun k_ hk_ => ⟨hk_.1.1.1.1.1.1.1.2, hk_.1.1.1.1.1.1.2, hk_.1.1.1.1.1.2, hk_.1.1.1.1.2, hk_.1.1.1.2, hk_.1.1.2, hk_.1.2⟩)); have n9_ := Sq.m (blk_kept (by apply Sq.rb; exact BK1503.out) hkp (fun hs_ => (fun e_ => (Kd.R_ne HO1497.out BK1503.out (by decide)) e_) hs_)); have n10_ := Sq.m (Kd.R_mono (ok' := fun k_ => some k_ ≠ (v1482 : Value).ownBlock ∧ some k_ ≠ (v1486 : Value).ownBlock ∧ some k_ ≠ (.slice Ao100 t1489.length co100 : Value).ownBlock ∧ some k_ ≠ (.slice Ao78 t1495.length co78 : Value).ownBlock ∧ some k_ ≠ (.slice Ao88 t1500.length co88 : Value).ownBlock ∧ some k_ ≠ (.slice Ao104 t1512.length co104 : Value).ownBlock ∧ some k_ ≠ (.slice Ao108 t1517.length co108 : Value).ownBlock) (Kd.R_keptB (HO1507.out) hkp (fun k_ hk_ hs_ => (hk_.1.1.1.2) hs_)) (fun k_ hk_ => ⟨hk_.1.1.1.1.1.1.1.2, hk_.1.1.1.1.1.1.2, hk_.1.1.1.1.1.2, hk_.1.1.1.1.2, hk_.1.1.1.2, hk_.1.1.2, hk_.1.2⟩)); have n11_ := Sq.m (blk_kept (by apply Sq.rb; exact BK1509.out) hkp (fun hs_ => (fun e_ => (Kd.R_ne HO1497.out BK1509.out (by decide)) e_) hs_)); have n12_ := Sq.m (Kd.R_mono (ok' := fun k_ => some k_ ≠ (v1482 : Value).ownBlock ∧ some k_ ≠ (v1486 : Value).ownBlock ∧ some k_ ≠ (.slice Ao100 t1489.length co100 : Value).ownBlock ∧ some k_ ≠ (.slice Ao78 t1495.length co78 : Value).ownBlock ∧ some k_ ≠ (.slice Ao88 t1500.length co88 : Value).ownBlock ∧ some k_ ≠ (.slice Ao98 t1505.length co98 : Value).ownBlock ∧ some k_ ≠ (.slice Ao108 t1517.length co108 : Value).ownBlock) (Kd.R_keptB (HO1514.out) hkp (fun k_ hk_ hs_ => (hk_.1.1.1.2) hs_)) (fun k_ hk_ => ⟨hk_.1.1.1.1.1.1.1.2, hk_.1.1.1.1.1.1.2, hk_.1.1.1.1.1.2, hk_.1.1.1.1.2, hk_.1.1.1.2, hk_.1.1.2, hk_.1.2⟩)); have n13_ := Sq.m (Kd.R_mono (ok' := fun k_ => some k_ ≠ (v1482 : Value).ownBlock ∧ some k_ ≠ (v1486 : Value).ownBlock ∧ some k_ ≠ (.slice Ao100 t1489.length co100 : Value).ownBlock ∧ some k_ ≠ (.slice Ao78 t1495.length co78 : Value).ownBlock ∧ some k_ ≠ (.slice Ao88 t1500.length co88 : Value).ownBlock ∧ some k_ ≠ (.slice Ao98 t1505.length co98 : Value).ownBlock ∧ some k_ ≠ (.slice Ao104 t1512.length co104 : Value).ownBlock) (Kd.R_keptB (HO1519.out) hkp (fun k_ hk_ hs_ => (hk_.1.1.1.2) hs_)) (fun k_ hk_ => ⟨hk_.1.1.1.1.1.1.1.2, hk_.1.1.1.1.1.1.2, hk_.1.1.1.1.1.2, hk_.1.1.1.1.2, hk_.1.1.1.2, hk_.1.1.2, hk_.1.2⟩)); have n14_ := Sq.m (hb); clear BK1476; clear BK1477; clear HO1483; clear HO1487; clear HO1491; clear BK1493; clear HO1497; clear BK1498; clear HO1502; clear BK1503; clear HO1507; clear BK1509; clear HO1514; clear HO1519; clear HB; have BK1476 := n0_; have BK1477 := n1_; have HO1483 := n2_; have HO1487 := n3_; have HO1491 := n4_; have BK1493 := n5_; have HO1497 := n6_; have BK1498 := n7_; have HO1502 := n8_; have BK1503 := n9_; have HO1507 := n10_; have BK1509 := n11_; have HO1514 := n12_; have HO1519 := n13_; have HB := n14_; clear n0_ n1_ n2_ n3_ n4_ n5_ n6_ n7_ n8_ n9_ n10_ n11_ n12_ n13_ n14_; (try clear hb); (try clear hkp); (try clear hy0); have hcz112_0 : w111.cell? ⟨gb1503, 0, none⟩ = some (.bool t1499) := (blk_cell BK1503.out 0).trans rfl; have hcz112_1 : w111.cell? ⟨gb1503, 1, none⟩ = some (.slice Ao88 t1500.length co88) := (blk_cell BK1503.out 1).trans rfl; have hfz112_0 := blk_frozen BK1503.out 0; have hfz112_1 := blk_frozen BK1503.out 1) | ((with_reducible refine gate_callee (f := 55) rfl ?_); refine goesL_ (some 69) rfl rfl Try.func55 (by kernel_rfl) rfl #[.agg #[.bool t1499, .slice Ao88 t1500.length co88], .int .i64 t1521] rfl (by (try simp only [List.map_toArray, List.map_cons, List.map_nil]); first | done | rfl | (simp only [List.length_drop, List.length_take]; rfl) | (simp only [i64_w, u8_w, w64_b]; rfl)) ?_; (with_reducible refine (laws_markWhole.calls k t1499 (fun k_ => some k_ = (.slice Ao88 t1500.length co88 : Value).ownBlock) (.slice Ao88 t1500.length co88) t1500 t1521 t1523 t1524 w _ ?side1 ?side2 A35.out).mono ?_); (case side1 => repeat (first | (with_reducible first | exact HB.out | apply Sq.rc | refine below_set ?_ GE1476.out | refine below_set ?_ GE1477.out | refine below_set ?_ GE1493.out | refine below_set ?_ GE1498.out | refine below_set ?_ GE1503.out | refine below_set ?_ GE1509.out) | exact HB.out)); (case side2 => exact Kd.R_tight rfl HO1502.out); rintro e w113 ⟨rfl, hy0, hb, hkp⟩; refine ⟨_, rfl, ?_⟩; have n0_ := Sq.m (blk_kept (by apply Sq.rb; exact BK1476.out) hkp (fun hs_ => (fun e_ => (Kd.R_ne HO1502.out BK1476.out (by decide)) e_) hs_)); have n1_ := Sq.m (blk_kept (by apply Sq.rb; exact BK1477.out) hkp (fun hs_ => (fun e_ => (Kd.R_ne HO1502.out BK1477.out (by decide)) e_) hs_)); have n2_ := Sq.m (Kd.R_mono (ok' := fun k_ => some k_ ≠ (.slice Ao78 t1495.length co78 : Value).ownBlock ∧ some k_ ≠ (.slice Ao88 t1500.length co88 : Value).ownBlock ∧ some k_ ≠ (.slice Ao98 t1505.length co98 : Value).ownBlock ∧ some k_ ≠ (.slice Ao104 t1512.length co104 : Value).ownBlock ∧ some k_ ≠ (.slice Ao108 t1517.length co108 : Value).ownBlock) (Kd.R_keptB (HO1483.out) hkp (fun k_ hk_ hs_ => (hk_.2.1) hs_)) (fun k_ hk_ => ⟨hk_.1.1, hk_.1.2.1, hk_.1.2.2.1, hk_.1.2.2.2.1, hk_.1.2.2.2.2⟩)); have n3_ := Sq.m (Kd.R_mono (ok' := fun k_ => some k_ ≠ (.slice Ao78 t1495.length co78 : Value).ownBlock ∧ some k_ ≠ (.slice Ao88 t1500.length co88 : Value).ownBlock ∧ some k_ ≠ (.slice Ao98 t1505.length co98 : Value).ownBlock ∧ some k_ ≠ (.slice Ao104 t1512.length co104 : Value).ownBlock ∧ some k_ ≠ (.slice Ao108 t1517.length co108 : Value).ownBlock) (Kd.R_keptB (HO1487.out) hkp (fun k_ hk_ hs_ => (hk_.2.1) hs_)) (fun k_ hk_ => ⟨hk_.1.1, hk_.1.2.1, hk_.1.2.2.1, hk_.1.2.2.2.1, hk_.1.2.2.2.2⟩)); have n4_ := Sq.m (Kd.R_mono (ok' := fun k_ => some k_ ≠ (.slice Ao78 t1495.length co78 : Value).ownBlock ∧ some k_ ≠ (.slice Ao88 t1500.length co88 : Value).ownBlock ∧ some k_ ≠ (.slice Ao98 t1505.length co98 : Value).ownBlock ∧ some k_ ≠ (.slice Ao104 t1512.length co104 : Value).ownBlock ∧ some k_ ≠ (.slice Ao108 t1517.length co108 : Value).ownBlock) (Kd.R_keptB (HO1491.out) hkp (fun k_ hk_ hs_ => (hk_.2.1) hs_)) (fun k_ hk_ => ⟨hk_.1.1, hk_.1.2.1, hk_.1.2.2.1, hk_.1.2.2.2.1, hk_.1.2.2.2.2⟩)); have n5_ := Sq.m (blk_kept (by apply Sq.rb; exact BK1493.out) hkp (fun hs_ => (fun e_ => (Kd.R_ne HO1502.out BK1493.out (by decide)) e_) hs_)); have n6_ := Sq.m (Kd.R_mono (ok' := fun k_ => some k_ ≠ (v1482 : Value).ownBlock ∧ some k_ ≠ (v1486 : Value).ownBlock ∧ some k_ ≠ (.slice Ao100 t1489.length co100 : Value).ownBlock ∧ some k_ ≠ (.slice Ao88 t1500.length co88 : Value).ownBlock ∧ some k_ ≠ (.slice Ao98 t1505.length co98 : Value).ownBlock ∧ some k_ ≠ (.slice Ao104 t1512.length co104 : Value).ownBlock ∧ some k_ ≠ (.slice Ao108 t1517.length co108 : Value).ownBlock) (Kd.R_keptB (HO1497.out) hkp (fun k_ hk_ hs_ => (hk_.1.1.1.2) hs_)) (fun k_ hk_ => ⟨hk_.1.1.1.1.1.1.1.2, hk_.1.1.1.1.1.1.2, hk_.1.1.1.1.1.2, hk_.1.1.1.1.2, hk_.1.1.1.2, hk_.1.1.2, hk_.1.2⟩)); have n7_ := Sq.m (blk_kept (by apply Sq.rb; exact BK1498.out) hkp (fun hs_ => (fun e_ => (Kd.R_ne HO1502.out BK1498.out (by decide)) e_) hs_)); have n8_ := Sq.m (Kd.R_reok rfl hy0 (fun k_ e_ => HO1502.out.1 k_ e_)); have n9_ := Sq.m (blk_kept (by apply Sq.rb; exact BK1503.out) hkp (fun hs_ => (fun e_ => (Kd.R_ne HO1502.out BK1503.out (by decide)) e_) hs_)); have n10_ := Sq.m (Kd.R_mono (ok' := fun k_ => some k_ ≠ (v1482 : Value).ownBlock ∧ some k_ ≠ (v1486 : Value).ownBlock ∧ some k_ ≠ (.slice Ao100 t1489.length co100 : Value).ownBlock ∧ some k_ ≠ (.slice Ao78 t1495.length co78 : Value).ownBlock ∧ some k_ ≠ (.slice Ao88 t1500.length co88 : Value).ownBlock ∧ some k_ ≠ (.slice Ao104 t1512.length co104 : Value).ownBlock ∧ some k_ ≠ (.slice Ao108 t1517.length co108 : Value).ownBlock) (Kd.R_keptB (HO1507.out) hkp (fun k_ hk_ hs_ => (hk_.2.2.2.2.1) hs_)) (fun k_ hk_ => ⟨hk_.1.1, hk_.1.2.1, hk_.1.2.2.1, hk_.1.2.2.2.1, hk_.1.2.2.2.2.1, hk_.1.2.2.2.2.2.1, hk_.1.2.2.2.2.2.2⟩)); have n11_ := Sq.m (blk_kept (by apply Sq.rb; exact BK1509.out) hkp (fun hs_ => (fun e_ => (Kd.R_ne HO1502.out BK1509.out (by decide)) e_) hs_)); have n12_ := Sq.m (Kd.R_mono (ok' := fun k_ => some k_ ≠ (v1482 : Value).ownBlock ∧ some k_ ≠ (v1486 : Value).ownBlock ∧ some k_ ≠ (.slice Ao100 t1489.length co100 : Value).ownBlock ∧ some k_ ≠ (.slice Ao78 t1495.length co78 : Value).ownBlock ∧ some k_ ≠ (.slice Ao88 t1500.length co88 : Value).ownBlock ∧ some k_ ≠ (.slice Ao98 t1505.length co98 : Value).ownBlock ∧ some k_ ≠ (.slice Ao108 t1517.length co108 : Value).ownBlock) (Kd.R_keptB (HO1514.out) hkp (fun k_ hk_ hs_ => (hk_.2.2.2.2.1) hs_)) (fun k_ hk_ => ⟨hk_.1.1, hk_.1.2.1, hk_.1.2.2.1, hk_.1.2.2.2.1, hk_.1.2.2.2.2.1, hk_.1.2.2.2.2.2.1, hk_.1.2.2.2.2.2.2⟩)); have n13_ := Sq.m (Kd.R_mono (ok' := fun k_ => some k_ ≠ (v1482 : Value).ownBlock ∧ some k_ ≠ (v1486 : Value).ownBlock ∧ some k_ ≠ (.slice Ao100 t1489.length co100 : Value).ownBlock ∧ some k_ ≠ (.slice Ao78 t1495.length co78 : Value).ownBlock ∧ some k_ ≠ (.slice Ao88 t1500.length co88 : Value).ownBlock ∧ some k_ ≠ (.slice Ao98 t1505.length co98 : Value).ownBlock ∧ some k_ ≠ (.slice Ao104 t1512.length co104 : Value).ownBlock) (Kd.R_keptB (HO1519.out) hkp (fun k_ hk_ hs_ => (hk_.2.2.2.2.1) hs_)) (fun k_ hk_ => ⟨hk_.1.1, hk_.1.2.1, hk_.1.2.2.1, hk_.1.2.2.2.1, hk_.1.2.2.2.2.1, hk_.1.2.2.2.2.2.1, hk_.1.2.2.2.2.2.2⟩)); have n14_ := Sq.m (hb); clear BK1476; clear BK1477; clear HO1483; clear HO1487; clear HO1491; clear BK1493; clear HO1497; clear BK1498; clear HO1502; clear BK1503; clear HO1507; clear BK1509; clear HO1514; clear HO1519; clear HB; have BK1476 := n0_; have BK1477 := n1_; have HO1483 := n2_; have HO1487 := n3_; have HO1491 := n4_; have BK1493 := n5_; have HO1497 := n6_; have BK1498 := n7_; have HO1502 := n8_; have BK1503 := n9_; have HO1507 := n10_; have BK1509 := n11_; have HO1514 := n12_; have HO1519 := n13_; have HB := n14_; clear n0_ n1_ n2_ n3_ n4_ n5_ n6_ n7_ n8_ n9_ n10_ n11_ n12_ n13_ n14_; (try clear hb); (try clear hkp); (try clear hy0); have hcz114_0 : w113.cell? ⟨gb1509, 0, none⟩ = some (.bool t1504) := (blk_cell BK1509.out 0).trans rfl; have hcz114_1 : w113.cell? ⟨gb1509, 1, none⟩ = some (.slice Ao98 t1505.length co98) := (blk_cell BK1509.out 1).trans rfl; have hfz114_0 := blk_frozen BK1509.out 0; have hfz114_1 := blk_frozen BK1509.out 1; have hcz115_0 : w113.cell? ⟨gb1493, 0, none⟩ = some (.bool t1488) := (blk_cell BK1493.out 0).trans rfl; have hcz115_1 : w113.cell? ⟨gb1493, 1, none⟩ = some (.slice Ao100 t1489.length co100) := (blk_cell BK1493.out 1).trans rfl; have hfz115_0 := blk_frozen BK1493.out 0; have hfz115_1 := blk_frozen BK1493.out 1) | (go_at_call 54; (with_reducible refine (laws_eqWhole.calls k t1504 _ _ t1505 t1488 _ _ t1489 true _ ?side1 ?side2 ?side3 ?side4 A37.out).mono ?_); (case side1 => repeat (first | exact (Kd.R_reads' HO1507.out).2.2 | (with_reducible refine Kd.C_alloc ?_ _) | (with_reducible refine Kd.C_drewN ?_ _) | (with_reducible refine Kd.C_drew ?_))); (case side2 => exact (Kd.R_reads' HO1507.out).2.1); (case side3 => repeat (first | exact (Kd.R_reads' HO1491.out).2.2 | (with_reducible refine Kd.C_alloc ?_ _) | (with_reducible refine Kd.C_drewN ?_ _) | (with_reducible refine Kd.C_drew ?_))); (case side4 => exact (Kd.R_reads' HO1491.out).2.1); rintro e w116 ⟨rfl, hb⟩; have n0_ := Sq.m (Kd.R_below (by apply Sq.ra; exact HO1483.out) hb); have n1_ := Sq.m (Kd.R_below (by apply Sq.ra; exact HO1487.out) hb); have n2_ := Sq.m (Kd.R_below (by apply Sq.ra; exact HO1491.out) hb); have n3_ := Sq.m (Kd.R_below (by apply Sq.ra; exact HO1497.out) hb); have n4_ := Sq.m (Kd.R_below (by apply Sq.ra; exact HO1502.out) hb); have n5_ := Sq.m (Kd.R_below (by apply Sq.ra; exact HO1507.out) hb); have n6_ := Sq.m (Kd.R_below (by apply Sq.ra; exact HO1514.out) hb); have n7_ := Sq.m (Kd.R_below (by apply Sq.ra; exact HO1519.out) hb); have n8_ := Sq.m (blk_below (g := gb1476) (o := .cells #[.bool a0_0, .slice A0_1 l0_1.length c0_1] 56 (0, 0)) (by apply Sq.rb; exact BK1476.out) hb); have n9_ := Sq.m (blk_below (g := gb1477) (o := .cells #[.bool a1_0, .slice A1_1 l1_1.length c1_1] 56 (0, 0)) (by apply Sq.rb; exact BK1477.out) hb); have n10_ := Sq.m (blk_below (g := gb1493) (o := .cells #[.bool t1488, .slice Ao100 t1489.length co100] 59 (0, 0)) (by apply Sq.rb; exact BK1493.out) hb); have n11_ := Sq.m (blk_below (g := gb1498) (o := .cells #[.bool t1494, .slice Ao78 t1495.length co78] 59 (0, 0)) (by apply Sq.rb; exact BK1498.out) hb); have n12_ := Sq.m (blk_below (g := gb1503) (o := .cells #[.bool t1499, .slice Ao88 t1500.length co88] 59 (0, 0)) (by apply Sq.rb; exact BK1503.out) hb); have n13_ := Sq.m (blk_below (g := gb1509) (o := .cells #[.bool t1504, .slice Ao98 t1505.length co98] 59 (0, 0)) (by apply Sq.rb; exact BK1509.out) hb); have n14_ := Sq.m (below_step (by repeat (first | (with_reducible first | exact HB.out | apply Sq.rc | refine below_set ?_ GE1476.out | refine below_set ?_ GE1477.out | refine below_set ?_ GE1493.out | refine below_set ?_ GE1498.out | refine below_set ?_ GE1503.out | refine below_set ?_ GE1509.out) | exact HB.out)) hb); clear HO1483; clear HO1487; clear HO1491; clear HO1497; clear HO1502; clear HO1507; clear HO1514; clear HO1519; clear BK1476; clear BK1477; clear BK1493; clear BK1498; clear BK1503; clear BK1509; clear HB; have HO1483 := n0_; have HO1487 := n1_; have HO1491 := n2_; have HO1497 := n3_; have HO1502 := n4_; have HO1507 := n5_; have HO1514 := n6_; have HO1519 := n7_; have BK1476 := n8_; have BK1477 := n9_; have BK1493 := n10_; have BK1498 := n11_; have BK1503 := n12_; have BK1509 := n13_; have HB := n14_; clear n0_ n1_ n2_ n3_ n4_ n5_ n6_ n7_ n8_ n9_ n10_ n11_ n12_ n13_ n14_; (try clear hb); (try clear hb2); (try clear hk); (try clear hi); have hcz117_0 : w116.cell? ⟨gb1509, 0, none⟩ = some (.bool t1504) := (blk_cell BK1509.out 0).trans rfl; have hcz117_1 : w116.cell? ⟨gb1509, 1, none⟩ = some (.slice Ao98 t1505.length co98) := (blk_cell BK1509.out 1).trans rfl; have hfz117_0 := blk_frozen BK1509.out 0; have hfz117_1 := blk_frozen BK1509.out 1) | ((with_reducible refine gate_callee (f := 55) rfl ?_); refine goesL_ (some 85) rfl rfl Try.func55 (by kernel_rfl) rfl #[.agg #[.bool t1504, .slice Ao98 t1505.length co98], .int .i64 1] rfl (by (try simp only [List.map_toArray, List.map_cons, List.map_nil]); first | done | rfl | (simp only [List.length_drop, List.length_take]; rfl) | (simp only [i64_w, u8_w, w64_b]; rfl)) ?_; (with_reducible refine (laws_markWhole.calls k t1504 (fun k_ => some k_ = (.slice Ao98 t1505.length co98 : Value).ownBlock) (.slice Ao98 t1505.length co98) t1505 1 t1526 t1527 w _ ?side1 ?side2 A39.out).mono ?_); (case side1 => repeat (first | (with_reducible first | exact HB.out | apply Sq.rc | refine below_set ?_ GE1476.out | refine below_set ?_ GE1477.out | refine below_set ?_ GE1493.out | refine below_set ?_ GE1498.out | refine below_set ?_ GE1503.out | refine below_set ?_ GE1509.out) | exact HB.out)); (case side2 => exact Kd.R_tight rfl HO1507.out); rintro e w118 ⟨rfl, hy0, hb, hkp⟩; refine ⟨_, rfl, ?_⟩; have n0_ := Sq.m (blk_kept (by apply Sq.rb; exact BK1476.out) hkp (fun hs_ => (fun e_ => (Kd.R_ne HO1507.out BK1476.out (by decide)) e_) hs_)); have n1_ := Sq.m (blk_kept (by apply Sq.rb; exact BK1477.out) hkp (fun hs_ => (fun e_ => (Kd.R_ne HO1507.out BK1477.out (by decide)) e_) hs_)); have n2_ := Sq.m (Kd.R_mono (ok' := fun k_ => some k_ ≠ (.slice Ao78 t1495.length co78 : Value).ownBlock ∧ some k_ ≠ (.slice Ao88 t1500.length co88 : Value).ownBlock ∧ some k_ ≠ (.slice Ao98 t1505.length co98 : Value).ownBlock ∧ some k_ ≠ (.slice Ao104 t1512.length co104 : Value).ownBlock ∧ some k_ ≠ (.slice Ao108 t1517.length co108 : Value).ownBlock) (Kd.R_keptB (HO1483.out) hkp (fun k_ hk_ hs_ => (hk_.2.2.1) hs_)) (fun k_ hk_ => ⟨hk_.1.1, hk_.1.2.1, hk_.1.2.2.1, hk_.1.2.2.2.1, hk_.1.2.2.2.2⟩)); have n3_ := Sq.m (Kd.R_mono (ok' := fun k_ => some k_ ≠ (.slice Ao78 t1495.length co78 : Value).ownBlock ∧ some k_ ≠ (.slice Ao88 t1500.length co88 : Value).ownBlock ∧ some k_ ≠ (.slice Ao98 t1505.length co98 : Value).ownBlock ∧ some k_ ≠ (.slice Ao104 t1512.length co104 : Value).ownBlock ∧ some k_ ≠ (.slice Ao108 t1517.length co108 : Value).ownBlock) (Kd.R_keptB (HO1487.out) hkp (fun k_ hk_ hs_ => (hk_.2.2.1) hs_)) (fun k_ hk_ => ⟨hk_.1.1, hk_.1.2.1, hk_.1.2.2.1, hk_.1.2.2.2.1, hk_.1.2.2.2.2⟩)); have n4_ := Sq.m (Kd.R_mono (ok' := fun k_ => some k_ ≠ (.slice Ao78 t1495.length co78 : Value).ownBlock ∧ some k_ ≠ (.slice Ao88 t1500.length co88 : Value).ownBlock ∧ some k_ ≠ (.slice Ao98 t1505.length co98 : Value).ownBlock ∧ some k_ ≠ (.slice Ao104 t1512.length co104 : Value).ownBlock ∧ some k_ ≠ (.slice Ao108 t1517.length co108 : Value).ownBlock) (Kd.R_keptB (HO1491.out) hkp (fun k_ hk_ hs_ => (hk_.2.2.1) hs_)) (fun k_ hk_ => ⟨hk_.1.1, hk_.1.2.1, hk_.1.2.2.1, hk_.1.2.2.2.1, hk_.1.2.2.2.2⟩)); have n5_ := Sq.m (blk_kept (by apply Sq.rb; exact BK1493.out) hkp (fun hs_ => (fun e_ => (Kd.R_ne HO1507.out BK1493.out (by decide)) e_) hs_)); have n6_ := Sq.m (Kd.R_mono (ok' := fun k_ => some k_ ≠ (v1482 : Value).ownBlock ∧ some k_ ≠ (v1486 : Value).ownBlock ∧ some k_ ≠ (.slice Ao100 t1489.length co100 : Value).ownBlock ∧ some k_ ≠ (.slice Ao88 t1500.length co88 : Value).ownBlock ∧ some k_ ≠ (.slice Ao98 t1505.length co98 : Value).ownBlock ∧ some k_ ≠ (.slice Ao104 t1512.length co104 : Value).ownBlock ∧ some k_ ≠ (.slice Ao108 t1517.length co108 : Value).ownBlock) (Kd.R_keptB (HO1497.out) hkp (fun k_ hk_ hs_ => (hk_.2.2.2.2.1) hs_)) (fun k_ hk_ => ⟨hk_.1.1, hk_.1.2.1, hk_.1.2.2.1, hk_.1.2.2.2.1, hk_.1.2.2.2.2.1, hk_.1.2.2.2.2.2.1, hk_.1.2.2.2.2.2.2⟩)); have n7_ := Sq.m (blk_kept (by apply Sq.rb; exact BK1498.out) hkp (fun hs_ => (fun e_ => (Kd.R_ne HO1507.out BK1498.out (by decide)) e_) hs_)); have n8_ := Sq.m (Kd.R_mono (ok' := fun k_ => some k_ ≠ (v1482 : Value).ownBlock ∧ some k_ ≠ (v1486 : Value).ownBlock ∧ some k_ ≠ (.slice Ao100 t1489.length co100 : Value).ownBlock ∧ some k_ ≠ (.slice Ao78 t1495.length co78 : Value).ownBlock ∧ some k_ ≠ (.slice Ao98 t1505.length co98 : Value).ownBlock ∧ some k_ ≠ (.slice Ao104 t1512.length co104 : Value).ownBlock ∧ some k_ ≠ (.slice Ao108 t1517.length co108 : Value).ownBlock) (Kd.R_keptB (HO1502.out) hkp (fun k_ hk_ hs_ => (hk_.2.2.2.2.1) hs_)) (fun k_ hk_ => ⟨hk_.1.1, hk_.1.2.1, hk_.1.2.2.1, hk_.1.2.2.2.1, hk_.1.2.2.2.2.1, hk_.1.2.2.2.2.2.1, hk_.1.2.2.2.2.2.2⟩)); have n9_ := Sq.m (blk_kept (by apply Sq.rb; exact BK1503.out) hkp (fun hs_ => (fun e_ => (Kd.R_ne HO1507.out BK1503.out (by decide)) e_) hs_)); have n10_ := Sq.m (Kd.R_reok rfl hy0 (fun k_ e_ => HO1507.out.1 k_ e_)); have n11_ := Sq.m (blk_kept (by apply Sq.rb; exact BK1509.out) hkp (fun hs_ => (fun e_ => (Kd.R_ne HO1507.out BK1509.out (by decide)) e_) hs_)); have n12_ := Sq.m (Kd.R_mono (ok' := fun k_ => some k_ ≠ (v1482 : Value).ownBlock ∧ some k_ ≠ (v1486 : Value).ownBlock ∧ some k_ ≠ (.slice Ao100 t1489.length co100 : Value).ownBlock ∧ some k_ ≠ (.slice Ao78 t1495.length co78 : Value).ownBlock ∧ some k_ ≠ (.slice Ao88 t1500.length co88 : Value).ownBlock ∧ some k_ ≠ (.slice Ao98 t1505.length co98 : Value).ownBlock ∧ some k_ ≠ (.slice Ao108 t1517.length co108 : Value).ownBlock) (Kd.R_keptB (HO1514.out) hkp (fun k_ hk_ hs_ => (hk_.2.2.2.2.2.1) hs_)) (fun k_ hk_ => ⟨hk_.1.1, hk_.1.2.1, hk_.1.2.2.1, hk_.1.2.2.2.1, hk_.1.2.2.2.2.1, hk_.1.2.2.2.2.2.1, hk_.1.2.2.2.2.2.2⟩)); have n13_ := Sq.m (Kd.R_mono (ok' := fun k_ => some k_ ≠ (v1482 : Value).ownBlock ∧ some k_ ≠ (v1486 : Value).ownBlock ∧ some k_ ≠ (.slice Ao100 t1489.length co100 : Value).ownBlock ∧ some k_ ≠ (.slice Ao78 t1495.length co78 : Value).ownBlock ∧ some k_ ≠ (.slice Ao88 t1500.length co88 : Value).ownBlock ∧ some k_ ≠ (.slice Ao98 t1505.length co98 : Value).ownBlock ∧ some k_ ≠ (.slice Ao104 t1512.length co104 : Value).ownBlock) (Kd.R_keptB (HO1519.out) hkp (fun k_ hk_ hs_ => (hk_.2.2.2.2.2.1) hs_)) (fun k_ hk_ => ⟨hk_.1.1, hk_.1.2.1, hk_.1.2.2.1, hk_.1.2.2.2.1, hk_.1.2.2.2.2.1, hk_.1.2.2.2.2.2.1, hk_.1.2.2.2.2.2.2⟩)); have n14_ := Sq.m (hb); clear BK1476; clear BK1477; clear HO1483; clear HO1487; clear HO1491; clear BK1493; clear HO1497; clear BK1498; clear HO1502; clear BK1503; clear HO1507; clear BK1509; clear HO1514; clear HO1519; clear HB; have BK1476 := n0_; have BK1477 := n1_; have HO1483 := n2_; have HO1487 := n3_; have HO1491 := n4_; have BK1493 := n5_; have HO1497 := n6_; have BK1498 := n7_; have HO1502 := n8_; have BK1503 := n9_; have HO1507 := n10_; have BK1509 := n11_; have HO1514 := n12_; have HO1519 := n13_; have HB := n14_; clear n0_ n1_ n2_ n3_ n4_ n5_ n6_ n7_ n8_ n9_ n10_ n11_ n12_ n13_ n14_; (try clear hb); (try clear hkp); (try clear hy0); have hcz119_0 : w118.cell? ⟨gb1509, 0, none⟩ = some (.bool t1504) := (blk_cell BK1509.out 0).trans rfl; have hcz119_1 : w118.cell? ⟨gb1509, 1, none⟩ = some (.slice Ao98 t1505.length co98) := (blk_cell BK1509.out 1).trans rfl; have hfz119_0 := blk_frozen BK1509.out 0; have hfz119_1 := blk_frozen BK1509.out 1) | ((with_reducible refine gate_callee (f := 56) rfl ?_); refine goesL_ (some 88) rfl rfl Try.func56 (by kernel_rfl) rfl #[.agg #[.bool t1504, .slice Ao98 t1527.length co98], .int .i64 1] rfl (by (try simp only [List.map_toArray, List.map_cons, List.map_nil]); first | done | (rw [show t1527.length = t1505.length from (Kd.R_reads' HO1507.out).1.symm] <;> rfl) | rfl | (simp only [List.length_drop, List.length_take]; rfl) | (simp only [i64_w, u8_w, w64_b]; rfl)) ?_; (with_reducible refine (laws_heldWhole.calls k t1504 _ _ t1527 1 t1528 _ ?side1 ?side2 A40.out).mono ?_); (case side1 => repeat (first | exact (Kd.R_reads' HO1507.out).2.2 | (with_reducible refine Kd.C_alloc ?_ _) | (with_reducible refine Kd.C_drewN ?_ _) | (with_reducible refine Kd.C_drew ?_))); (case side2 => rw [show t1527.length = t1505.length from (Kd.R_reads' HO1507.out).1.symm]; exact (Kd.R_reads' HO1507.out).2.1); rintro e w120 ⟨rfl, hb⟩; refine ⟨_, rfl, ?_⟩; have n0_ := Sq.m (Kd.R_below (by apply Sq.ra; exact HO1483.out) hb); have n1_ := Sq.m (Kd.R_below (by apply Sq.ra; exact HO1487.out) hb); have n2_ := Sq.m (Kd.R_below (by apply Sq.ra; exact HO1491.out) hb); have n3_ := Sq.m (Kd.R_below (by apply Sq.ra; exact HO1497.out) hb); have n4_ := Sq.m (Kd.R_below (by apply Sq.ra; exact HO1502.out) hb); have n5_ := Sq.m (Kd.R_below (by apply Sq.ra; exact HO1507.out) hb); have n6_ := Sq.m (Kd.R_below (by apply Sq.ra; exact HO1514.out) hb); have n7_ := Sq.m (Kd.R_below (by apply Sq.ra; exact HO1519.out) hb); have n8_ := Sq.m (blk_below (g := gb1476) (o := .cells #[.bool a0_0, .slice A0_1 l0_1.length c0_1] 56 (0, 0)) (by apply Sq.rb; exact BK1476.out) hb); have n9_ := Sq.m (blk_below (g := gb1477) (o := .cells #[.bool a1_0, .slice A1_1 l1_1.length c1_1] 56 (0, 0)) (by apply Sq.rb; exact BK1477.out) hb); have n10_ := Sq.m (blk_below (g := gb1493) (o := .cells #[.bool t1488, .slice Ao100 t1489.length co100] 59 (0, 0)) (by apply Sq.rb; exact BK1493.out) hb); have n11_ := Sq.m (blk_below (g := gb1498) (o := .cells #[.bool t1494, .slice Ao78 t1495.length co78] 59 (0, 0)) (by apply Sq.rb; exact BK1498.out) hb); have n12_ := Sq.m (blk_below (g := gb1503) (o := .cells #[.bool t1499, .slice Ao88 t1500.length co88] 59 (0, 0)) (by apply Sq.rb; exact BK1503.out) hb); have n13_ := Sq.m (blk_below (g := gb1509) (o := .cells #[.bool t1504, .slice Ao98 t1505.length co98] 59 (0, 0)) (by apply Sq.rb; exact BK1509.out) hb); have n14_ := Sq.m (below_step (by repeat (first | (with_reducible first | exact HB.out | apply Sq.rc | refine below_set ?_ GE1476.out | refine below_set ?_ GE1477.out | refine below_set ?_ GE1493.out | refine below_set ?_ GE1498.out | refine below_set ?_ GE1503.out | refine below_set ?_ GE1509.out) | exact HB.out)) hb); clear HO1483; clear HO1487; clear HO1491; clear HO1497; clear HO1502; clear HO1507; clear HO1514; clear HO1519; clear BK1476; clear BK1477; clear BK1493; clear BK1498; clear BK1503; clear BK1509; clear HB; have HO1483 := n0_; have HO1487 := n1_; have HO1491 := n2_; have HO1497 := n3_; have HO1502 := n4_; have HO1507 := n5_; have HO1514 := n6_; have HO1519 := n7_; have BK1476 := n8_; have BK1477 := n9_; have BK1493 := n10_; have BK1498 := n11_; have BK1503 := n12_; have BK1509 := n13_; have HB := n14_; clear n0_ n1_ n2_ n3_ n4_ n5_ n6_ n7_ n8_ n9_ n10_ n11_ n12_ n13_ n14_; (try clear hb); (try clear hb2); (try clear hk); (try clear hi)))
               have n0_ := Sq.m (Kd.R_drew HO1483.out)
               have n1_ := Sq.m (Kd.R_drew HO1487.out)
               have n2_ := Sq.m (Kd.R_drew HO1491.out)
               have n3_ := Sq.m (Kd.R_drew HO1497.out)
               have n4_ := Sq.m (Kd.R_drew HO1502.out)
               have n5_ := Sq.m (Kd.R_drew HO1507.out)
               have n6_ := Sq.m (Kd.R_drew HO1514.out)
               have n7_ := Sq.m (Kd.R_drew HO1519.out)
               have n8_ := Sq.m (blk_drew BK1476.out)
               have n9_ := Sq.m (blk_drew BK1477.out)
               have n10_ := Sq.m (blk_drew BK1493.out)
               have n11_ := Sq.m (blk_drew BK1498.out)
               have n12_ := Sq.m (blk_drew BK1503.out)
               have n13_ := Sq.m (blk_drew BK1509.out)
               have n14_ := Sq.m (below_drew1 HB.out)
               clear HO1483
               clear HO1487
               clear HO1491
               clear HO1497
               clear HO1502
               clear HO1507
               clear HO1514
               clear HO1519
               clear BK1476
               clear BK1477
               clear BK1493
               clear BK1498
               clear BK1503
               clear BK1509
               clear HB
               have HO1483 := n0_
               have HO1487 := n1_
               have HO1491 := n2_
               have HO1497 := n3_
               have HO1502 := n4_
               have HO1507 := n5_
               have HO1514 := n6_
               have HO1519 := n7_
               have BK1476 := n8_
               have BK1477 := n9_
               have BK1493 := n10_
               have BK1498 := n11_
               have BK1503 := n12_
               have BK1509 := n13_
               have HB := n14_
               clear n0_ n1_ n2_ n3_ n4_ n5_ n6_ n7_ n8_ n9_ n10_ n11_ n12_ n13_ n14_
               refine start_ (n := 11) (S := fun w' => True) (ds := []) #[false, false, false, false, false, false, false, false, false, false, false] (by kernel_rfl) rfl rfl trivial (fun hHeld => ?_); refine with_tabW laws_FnExactWholeMul.tab31 laws_FnExactWholeMul.bits31 (fun HT_ HW_ => ?_)
               generalize w120.drew = w121 at HO1483 HO1487 HO1491 HO1497 HO1502 HO1507 HO1514 HO1519 BK1476 BK1477 BK1493 BK1498 BK1503 BK1509 HB hHeld ⊢
               refine inv_at [0, 1, 2, 3, 4, 5, 6, 7, 8, 9, 10] (fun a0_ b a w' => ∃ (v1531 : Value) (v1535 : Value) (v1539 : Value) (gb1542 : Nat) (m1_ : Value) (m3_ : Value) (m4_ : Value) (m5_ : Value) (m6_ : Value) (m8_ : Value), a = putSel a0_ b [(0, 95, .agg #[.bool a0_0, .slice A0_1 l0_1.length c0_1]), (1, 96, m1_), (2, 97, .agg #[.bool a1_0, .slice A1_1 l1_1.length c1_1]), (3, 98, m3_), (4, 99, m4_), (5, 94, m5_), (6, 100, m6_), (7, 101, .bool t1541), (8, 15, m8_), (10, 16, .bool t1541)] ∧ (Kd.R (Kd.int .i64) 3 w' w.heap.size (fun k_ => some k_ ≠ (.slice Ao78 t1495.length co78 : Value).ownBlock ∧ some k_ ≠ (.slice Ao88 t1500.length co88 : Value).ownBlock ∧ some k_ ≠ (.slice Ao98 t1505.length co98 : Value).ownBlock ∧ some k_ ≠ (.slice Ao104 t1512.length co104 : Value).ownBlock ∧ some k_ ≠ (.slice Ao108 t1517.length co108 : Value).ownBlock) v1482 t1481) ∧ (Kd.R (Kd.int .i64) 3 w' w.heap.size (fun k_ => some k_ ≠ (.slice Ao78 t1495.length co78 : Value).ownBlock ∧ some k_ ≠ (.slice Ao88 t1500.length co88 : Value).ownBlock ∧ some k_ ≠ (.slice Ao98 t1505.length co98 : Value).ownBlock ∧ some k_ ≠ (.slice Ao104 t1512.length co104 : Value).ownBlock ∧ some k_ ≠ (.slice Ao108 t1517.length co108 : Value).ownBlock) v1486 t1485) ∧ (Kd.R (Kd.int .i64) 3 w' w.heap.size (fun k_ => some k_ ≠ (.slice Ao78 t1495.length co78 : Value).ownBlock ∧ some k_ ≠ (.slice Ao88 t1500.length co88 : Value).ownBlock ∧ some k_ ≠ (.slice Ao98 t1505.length co98 : Value).ownBlock ∧ some k_ ≠ (.slice Ao104 t1512.length co104 : Value).ownBlock ∧ some k_ ≠ (.slice Ao108 t1517.length co108 : Value).ownBlock) (.slice Ao100 t1489.length co100) t1489) ∧ (Kd.R (Kd.int .i64) 3 w' w.heap.size (fun k_ => some k_ ≠ (v1482 : Value).ownBlock ∧ some k_ ≠ (v1486 : Value).ownBlock ∧ some k_ ≠ (.slice Ao100 t1489.length co100 : Value).ownBlock ∧ some k_ ≠ (.slice Ao88 t1500.length co88 : Value).ownBlock ∧ some k_ ≠ (.slice Ao98 t1505.length co98 : Value).ownBlock ∧ some k_ ≠ (.slice Ao104 t1512.length co104 : Value).ownBlock ∧ some k_ ≠ (.slice Ao108 t1517.length co108 : Value).ownBlock) (.slice Ao78 t1495.length co78) t1522) ∧ (Kd.R (Kd.int .i64) 3 w' w.heap.size (fun k_ => some k_ ≠ (v1482 : Value).ownBlock ∧ some k_ ≠ (v1486 : Value).ownBlock ∧ some k_ ≠ (.slice Ao100 t1489.length co100 : Value).ownBlock ∧ some k_ ≠ (.slice Ao78 t1495.length co78 : Value).ownBlock ∧ some k_ ≠ (.slice Ao98 t1505.length co98 : Value).ownBlock ∧ some k_ ≠ (.slice Ao104 t1512.length co104 : Value).ownBlock ∧ some k_ ≠ (.slice Ao108 t1517.length co108 : Value).ownBlock) (.slice Ao88 t1500.length co88) t1524) ∧ (Kd.R (Kd.int .i64) 3 w' w.heap.size (fun k_ => some k_ ≠ (v1482 : Value).ownBlock ∧ some k_ ≠ (v1486 : Value).ownBlock ∧ some k_ ≠ (.slice Ao100 t1489.length co100 : Value).ownBlock ∧ some k_ ≠ (.slice Ao78 t1495.length co78 : Value).ownBlock ∧ some k_ ≠ (.slice Ao88 t1500.length co88 : Value).ownBlock ∧ some k_ ≠ (.slice Ao104 t1512.length co104 : Value).ownBlock ∧ some k_ ≠ (.slice Ao108 t1517.length co108 : Value).ownBlock) (.slice Ao98 t1505.length co98) t1527) ∧ (Kd.R (Kd.int .i64) 3 w' w.heap.size (fun k_ => some k_ ≠ (v1482 : Value).ownBlock ∧ some k_ ≠ (v1486 : Value).ownBlock ∧ some k_ ≠ (.slice Ao100 t1489.length co100 : Value).ownBlock ∧ some k_ ≠ (.slice Ao78 t1495.length co78 : Value).ownBlock ∧ some k_ ≠ (.slice Ao88 t1500.length co88 : Value).ownBlock ∧ some k_ ≠ (.slice Ao98 t1505.length co98 : Value).ownBlock ∧ some k_ ≠ (.slice Ao108 t1517.length co108 : Value).ownBlock) (.slice Ao104 t1512.length co104) t1512) ∧ (Kd.R (Kd.int .i64) 3 w' w.heap.size (fun k_ => some k_ ≠ (v1482 : Value).ownBlock ∧ some k_ ≠ (v1486 : Value).ownBlock ∧ some k_ ≠ (.slice Ao100 t1489.length co100 : Value).ownBlock ∧ some k_ ≠ (.slice Ao78 t1495.length co78 : Value).ownBlock ∧ some k_ ≠ (.slice Ao88 t1500.length co88 : Value).ownBlock ∧ some k_ ≠ (.slice Ao98 t1505.length co98 : Value).ownBlock ∧ some k_ ≠ (.slice Ao104 t1512.length co104 : Value).ownBlock) (.slice Ao108 t1517.length co108) t1517) ∧ (w'.heap[gb1476]? = some (.cells #[.bool a0_0, .slice A0_1 l0_1.length c0_1] 56 (0, 0))) ∧ (w'.heap[gb1477]? = some (.cells #[.bool a1_0, .slice A1_1 l1_1.length c1_1] 56 (0, 0))) ∧ (w'.heap[gb1493]? = some (.cells #[.bool t1488, .slice Ao100 t1489.length co100] 59 (0, 0))) ∧ (w'.heap[gb1498]? = some (.cells #[.bool t1494, .slice Ao78 t1495.length co78] 59 (0, 0))) ∧ (w'.heap[gb1503]? = some (.cells #[.bool t1499, .slice Ao88 t1500.length co88] 59 (0, 0))) ∧ (w'.heap[gb1509]? = some (.cells #[.bool t1504, .slice Ao98 t1505.length co98] 59 (0, 0))) ∧ (Below w.heap.size w w') ∧ (b 1 = true → Kd.R (Kd.int .i64) 3 w' w.heap.size (fun k_ => some k_ ≠ (v1482 : Value).ownBlock ∧ some k_ ≠ (v1486 : Value).ownBlock ∧ some k_ ≠ (.slice Ao100 t1489.length co100 : Value).ownBlock ∧ some k_ ≠ (.slice Ao78 t1495.length co78 : Value).ownBlock ∧ some k_ ≠ (.slice Ao88 t1500.length co88 : Value).ownBlock ∧ some k_ ≠ (.slice Ao98 t1505.length co98 : Value).ownBlock ∧ some k_ ≠ (.slice Ao104 t1512.length co104 : Value).ownBlock ∧ some k_ ≠ (.slice Ao108 t1517.length co108 : Value).ownBlock) v1531 t1530) ∧ (b 3 = true → Kd.R (Kd.int .i64) 3 w' w.heap.size (fun k_ => some k_ ≠ (v1482 : Value).ownBlock ∧ some k_ ≠ (v1486 : Value).ownBlock ∧ some k_ ≠ (.slice Ao100 t1489.length co100 : Value).ownBlock ∧ some k_ ≠ (.slice Ao78 t1495.length co78 : Value).ownBlock ∧ some k_ ≠ (.slice Ao88 t1500.length co88 : Value).ownBlock ∧ some k_ ≠ (.slice Ao98 t1505.length co98 : Value).ownBlock ∧ some k_ ≠ (.slice Ao104 t1512.length co104 : Value).ownBlock ∧ some k_ ≠ (.slice Ao108 t1517.length co108 : Value).ownBlock) v1535 t1534) ∧ (b 4 = true → Kd.R (Kd.int .i64) 3 w' w.heap.size (fun k_ => some k_ ≠ (v1482 : Value).ownBlock ∧ some k_ ≠ (v1486 : Value).ownBlock ∧ some k_ ≠ (.slice Ao100 t1489.length co100 : Value).ownBlock ∧ some k_ ≠ (.slice Ao78 t1495.length co78 : Value).ownBlock ∧ some k_ ≠ (.slice Ao88 t1500.length co88 : Value).ownBlock ∧ some k_ ≠ (.slice Ao98 t1505.length co98 : Value).ownBlock ∧ some k_ ≠ (.slice Ao104 t1512.length co104 : Value).ownBlock ∧ some k_ ≠ (.slice Ao108 t1517.length co108 : Value).ownBlock) v1539 t1538) ∧ (b 8 = true → b 9 = false → w'.heap[gb1542]? = some (.cells #[.bool false, .slice none 0 0] 59 (0, 0))) ∧ (b 8 = true → w.heap.size ≤ gb1542) ∧ (b 8 = true → w.heap.size ≤ gb1542) ∧ (b 8 = true → gb1476 ≠ gb1542) ∧ (b 8 = true → gb1542 ≠ gb1476) ∧ (b 8 = true → gb1477 ≠ gb1542) ∧ (b 8 = true → gb1542 ≠ gb1477) ∧ (b 8 = true → gb1493 ≠ gb1542) ∧ (b 8 = true → gb1542 ≠ gb1493) ∧ (b 8 = true → gb1498 ≠ gb1542) ∧ (b 8 = true → gb1542 ≠ gb1498) ∧ (b 8 = true → gb1503 ≠ gb1542) ∧ (b 8 = true → gb1542 ≠ gb1503) ∧ (b 8 = true → gb1509 ≠ gb1542) ∧ (b 8 = true → gb1542 ≠ gb1509) ∧ (b 9 = true → w'.heap[gb1542]? = some (.cells #[.bool t1537, v1539] 59 (0, 0))) ∧ (b 1 = true → (m1_ : Value) = .agg #[.bool t1529, v1531]) ∧ (b 3 = true → (m3_ : Value) = .agg #[.bool t1533, v1535]) ∧ (b 4 = true → (m4_ : Value) = .tuple #[.agg #[.bool t1537, v1539], .bool t1541]) ∧ (b 5 = true → (m5_ : Value) = .tuple #[.agg #[.bool t1537, v1539], .bool t1541]) ∧ (b 6 = true → (m6_ : Value) = .agg #[.bool t1537, v1539]) ∧ (b 8 = true → (m8_ : Value) = .pointer (some ⟨gb1542, 0, none⟩))) HT_.out HW_.out (by kernel_rfl) (by kernel_rfl) ?_ ?_ ?_
               ·exact ⟨.bool false, .bool false, .bool false, 0, .bool false, .bool false, .bool false, .bool false, .bool false, .bool false, by simp only [putSel, Bool.false_eq_true, if_false], HO1483.out, HO1487.out, HO1491.out, HO1497.out, HO1502.out, HO1507.out, HO1514.out, HO1519.out, BK1476.out, BK1477.out, BK1493.out, BK1498.out, BK1503.out, BK1509.out, HB.out, fun h_ => absurd h_ (by decide), fun h_ => absurd h_ (by decide), fun h_ => absurd h_ (by decide), fun h_ => absurd h_ (by decide), fun h_ => absurd h_ (by decide), fun h_ => absurd h_ (by decide), fun h_ => absurd h_ (by decide), fun h_ => absurd h_ (by decide), fun h_ => absurd h_ (by decide), fun h_ => absurd h_ (by decide), fun h_ => absurd h_ (by decide), fun h_ => absurd h_ (by decide), fun h_ => absurd h_ (by decide), fun h_ => absurd h_ (by decide), fun h_ => absurd h_ (by decide), fun h_ => absurd h_ (by decide), fun h_ => absurd h_ (by decide), fun h_ => absurd h_ (by decide), fun h_ => absurd h_ (by decide), fun h_ => absurd h_ (by decide), fun h_ => absurd h_ (by decide), fun h_ => absurd h_ (by decide), fun h_ => absurd h_ (by decide), fun h_ => absurd h_ (by decide), fun h_ => absurd h_ (by decide)⟩
               ·skip
                clear BK1476 BK1477 BK1493 BK1498 BK1503 BK1509 HB HO1483 HO1487 HO1491 HO1497 HO1502 HO1507 HO1514 HO1519
                refine steps_cons ?_ ?_
                ·rintro b a w' ⟨v1531, v1535, v1539, gb1542, m1_, m3_, m4_, m5_, m6_, m8_, ha, Q_HO1483, Q_HO1487, Q_HO1491, Q_HO1497, Q_HO1502, Q_HO1507, Q_HO1514, Q_HO1519, Q_BK1476, Q_BK1477, Q_BK1493, Q_BK1498, Q_BK1503, Q_BK1509, Q_HB, Q_HO1532, Q_HO1536, Q_HO1540, Q_BK1542, Q_GW1542, Q_GE1542, Q_NB1476_1542, Q_NB1542_1476, Q_NB1477_1542, Q_NB1542_1477, Q_NB1493_1542, Q_NB1542_1493, Q_NB1498_1542, Q_NB1542_1498, Q_NB1503_1542, Q_NB1542_1503, Q_NB1509_1542, Q_NB1542_1509, Q_BK1542_e9, Q_X1_, Q_X3_, Q_X4_, Q_X5_, Q_X6_, Q_X8_⟩ hb_ hon hoff
                 refine ⟨_, rfl, fun K hK => ?_⟩
                 have e2 : a.tmps[2]? = some (.pointer (some ⟨gb1476, 0, none⟩)) := by rw [ha]; exact (putSel_off rfl).trans rfl
                 replace ha := Aside0.mk ha
                 have HO1483 := Aside0.mk Q_HO1483
                 have HO1487 := Aside0.mk Q_HO1487
                 have HO1491 := Aside0.mk Q_HO1491
                 have HO1497 := Aside0.mk Q_HO1497
                 have HO1502 := Aside0.mk Q_HO1502
                 have HO1507 := Aside0.mk Q_HO1507
                 have HO1514 := Aside0.mk Q_HO1514
                 have HO1519 := Aside0.mk Q_HO1519
                 have BK1476 := Aside0.mk Q_BK1476
                 have BK1477 := Aside0.mk Q_BK1477
                 have BK1493 := Aside0.mk Q_BK1493
                 have BK1498 := Aside0.mk Q_BK1498
                 have BK1503 := Aside0.mk Q_BK1503
                 have BK1509 := Aside0.mk Q_BK1509
                 have HB := Aside0.mk Q_HB
                 have hc0_ : w'.cell? ⟨gb1476, 0, none⟩ = some (.bool a0_0) := (blk_cell BK1476.out 0).trans rfl
                 have hc1_ : w'.cell? ⟨gb1476, 1, none⟩ = some (.slice A0_1 l0_1.length c0_1) := (blk_cell BK1476.out 1).trans rfl
                 refine value_ (w1 := w') (v := .agg #[.bool a0_0, .slice A0_1 l0_1.length c0_1]) (by rfl) rfl ?_ ?_
                 ·go_simp
                  (try simp only [i64_w])
                  try rfl
                 refine hK.out _ _ ⟨v1531, v1535, v1539, gb1542, m1_, m3_, m4_, m5_, m6_, m8_, (by rw [ha.out]; exact putSel_upk 0 hb_ rfl rfl rfl), Q_HO1483, Q_HO1487, Q_HO1491, Q_HO1497, Q_HO1502, Q_HO1507, Q_HO1514, Q_HO1519, Q_BK1476, Q_BK1477, Q_BK1493, Q_BK1498, Q_BK1503, Q_BK1509, Q_HB, fun h0_ => absurd ((hoff 1 (by kernel_rfl)).symm.trans h0_) (by decide), fun h0_ => absurd ((hoff 3 (by kernel_rfl)).symm.trans h0_) (by decide), fun h0_ => absurd ((hoff 4 (by kernel_rfl)).symm.trans h0_) (by decide), Q_BK1542, Q_GW1542, Q_GE1542, Q_NB1476_1542, Q_NB1542_1476, Q_NB1477_1542, Q_NB1542_1477, Q_NB1493_1542, Q_NB1542_1493, Q_NB1498_1542, Q_NB1542_1498, Q_NB1503_1542, Q_NB1542_1503, Q_NB1509_1542, Q_NB1542_1509, fun h0_ => absurd ((hoff 9 (by kernel_rfl)).symm.trans h0_) (by decide), fun h0_ => absurd ((hoff 1 (by kernel_rfl)).symm.trans h0_) (by decide), fun h0_ => absurd ((hoff 3 (by kernel_rfl)).symm.trans h0_) (by decide), fun h0_ => absurd ((hoff 4 (by kernel_rfl)).symm.trans h0_) (by decide), fun h0_ => absurd ((hoff 5 (by kernel_rfl)).symm.trans h0_) (by decide), fun h0_ => absurd ((hoff 6 (by kernel_rfl)).symm.trans h0_) (by decide), Q_X8_⟩
                refine steps_cons ?_ ?_
                ·rintro b a w' ⟨v1531, v1535, v1539, gb1542, m1_, m3_, m4_, m5_, m6_, m8_, ha, Q_HO1483, Q_HO1487, Q_HO1491, Q_HO1497, Q_HO1502, Q_HO1507, Q_HO1514, Q_HO1519, Q_BK1476, Q_BK1477, Q_BK1493, Q_BK1498, Q_BK1503, Q_BK1509, Q_HB, Q_HO1532, Q_HO1536, Q_HO1540, Q_BK1542, Q_GW1542, Q_GE1542, Q_NB1476_1542, Q_NB1542_1476, Q_NB1477_1542, Q_NB1542_1477, Q_NB1493_1542, Q_NB1542_1493, Q_NB1498_1542, Q_NB1542_1498, Q_NB1503_1542, Q_NB1542_1503, Q_NB1509_1542, Q_NB1542_1509, Q_BK1542_e9, Q_X1_, Q_X3_, Q_X4_, Q_X5_, Q_X6_, Q_X8_⟩ hb_ hon hoff
                 refine ⟨_, rfl, fun K hK => ?_⟩
                 have e95 : a.tmps[95]? = some (.agg #[.bool a0_0, .slice A0_1 l0_1.length c0_1]) := by rw [ha]; exact putSel_on (e := (0, 95, .agg #[.bool a0_0, .slice A0_1 l0_1.length c0_1])) 0 rfl rfl (hon 0 (by kernel_rfl)) rfl
                 replace ha := Aside0.mk ha
                 have HO1483 := Aside0.mk Q_HO1483
                 have HO1487 := Aside0.mk Q_HO1487
                 have HO1491 := Aside0.mk Q_HO1491
                 have HO1497 := Aside0.mk Q_HO1497
                 have HO1502 := Aside0.mk Q_HO1502
                 have HO1507 := Aside0.mk Q_HO1507
                 have HO1514 := Aside0.mk Q_HO1514
                 have HO1519 := Aside0.mk Q_HO1519
                 have BK1476 := Aside0.mk Q_BK1476
                 have BK1477 := Aside0.mk Q_BK1477
                 have BK1493 := Aside0.mk Q_BK1493
                 have BK1498 := Aside0.mk Q_BK1498
                 have BK1503 := Aside0.mk Q_BK1503
                 have BK1509 := Aside0.mk Q_BK1509
                 have HB := Aside0.mk Q_HB
                 refine goes_ Try.func52 (by kernel_rfl) rfl #[.agg #[.bool a0_0, .slice A0_1 l0_1.length c0_1]] (by rfl) rfl rfl (by first | (simp only [List.map_toArray, List.map_cons, List.map_nil, Act.eval, Array.getD_eq_getD_getElem?, Option.getD_some, e95]; done) | (simp only [List.map_toArray, List.map_cons, List.map_nil, Act.eval, Array.getD_eq_getD_getElem?, Option.getD_some, e95]; rfl)) ?_
                 with_reducible refine (laws_toWhole.calls k a0_0 _ _ l0_1 t1529 t1530 _ ?side1 ?side2 A43.out).mono ?_
                 (case side1 => repeat (first | exact (Kd.C_below HR0_1.out HB.out) | (with_reducible refine Kd.C_alloc ?_ _) | (with_reducible refine Kd.C_drewN ?_ _) | (with_reducible refine Kd.C_drew ?_)))
                 (case side2 => exact HC0_1.out)
                 rintro e w122 ⟨v1531, rfl, ho0, hb⟩
                 refine ⟨_, rfl, ?_⟩
                 have n0_ := Sq.m (Kd.R_elder' (by apply Sq.ra; exact HO1483.out) (Kd.R_base ho0) hb)
                 have n1_ := Sq.m (Kd.R_elder' (by apply Sq.ra; exact HO1487.out) (Kd.R_base ho0) hb)
                 have n2_ := Sq.m (Kd.R_elder' (by apply Sq.ra; exact HO1491.out) (Kd.R_base ho0) hb)
                 have n3_ := Sq.m (Kd.R_elder' (by apply Sq.ra; exact HO1497.out) (Kd.R_base ho0) hb)
                 have n4_ := Sq.m (Kd.R_elder' (by apply Sq.ra; exact HO1502.out) (Kd.R_base ho0) hb)
                 have n5_ := Sq.m (Kd.R_elder' (by apply Sq.ra; exact HO1507.out) (Kd.R_base ho0) hb)
                 have n6_ := Sq.m (Kd.R_elder' (by apply Sq.ra; exact HO1514.out) (Kd.R_base ho0) hb)
                 have n7_ := Sq.m (Kd.R_elder' (by apply Sq.ra; exact HO1519.out) (Kd.R_base ho0) hb)
                 have n8_ := Sq.m (Kd.R_lower (Kd.R_new' (Kd.R_new' (Kd.R_new' (Kd.R_new' (Kd.R_new' (Kd.R_new' (Kd.R_new' (Kd.R_new' ho0 (Kd.R_lt (by apply Sq.ra; exact HO1483.out))) (Kd.R_lt (by apply Sq.ra; exact HO1487.out))) (Kd.R_lt (by apply Sq.ra; exact HO1491.out))) (Kd.R_lt (by apply Sq.ra; exact HO1497.out))) (Kd.R_lt (by apply Sq.ra; exact HO1502.out))) (Kd.R_lt (by apply Sq.ra; exact HO1507.out))) (Kd.R_lt (by apply Sq.ra; exact HO1514.out))) (Kd.R_lt (by apply Sq.ra; exact HO1519.out))) (below_size (by repeat (first | (with_reducible first | exact HB.out | apply Sq.rc | refine below_set ?_ GE1476.out | refine below_set ?_ GE1477.out | refine below_set ?_ GE1493.out | refine below_set ?_ GE1498.out | refine below_set ?_ GE1503.out | refine below_set ?_ GE1509.out) | exact HB.out))))
                 have n9_ := Sq.m (blk_below (g := gb1476) (o := .cells #[.bool a0_0, .slice A0_1 l0_1.length c0_1] 56 (0, 0)) (by apply Sq.rb; exact BK1476.out) hb)
                 have n10_ := Sq.m (blk_below (g := gb1477) (o := .cells #[.bool a1_0, .slice A1_1 l1_1.length c1_1] 56 (0, 0)) (by apply Sq.rb; exact BK1477.out) hb)
                 have n11_ := Sq.m (blk_below (g := gb1493) (o := .cells #[.bool t1488, .slice Ao100 t1489.length co100] 59 (0, 0)) (by apply Sq.rb; exact BK1493.out) hb)
                 have n12_ := Sq.m (blk_below (g := gb1498) (o := .cells #[.bool t1494, .slice Ao78 t1495.length co78] 59 (0, 0)) (by apply Sq.rb; exact BK1498.out) hb)
                 have n13_ := Sq.m (blk_below (g := gb1503) (o := .cells #[.bool t1499, .slice Ao88 t1500.length co88] 59 (0, 0)) (by apply Sq.rb; exact BK1503.out) hb)
                 have n14_ := Sq.m (blk_below (g := gb1509) (o := .cells #[.bool t1504, .slice Ao98 t1505.length co98] 59 (0, 0)) (by apply Sq.rb; exact BK1509.out) hb)
                 have n15_ := Sq.m (below_step (by repeat (first | (with_reducible first | exact HB.out | apply Sq.rc | refine below_set ?_ GE1476.out | refine below_set ?_ GE1477.out | refine below_set ?_ GE1493.out | refine below_set ?_ GE1498.out | refine below_set ?_ GE1503.out | refine below_set ?_ GE1509.out) | exact HB.out)) hb)
                 have z_BK1542 := fun (h0_ : b 8 = true) (h1_ : b 9 = false) => (show w122.heap[gb1542]? = some (.cells #[.bool false, .slice none 0 0] 59 (0, 0)) from by first | exact (blk_below (g := gb1542) (o := .cells #[.bool false, .slice none 0 0] 59 (0, 0)) (by apply Sq.rb; exact (Q_BK1542 h0_ h1_)) hb))
                 clear HO1483
                 clear HO1487
                 clear HO1491
                 clear HO1497
                 clear HO1502
                 clear HO1507
                 clear HO1514
                 clear HO1519
                 clear BK1476
                 clear BK1477
                 clear BK1493
                 clear BK1498
                 clear BK1503
                 clear BK1509
                 clear HB
                 have HO1483 := n0_
                 have HO1487 := n1_
                 have HO1491 := n2_
                 have HO1497 := n3_
                 have HO1502 := n4_
                 have HO1507 := n5_
                 have HO1514 := n6_
                 have HO1519 := n7_
                 have HO1532 := n8_
                 have BK1476 := n9_
                 have BK1477 := n10_
                 have BK1493 := n11_
                 have BK1498 := n12_
                 have BK1503 := n13_
                 have BK1509 := n14_
                 have HB := n15_
                 clear n0_ n1_ n2_ n3_ n4_ n5_ n6_ n7_ n8_ n9_ n10_ n11_ n12_ n13_ n14_ n15_
                 (try clear hb)
                 (try clear hb2)
                 (try clear hk)
                 (try clear hi)
                 (try clear ho0)
                 refine hK.out _ _ ⟨v1531, v1535, v1539, gb1542, (.agg #[.bool t1529, v1531]), m3_, m4_, m5_, m6_, m8_, (by rw [ha.out]; exact putSel_upk 1 hb_ rfl rfl rfl), (by apply Sq.ra; exact Kd.R_mono HO1483.out (fun _ hk => by first | exact True.intro | exact hk.1 | exact hk | exact ⟨hk.1.1, ⟨hk.1.2.1, ⟨hk.1.2.2.1, ⟨hk.1.2.2.2.1, ⟨hk.1.2.2.2.2, hk.2⟩⟩⟩⟩⟩ | simp only [hk, ne_eq, not_false_eq_true, and_self, and_true, true_and])), (by apply Sq.ra; exact Kd.R_mono HO1487.out (fun _ hk => by first | exact True.intro | exact hk.1 | exact hk | exact ⟨hk.1.1, ⟨hk.1.2.1, ⟨hk.1.2.2.1, ⟨hk.1.2.2.2.1, ⟨hk.1.2.2.2.2, hk.2⟩⟩⟩⟩⟩ | simp only [hk, ne_eq, not_false_eq_true, and_self, and_true, true_and])), (by apply Sq.ra; exact Kd.R_mono HO1491.out (fun _ hk => by first | exact True.intro | exact hk.1 | exact hk | exact ⟨hk.1.1, ⟨hk.1.2.1, ⟨hk.1.2.2.1, ⟨hk.1.2.2.2.1, ⟨hk.1.2.2.2.2, hk.2⟩⟩⟩⟩⟩ | simp only [hk, ne_eq, not_false_eq_true, and_self, and_true, true_and])), (by apply Sq.ra; exact Kd.R_mono HO1497.out (fun _ hk => by first | exact True.intro | exact hk.1 | exact hk | exact ⟨hk.1.1, ⟨hk.1.2.1, ⟨hk.1.2.2.1, ⟨hk.1.2.2.2.1, ⟨hk.1.2.2.2.2.1, ⟨hk.1.2.2.2.2.2.1, ⟨hk.1.2.2.2.2.2.2, hk.2⟩⟩⟩⟩⟩⟩⟩ | simp only [hk, ne_eq, not_false_eq_true, and_self, and_true, true_and])), (by apply Sq.ra; exact Kd.R_mono HO1502.out (fun _ hk => by first | exact True.intro | exact hk.1 | exact hk | exact ⟨hk.1.1, ⟨hk.1.2.1, ⟨hk.1.2.2.1, ⟨hk.1.2.2.2.1, ⟨hk.1.2.2.2.2.1, ⟨hk.1.2.2.2.2.2.1, ⟨hk.1.2.2.2.2.2.2, hk.2⟩⟩⟩⟩⟩⟩⟩ | simp only [hk, ne_eq, not_false_eq_true, and_self, and_true, true_and])), (by apply Sq.ra; exact Kd.R_mono HO1507.out (fun _ hk => by first | exact True.intro | exact hk.1 | exact hk | exact ⟨hk.1.1, ⟨hk.1.2.1, ⟨hk.1.2.2.1, ⟨hk.1.2.2.2.1, ⟨hk.1.2.2.2.2.1, ⟨hk.1.2.2.2.2.2.1, ⟨hk.1.2.2.2.2.2.2, hk.2⟩⟩⟩⟩⟩⟩⟩ | simp only [hk, ne_eq, not_false_eq_true, and_self, and_true, true_and])), (by apply Sq.ra; exact Kd.R_mono HO1514.out (fun _ hk => by first | exact True.intro | exact hk.1 | exact hk | exact ⟨hk.1.1, ⟨hk.1.2.1, ⟨hk.1.2.2.1, ⟨hk.1.2.2.2.1, ⟨hk.1.2.2.2.2.1, ⟨hk.1.2.2.2.2.2.1, ⟨hk.1.2.2.2.2.2.2, hk.2⟩⟩⟩⟩⟩⟩⟩ | simp only [hk, ne_eq, not_false_eq_true, and_self, and_true, true_and])), (by apply Sq.ra; exact Kd.R_mono HO1519.out (fun _ hk => by first | exact True.intro | exact hk.1 | exact hk | exact ⟨hk.1.1, ⟨hk.1.2.1, ⟨hk.1.2.2.1, ⟨hk.1.2.2.2.1, ⟨hk.1.2.2.2.2.1, ⟨hk.1.2.2.2.2.2.1, ⟨hk.1.2.2.2.2.2.2, hk.2⟩⟩⟩⟩⟩⟩⟩ | simp only [hk, ne_eq, not_false_eq_true, and_self, and_true, true_and])), (by apply Sq.rb; exact BK1476.out), (by apply Sq.rb; exact BK1477.out), (by apply Sq.rb; exact BK1493.out), (by apply Sq.rb; exact BK1498.out), (by apply Sq.rb; exact BK1503.out), (by apply Sq.rb; exact BK1509.out), (by repeat (first | (with_reducible first | exact HB.out | apply Sq.rc | refine below_set ?_ GE1476.out | refine below_set ?_ GE1477.out | refine below_set ?_ GE1493.out | refine below_set ?_ GE1498.out | refine below_set ?_ GE1503.out | refine below_set ?_ GE1509.out) | exact HB.out)), fun _ => (by apply Sq.ra; exact Kd.R_mono HO1532.out (fun _ hk => ⟨hk.1.1.1.1.1.1.1.2, ⟨hk.1.1.1.1.1.1.2, ⟨hk.1.1.1.1.1.2, ⟨hk.1.1.1.1.2, ⟨hk.1.1.1.2, ⟨hk.1.1.2, ⟨hk.1.2, hk.2⟩⟩⟩⟩⟩⟩⟩)), fun h0_ => absurd ((hoff 3 (by kernel_rfl)).symm.trans h0_) (by decide), fun h0_ => absurd ((hoff 4 (by kernel_rfl)).symm.trans h0_) (by decide), z_BK1542, Q_GW1542, Q_GE1542, Q_NB1476_1542, Q_NB1542_1476, Q_NB1477_1542, Q_NB1542_1477, Q_NB1493_1542, Q_NB1542_1493, Q_NB1498_1542, Q_NB1542_1498, Q_NB1503_1542, Q_NB1542_1503, Q_NB1509_1542, Q_NB1542_1509, fun h0_ => absurd ((hoff 9 (by kernel_rfl)).symm.trans h0_) (by decide), fun _ => rfl, fun h0_ => absurd ((hoff 3 (by kernel_rfl)).symm.trans h0_) (by decide), fun h0_ => absurd ((hoff 4 (by kernel_rfl)).symm.trans h0_) (by decide), fun h0_ => absurd ((hoff 5 (by kernel_rfl)).symm.trans h0_) (by decide), fun h0_ => absurd ((hoff 6 (by kernel_rfl)).symm.trans h0_) (by decide), Q_X8_⟩
                refine steps_cons ?_ ?_
                ·rintro b a w' ⟨v1531, v1535, v1539, gb1542, m1_, m3_, m4_, m5_, m6_, m8_, ha, Q_HO1483, Q_HO1487, Q_HO1491, Q_HO1497, Q_HO1502, Q_HO1507, Q_HO1514, Q_HO1519, Q_BK1476, Q_BK1477, Q_BK1493, Q_BK1498, Q_BK1503, Q_BK1509, Q_HB, Q_HO1532, Q_HO1536, Q_HO1540, Q_BK1542, Q_GW1542, Q_GE1542, Q_NB1476_1542, Q_NB1542_1476, Q_NB1477_1542, Q_NB1542_1477, Q_NB1493_1542, Q_NB1542_1493, Q_NB1498_1542, Q_NB1542_1498, Q_NB1503_1542, Q_NB1542_1503, Q_NB1509_1542, Q_NB1542_1509, Q_BK1542_e9, Q_X1_, Q_X3_, Q_X4_, Q_X5_, Q_X6_, Q_X8_⟩ hb_ hon hoff
                 refine ⟨_, rfl, fun K hK => ?_⟩
                 have e3 : a.tmps[3]? = some (.pointer (some ⟨gb1477, 0, none⟩)) := by rw [ha]; exact (putSel_off rfl).trans rfl
                 replace ha := Aside0.mk ha
                 have HO1483 := Aside0.mk Q_HO1483
                 have HO1487 := Aside0.mk Q_HO1487
                 have HO1491 := Aside0.mk Q_HO1491
                 have HO1497 := Aside0.mk Q_HO1497
                 have HO1502 := Aside0.mk Q_HO1502
                 have HO1507 := Aside0.mk Q_HO1507
                 have HO1514 := Aside0.mk Q_HO1514
                 have HO1519 := Aside0.mk Q_HO1519
                 have BK1476 := Aside0.mk Q_BK1476
                 have BK1477 := Aside0.mk Q_BK1477
                 have BK1493 := Aside0.mk Q_BK1493
                 have BK1498 := Aside0.mk Q_BK1498
                 have BK1503 := Aside0.mk Q_BK1503
                 have BK1509 := Aside0.mk Q_BK1509
                 have HB := Aside0.mk Q_HB
                 have hc0_ : w'.cell? ⟨gb1477, 0, none⟩ = some (.bool a1_0) := (blk_cell BK1477.out 0).trans rfl
                 have hc1_ : w'.cell? ⟨gb1477, 1, none⟩ = some (.slice A1_1 l1_1.length c1_1) := (blk_cell BK1477.out 1).trans rfl
                 refine value_ (w1 := w') (v := .agg #[.bool a1_0, .slice A1_1 l1_1.length c1_1]) (by rfl) rfl ?_ ?_
                 ·go_simp
                  (try simp only [i64_w])
                  try rfl
                 refine hK.out _ _ ⟨v1531, v1535, v1539, gb1542, m1_, m3_, m4_, m5_, m6_, m8_, (by rw [ha.out]; exact putSel_upk 2 hb_ rfl rfl rfl), Q_HO1483, Q_HO1487, Q_HO1491, Q_HO1497, Q_HO1502, Q_HO1507, Q_HO1514, Q_HO1519, Q_BK1476, Q_BK1477, Q_BK1493, Q_BK1498, Q_BK1503, Q_BK1509, Q_HB, Q_HO1532, fun h0_ => absurd ((hoff 3 (by kernel_rfl)).symm.trans h0_) (by decide), fun h0_ => absurd ((hoff 4 (by kernel_rfl)).symm.trans h0_) (by decide), Q_BK1542, Q_GW1542, Q_GE1542, Q_NB1476_1542, Q_NB1542_1476, Q_NB1477_1542, Q_NB1542_1477, Q_NB1493_1542, Q_NB1542_1493, Q_NB1498_1542, Q_NB1542_1498, Q_NB1503_1542, Q_NB1542_1503, Q_NB1509_1542, Q_NB1542_1509, fun h0_ => absurd ((hoff 9 (by kernel_rfl)).symm.trans h0_) (by decide), Q_X1_, fun h0_ => absurd ((hoff 3 (by kernel_rfl)).symm.trans h0_) (by decide), fun h0_ => absurd ((hoff 4 (by kernel_rfl)).symm.trans h0_) (by decide), fun h0_ => absurd ((hoff 5 (by kernel_rfl)).symm.trans h0_) (by decide), fun h0_ => absurd ((hoff 6 (by kernel_rfl)).symm.trans h0_) (by decide), Q_X8_⟩
                refine steps_cons ?_ ?_
                ·rintro b a w' ⟨v1531, v1535, v1539, gb1542, m1_, m3_, m4_, m5_, m6_, m8_, ha, Q_HO1483, Q_HO1487, Q_HO1491, Q_HO1497, Q_HO1502, Q_HO1507, Q_HO1514, Q_HO1519, Q_BK1476, Q_BK1477, Q_BK1493, Q_BK1498, Q_BK1503, Q_BK1509, Q_HB, Q_HO1532, Q_HO1536, Q_HO1540, Q_BK1542, Q_GW1542, Q_GE1542, Q_NB1476_1542, Q_NB1542_1476, Q_NB1477_1542, Q_NB1542_1477, Q_NB1493_1542, Q_NB1542_1493, Q_NB1498_1542, Q_NB1542_1498, Q_NB1503_1542, Q_NB1542_1503, Q_NB1509_1542, Q_NB1542_1509, Q_BK1542_e9, Q_X1_, Q_X3_, Q_X4_, Q_X5_, Q_X6_, Q_X8_⟩ hb_ hon hoff
                 refine ⟨_, rfl, fun K hK => ?_⟩
                 have e97 : a.tmps[97]? = some (.agg #[.bool a1_0, .slice A1_1 l1_1.length c1_1]) := by rw [ha]; exact putSel_on (e := (2, 97, .agg #[.bool a1_0, .slice A1_1 l1_1.length c1_1])) 2 rfl rfl (hon 2 (by kernel_rfl)) rfl
                 replace ha := Aside0.mk ha
                 have HO1483 := Aside0.mk Q_HO1483
                 have HO1487 := Aside0.mk Q_HO1487
                 have HO1491 := Aside0.mk Q_HO1491
                 have HO1497 := Aside0.mk Q_HO1497
                 have HO1502 := Aside0.mk Q_HO1502
                 have HO1507 := Aside0.mk Q_HO1507
                 have HO1514 := Aside0.mk Q_HO1514
                 have HO1519 := Aside0.mk Q_HO1519
                 have BK1476 := Aside0.mk Q_BK1476
                 have BK1477 := Aside0.mk Q_BK1477
                 have BK1493 := Aside0.mk Q_BK1493
                 have BK1498 := Aside0.mk Q_BK1498
                 have BK1503 := Aside0.mk Q_BK1503
                 have BK1509 := Aside0.mk Q_BK1509
                 have HB := Aside0.mk Q_HB
                 have HO1532 := Sq.m (Q_HO1532 (hon 1 (by kernel_rfl)))
                 refine goes_ Try.func52 (by kernel_rfl) rfl #[.agg #[.bool a1_0, .slice A1_1 l1_1.length c1_1]] (by rfl) rfl rfl (by first | (simp only [List.map_toArray, List.map_cons, List.map_nil, Act.eval, Array.getD_eq_getD_getElem?, Option.getD_some, e97]; done) | (simp only [List.map_toArray, List.map_cons, List.map_nil, Act.eval, Array.getD_eq_getD_getElem?, Option.getD_some, e97]; rfl)) ?_
                 with_reducible refine (laws_toWhole.calls k a1_0 _ _ l1_1 t1533 t1534 _ ?side1 ?side2 A44.out).mono ?_
                 (case side1 => repeat (first | exact (Kd.C_below HR1_1.out HB.out) | (with_reducible refine Kd.C_alloc ?_ _) | (with_reducible refine Kd.C_drewN ?_ _) | (with_reducible refine Kd.C_drew ?_)))
                 (case side2 => exact HC1_1.out)
                 rintro e w124 ⟨v1535, rfl, ho0, hb⟩
                 refine ⟨_, rfl, ?_⟩
                 have n0_ := Sq.m (Kd.R_elder' (by apply Sq.ra; exact HO1483.out) (Kd.R_base ho0) hb)
                 have n1_ := Sq.m (Kd.R_elder' (by apply Sq.ra; exact HO1487.out) (Kd.R_base ho0) hb)
                 have n2_ := Sq.m (Kd.R_elder' (by apply Sq.ra; exact HO1491.out) (Kd.R_base ho0) hb)
                 have n3_ := Sq.m (Kd.R_elder' (by apply Sq.ra; exact HO1497.out) (Kd.R_base ho0) hb)
                 have n4_ := Sq.m (Kd.R_elder' (by apply Sq.ra; exact HO1502.out) (Kd.R_base ho0) hb)
                 have n5_ := Sq.m (Kd.R_elder' (by apply Sq.ra; exact HO1507.out) (Kd.R_base ho0) hb)
                 have n6_ := Sq.m (Kd.R_elder' (by apply Sq.ra; exact HO1514.out) (Kd.R_base ho0) hb)
                 have n7_ := Sq.m (Kd.R_elder' (by apply Sq.ra; exact HO1519.out) (Kd.R_base ho0) hb)
                 have n8_ := Sq.m (Kd.R_elder' (by apply Sq.ra; exact HO1532.out) (Kd.R_base ho0) hb)
                 have n9_ := Sq.m (Kd.R_lower (Kd.R_new' (Kd.R_new' (Kd.R_new' (Kd.R_new' (Kd.R_new' (Kd.R_new' (Kd.R_new' (Kd.R_new' (Kd.R_new' ho0 (Kd.R_lt (by apply Sq.ra; exact HO1483.out))) (Kd.R_lt (by apply Sq.ra; exact HO1487.out))) (Kd.R_lt (by apply Sq.ra; exact HO1491.out))) (Kd.R_lt (by apply Sq.ra; exact HO1497.out))) (Kd.R_lt (by apply Sq.ra; exact HO1502.out))) (Kd.R_lt (by apply Sq.ra; exact HO1507.out))) (Kd.R_lt (by apply Sq.ra; exact HO1514.out))) (Kd.R_lt (by apply Sq.ra; exact HO1519.out))) (Kd.R_lt (by apply Sq.ra; exact HO1532.out))) (below_size (by repeat (first | (with_reducible first | exact HB.out | apply Sq.rc | refine below_set ?_ GE1476.out | refine below_set ?_ GE1477.out | refine below_set ?_ GE1493.out | refine below_set ?_ GE1498.out | refine below_set ?_ GE1503.out | refine below_set ?_ GE1509.out) | exact HB.out))))
                 have n10_ := Sq.m (blk_below (g := gb1476) (o := .cells #[.bool a0_0, .slice A0_1 l0_1.length c0_1] 56 (0, 0)) (by apply Sq.rb; exact BK1476.out) hb)
                 have n11_ := Sq.m (blk_below (g := gb1477) (o := .cells #[.bool a1_0, .slice A1_1 l1_1.length c1_1] 56 (0, 0)) (by apply Sq.rb; exact BK1477.out) hb)
                 have n12_ := Sq.m (blk_below (g := gb1493) (o := .cells #[.bool t1488, .slice Ao100 t1489.length co100] 59 (0, 0)) (by apply Sq.rb; exact BK1493.out) hb)
                 have n13_ := Sq.m (blk_below (g := gb1498) (o := .cells #[.bool t1494, .slice Ao78 t1495.length co78] 59 (0, 0)) (by apply Sq.rb; exact BK1498.out) hb)
                 have n14_ := Sq.m (blk_below (g := gb1503) (o := .cells #[.bool t1499, .slice Ao88 t1500.length co88] 59 (0, 0)) (by apply Sq.rb; exact BK1503.out) hb)
                 have n15_ := Sq.m (blk_below (g := gb1509) (o := .cells #[.bool t1504, .slice Ao98 t1505.length co98] 59 (0, 0)) (by apply Sq.rb; exact BK1509.out) hb)
                 have n16_ := Sq.m (below_step (by repeat (first | (with_reducible first | exact HB.out | apply Sq.rc | refine below_set ?_ GE1476.out | refine below_set ?_ GE1477.out | refine below_set ?_ GE1493.out | refine below_set ?_ GE1498.out | refine below_set ?_ GE1503.out | refine below_set ?_ GE1509.out) | exact HB.out)) hb)
                 have z_BK1542 := fun (h0_ : b 8 = true) (h1_ : b 9 = false) => (show w124.heap[gb1542]? = some (.cells #[.bool false, .slice none 0 0] 59 (0, 0)) from by first | exact (blk_below (g := gb1542) (o := .cells #[.bool false, .slice none 0 0] 59 (0, 0)) (by apply Sq.rb; exact (Q_BK1542 h0_ h1_)) hb))
                 clear HO1483
                 clear HO1487
                 clear HO1491
                 clear HO1497
                 clear HO1502
                 clear HO1507
                 clear HO1514
                 clear HO1519
                 clear HO1532
                 clear BK1476
                 clear BK1477
                 clear BK1493
                 clear BK1498
                 clear BK1503
                 clear BK1509
                 clear HB
                 have HO1483 := n0_
                 have HO1487 := n1_
                 have HO1491 := n2_
                 have HO1497 := n3_
                 have HO1502 := n4_
                 have HO1507 := n5_
                 have HO1514 := n6_
                 have HO1519 := n7_
                 have HO1532 := n8_
                 have HO1536 := n9_
                 have BK1476 := n10_
                 have BK1477 := n11_
                 have BK1493 := n12_
                 have BK1498 := n13_
                 have BK1503 := n14_
                 have BK1509 := n15_
                 have HB := n16_
                 clear n0_ n1_ n2_ n3_ n4_ n5_ n6_ n7_ n8_ n9_ n10_ n11_ n12_ n13_ n14_ n15_ n16_
                 (try clear hb)
                 (try clear hb2)
                 (try clear hk)
                 (try clear hi)
                 (try clear ho0)
                 refine hK.out _ _ ⟨v1531, v1535, v1539, gb1542, m1_, (.agg #[.bool t1533, v1535]), m4_, m5_, m6_, m8_, (by rw [ha.out]; exact putSel_upk 3 hb_ rfl rfl rfl), (by apply Sq.ra; exact Kd.R_mono HO1483.out (fun _ hk => by first | exact True.intro | exact hk.1 | exact hk | exact ⟨hk.1.1, ⟨hk.1.2.1, ⟨hk.1.2.2.1, ⟨hk.1.2.2.2.1, ⟨hk.1.2.2.2.2, hk.2⟩⟩⟩⟩⟩ | simp only [hk, ne_eq, not_false_eq_true, and_self, and_true, true_and])), (by apply Sq.ra; exact Kd.R_mono HO1487.out (fun _ hk => by first | exact True.intro | exact hk.1 | exact hk | exact ⟨hk.1.1, ⟨hk.1.2.1, ⟨hk.1.2.2.1, ⟨hk.1.2.2.2.1, ⟨hk.1.2.2.2.2, hk.2⟩⟩⟩⟩⟩ | simp only [hk, ne_eq, not_false_eq_true, and_self, and_true, true_and])), (by apply Sq.ra; exact Kd.R_mono HO1491.out (fun _ hk => by first | exact True.intro | exact hk.1 | exact hk | exact ⟨hk.1.1, ⟨hk.1.2.1, ⟨hk.1.2.2.1, ⟨hk.1.2.2.2.1, ⟨hk.1.2.2.2.2, hk.2⟩⟩⟩⟩⟩ | simp only [hk, ne_eq, not_false_eq_true, and_self, and_true, true_and])), (by apply Sq.ra; exact Kd.R_mono HO1497.out (fun _ hk => by first | exact True.intro | exact hk.1 | exact hk | exact ⟨hk.1.1, ⟨hk.1.2.1, ⟨hk.1.2.2.1, ⟨hk.1.2.2.2.1, ⟨hk.1.2.2.2.2.1, ⟨hk.1.2.2.2.2.2.1, ⟨hk.1.2.2.2.2.2.2, hk.2⟩⟩⟩⟩⟩⟩⟩ | simp only [hk, ne_eq, not_false_eq_true, and_self, and_true, true_and])), (by apply Sq.ra; exact Kd.R_mono HO1502.out (fun _ hk => by first | exact True.intro | exact hk.1 | exact hk | exact ⟨hk.1.1, ⟨hk.1.2.1, ⟨hk.1.2.2.1, ⟨hk.1.2.2.2.1, ⟨hk.1.2.2.2.2.1, ⟨hk.1.2.2.2.2.2.1, ⟨hk.1.2.2.2.2.2.2, hk.2⟩⟩⟩⟩⟩⟩⟩ | simp only [hk, ne_eq, not_false_eq_true, and_self, and_true, true_and])), (by apply Sq.ra; exact Kd.R_mono HO1507.out (fun _ hk => by first | exact True.intro | exact hk.1 | exact hk | exact ⟨hk.1.1, ⟨hk.1.2.1, ⟨hk.1.2.2.1, ⟨hk.1.2.2.2.1, ⟨hk.1.2.2.2.2.1, ⟨hk.1.2.2.2.2.2.1, ⟨hk.1.2.2.2.2.2.2, hk.2⟩⟩⟩⟩⟩⟩⟩ | simp only [hk, ne_eq, not_false_eq_true, and_self, and_true, true_and])), (by apply Sq.ra; exact Kd.R_mono HO1514.out (fun _ hk => by first | exact True.intro | exact hk.1 | exact hk | exact ⟨hk.1.1, ⟨hk.1.2.1, ⟨hk.1.2.2.1, ⟨hk.1.2.2.2.1, ⟨hk.1.2.2.2.2.1, ⟨hk.1.2.2.2.2.2.1, ⟨hk.1.2.2.2.2.2.2, hk.2⟩⟩⟩⟩⟩⟩⟩ | simp only [hk, ne_eq, not_false_eq_true, and_self, and_true, true_and])), (by apply Sq.ra; exact Kd.R_mono HO1519.out (fun _ hk => by first | exact True.intro | exact hk.1 | exact hk | exact ⟨hk.1.1, ⟨hk.1.2.1, ⟨hk.1.2.2.1, ⟨hk.1.2.2.2.1, ⟨hk.1.2.2.2.2.1, ⟨hk.1.2.2.2.2.2.1, ⟨hk.1.2.2.2.2.2.2, hk.2⟩⟩⟩⟩⟩⟩⟩ | simp only [hk, ne_eq, not_false_eq_true, and_self, and_true, true_and])), (by apply Sq.rb; exact BK1476.out), (by apply Sq.rb; exact BK1477.out), (by apply Sq.rb; exact BK1493.out), (by apply Sq.rb; exact BK1498.out), (by apply Sq.rb; exact BK1503.out), (by apply Sq.rb; exact BK1509.out), (by repeat (first | (with_reducible first | exact HB.out | apply Sq.rc | refine below_set ?_ GE1476.out | refine below_set ?_ GE1477.out | refine below_set ?_ GE1493.out | refine below_set ?_ GE1498.out | refine below_set ?_ GE1503.out | refine below_set ?_ GE1509.out) | exact HB.out)), fun _ => (by apply Sq.ra; exact Kd.R_mono HO1532.out (fun _ hk => by first | exact True.intro | exact hk.1 | exact hk | exact ⟨hk.1.1, ⟨hk.1.2.1, ⟨hk.1.2.2.1, ⟨hk.1.2.2.2.1, ⟨hk.1.2.2.2.2.1, ⟨hk.1.2.2.2.2.2.1, ⟨hk.1.2.2.2.2.2.2.1, ⟨hk.1.2.2.2.2.2.2.2, hk.2⟩⟩⟩⟩⟩⟩⟩⟩ | simp only [hk, ne_eq, not_false_eq_true, and_self, and_true, true_and])), fun _ => (by apply Sq.ra; exact Kd.R_mono HO1536.out (fun _ hk => by first | exact True.intro | exact hk.1 | exact hk | exact ⟨hk.1.1.1.1.1.1.1.1.2, ⟨hk.1.1.1.1.1.1.1.2, ⟨hk.1.1.1.1.1.1.2, ⟨hk.1.1.1.1.1.2, ⟨hk.1.1.1.1.2, ⟨hk.1.1.1.2, ⟨hk.1.1.2, ⟨hk.1.2, hk.2⟩⟩⟩⟩⟩⟩⟩⟩ | simp only [hk, ne_eq, not_false_eq_true, and_self, and_true, true_and])), fun h0_ => absurd ((hoff 4 (by kernel_rfl)).symm.trans h0_) (by decide), z_BK1542, Q_GW1542, Q_GE1542, Q_NB1476_1542, Q_NB1542_1476, Q_NB1477_1542, Q_NB1542_1477, Q_NB1493_1542, Q_NB1542_1493, Q_NB1498_1542, Q_NB1542_1498, Q_NB1503_1542, Q_NB1542_1503, Q_NB1509_1542, Q_NB1542_1509, fun h0_ => absurd ((hoff 9 (by kernel_rfl)).symm.trans h0_) (by decide), Q_X1_, fun _ => rfl, fun h0_ => absurd ((hoff 4 (by kernel_rfl)).symm.trans h0_) (by decide), fun h0_ => absurd ((hoff 5 (by kernel_rfl)).symm.trans h0_) (by decide), fun h0_ => absurd ((hoff 6 (by kernel_rfl)).symm.trans h0_) (by decide), Q_X8_⟩
                refine steps_cons ?_ ?_
                ·rintro b a w' ⟨v1531, v1535, v1539, gb1542, m1_, m3_, m4_, m5_, m6_, m8_, ha, Q_HO1483, Q_HO1487, Q_HO1491, Q_HO1497, Q_HO1502, Q_HO1507, Q_HO1514, Q_HO1519, Q_BK1476, Q_BK1477, Q_BK1493, Q_BK1498, Q_BK1503, Q_BK1509, Q_HB, Q_HO1532, Q_HO1536, Q_HO1540, Q_BK1542, Q_GW1542, Q_GE1542, Q_NB1476_1542, Q_NB1542_1476, Q_NB1477_1542, Q_NB1542_1477, Q_NB1493_1542, Q_NB1542_1493, Q_NB1498_1542, Q_NB1542_1498, Q_NB1503_1542, Q_NB1542_1503, Q_NB1509_1542, Q_NB1542_1509, Q_BK1542_e9, Q_X1_, Q_X3_, Q_X4_, Q_X5_, Q_X6_, Q_X8_⟩ hb_ hon hoff
                 refine ⟨_, rfl, fun K hK => ?_⟩
                 have e96 : a.tmps[96]? = some (m1_) := by rw [ha]; exact putSel_on (e := (1, 96, m1_)) 1 rfl rfl (hon 1 (by kernel_rfl)) rfl
                 rw [Q_X1_ (hon 1 (by kernel_rfl))] at e96
                 have e98 : a.tmps[98]? = some (m3_) := by rw [ha]; exact putSel_on (e := (3, 98, m3_)) 3 rfl rfl (hon 3 (by kernel_rfl)) rfl
                 rw [Q_X3_ (hon 3 (by kernel_rfl))] at e98
                 replace ha := Aside0.mk ha
                 have HO1483 := Aside0.mk Q_HO1483
                 have HO1487 := Aside0.mk Q_HO1487
                 have HO1491 := Aside0.mk Q_HO1491
                 have HO1497 := Aside0.mk Q_HO1497
                 have HO1502 := Aside0.mk Q_HO1502
                 have HO1507 := Aside0.mk Q_HO1507
                 have HO1514 := Aside0.mk Q_HO1514
                 have HO1519 := Aside0.mk Q_HO1519
                 have BK1476 := Aside0.mk Q_BK1476
                 have BK1477 := Aside0.mk Q_BK1477
                 have BK1493 := Aside0.mk Q_BK1493
                 have BK1498 := Aside0.mk Q_BK1498
                 have BK1503 := Aside0.mk Q_BK1503
                 have BK1509 := Aside0.mk Q_BK1509
                 have HB := Aside0.mk Q_HB
                 have HO1532 := Sq.m (Q_HO1532 (hon 1 (by kernel_rfl)))
                 have HO1536 := Sq.m (Q_HO1536 (hon 3 (by kernel_rfl)))
                 obtain ⟨Ao125, co125, eo125⟩ := Kd.R_slice HO1532.out
                 (first | subst eo125 | (injection eo125 with f1_ f2_ f3_; have f4_ := f1_.symm; have f5_ := f3_.symm; clear f1_ f2_ f3_; subst f4_; subst f5_))
                 obtain ⟨Ao126, co126, eo126⟩ := Kd.R_slice HO1536.out
                 (first | subst eo126 | (injection eo126 with f1_ f2_ f3_; have f4_ := f1_.symm; have f5_ := f3_.symm; clear f1_ f2_ f3_; subst f4_; subst f5_))
                 refine goes_ Try.func60 (by kernel_rfl) rfl #[.agg #[.bool t1529, .slice Ao125 t1530.length co125], .agg #[.bool t1533, .slice Ao126 t1534.length co126]] (by rfl) rfl rfl (by first | (simp only [List.map_toArray, List.map_cons, List.map_nil, Act.eval, Array.getD_eq_getD_getElem?, Option.getD_some, e96, e98]; done) | (simp only [List.map_toArray, List.map_cons, List.map_nil, Act.eval, Array.getD_eq_getD_getElem?, Option.getD_some, e96, e98]; rfl)) ?_
                 with_reducible refine (impl_WholeMul.calls k t1529 _ _ t1530 t1533 _ _ t1534 t1537 t1538 t1541 _ ?side1 ?side2 ?side3 ?side4 A45.out).mono ?_
                 (case side1 => repeat (first | exact (Kd.R_reads' HO1532.out).2.2 | (with_reducible refine Kd.C_alloc ?_ _) | (with_reducible refine Kd.C_drewN ?_ _) | (with_reducible refine Kd.C_drew ?_)))
                 (case side2 => exact (Kd.R_reads' HO1532.out).2.1)
                 (case side3 => repeat (first | exact (Kd.R_reads' HO1536.out).2.2 | (with_reducible refine Kd.C_alloc ?_ _) | (with_reducible refine Kd.C_drewN ?_ _) | (with_reducible refine Kd.C_drew ?_)))
                 (case side4 => exact (Kd.R_reads' HO1536.out).2.1)
                 rintro e w127 ⟨v1539, rfl, ho0, hb⟩
                 refine ⟨_, rfl, ?_⟩
                 have n0_ := Sq.m (Kd.R_elder' (by apply Sq.ra; exact HO1483.out) (Kd.R_base ho0) hb)
                 have n1_ := Sq.m (Kd.R_elder' (by apply Sq.ra; exact HO1487.out) (Kd.R_base ho0) hb)
                 have n2_ := Sq.m (Kd.R_elder' (by apply Sq.ra; exact HO1491.out) (Kd.R_base ho0) hb)
                 have n3_ := Sq.m (Kd.R_elder' (by apply Sq.ra; exact HO1497.out) (Kd.R_base ho0) hb)
                 have n4_ := Sq.m (Kd.R_elder' (by apply Sq.ra; exact HO1502.out) (Kd.R_base ho0) hb)
                 have n5_ := Sq.m (Kd.R_elder' (by apply Sq.ra; exact HO1507.out) (Kd.R_base ho0) hb)
                 have n6_ := Sq.m (Kd.R_elder' (by apply Sq.ra; exact HO1514.out) (Kd.R_base ho0) hb)
                 have n7_ := Sq.m (Kd.R_elder' (by apply Sq.ra; exact HO1519.out) (Kd.R_base ho0) hb)
                 have n8_ := Sq.m (Kd.R_elder' (by apply Sq.ra; exact HO1532.out) (Kd.R_base ho0) hb)
                 have n9_ := Sq.m (Kd.R_elder' (by apply Sq.ra; exact HO1536.out) (Kd.R_base ho0) hb)
                 have n10_ := Sq.m (Kd.R_lower (Kd.R_new' (Kd.R_new' (Kd.R_new' (Kd.R_new' (Kd.R_new' (Kd.R_new' (Kd.R_new' (Kd.R_new' (Kd.R_new' (Kd.R_new' ho0 (Kd.R_lt (by apply Sq.ra; exact HO1483.out))) (Kd.R_lt (by apply Sq.ra; exact HO1487.out))) (Kd.R_lt (by apply Sq.ra; exact HO1491.out))) (Kd.R_lt (by apply Sq.ra; exact HO1497.out))) (Kd.R_lt (by apply Sq.ra; exact HO1502.out))) (Kd.R_lt (by apply Sq.ra; exact HO1507.out))) (Kd.R_lt (by apply Sq.ra; exact HO1514.out))) (Kd.R_lt (by apply Sq.ra; exact HO1519.out))) (Kd.R_lt (by apply Sq.ra; exact HO1532.out))) (Kd.R_lt (by apply Sq.ra; exact HO1536.out))) (below_size (by repeat (first | (with_reducible first | exact HB.out | apply Sq.rc | refine below_set ?_ GE1476.out | refine below_set ?_ GE1477.out | refine below_set ?_ GE1493.out | refine below_set ?_ GE1498.out | refine below_set ?_ GE1503.out | refine below_set ?_ GE1509.out) | exact HB.out))))
                 have n11_ := Sq.m (blk_below (g := gb1476) (o := .cells #[.bool a0_0, .slice A0_1 l0_1.length c0_1] 56 (0, 0)) (by apply Sq.rb; exact BK1476.out) hb)
                 have n12_ := Sq.m (blk_below (g := gb1477) (o := .cells #[.bool a1_0, .slice A1_1 l1_1.length c1_1] 56 (0, 0)) (by apply Sq.rb; exact BK1477.out) hb)
                 have n13_ := Sq.m (blk_below (g := gb1493) (o := .cells #[.bool t1488, .slice Ao100 t1489.length co100] 59 (0, 0)) (by apply Sq.rb; exact BK1493.out) hb)
                 have n14_ := Sq.m (blk_below (g := gb1498) (o := .cells #[.bool t1494, .slice Ao78 t1495.length co78] 59 (0, 0)) (by apply Sq.rb; exact BK1498.out) hb)
                 have n15_ := Sq.m (blk_below (g := gb1503) (o := .cells #[.bool t1499, .slice Ao88 t1500.length co88] 59 (0, 0)) (by apply Sq.rb; exact BK1503.out) hb)
                 have n16_ := Sq.m (blk_below (g := gb1509) (o := .cells #[.bool t1504, .slice Ao98 t1505.length co98] 59 (0, 0)) (by apply Sq.rb; exact BK1509.out) hb)
                 have n17_ := Sq.m (below_step (by repeat (first | (with_reducible first | exact HB.out | apply Sq.rc | refine below_set ?_ GE1476.out | refine below_set ?_ GE1477.out | refine below_set ?_ GE1493.out | refine below_set ?_ GE1498.out | refine below_set ?_ GE1503.out | refine below_set ?_ GE1509.out) | exact HB.out)) hb)
                 have z_BK1542 := fun (h0_ : b 8 = true) (h1_ : b 9 = false) => (show w127.heap[gb1542]? = some (.cells #[.bool false, .slice none 0 0] 59 (0, 0)) from by first | exact (blk_below (g := gb1542) (o := .cells #[.bool false, .slice none 0 0] 59 (0, 0)) (by apply Sq.rb; exact (Q_BK1542 h0_ h1_)) hb))
                 clear HO1483
                 clear HO1487
                 clear HO1491
                 clear HO1497
                 clear HO1502
                 clear HO1507
                 clear HO1514
                 clear HO1519
                 clear HO1532
                 clear HO1536
                 clear BK1476
                 clear BK1477
                 clear BK1493
                 clear BK1498
                 clear BK1503
                 clear BK1509
                 clear HB
                 have HO1483 := n0_
                 have HO1487 := n1_
                 have HO1491 := n2_
                 have HO1497 := n3_
                 have HO1502 := n4_
                 have HO1507 := n5_
                 have HO1514 := n6_
                 have HO1519 := n7_
                 have HO1532 := n8_
                 have HO1536 := n9_
                 have HO1540 := n10_
                 have BK1476 := n11_
                 have BK1477 := n12_
                 have BK1493 := n13_
                 have BK1498 := n14_
                 have BK1503 := n15_
                 have BK1509 := n16_
                 have HB := n17_
                 clear n0_ n1_ n2_ n3_ n4_ n5_ n6_ n7_ n8_ n9_ n10_ n11_ n12_ n13_ n14_ n15_ n16_ n17_
                 (try clear hb)
                 (try clear hb2)
                 (try clear hk)
                 (try clear hi)
                 (try clear ho0)
                 refine hK.out _ _ ⟨.slice Ao125 t1530.length co125, .slice Ao126 t1534.length co126, v1539, gb1542, m1_, m3_, (.tuple #[.agg #[.bool t1537, v1539], .bool t1541]), m5_, m6_, m8_, (by rw [ha.out]; exact putSel_upk 4 hb_ rfl rfl rfl), (by apply Sq.ra; exact Kd.R_mono HO1483.out (fun _ hk => by first | exact True.intro | exact hk.1 | exact hk | exact ⟨hk.1.1, ⟨hk.1.2.1, ⟨hk.1.2.2.1, ⟨hk.1.2.2.2.1, ⟨hk.1.2.2.2.2, hk.2⟩⟩⟩⟩⟩ | simp only [hk, ne_eq, not_false_eq_true, and_self, and_true, true_and])), (by apply Sq.ra; exact Kd.R_mono HO1487.out (fun _ hk => by first | exact True.intro | exact hk.1 | exact hk | exact ⟨hk.1.1, ⟨hk.1.2.1, ⟨hk.1.2.2.1, ⟨hk.1.2.2.2.1, ⟨hk.1.2.2.2.2, hk.2⟩⟩⟩⟩⟩ | simp only [hk, ne_eq, not_false_eq_true, and_self, and_true, true_and])), (by apply Sq.ra; exact Kd.R_mono HO1491.out (fun _ hk => by first | exact True.intro | exact hk.1 | exact hk | exact ⟨hk.1.1, ⟨hk.1.2.1, ⟨hk.1.2.2.1, ⟨hk.1.2.2.2.1, ⟨hk.1.2.2.2.2, hk.2⟩⟩⟩⟩⟩ | simp only [hk, ne_eq, not_false_eq_true, and_self, and_true, true_and])), (by apply Sq.ra; exact Kd.R_mono HO1497.out (fun _ hk => by first | exact True.intro | exact hk.1 | exact hk | exact ⟨hk.1.1, ⟨hk.1.2.1, ⟨hk.1.2.2.1, ⟨hk.1.2.2.2.1, ⟨hk.1.2.2.2.2.1, ⟨hk.1.2.2.2.2.2.1, ⟨hk.1.2.2.2.2.2.2, hk.2⟩⟩⟩⟩⟩⟩⟩ | simp only [hk, ne_eq, not_false_eq_true, and_self, and_true, true_and])), (by apply Sq.ra; exact Kd.R_mono HO1502.out (fun _ hk => by first | exact True.intro | exact hk.1 | exact hk | exact ⟨hk.1.1, ⟨hk.1.2.1, ⟨hk.1.2.2.1, ⟨hk.1.2.2.2.1, ⟨hk.1.2.2.2.2.1, ⟨hk.1.2.2.2.2.2.1, ⟨hk.1.2.2.2.2.2.2, hk.2⟩⟩⟩⟩⟩⟩⟩ | simp only [hk, ne_eq, not_false_eq_true, and_self, and_true, true_and])), (by apply Sq.ra; exact Kd.R_mono HO1507.out (fun _ hk => by first | exact True.intro | exact hk.1 | exact hk | exact ⟨hk.1.1, ⟨hk.1.2.1, ⟨hk.1.2.2.1, ⟨hk.1.2.2.2.1, ⟨hk.1.2.2.2.2.1, ⟨hk.1.2.2.2.2.2.1, ⟨hk.1.2.2.2.2.2.2, hk.2⟩⟩⟩⟩⟩⟩⟩ | simp only [hk, ne_eq, not_false_eq_true, and_self, and_true, true_and])), (by apply Sq.ra; exact Kd.R_mono HO1514.out (fun _ hk => by first | exact True.intro | exact hk.1 | exact hk | exact ⟨hk.1.1, ⟨hk.1.2.1, ⟨hk.1.2.2.1, ⟨hk.1.2.2.2.1, ⟨hk.1.2.2.2.2.1, ⟨hk.1.2.2.2.2.2.1, ⟨hk.1.2.2.2.2.2.2, hk.2⟩⟩⟩⟩⟩⟩⟩ | simp only [hk, ne_eq, not_false_eq_true, and_self, and_true, true_and])), (by apply Sq.ra; exact Kd.R_mono HO1519.out (fun _ hk => by first | exact True.intro | exact hk.1 | exact hk | exact ⟨hk.1.1, ⟨hk.1.2.1, ⟨hk.1.2.2.1, ⟨hk.1.2.2.2.1, ⟨hk.1.2.2.2.2.1, ⟨hk.1.2.2.2.2.2.1, ⟨hk.1.2.2.2.2.2.2, hk.2⟩⟩⟩⟩⟩⟩⟩ | simp only [hk, ne_eq, not_false_eq_true, and_self, and_true, true_and])), (by apply Sq.rb; exact BK1476.out), (by apply Sq.rb; exact BK1477.out), (by apply Sq.rb; exact BK1493.out), (by apply Sq.rb; exact BK1498.out), (by apply Sq.rb; exact BK1503.out), (by apply Sq.rb; exact BK1509.out), (by repeat (first | (with_reducible first | exact HB.out | apply Sq.rc | refine below_set ?_ GE1476.out | refine below_set ?_ GE1477.out | refine below_set ?_ GE1493.out | refine below_set ?_ GE1498.out | refine below_set ?_ GE1503.out | refine below_set ?_ GE1509.out) | exact HB.out)), fun _ => (by apply Sq.ra; exact Kd.R_mono HO1532.out (fun _ hk => by first | exact True.intro | exact hk.1 | exact hk | exact ⟨hk.1.1, ⟨hk.1.2.1, ⟨hk.1.2.2.1, ⟨hk.1.2.2.2.1, ⟨hk.1.2.2.2.2.1, ⟨hk.1.2.2.2.2.2.1, ⟨hk.1.2.2.2.2.2.2.1, ⟨hk.1.2.2.2.2.2.2.2, hk.2⟩⟩⟩⟩⟩⟩⟩⟩ | simp only [hk, ne_eq, not_false_eq_true, and_self, and_true, true_and])), fun _ => (by apply Sq.ra; exact Kd.R_mono HO1536.out (fun _ hk => by first | exact True.intro | exact hk.1 | exact hk | exact ⟨hk.1.1, ⟨hk.1.2.1, ⟨hk.1.2.2.1, ⟨hk.1.2.2.2.1, ⟨hk.1.2.2.2.2.1, ⟨hk.1.2.2.2.2.2.1, ⟨hk.1.2.2.2.2.2.2.1, ⟨hk.1.2.2.2.2.2.2.2, hk.2⟩⟩⟩⟩⟩⟩⟩⟩ | simp only [hk, ne_eq, not_false_eq_true, and_self, and_true, true_and])), fun _ => (by apply Sq.ra; exact Kd.R_mono HO1540.out (fun _ hk => by first | exact True.intro | exact hk.1 | exact hk | exact ⟨hk.1.1.1.1.1.1.1.1.1.2, ⟨hk.1.1.1.1.1.1.1.1.2, ⟨hk.1.1.1.1.1.1.1.2, ⟨hk.1.1.1.1.1.1.2, ⟨hk.1.1.1.1.1.2, ⟨hk.1.1.1.1.2, ⟨hk.1.1.1.2, ⟨hk.1.1.2, ⟨hk.1.2, hk.2⟩⟩⟩⟩⟩⟩⟩⟩⟩ | simp only [hk, ne_eq, not_false_eq_true, and_self, and_true, true_and])), z_BK1542, Q_GW1542, Q_GE1542, Q_NB1476_1542, Q_NB1542_1476, Q_NB1477_1542, Q_NB1542_1477, Q_NB1493_1542, Q_NB1542_1493, Q_NB1498_1542, Q_NB1542_1498, Q_NB1503_1542, Q_NB1542_1503, Q_NB1509_1542, Q_NB1542_1509, fun h0_ => absurd ((hoff 9 (by kernel_rfl)).symm.trans h0_) (by decide), Q_X1_, Q_X3_, fun _ => rfl, fun h0_ => absurd ((hoff 5 (by kernel_rfl)).symm.trans h0_) (by decide), fun h0_ => absurd ((hoff 6 (by kernel_rfl)).symm.trans h0_) (by decide), Q_X8_⟩
                refine steps_cons ?_ ?_
                ·rintro b a w' ⟨v1531, v1535, v1539, gb1542, m1_, m3_, m4_, m5_, m6_, m8_, ha, Q_HO1483, Q_HO1487, Q_HO1491, Q_HO1497, Q_HO1502, Q_HO1507, Q_HO1514, Q_HO1519, Q_BK1476, Q_BK1477, Q_BK1493, Q_BK1498, Q_BK1503, Q_BK1509, Q_HB, Q_HO1532, Q_HO1536, Q_HO1540, Q_BK1542, Q_GW1542, Q_GE1542, Q_NB1476_1542, Q_NB1542_1476, Q_NB1477_1542, Q_NB1542_1477, Q_NB1493_1542, Q_NB1542_1493, Q_NB1498_1542, Q_NB1542_1498, Q_NB1503_1542, Q_NB1542_1503, Q_NB1509_1542, Q_NB1542_1509, Q_BK1542_e9, Q_X1_, Q_X3_, Q_X4_, Q_X5_, Q_X6_, Q_X8_⟩ hb_ hon hoff
                 refine ⟨_, rfl, fun K hK => ?_⟩
                 have e99 : a.tmps[99]? = some (m4_) := by rw [ha]; exact putSel_on (e := (4, 99, m4_)) 4 rfl rfl (hon 4 (by kernel_rfl)) rfl
                 rw [Q_X4_ (hon 4 (by kernel_rfl))] at e99
                 replace ha := Aside0.mk ha
                 have HO1483 := Aside0.mk Q_HO1483
                 have HO1487 := Aside0.mk Q_HO1487
                 have HO1491 := Aside0.mk Q_HO1491
                 have HO1497 := Aside0.mk Q_HO1497
                 have HO1502 := Aside0.mk Q_HO1502
                 have HO1507 := Aside0.mk Q_HO1507
                 have HO1514 := Aside0.mk Q_HO1514
                 have HO1519 := Aside0.mk Q_HO1519
                 have BK1476 := Aside0.mk Q_BK1476
                 have BK1477 := Aside0.mk Q_BK1477
                 have BK1493 := Aside0.mk Q_BK1493
                 have BK1498 := Aside0.mk Q_BK1498
                 have BK1503 := Aside0.mk Q_BK1503
                 have BK1509 := Aside0.mk Q_BK1509
                 have HB := Aside0.mk Q_HB
                 have HO1532 := Sq.m (Q_HO1532 (hon 1 (by kernel_rfl)))
                 have HO1536 := Sq.m (Q_HO1536 (hon 3 (by kernel_rfl)))
                 have HO1540 := Sq.m (Q_HO1540 (hon 4 (by kernel_rfl)))
                 refine value_ (w1 := w') (v := .tuple #[.agg #[.bool t1537, v1539], .bool t1541]) (by rfl) rfl ?_ ?_
                 ·go_simp
                  (try simp only [i64_w])
                  try rfl
                 refine hK.out _ _ ⟨v1531, v1535, v1539, gb1542, m1_, m3_, m4_, (.tuple #[.agg #[.bool t1537, v1539], .bool t1541]), m6_, m8_, (by rw [ha.out]; exact putSel_upk 5 hb_ rfl rfl rfl), Q_HO1483, Q_HO1487, Q_HO1491, Q_HO1497, Q_HO1502, Q_HO1507, Q_HO1514, Q_HO1519, Q_BK1476, Q_BK1477, Q_BK1493, Q_BK1498, Q_BK1503, Q_BK1509, Q_HB, Q_HO1532, Q_HO1536, Q_HO1540, Q_BK1542, Q_GW1542, Q_GE1542, Q_NB1476_1542, Q_NB1542_1476, Q_NB1477_1542, Q_NB1542_1477, Q_NB1493_1542, Q_NB1542_1493, Q_NB1498_1542, Q_NB1542_1498, Q_NB1503_1542, Q_NB1542_1503, Q_NB1509_1542, Q_NB1542_1509, fun h0_ => absurd ((hoff 9 (by kernel_rfl)).symm.trans h0_) (by decide), Q_X1_, Q_X3_, Q_X4_, fun _ => rfl, fun h0_ => absurd ((hoff 6 (by kernel_rfl)).symm.trans h0_) (by decide), Q_X8_⟩
                refine steps_cons ?_ ?_
                ·rintro b a w' ⟨v1531, v1535, v1539, gb1542, m1_, m3_, m4_, m5_, m6_, m8_, ha, Q_HO1483, Q_HO1487, Q_HO1491, Q_HO1497, Q_HO1502, Q_HO1507, Q_HO1514, Q_HO1519, Q_BK1476, Q_BK1477, Q_BK1493, Q_BK1498, Q_BK1503, Q_BK1509, Q_HB, Q_HO1532, Q_HO1536, Q_HO1540, Q_BK1542, Q_GW1542, Q_GE1542, Q_NB1476_1542, Q_NB1542_1476, Q_NB1477_1542, Q_NB1542_1477, Q_NB1493_1542, Q_NB1542_1493, Q_NB1498_1542, Q_NB1542_1498, Q_NB1503_1542, Q_NB1542_1503, Q_NB1509_1542, Q_NB1542_1509, Q_BK1542_e9, Q_X1_, Q_X3_, Q_X4_, Q_X5_, Q_X6_, Q_X8_⟩ hb_ hon hoff
                 refine ⟨_, rfl, fun K hK => ?_⟩
                 have e94 : a.tmps[94]? = some (m5_) := by rw [ha]; exact putSel_on (e := (5, 94, m5_)) 5 rfl rfl (hon 5 (by kernel_rfl)) rfl
                 rw [Q_X5_ (hon 5 (by kernel_rfl))] at e94
                 replace ha := Aside0.mk ha
                 have HO1483 := Aside0.mk Q_HO1483
                 have HO1487 := Aside0.mk Q_HO1487
                 have HO1491 := Aside0.mk Q_HO1491
                 have HO1497 := Aside0.mk Q_HO1497
                 have HO1502 := Aside0.mk Q_HO1502
                 have HO1507 := Aside0.mk Q_HO1507
                 have HO1514 := Aside0.mk Q_HO1514
                 have HO1519 := Aside0.mk Q_HO1519
                 have BK1476 := Aside0.mk Q_BK1476
                 have BK1477 := Aside0.mk Q_BK1477
                 have BK1493 := Aside0.mk Q_BK1493
                 have BK1498 := Aside0.mk Q_BK1498
                 have BK1503 := Aside0.mk Q_BK1503
                 have BK1509 := Aside0.mk Q_BK1509
                 have HB := Aside0.mk Q_HB
                 have HO1532 := Sq.m (Q_HO1532 (hon 1 (by kernel_rfl)))
                 have HO1536 := Sq.m (Q_HO1536 (hon 3 (by kernel_rfl)))
                 have HO1540 := Sq.m (Q_HO1540 (hon 4 (by kernel_rfl)))
                 refine value_ (w1 := w') (v := .agg #[.bool t1537, v1539]) (by rfl) rfl ?_ ?_
                 ·go_simp
                  (try simp only [i64_w])
                  try rfl
                 refine hK.out _ _ ⟨v1531, v1535, v1539, gb1542, m1_, m3_, m4_, m5_, (.agg #[.bool t1537, v1539]), m8_, (by rw [ha.out]; exact putSel_upk 6 hb_ rfl rfl rfl), Q_HO1483, Q_HO1487, Q_HO1491, Q_HO1497, Q_HO1502, Q_HO1507, Q_HO1514, Q_HO1519, Q_BK1476, Q_BK1477, Q_BK1493, Q_BK1498, Q_BK1503, Q_BK1509, Q_HB, Q_HO1532, Q_HO1536, Q_HO1540, Q_BK1542, Q_GW1542, Q_GE1542, Q_NB1476_1542, Q_NB1542_1476, Q_NB1477_1542, Q_NB1542_1477, Q_NB1493_1542, Q_NB1542_1493, Q_NB1498_1542, Q_NB1542_1498, Q_NB1503_1542, Q_NB1542_1503, Q_NB1509_1542, Q_NB1542_1509, fun h0_ => absurd ((hoff 9 (by kernel_rfl)).symm.trans h0_) (by decide), Q_X1_, Q_X3_, Q_X4_, Q_X5_, fun _ => rfl, Q_X8_⟩
                refine steps_cons ?_ ?_
                ·rintro b a w' ⟨v1531, v1535, v1539, gb1542, m1_, m3_, m4_, m5_, m6_, m8_, ha, Q_HO1483, Q_HO1487, Q_HO1491, Q_HO1497, Q_HO1502, Q_HO1507, Q_HO1514, Q_HO1519, Q_BK1476, Q_BK1477, Q_BK1493, Q_BK1498, Q_BK1503, Q_BK1509, Q_HB, Q_HO1532, Q_HO1536, Q_HO1540, Q_BK1542, Q_GW1542, Q_GE1542, Q_NB1476_1542, Q_NB1542_1476, Q_NB1477_1542, Q_NB1542_1477, Q_NB1493_1542, Q_NB1542_1493, Q_NB1498_1542, Q_NB1542_1498, Q_NB1503_1542, Q_NB1542_1503, Q_NB1509_1542, Q_NB1542_1509, Q_BK1542_e9, Q_X1_, Q_X3_, Q_X4_, Q_X5_, Q_X6_, Q_X8_⟩ hb_ hon hoff
                 refine ⟨_, rfl, fun K hK => ?_⟩
                 have e94 : a.tmps[94]? = some (m5_) := by rw [ha]; exact putSel_on (e := (5, 94, m5_)) 5 rfl rfl (hon 5 (by kernel_rfl)) rfl
                 rw [Q_X5_ (hon 5 (by kernel_rfl))] at e94
                 replace ha := Aside0.mk ha
                 have HO1483 := Aside0.mk Q_HO1483
                 have HO1487 := Aside0.mk Q_HO1487
                 have HO1491 := Aside0.mk Q_HO1491
                 have HO1497 := Aside0.mk Q_HO1497
                 have HO1502 := Aside0.mk Q_HO1502
                 have HO1507 := Aside0.mk Q_HO1507
                 have HO1514 := Aside0.mk Q_HO1514
                 have HO1519 := Aside0.mk Q_HO1519
                 have BK1476 := Aside0.mk Q_BK1476
                 have BK1477 := Aside0.mk Q_BK1477
                 have BK1493 := Aside0.mk Q_BK1493
                 have BK1498 := Aside0.mk Q_BK1498
                 have BK1503 := Aside0.mk Q_BK1503
                 have BK1509 := Aside0.mk Q_BK1509
                 have HB := Aside0.mk Q_HB
                 have HO1532 := Sq.m (Q_HO1532 (hon 1 (by kernel_rfl)))
                 have HO1536 := Sq.m (Q_HO1536 (hon 3 (by kernel_rfl)))
                 have HO1540 := Sq.m (Q_HO1540 (hon 4 (by kernel_rfl)))
                 refine value_ (w1 := w') (v := .bool t1541) (by rfl) rfl ?_ ?_
                 ·go_simp
                  (try simp only [i64_w])
                  try rfl
                 refine hK.out _ _ ⟨v1531, v1535, v1539, gb1542, m1_, m3_, m4_, m5_, m6_, m8_, (by rw [ha.out]; exact putSel_upk 7 hb_ rfl rfl rfl), Q_HO1483, Q_HO1487, Q_HO1491, Q_HO1497, Q_HO1502, Q_HO1507, Q_HO1514, Q_HO1519, Q_BK1476, Q_BK1477, Q_BK1493, Q_BK1498, Q_BK1503, Q_BK1509, Q_HB, Q_HO1532, Q_HO1536, Q_HO1540, Q_BK1542, Q_GW1542, Q_GE1542, Q_NB1476_1542, Q_NB1542_1476, Q_NB1477_1542, Q_NB1542_1477, Q_NB1493_1542, Q_NB1542_1493, Q_NB1498_1542, Q_NB1542_1498, Q_NB1503_1542, Q_NB1542_1503, Q_NB1509_1542, Q_NB1542_1509, Q_BK1542_e9, Q_X1_, Q_X3_, Q_X4_, Q_X5_, Q_X6_, Q_X8_⟩
                refine steps_cons ?_ ?_
                ·rintro b a w' ⟨v1531, v1535, v1539, gb1542, m1_, m3_, m4_, m5_, m6_, m8_, ha, Q_HO1483, Q_HO1487, Q_HO1491, Q_HO1497, Q_HO1502, Q_HO1507, Q_HO1514, Q_HO1519, Q_BK1476, Q_BK1477, Q_BK1493, Q_BK1498, Q_BK1503, Q_BK1509, Q_HB, Q_HO1532, Q_HO1536, Q_HO1540, Q_BK1542, Q_GW1542, Q_GE1542, Q_NB1476_1542, Q_NB1542_1476, Q_NB1477_1542, Q_NB1542_1477, Q_NB1493_1542, Q_NB1542_1493, Q_NB1498_1542, Q_NB1542_1498, Q_NB1503_1542, Q_NB1542_1503, Q_NB1509_1542, Q_NB1542_1509, Q_BK1542_e9, Q_X1_, Q_X3_, Q_X4_, Q_X5_, Q_X6_, Q_X8_⟩ hb_ hon hoff
                 refine ⟨_, rfl, fun K hK => ?_⟩
                 replace ha := Aside0.mk ha
                 have HO1483 := Aside0.mk Q_HO1483
                 have HO1487 := Aside0.mk Q_HO1487
                 have HO1491 := Aside0.mk Q_HO1491
                 have HO1497 := Aside0.mk Q_HO1497
                 have HO1502 := Aside0.mk Q_HO1502
                 have HO1507 := Aside0.mk Q_HO1507
                 have HO1514 := Aside0.mk Q_HO1514
                 have HO1519 := Aside0.mk Q_HO1519
                 have BK1476 := Aside0.mk Q_BK1476
                 have BK1477 := Aside0.mk Q_BK1477
                 have BK1493 := Aside0.mk Q_BK1493
                 have BK1498 := Aside0.mk Q_BK1498
                 have BK1503 := Aside0.mk Q_BK1503
                 have BK1509 := Aside0.mk Q_BK1509
                 have HB := Aside0.mk Q_HB
                 refine box_step ?hg (N := 15) ?hd (cs := #[.bool false, .slice none 0 0]) (t := 59) ?hr ?_; (case hd => rfl); (case hg => rfl); (case hr => first | (go_simp; done) | (go_simp; rfl))
                 intro gb1542 hg w122 hbox hb
                 have n0_ := Sq.m (Kd.R_below (by apply Sq.ra; exact HO1483.out) hb)
                 have n1_ := Sq.m (Kd.R_below (by apply Sq.ra; exact HO1487.out) hb)
                 have n2_ := Sq.m (Kd.R_below (by apply Sq.ra; exact HO1491.out) hb)
                 have n3_ := Sq.m (Kd.R_below (by apply Sq.ra; exact HO1497.out) hb)
                 have n4_ := Sq.m (Kd.R_below (by apply Sq.ra; exact HO1502.out) hb)
                 have n5_ := Sq.m (Kd.R_below (by apply Sq.ra; exact HO1507.out) hb)
                 have n6_ := Sq.m (Kd.R_below (by apply Sq.ra; exact HO1514.out) hb)
                 have n7_ := Sq.m (Kd.R_below (by apply Sq.ra; exact HO1519.out) hb)
                 have n8_ := Sq.m (blk_below (g := gb1476) (o := .cells #[.bool a0_0, .slice A0_1 l0_1.length c0_1] 56 (0, 0)) (by apply Sq.rb; exact BK1476.out) hb)
                 have n9_ := Sq.m (blk_below (g := gb1477) (o := .cells #[.bool a1_0, .slice A1_1 l1_1.length c1_1] 56 (0, 0)) (by apply Sq.rb; exact BK1477.out) hb)
                 have n10_ := Sq.m (blk_below (g := gb1493) (o := .cells #[.bool t1488, .slice Ao100 t1489.length co100] 59 (0, 0)) (by apply Sq.rb; exact BK1493.out) hb)
                 have n11_ := Sq.m (blk_below (g := gb1498) (o := .cells #[.bool t1494, .slice Ao78 t1495.length co78] 59 (0, 0)) (by apply Sq.rb; exact BK1498.out) hb)
                 have n12_ := Sq.m (blk_below (g := gb1503) (o := .cells #[.bool t1499, .slice Ao88 t1500.length co88] 59 (0, 0)) (by apply Sq.rb; exact BK1503.out) hb)
                 have n13_ := Sq.m (blk_below (g := gb1509) (o := .cells #[.bool t1504, .slice Ao98 t1505.length co98] 59 (0, 0)) (by apply Sq.rb; exact BK1509.out) hb)
                 have n14_ := Sq.m (below_step (by repeat (first | (with_reducible first | exact HB.out | apply Sq.rc | refine below_set ?_ GE1476.out | refine below_set ?_ GE1477.out | refine below_set ?_ GE1493.out | refine below_set ?_ GE1498.out | refine below_set ?_ GE1503.out | refine below_set ?_ GE1509.out) | exact HB.out)) hb)
                 have n15_ := Sq.m (hbox)
                 have n16_ := Sq.m ((by rw [hg]; exact (below_size (by repeat (first | (with_reducible first | exact HB.out | apply Sq.rc | refine below_set ?_ GE1476.out | refine below_set ?_ GE1477.out | refine below_set ?_ GE1493.out | refine below_set ?_ GE1498.out | refine below_set ?_ GE1503.out | refine below_set ?_ GE1509.out) | exact HB.out))) : w.heap.size ≤ gb1542))
                 have n17_ := Sq.m ((by rw [hg]; exact (below_size (by repeat (first | (with_reducible first | exact HB.out | apply Sq.rc | refine below_set ?_ GE1476.out | refine below_set ?_ GE1477.out | refine below_set ?_ GE1493.out | refine below_set ?_ GE1498.out | refine below_set ?_ GE1503.out | refine below_set ?_ GE1509.out) | exact HB.out))) : w.heap.size ≤ gb1542))
                 have n18_ := Sq.m ((by rw [hg]; exact Nat.ne_of_lt (blk_lt (g := gb1476) (o := .cells #[.bool a0_0, .slice A0_1 l0_1.length c0_1] 56 (0, 0)) (by apply Sq.rb; exact BK1476.out)) : gb1476 ≠ gb1542))
                 have n19_ := Sq.m ((by rw [hg]; exact Nat.ne_of_gt (blk_lt (g := gb1476) (o := .cells #[.bool a0_0, .slice A0_1 l0_1.length c0_1] 56 (0, 0)) (by apply Sq.rb; exact BK1476.out)) : gb1542 ≠ gb1476))
                 have n20_ := Sq.m ((by rw [hg]; exact Nat.ne_of_lt (blk_lt (g := gb1477) (o := .cells #[.bool a1_0, .slice A1_1 l1_1.length c1_1] 56 (0, 0)) (by apply Sq.rb; exact BK1477.out)) : gb1477 ≠ gb1542))
                 have n21_ := Sq.m ((by rw [hg]; exact Nat.ne_of_gt (blk_lt (g := gb1477) (o := .cells #[.bool a1_0, .slice A1_1 l1_1.length c1_1] 56 (0, 0)) (by apply Sq.rb; exact BK1477.out)) : gb1542 ≠ gb1477))
                 have n22_ := Sq.m ((by rw [hg]; exact Nat.ne_of_lt (blk_lt (g := gb1493) (o := .cells #[.bool t1488, .slice Ao100 t1489.length co100] 59 (0, 0)) (by apply Sq.rb; exact BK1493.out)) : gb1493 ≠ gb1542))
                 have n23_ := Sq.m ((by rw [hg]; exact Nat.ne_of_gt (blk_lt (g := gb1493) (o := .cells #[.bool t1488, .slice Ao100 t1489.length co100] 59 (0, 0)) (by apply Sq.rb; exact BK1493.out)) : gb1542 ≠ gb1493))
                 have n24_ := Sq.m ((by rw [hg]; exact Nat.ne_of_lt (blk_lt (g := gb1498) (o := .cells #[.bool t1494, .slice Ao78 t1495.length co78] 59 (0, 0)) (by apply Sq.rb; exact BK1498.out)) : gb1498 ≠ gb1542))
                 have n25_ := Sq.m ((by rw [hg]; exact Nat.ne_of_gt (blk_lt (g := gb1498) (o := .cells #[.bool t1494, .slice Ao78 t1495.length co78] 59 (0, 0)) (by apply Sq.rb; exact BK1498.out)) : gb1542 ≠ gb1498))
                 have n26_ := Sq.m ((by rw [hg]; exact Nat.ne_of_lt (blk_lt (g := gb1503) (o := .cells #[.bool t1499, .slice Ao88 t1500.length co88] 59 (0, 0)) (by apply Sq.rb; exact BK1503.out)) : gb1503 ≠ gb1542))
                 have n27_ := Sq.m ((by rw [hg]; exact Nat.ne_of_gt (blk_lt (g := gb1503) (o := .cells #[.bool t1499, .slice Ao88 t1500.length co88] 59 (0, 0)) (by apply Sq.rb; exact BK1503.out)) : gb1542 ≠ gb1503))
                 have n28_ := Sq.m ((by rw [hg]; exact Nat.ne_of_lt (blk_lt (g := gb1509) (o := .cells #[.bool t1504, .slice Ao98 t1505.length co98] 59 (0, 0)) (by apply Sq.rb; exact BK1509.out)) : gb1509 ≠ gb1542))
                 have n29_ := Sq.m ((by rw [hg]; exact Nat.ne_of_gt (blk_lt (g := gb1509) (o := .cells #[.bool t1504, .slice Ao98 t1505.length co98] 59 (0, 0)) (by apply Sq.rb; exact BK1509.out)) : gb1542 ≠ gb1509))
                 have z_HO1532 := fun (h0_ : b 1 = true) => (show Kd.R (Kd.int .i64) 3 w122 w.heap.size (fun k_ => some k_ ≠ (v1482 : Value).ownBlock ∧ some k_ ≠ (v1486 : Value).ownBlock ∧ some k_ ≠ (.slice Ao100 t1489.length co100 : Value).ownBlock ∧ some k_ ≠ (.slice Ao78 t1495.length co78 : Value).ownBlock ∧ some k_ ≠ (.slice Ao88 t1500.length co88 : Value).ownBlock ∧ some k_ ≠ (.slice Ao98 t1505.length co98 : Value).ownBlock ∧ some k_ ≠ (.slice Ao104 t1512.length co104 : Value).ownBlock ∧ some k_ ≠ (.slice Ao108 t1517.length co108 : Value).ownBlock) v1531 t1530 from by first | exact (Kd.R_below (by apply Sq.ra; exact (Q_HO1532 h0_)) hb) | exact Kd.R_mono (Kd.R_below (by apply Sq.ra; exact (Q_HO1532 h0_)) hb) (fun _ h_ => by first | trivial | exact h_ | exact h_.1))
                 have z_HO1536 := fun (h0_ : b 3 = true) => (show Kd.R (Kd.int .i64) 3 w122 w.heap.size (fun k_ => some k_ ≠ (v1482 : Value).ownBlock ∧ some k_ ≠ (v1486 : Value).ownBlock ∧ some k_ ≠ (.slice Ao100 t1489.length co100 : Value).ownBlock ∧ some k_ ≠ (.slice Ao78 t1495.length co78 : Value).ownBlock ∧ some k_ ≠ (.slice Ao88 t1500.length co88 : Value).ownBlock ∧ some k_ ≠ (.slice Ao98 t1505.length co98 : Value).ownBlock ∧ some k_ ≠ (.slice Ao104 t1512.length co104 : Value).ownBlock ∧ some k_ ≠ (.slice Ao108 t1517.length co108 : Value).ownBlock) v1535 t1534 from by first | exact (Kd.R_below (by apply Sq.ra; exact (Q_HO1536 h0_)) hb) | exact Kd.R_mono (Kd.R_below (by apply Sq.ra; exact (Q_HO1536 h0_)) hb) (fun _ h_ => by first | trivial | exact h_ | exact h_.1))
                 have z_HO1540 := fun (h0_ : b 4 = true) => (show Kd.R (Kd.int .i64) 3 w122 w.heap.size (fun k_ => some k_ ≠ (v1482 : Value).ownBlock ∧ some k_ ≠ (v1486 : Value).ownBlock ∧ some k_ ≠ (.slice Ao100 t1489.length co100 : Value).ownBlock ∧ some k_ ≠ (.slice Ao78 t1495.length co78 : Value).ownBlock ∧ some k_ ≠ (.slice Ao88 t1500.length co88 : Value).ownBlock ∧ some k_ ≠ (.slice Ao98 t1505.length co98 : Value).ownBlock ∧ some k_ ≠ (.slice Ao104 t1512.length co104 : Value).ownBlock ∧ some k_ ≠ (.slice Ao108 t1517.length co108 : Value).ownBlock) v1539 t1538 from by first | exact (Kd.R_below (by apply Sq.ra; exact (Q_HO1540 h0_)) hb) | exact Kd.R_mono (Kd.R_below (by apply Sq.ra; exact (Q_HO1540 h0_)) hb) (fun _ h_ => by first | trivial | exact h_ | exact h_.1))
                 clear HO1483
                 clear HO1487
                 clear HO1491
                 clear HO1497
                 clear HO1502
                 clear HO1507
                 clear HO1514
                 clear HO1519
                 clear BK1476
                 clear BK1477
                 clear BK1493
                 clear BK1498
                 clear BK1503
                 clear BK1509
                 clear HB
                 have HO1483 := n0_
                 have HO1487 := n1_
                 have HO1491 := n2_
                 have HO1497 := n3_
                 have HO1502 := n4_
                 have HO1507 := n5_
                 have HO1514 := n6_
                 have HO1519 := n7_
                 have BK1476 := n8_
                 have BK1477 := n9_
                 have BK1493 := n10_
                 have BK1498 := n11_
                 have BK1503 := n12_
                 have BK1509 := n13_
                 have HB := n14_
                 have BK1542 := n15_
                 have GW1542 := n16_
                 have GE1542 := n17_
                 have NB1476_1542 := n18_
                 have NB1542_1476 := n19_
                 have NB1477_1542 := n20_
                 have NB1542_1477 := n21_
                 have NB1493_1542 := n22_
                 have NB1542_1493 := n23_
                 have NB1498_1542 := n24_
                 have NB1542_1498 := n25_
                 have NB1503_1542 := n26_
                 have NB1542_1503 := n27_
                 have NB1509_1542 := n28_
                 have NB1542_1509 := n29_
                 clear n0_ n1_ n2_ n3_ n4_ n5_ n6_ n7_ n8_ n9_ n10_ n11_ n12_ n13_ n14_ n15_ n16_ n17_ n18_ n19_ n20_ n21_ n22_ n23_ n24_ n25_ n26_ n27_ n28_ n29_
                 clear hb hbox hg
                 refine hK.out _ _ ⟨v1531, v1535, v1539, gb1542, m1_, m3_, m4_, m5_, m6_, (.pointer (some ⟨gb1542, 0, none⟩)), (by rw [ha.out]; exact putSel_upk 8 hb_ rfl rfl rfl), (by apply Sq.ra; exact HO1483.out), (by apply Sq.ra; exact HO1487.out), (by apply Sq.ra; exact HO1491.out), (by apply Sq.ra; exact HO1497.out), (by apply Sq.ra; exact HO1502.out), (by apply Sq.ra; exact HO1507.out), (by apply Sq.ra; exact HO1514.out), (by apply Sq.ra; exact HO1519.out), (by apply Sq.rb; exact BK1476.out), (by apply Sq.rb; exact BK1477.out), (by apply Sq.rb; exact BK1493.out), (by apply Sq.rb; exact BK1498.out), (by apply Sq.rb; exact BK1503.out), (by apply Sq.rb; exact BK1509.out), (by repeat (first | (with_reducible first | exact HB.out | apply Sq.rc | refine below_set ?_ GE1476.out | refine below_set ?_ GE1477.out | refine below_set ?_ GE1493.out | refine below_set ?_ GE1498.out | refine below_set ?_ GE1503.out | refine below_set ?_ GE1509.out | refine below_set ?_ GE1542.out) | exact HB.out)), z_HO1532, z_HO1536, z_HO1540, fun _ _ => (by apply Sq.rb; exact BK1542.out), fun _ => GW1542.out, fun _ => GE1542.out, fun _ => NB1476_1542.out, fun _ => NB1542_1476.out, fun _ => NB1477_1542.out, fun _ => NB1542_1477.out, fun _ => NB1493_1542.out, fun _ => NB1542_1493.out, fun _ => NB1498_1542.out, fun _ => NB1542_1498.out, fun _ => NB1503_1542.out, fun _ => NB1542_1503.out, fun _ => NB1509_1542.out, fun _ => NB1542_1509.out, fun h0_ => absurd ((hoff 9 (by kernel_rfl)).symm.trans h0_) (by decide), Q_X1_, Q_X3_, Q_X4_, Q_X5_, Q_X6_, fun _ => rfl⟩
                refine steps_cons ?_ ?_
                ·rintro b a w' ⟨v1531, v1535, v1539, gb1542, m1_, m3_, m4_, m5_, m6_, m8_, ha, Q_HO1483, Q_HO1487, Q_HO1491, Q_HO1497, Q_HO1502, Q_HO1507, Q_HO1514, Q_HO1519, Q_BK1476, Q_BK1477, Q_BK1493, Q_BK1498, Q_BK1503, Q_BK1509, Q_HB, Q_HO1532, Q_HO1536, Q_HO1540, Q_BK1542, Q_GW1542, Q_GE1542, Q_NB1476_1542, Q_NB1542_1476, Q_NB1477_1542, Q_NB1542_1477, Q_NB1493_1542, Q_NB1542_1493, Q_NB1498_1542, Q_NB1542_1498, Q_NB1503_1542, Q_NB1542_1503, Q_NB1509_1542, Q_NB1542_1509, Q_BK1542_e9, Q_X1_, Q_X3_, Q_X4_, Q_X5_, Q_X6_, Q_X8_⟩ hb_ hon hoff
                 refine ⟨_, rfl, fun K hK => ?_⟩
                 have e15 : a.tmps[15]? = some (m8_) := by rw [ha]; exact putSel_on (e := (8, 15, m8_)) 8 rfl rfl (hon 8 (by kernel_rfl)) rfl
                 rw [Q_X8_ (hon 8 (by kernel_rfl))] at e15
                 have e100 : a.tmps[100]? = some (m6_) := by rw [ha]; exact putSel_on (e := (6, 100, m6_)) 6 rfl rfl (hon 6 (by kernel_rfl)) rfl
                 rw [Q_X6_ (hon 6 (by kernel_rfl))] at e100
                 replace ha := Aside0.mk ha
                 have HO1483 := Aside0.mk Q_HO1483
                 have HO1487 := Aside0.mk Q_HO1487
                 have HO1491 := Aside0.mk Q_HO1491
                 have HO1497 := Aside0.mk Q_HO1497
                 have HO1502 := Aside0.mk Q_HO1502
                 have HO1507 := Aside0.mk Q_HO1507
                 have HO1514 := Aside0.mk Q_HO1514
                 have HO1519 := Aside0.mk Q_HO1519
                 have BK1476 := Aside0.mk Q_BK1476
                 have BK1477 := Aside0.mk Q_BK1477
                 have BK1493 := Aside0.mk Q_BK1493
                 have BK1498 := Aside0.mk Q_BK1498
                 have BK1503 := Aside0.mk Q_BK1503
                 have BK1509 := Aside0.mk Q_BK1509
                 have HB := Aside0.mk Q_HB
                 have HO1532 := Sq.m (Q_HO1532 (hon 1 (by kernel_rfl)))
                 have HO1536 := Sq.m (Q_HO1536 (hon 3 (by kernel_rfl)))
                 have HO1540 := Sq.m (Q_HO1540 (hon 4 (by kernel_rfl)))
                 have BK1542 := Sq.m (Q_BK1542 (hon 8 (by kernel_rfl)) hb_)
                 have GW1542 := Sq.m (Q_GW1542 (hon 8 (by kernel_rfl)))
                 have GE1542 := Sq.m (Q_GE1542 (hon 8 (by kernel_rfl)))
                 have NB1476_1542 := Sq.m (Q_NB1476_1542 (hon 8 (by kernel_rfl)))
                 have NB1542_1476 := Sq.m (Q_NB1542_1476 (hon 8 (by kernel_rfl)))
                 have NB1477_1542 := Sq.m (Q_NB1477_1542 (hon 8 (by kernel_rfl)))
                 have NB1542_1477 := Sq.m (Q_NB1542_1477 (hon 8 (by kernel_rfl)))
                 have NB1493_1542 := Sq.m (Q_NB1493_1542 (hon 8 (by kernel_rfl)))
                 have NB1542_1493 := Sq.m (Q_NB1542_1493 (hon 8 (by kernel_rfl)))
                 have NB1498_1542 := Sq.m (Q_NB1498_1542 (hon 8 (by kernel_rfl)))
                 have NB1542_1498 := Sq.m (Q_NB1542_1498 (hon 8 (by kernel_rfl)))
                 have NB1503_1542 := Sq.m (Q_NB1503_1542 (hon 8 (by kernel_rfl)))
                 have NB1542_1503 := Sq.m (Q_NB1542_1503 (hon 8 (by kernel_rfl)))
                 have NB1509_1542 := Sq.m (Q_NB1509_1542 (hon 8 (by kernel_rfl)))
                 have NB1542_1509 := Sq.m (Q_NB1542_1509 (hon 8 (by kernel_rfl)))
                 obtain ⟨Ao130, co130, eo130⟩ := Kd.R_slice HO1540.out
                 (first | subst eo130 | (injection eo130 with f1_ f2_ f3_; have f4_ := f1_.symm; have f5_ := f3_.symm; clear f1_ f2_ f3_; subst f4_; subst f5_))
                 have hs129 : w'.cell? ⟨gb1542, 0, none⟩ = some (.bool false) := (blk_cell BK1542.out 0).trans rfl
                 have hfs129 := blk_frozen BK1542.out 0
                 have hns129_0 := NB1476_1542.out
                 have hns129_1 := NB1477_1542.out
                 have hns129_2 := NB1493_1542.out
                 have hns129_3 := NB1498_1542.out
                 have hns129_4 := NB1503_1542.out
                 have hns129_5 := NB1509_1542.out
                 have hms129_0 := NB1542_1476.out
                 have hms129_1 := NB1542_1477.out
                 have hms129_2 := NB1542_1493.out
                 have hms129_3 := NB1542_1498.out
                 have hms129_4 := NB1542_1503.out
                 have hms129_5 := NB1542_1509.out
                 have hs131 : w'.cell? ⟨gb1542, 1, none⟩ = some (.slice none 0 0) := (blk_cell BK1542.out 1).trans rfl
                 have hfs131 := blk_frozen BK1542.out 1
                 have hns131_0 := NB1476_1542.out
                 have hns131_1 := NB1477_1542.out
                 have hns131_2 := NB1493_1542.out
                 have hns131_3 := NB1498_1542.out
                 have hns131_4 := NB1503_1542.out
                 have hns131_5 := NB1509_1542.out
                 have hms131_0 := NB1542_1476.out
                 have hms131_1 := NB1542_1477.out
                 have hms131_2 := NB1542_1493.out
                 have hms131_3 := NB1542_1498.out
                 have hms131_4 := NB1542_1503.out
                 have hms131_5 := NB1542_1509.out
                 refine skip_ (w1 := ?_) (by rfl) rfl ?_ ?_
                 rotate_left
                 ·go_simp
                  rfl
                 refine hK.out _ _ ⟨v1531, v1535, .slice Ao130 t1538.length co130, gb1542, m1_, m3_, m4_, m5_, m6_, m8_, (by rw [ha.out]; exact putSel_none (v := undef) rfl), (by apply Sq.ra; exact Kd.R_mono (Kd.R_far (p := ⟨gb1542, 1, none⟩) (Kd.R_far (p := ⟨gb1542, 0, none⟩) (Kd.R_types HO1483.out BK1542.out (by decide)) (fun _ hk => hk.2) (.bool t1537)) (fun _ hk => hk.2) (.slice Ao130 t1538.length co130)) (fun _ hk => ⟨hk.1.1, ⟨hk.1.2.1, ⟨hk.1.2.2.1, ⟨hk.1.2.2.2.1, hk.1.2.2.2.2⟩⟩⟩⟩)), (by apply Sq.ra; exact Kd.R_mono (Kd.R_far (p := ⟨gb1542, 1, none⟩) (Kd.R_far (p := ⟨gb1542, 0, none⟩) (Kd.R_types HO1487.out BK1542.out (by decide)) (fun _ hk => hk.2) (.bool t1537)) (fun _ hk => hk.2) (.slice Ao130 t1538.length co130)) (fun _ hk => ⟨hk.1.1, ⟨hk.1.2.1, ⟨hk.1.2.2.1, ⟨hk.1.2.2.2.1, hk.1.2.2.2.2⟩⟩⟩⟩)), (by apply Sq.ra; exact Kd.R_mono (Kd.R_far (p := ⟨gb1542, 1, none⟩) (Kd.R_far (p := ⟨gb1542, 0, none⟩) (Kd.R_types HO1491.out BK1542.out (by decide)) (fun _ hk => hk.2) (.bool t1537)) (fun _ hk => hk.2) (.slice Ao130 t1538.length co130)) (fun _ hk => ⟨hk.1.1, ⟨hk.1.2.1, ⟨hk.1.2.2.1, ⟨hk.1.2.2.2.1, hk.1.2.2.2.2⟩⟩⟩⟩)), (by apply Sq.ra; exact Kd.R_mono (Kd.R_far (p := ⟨gb1542, 1, none⟩) (Kd.R_far (p := ⟨gb1542, 0, none⟩) (Kd.R_types HO1497.out BK1542.out (by decide)) (fun _ hk => hk.2) (.bool t1537)) (fun _ hk => hk.2) (.slice Ao130 t1538.length co130)) (fun _ hk => ⟨hk.1.1, ⟨hk.1.2.1, ⟨hk.1.2.2.1, ⟨hk.1.2.2.2.1, ⟨hk.1.2.2.2.2.1, ⟨hk.1.2.2.2.2.2.1, hk.1.2.2.2.2.2.2⟩⟩⟩⟩⟩⟩)), (by apply Sq.ra; exact Kd.R_mono (Kd.R_far (p := ⟨gb1542, 1, none⟩) (Kd.R_far (p := ⟨gb1542, 0, none⟩) (Kd.R_types HO1502.out BK1542.out (by decide)) (fun _ hk => hk.2) (.bool t1537)) (fun _ hk => hk.2) (.slice Ao130 t1538.length co130)) (fun _ hk => ⟨hk.1.1, ⟨hk.1.2.1, ⟨hk.1.2.2.1, ⟨hk.1.2.2.2.1, ⟨hk.1.2.2.2.2.1, ⟨hk.1.2.2.2.2.2.1, hk.1.2.2.2.2.2.2⟩⟩⟩⟩⟩⟩)), (by apply Sq.ra; exact Kd.R_mono (Kd.R_far (p := ⟨gb1542, 1, none⟩) (Kd.R_far (p := ⟨gb1542, 0, none⟩) (Kd.R_types HO1507.out BK1542.out (by decide)) (fun _ hk => hk.2) (.bool t1537)) (fun _ hk => hk.2) (.slice Ao130 t1538.length co130)) (fun _ hk => ⟨hk.1.1, ⟨hk.1.2.1, ⟨hk.1.2.2.1, ⟨hk.1.2.2.2.1, ⟨hk.1.2.2.2.2.1, ⟨hk.1.2.2.2.2.2.1, hk.1.2.2.2.2.2.2⟩⟩⟩⟩⟩⟩)), (by apply Sq.ra; exact Kd.R_mono (Kd.R_far (p := ⟨gb1542, 1, none⟩) (Kd.R_far (p := ⟨gb1542, 0, none⟩) (Kd.R_types HO1514.out BK1542.out (by decide)) (fun _ hk => hk.2) (.bool t1537)) (fun _ hk => hk.2) (.slice Ao130 t1538.length co130)) (fun _ hk => ⟨hk.1.1, ⟨hk.1.2.1, ⟨hk.1.2.2.1, ⟨hk.1.2.2.2.1, ⟨hk.1.2.2.2.2.1, ⟨hk.1.2.2.2.2.2.1, hk.1.2.2.2.2.2.2⟩⟩⟩⟩⟩⟩)), (by apply Sq.ra; exact Kd.R_mono (Kd.R_far (p := ⟨gb1542, 1, none⟩) (Kd.R_far (p := ⟨gb1542, 0, none⟩) (Kd.R_types HO1519.out BK1542.out (by decide)) (fun _ hk => hk.2) (.bool t1537)) (fun _ hk => hk.2) (.slice Ao130 t1538.length co130)) (fun _ hk => ⟨hk.1.1, ⟨hk.1.2.1, ⟨hk.1.2.2.1, ⟨hk.1.2.2.2.1, ⟨hk.1.2.2.2.2.1, ⟨hk.1.2.2.2.2.2.1, hk.1.2.2.2.2.2.2⟩⟩⟩⟩⟩⟩)), (by apply Sq.rb; refine blk_far ?_ NB1476_1542.out _; apply Sq.rb; refine blk_far ?_ NB1476_1542.out _; apply Sq.rb; exact BK1476.out), (by apply Sq.rb; refine blk_far ?_ NB1477_1542.out _; apply Sq.rb; refine blk_far ?_ NB1477_1542.out _; apply Sq.rb; exact BK1477.out), (by apply Sq.rb; refine blk_far ?_ NB1493_1542.out _; apply Sq.rb; refine blk_far ?_ NB1493_1542.out _; apply Sq.rb; exact BK1493.out), (by apply Sq.rb; refine blk_far ?_ NB1498_1542.out _; apply Sq.rb; refine blk_far ?_ NB1498_1542.out _; apply Sq.rb; exact BK1498.out), (by apply Sq.rb; refine blk_far ?_ NB1503_1542.out _; apply Sq.rb; refine blk_far ?_ NB1503_1542.out _; apply Sq.rb; exact BK1503.out), (by apply Sq.rb; refine blk_far ?_ NB1509_1542.out _; apply Sq.rb; refine blk_far ?_ NB1509_1542.out _; apply Sq.rb; exact BK1509.out), (by repeat (first | (with_reducible first | exact HB.out | apply Sq.rc | refine below_set ?_ GE1476.out | refine below_set ?_ GE1477.out | refine below_set ?_ GE1493.out | refine below_set ?_ GE1498.out | refine below_set ?_ GE1503.out | refine below_set ?_ GE1509.out | refine below_set ?_ GE1542.out) | exact HB.out)), fun _ => (by apply Sq.ra; exact Kd.R_mono (Kd.R_far (p := ⟨gb1542, 1, none⟩) (Kd.R_far (p := ⟨gb1542, 0, none⟩) (Kd.R_types HO1532.out BK1542.out (by decide)) (fun _ hk => hk.2) (.bool t1537)) (fun _ hk => hk.2) (.slice Ao130 t1538.length co130)) (fun _ hk => ⟨hk.1.1, ⟨hk.1.2.1, ⟨hk.1.2.2.1, ⟨hk.1.2.2.2.1, ⟨hk.1.2.2.2.2.1, ⟨hk.1.2.2.2.2.2.1, ⟨hk.1.2.2.2.2.2.2.1, hk.1.2.2.2.2.2.2.2⟩⟩⟩⟩⟩⟩⟩)), fun _ => (by apply Sq.ra; exact Kd.R_mono (Kd.R_far (p := ⟨gb1542, 1, none⟩) (Kd.R_far (p := ⟨gb1542, 0, none⟩) (Kd.R_types HO1536.out BK1542.out (by decide)) (fun _ hk => hk.2) (.bool t1537)) (fun _ hk => hk.2) (.slice Ao130 t1538.length co130)) (fun _ hk => ⟨hk.1.1, ⟨hk.1.2.1, ⟨hk.1.2.2.1, ⟨hk.1.2.2.2.1, ⟨hk.1.2.2.2.2.1, ⟨hk.1.2.2.2.2.2.1, ⟨hk.1.2.2.2.2.2.2.1, hk.1.2.2.2.2.2.2.2⟩⟩⟩⟩⟩⟩⟩)), fun _ => (by apply Sq.ra; exact Kd.R_mono (Kd.R_far (p := ⟨gb1542, 1, none⟩) (Kd.R_far (p := ⟨gb1542, 0, none⟩) (Kd.R_types HO1540.out BK1542.out (by decide)) (fun _ hk => hk.2) (.bool t1537)) (fun _ hk => hk.2) (.slice Ao130 t1538.length co130)) (fun _ hk => ⟨hk.1.1, ⟨hk.1.2.1, ⟨hk.1.2.2.1, ⟨hk.1.2.2.2.1, ⟨hk.1.2.2.2.2.1, ⟨hk.1.2.2.2.2.2.1, ⟨hk.1.2.2.2.2.2.2.1, hk.1.2.2.2.2.2.2.2⟩⟩⟩⟩⟩⟩⟩)), fun _ h1_ => absurd ((up_self b 9).symm.trans h1_) (by decide), fun _ => GW1542.out, fun _ => GE1542.out, fun _ => NB1476_1542.out, fun _ => NB1542_1476.out, fun _ => NB1477_1542.out, fun _ => NB1542_1477.out, fun _ => NB1493_1542.out, fun _ => NB1542_1493.out, fun _ => NB1498_1542.out, fun _ => NB1542_1498.out, fun _ => NB1503_1542.out, fun _ => NB1542_1503.out, fun _ => NB1509_1542.out, fun _ => NB1542_1509.out, fun _ => (by apply Sq.rb; refine blk_put (cs := #[.bool t1537, .slice none 0 0]) ?_ 1 _ rfl; apply Sq.rb; refine blk_put (cs := #[.bool false, .slice none 0 0]) ?_ 0 _ rfl; apply Sq.rb; exact BK1542.out), Q_X1_, Q_X3_, Q_X4_, Q_X5_, Q_X6_, Q_X8_⟩
                refine steps_cons ?_ ?_
                ·rintro b a w' ⟨v1531, v1535, v1539, gb1542, m1_, m3_, m4_, m5_, m6_, m8_, ha, Q_HO1483, Q_HO1487, Q_HO1491, Q_HO1497, Q_HO1502, Q_HO1507, Q_HO1514, Q_HO1519, Q_BK1476, Q_BK1477, Q_BK1493, Q_BK1498, Q_BK1503, Q_BK1509, Q_HB, Q_HO1532, Q_HO1536, Q_HO1540, Q_BK1542, Q_GW1542, Q_GE1542, Q_NB1476_1542, Q_NB1542_1476, Q_NB1477_1542, Q_NB1542_1477, Q_NB1493_1542, Q_NB1542_1493, Q_NB1498_1542, Q_NB1542_1498, Q_NB1503_1542, Q_NB1542_1503, Q_NB1509_1542, Q_NB1542_1509, Q_BK1542_e9, Q_X1_, Q_X3_, Q_X4_, Q_X5_, Q_X6_, Q_X8_⟩ hb_ hon hoff
                 refine ⟨_, rfl, fun K hK => ?_⟩
                 have e101 : a.tmps[101]? = some (.bool t1541) := by rw [ha]; exact putSel_on (e := (7, 101, .bool t1541)) 7 rfl rfl (hon 7 (by kernel_rfl)) rfl
                 replace ha := Aside0.mk ha
                 have HO1483 := Aside0.mk Q_HO1483
                 have HO1487 := Aside0.mk Q_HO1487
                 have HO1491 := Aside0.mk Q_HO1491
                 have HO1497 := Aside0.mk Q_HO1497
                 have HO1502 := Aside0.mk Q_HO1502
                 have HO1507 := Aside0.mk Q_HO1507
                 have HO1514 := Aside0.mk Q_HO1514
                 have HO1519 := Aside0.mk Q_HO1519
                 have BK1476 := Aside0.mk Q_BK1476
                 have BK1477 := Aside0.mk Q_BK1477
                 have BK1493 := Aside0.mk Q_BK1493
                 have BK1498 := Aside0.mk Q_BK1498
                 have BK1503 := Aside0.mk Q_BK1503
                 have BK1509 := Aside0.mk Q_BK1509
                 have HB := Aside0.mk Q_HB
                 have HO1532 := Sq.m (Q_HO1532 (hon 1 (by kernel_rfl)))
                 have HO1536 := Sq.m (Q_HO1536 (hon 3 (by kernel_rfl)))
                 have HO1540 := Sq.m (Q_HO1540 (hon 4 (by kernel_rfl)))
                 have GW1542 := Sq.m (Q_GW1542 (hon 8 (by kernel_rfl)))
                 have GE1542 := Sq.m (Q_GE1542 (hon 8 (by kernel_rfl)))
                 have NB1476_1542 := Sq.m (Q_NB1476_1542 (hon 8 (by kernel_rfl)))
                 have NB1542_1476 := Sq.m (Q_NB1542_1476 (hon 8 (by kernel_rfl)))
                 have NB1477_1542 := Sq.m (Q_NB1477_1542 (hon 8 (by kernel_rfl)))
                 have NB1542_1477 := Sq.m (Q_NB1542_1477 (hon 8 (by kernel_rfl)))
                 have NB1493_1542 := Sq.m (Q_NB1493_1542 (hon 8 (by kernel_rfl)))
                 have NB1542_1493 := Sq.m (Q_NB1542_1493 (hon 8 (by kernel_rfl)))
                 have NB1498_1542 := Sq.m (Q_NB1498_1542 (hon 8 (by kernel_rfl)))
                 have NB1542_1498 := Sq.m (Q_NB1542_1498 (hon 8 (by kernel_rfl)))
                 have NB1503_1542 := Sq.m (Q_NB1503_1542 (hon 8 (by kernel_rfl)))
                 have NB1542_1503 := Sq.m (Q_NB1542_1503 (hon 8 (by kernel_rfl)))
                 have NB1509_1542 := Sq.m (Q_NB1509_1542 (hon 8 (by kernel_rfl)))
                 have NB1542_1509 := Sq.m (Q_NB1542_1509 (hon 8 (by kernel_rfl)))
                 have BK1542 := Sq.m (Q_BK1542_e9 (hon 9 (by kernel_rfl)))
                 refine value_ (w1 := w') (v := .bool t1541) (by rfl) rfl ?_ ?_
                 ·go_simp
                  (try simp only [i64_w])
                  try rfl
                 refine hK.out _ _ ⟨v1531, v1535, v1539, gb1542, m1_, m3_, m4_, m5_, m6_, m8_, (by rw [ha.out]; exact putSel_upk 9 hb_ rfl rfl rfl), Q_HO1483, Q_HO1487, Q_HO1491, Q_HO1497, Q_HO1502, Q_HO1507, Q_HO1514, Q_HO1519, Q_BK1476, Q_BK1477, Q_BK1493, Q_BK1498, Q_BK1503, Q_BK1509, Q_HB, Q_HO1532, Q_HO1536, Q_HO1540, fun _ h1_ => absurd ((hon 9 (by kernel_rfl)).symm.trans h1_) (by decide), Q_GW1542, Q_GE1542, Q_NB1476_1542, Q_NB1542_1476, Q_NB1477_1542, Q_NB1542_1477, Q_NB1493_1542, Q_NB1542_1493, Q_NB1498_1542, Q_NB1542_1498, Q_NB1503_1542, Q_NB1542_1503, Q_NB1509_1542, Q_NB1542_1509, Q_BK1542_e9, Q_X1_, Q_X3_, Q_X4_, Q_X5_, Q_X6_, Q_X8_⟩
                exact steps_nil
               rintro b a w131 hall ⟨v1531, v1535, v1539, gb1542, m1_, m3_, m4_, m5_, m6_, m8_, ha, Q_HO1483, Q_HO1487, Q_HO1491, Q_HO1497, Q_HO1502, Q_HO1507, Q_HO1514, Q_HO1519, Q_BK1476, Q_BK1477, Q_BK1493, Q_BK1498, Q_BK1503, Q_BK1509, Q_HB, Q_HO1532, Q_HO1536, Q_HO1540, Q_BK1542, Q_GW1542, Q_GE1542, Q_NB1476_1542, Q_NB1542_1476, Q_NB1477_1542, Q_NB1542_1477, Q_NB1493_1542, Q_NB1542_1493, Q_NB1498_1542, Q_NB1542_1498, Q_NB1503_1542, Q_NB1542_1503, Q_NB1509_1542, Q_NB1542_1509, Q_BK1542_e9, Q_X1_, Q_X3_, Q_X4_, Q_X5_, Q_X6_, Q_X8_⟩
               clear BK1476 BK1477 BK1493 BK1498 BK1503 BK1509 HB HO1483 HO1487 HO1491 HO1497 HO1502 HO1507 HO1514 HO1519
               have hb0_ := hall 0 (by kernel_rfl)
               have hb1_ := hall 1 (by kernel_rfl)
               have hb2_ := hall 2 (by kernel_rfl)
               have hb3_ := hall 3 (by kernel_rfl)
               have hb4_ := hall 4 (by kernel_rfl)
               have hb5_ := hall 5 (by kernel_rfl)
               have hb6_ := hall 6 (by kernel_rfl)
               have hb7_ := hall 7 (by kernel_rfl)
               have hb8_ := hall 8 (by kernel_rfl)
               have hb9_ := hall 9 (by kernel_rfl)
               have hb10_ := hall 10 (by kernel_rfl)
               subst ha
               obtain rfl := Q_X1_ hb1_
               obtain rfl := Q_X3_ hb3_
               obtain rfl := Q_X4_ hb4_
               obtain rfl := Q_X5_ hb5_
               obtain rfl := Q_X6_ hb6_
               obtain rfl := Q_X8_ hb8_
               simp only [putSel, hb0_, hb1_, hb2_, hb3_, hb4_, hb5_, hb6_, hb7_, hb8_, hb9_, hb10_, if_true, Act.put, List.setIfInBounds_toArray, List.set_cons_zero, List.set_cons_succ]
               have HO1483 := Aside0.mk Q_HO1483
               clear Q_HO1483
               have HO1487 := Aside0.mk Q_HO1487
               clear Q_HO1487
               have HO1491 := Aside0.mk Q_HO1491
               clear Q_HO1491
               have HO1497 := Aside0.mk Q_HO1497
               clear Q_HO1497
               have HO1502 := Aside0.mk Q_HO1502
               clear Q_HO1502
               have HO1507 := Aside0.mk Q_HO1507
               clear Q_HO1507
               have HO1514 := Aside0.mk Q_HO1514
               clear Q_HO1514
               have HO1519 := Aside0.mk Q_HO1519
               clear Q_HO1519
               have BK1476 := Aside0.mk Q_BK1476
               clear Q_BK1476
               have BK1477 := Aside0.mk Q_BK1477
               clear Q_BK1477
               have BK1493 := Aside0.mk Q_BK1493
               clear Q_BK1493
               have BK1498 := Aside0.mk Q_BK1498
               clear Q_BK1498
               have BK1503 := Aside0.mk Q_BK1503
               clear Q_BK1503
               have BK1509 := Aside0.mk Q_BK1509
               clear Q_BK1509
               have HB := Aside0.mk Q_HB
               clear Q_HB
               have HO1532 := Sq.m (Q_HO1532 hb1_)
               clear Q_HO1532
               have HO1536 := Sq.m (Q_HO1536 hb3_)
               clear Q_HO1536
               have HO1540 := Sq.m (Q_HO1540 hb4_)
               clear Q_HO1540
               clear Q_BK1542
               have GW1542 := Sq.m (Q_GW1542 hb8_)
               clear Q_GW1542
               have GE1542 := Sq.m (Q_GE1542 hb8_)
               clear Q_GE1542
               have NB1476_1542 := Sq.m (Q_NB1476_1542 hb8_)
               clear Q_NB1476_1542
               have NB1542_1476 := Sq.m (Q_NB1542_1476 hb8_)
               clear Q_NB1542_1476
               have NB1477_1542 := Sq.m (Q_NB1477_1542 hb8_)
               clear Q_NB1477_1542
               have NB1542_1477 := Sq.m (Q_NB1542_1477 hb8_)
               clear Q_NB1542_1477
               have NB1493_1542 := Sq.m (Q_NB1493_1542 hb8_)
               clear Q_NB1493_1542
               have NB1542_1493 := Sq.m (Q_NB1542_1493 hb8_)
               clear Q_NB1542_1493
               have NB1498_1542 := Sq.m (Q_NB1498_1542 hb8_)
               clear Q_NB1498_1542
               have NB1542_1498 := Sq.m (Q_NB1542_1498 hb8_)
               clear Q_NB1542_1498
               have NB1503_1542 := Sq.m (Q_NB1503_1542 hb8_)
               clear Q_NB1503_1542
               have NB1542_1503 := Sq.m (Q_NB1542_1503 hb8_)
               clear Q_NB1542_1503
               have NB1509_1542 := Sq.m (Q_NB1509_1542 hb8_)
               clear Q_NB1509_1542
               have NB1542_1509 := Sq.m (Q_NB1542_1509 hb8_)
               clear Q_NB1542_1509
               have BK1542 := Sq.m (Q_BK1542_e9 hb9_)
               clear Q_BK1542_e9
               clear hall hb0_ hb1_ hb2_ hb3_ hb4_ hb5_ hb6_ hb7_ hb8_ hb9_ hb10_
               have hnb132 := NB1542_1476.out
               have hnc132 := NB1476_1542.out
               have hnb133 := NB1542_1477.out
               have hnc133 := NB1477_1542.out
               have hnb134 := NB1542_1493.out
               have hnc134 := NB1493_1542.out
               have hnb135 := NB1542_1498.out
               have hnc135 := NB1498_1542.out
               have hnb136 := NB1542_1503.out
               have hnc136 := NB1503_1542.out
               have hnb137 := NB1542_1509.out
               have hnc137 := NB1509_1542.out
               have hcz138_0 : w131.cell? ⟨gb1542, 0, none⟩ = some (.bool t1537) := (blk_cell BK1542.out 0).trans rfl
               have hcz138_1 : w131.cell? ⟨gb1542, 1, none⟩ = some (v1539) := (blk_cell BK1542.out 1).trans rfl
               have hfz138_0 := blk_frozen BK1542.out 0
               have hfz138_1 := blk_frozen BK1542.out 1
               have hcz139_0 : w131.cell? ⟨gb1493, 0, none⟩ = some (.bool t1488) := (blk_cell BK1493.out 0).trans rfl
               have hcz139_1 : w131.cell? ⟨gb1493, 1, none⟩ = some (.slice Ao100 t1489.length co100) := (blk_cell BK1493.out 1).trans rfl
               have hfz139_0 := blk_frozen BK1493.out 0
               have hfz139_1 := blk_frozen BK1493.out 1
               obtain ⟨Ao140, co140, eo140⟩ := Kd.R_slice HO1540.out
               subst eo140
               try go_wp2_with (first | ((with_reducible refine gate_callee (f := 54) rfl ?_); refine goesL_ (some 104) rfl rfl Try.func54 (by kernel_rfl) rfl #[.agg #[.bool t1537, .slice Ao140 t1538.length co140], .agg #[.bool t1488, .slice Ao100 t1489.length co100]] rfl (by (try simp only [List.map_toArray, List.map_cons, List.map_nil]); first | done | rfl | (simp only [List.length_drop, List.length_take]; rfl) | (simp only [i64_w, u8_w, w64_b]; rfl)) ?_; (with_reducible refine (laws_eqWhole.calls k t1537 _ _ t1538 t1488 _ _ t1489 true _ ?side1 ?side2 ?side3 ?side4 A46.out).mono ?_); (case side1 => repeat (first | exact (Kd.R_reads' HO1540.out).2.2 | (with_reducible refine Kd.C_alloc ?_ _) | (with_reducible refine Kd.C_drewN ?_ _) | (with_reducible refine Kd.C_drew ?_))); (case side2 => exact (Kd.R_reads' HO1540.out).2.1); (case side3 => repeat (first | exact (Kd.R_reads' HO1491.out).2.2 | (with_reducible refine Kd.C_alloc ?_ _) | (with_reducible refine Kd.C_drewN ?_ _) | (with_reducible refine Kd.C_drew ?_))); (case side4 => exact (Kd.R_reads' HO1491.out).2.1); rintro e w141 ⟨rfl, hb⟩; refine ⟨_, rfl, ?_⟩; have n0_ := Sq.m (Kd.R_below (by apply Sq.ra; exact HO1483.out) hb); have n1_ := Sq.m (Kd.R_below (by apply Sq.ra; exact HO1487.out) hb); have n2_ := Sq.m (Kd.R_below (by apply Sq.ra; exact HO1491.out) hb); have n3_ := Sq.m (Kd.R_below (by apply Sq.ra; exact HO1497.out) hb); have n4_ := Sq.m (Kd.R_below (by apply Sq.ra; exact HO1502.out) hb); have n5_ := Sq.m (Kd.R_below (by apply Sq.ra; exact HO1507.out) hb); have n6_ := Sq.m (Kd.R_below (by apply Sq.ra; exact HO1514.out) hb); have n7_ := Sq.m (Kd.R_below (by apply Sq.ra; exact HO1519.out) hb); have n8_ := Sq.m (Kd.R_below (by apply Sq.ra; exact HO1532.out) hb); have n9_ := Sq.m (Kd.R_below (by apply Sq.ra; exact HO1536.out) hb); have n10_ := Sq.m (Kd.R_below (by apply Sq.ra; exact HO1540.out) hb); have n11_ := Sq.m (blk_below (g := gb1476) (o := .cells #[.bool a0_0, .slice A0_1 l0_1.length c0_1] 56 (0, 0)) (by apply Sq.rb; exact BK1476.out) hb); have n12_ := Sq.m (blk_below (g := gb1477) (o := .cells #[.bool a1_0, .slice A1_1 l1_1.length c1_1] 56 (0, 0)) (by apply Sq.rb; exact BK1477.out) hb); have n13_ := Sq.m (blk_below (g := gb1493) (o := .cells #[.bool t1488, .slice Ao100 t1489.length co100] 59 (0, 0)) (by apply Sq.rb; exact BK1493.out) hb); have n14_ := Sq.m (blk_below (g := gb1498) (o := .cells #[.bool t1494, .slice Ao78 t1495.length co78] 59 (0, 0)) (by apply Sq.rb; exact BK1498.out) hb); have n15_ := Sq.m (blk_below (g := gb1503) (o := .cells #[.bool t1499, .slice Ao88 t1500.length co88] 59 (0, 0)) (by apply Sq.rb; exact BK1503.out) hb); have n16_ := Sq.m (blk_below (g := gb1509) (o := .cells #[.bool t1504, .slice Ao98 t1505.length co98] 59 (0, 0)) (by apply Sq.rb; exact BK1509.out) hb); have n17_ := Sq.m (blk_below (g := gb1542) (o := .cells #[.bool t1537, .slice Ao140 t1538.length co140] 59 (0, 0)) (by apply Sq.rb; exact BK1542.out) hb); have n18_ := Sq.m (below_step (by repeat (first | (with_reducible first | exact HB.out | apply Sq.rc | refine below_set ?_ GE1476.out | refine below_set ?_ GE1477.out | refine below_set ?_ GE1493.out | refine below_set ?_ GE1498.out | refine below_set ?_ GE1503.out | refine below_set ?_ GE1509.out | refine below_set ?_ GE1542.out) | exact HB.out)) hb); clear HO1483; clear HO1487; clear HO1491; clear HO1497; clear HO1502; clear HO1507; clear HO1514; clear HO1519; clear HO1532; clear HO1536; clear HO1540; clear BK1476; clear BK1477; clear BK1493; clear BK1498; clear BK1503; clear BK1509; clear BK1542; clear HB; have HO1483 := n0_; have HO1487 := n1_; have HO1491 := n2_; have HO1497 := n3_; have HO1502 := n4_; have HO1507 := n5_; have HO1514 := n6_; have HO1519 := n7_; have HO1532 := n8_; have HO1536 := n9_; have HO1540 := n10_; have BK1476 := n11_; have BK1477 := n12_; have BK1493 := n13_; have BK1498 := n14_; have BK1503 := n15_; have BK1509 := n16_; have BK1542 := n17_; have HB := n18_; clear n0_ n1_ n2_ n3_ n4_ n5_ n6_ n7_ n8_ n9_ n10_ n11_ n12_ n13_ n14_ n15_ n16_ n17_ n18_; (try clear hb); (try clear hb2); (try clear hk); (try clear hi); have hcz142_0 : w141.cell? ⟨gb1509, 0, none⟩ = some (.bool t1504) := (blk_cell BK1509.out 0).trans rfl; have hcz142_1 : w141.cell? ⟨gb1509, 1, none⟩ = some (.slice Ao98 t1505.length co98) := (blk_cell BK1509.out 1).trans rfl; have hfz142_0 := blk_frozen BK1509.out 0; have hfz142_1 := blk_frozen BK1509.out 1) | ((with_reducible refine gate_callee (f := 56) rfl ?_); refine goesL_ (some 113) rfl rfl Try.func56 (by kernel_rfl) rfl #[.agg #[.bool t1504, .slice Ao98 t1527.length co98], .int .i64 1] rfl (by (try simp only [List.map_toArray, List.map_cons, List.map_nil]); first | done | (rw [show t1527.length = t1505.length from (Kd.R_reads' HO1507.out).1.symm] <;> rfl) | rfl | (simp only [List.length_drop, List.length_take]; rfl) | (simp only [i64_w, u8_w, w64_b]; rfl)) ?_; (with_reducible refine (laws_heldWhole.calls k t1504 _ _ t1527 1 t1544 _ ?side1 ?side2 A49.out).mono ?_); (case side1 => repeat (first | exact (Kd.R_reads' HO1507.out).2.2 | (with_reducible refine Kd.C_alloc ?_ _) | (with_reducible refine Kd.C_drewN ?_ _) | (with_reducible refine Kd.C_drew ?_))); (case side2 => rw [show t1527.length = t1505.length from (Kd.R_reads' HO1507.out).1.symm]; exact (Kd.R_reads' HO1507.out).2.1); rintro e w143 ⟨rfl, hb⟩; refine ⟨_, rfl, ?_⟩; have n0_ := Sq.m (Kd.R_below (by apply Sq.ra; exact HO1483.out) hb); have n1_ := Sq.m (Kd.R_below (by apply Sq.ra; exact HO1487.out) hb); have n2_ := Sq.m (Kd.R_below (by apply Sq.ra; exact HO1491.out) hb); have n3_ := Sq.m (Kd.R_below (by apply Sq.ra; exact HO1497.out) hb); have n4_ := Sq.m (Kd.R_below (by apply Sq.ra; exact HO1502.out) hb); have n5_ := Sq.m (Kd.R_below (by apply Sq.ra; exact HO1507.out) hb); have n6_ := Sq.m (Kd.R_below (by apply Sq.ra; exact HO1514.out) hb); have n7_ := Sq.m (Kd.R_below (by apply Sq.ra; exact HO1519.out) hb); have n8_ := Sq.m (Kd.R_below (by apply Sq.ra; exact HO1532.out) hb); have n9_ := Sq.m (Kd.R_below (by apply Sq.ra; exact HO1536.out) hb); have n10_ := Sq.m (Kd.R_below (by apply Sq.ra; exact HO1540.out) hb); have n11_ := Sq.m (blk_below (g := gb1476) (o := .cells #[.bool a0_0, .slice A0_1 l0_1.length c0_1] 56 (0, 0)) (by apply Sq.rb; exact BK1476.out) hb); have n12_ := Sq.m (blk_below (g := gb1477) (o := .cells #[.bool a1_0, .slice A1_1 l1_1.length c1_1] 56 (0, 0)) (by apply Sq.rb; exact BK1477.out) hb); have n13_ := Sq.m (blk_below (g := gb1493) (o := .cells #[.bool t1488, .slice Ao100 t1489.length co100] 59 (0, 0)) (by apply Sq.rb; exact BK1493.out) hb); have n14_ := Sq.m (blk_below (g := gb1498) (o := .cells #[.bool t1494, .slice Ao78 t1495.length co78] 59 (0, 0)) (by apply Sq.rb; exact BK1498.out) hb); have n15_ := Sq.m (blk_below (g := gb1503) (o := .cells #[.bool t1499, .slice Ao88 t1500.length co88] 59 (0, 0)) (by apply Sq.rb; exact BK1503.out) hb); have n16_ := Sq.m (blk_below (g := gb1509) (o := .cells #[.bool t1504, .slice Ao98 t1505.length co98] 59 (0, 0)) (by apply Sq.rb; exact BK1509.out) hb); have n17_ := Sq.m (blk_below (g := gb1542) (o := .cells #[.bool t1537, .slice Ao140 t1538.length co140] 59 (0, 0)) (by apply Sq.rb; exact BK1542.out) hb); have n18_ := Sq.m (below_step (by repeat (first | (with_reducible first | exact HB.out | apply Sq.rc | refine below_set ?_ GE1476.out | refine below_set ?_ GE1477.out | refine below_set ?_ GE1493.out | refine below_set ?_ GE1498.out | refine below_set ?_ GE1503.out | refine below_set ?_ GE1509.out | refine below_set ?_ GE1542.out) | exact HB.out)) hb); clear HO1483; clear HO1487; clear HO1491; clear HO1497; clear HO1502; clear HO1507; clear HO1514; clear HO1519; clear HO1532; clear HO1536; clear HO1540; clear BK1476; clear BK1477; clear BK1493; clear BK1498; clear BK1503; clear BK1509; clear BK1542; clear HB; have HO1483 := n0_; have HO1487 := n1_; have HO1491 := n2_; have HO1497 := n3_; have HO1502 := n4_; have HO1507 := n5_; have HO1514 := n6_; have HO1519 := n7_; have HO1532 := n8_; have HO1536 := n9_; have HO1540 := n10_; have BK1476 := n11_; have BK1477 := n12_; have BK1493 := n13_; have BK1498 := n14_; have BK1503 := n15_; have BK1509 := n16_; have BK1542 := n17_; have HB := n18_; clear n0_ n1_ n2_ n3_ n4_ n5_ n6_ n7_ n8_ n9_ n10_ n11_ n12_ n13_ n14_ n15_ n16_ n17_ n18_; (try clear hb); (try clear hb2); (try clear hk); (try clear hi)))
               go_ret
               exact ⟨by first | rfl | (simp [errW_none, errW_some] <;> rfl) | (simp [*, errW_none, errW_some] <;> rfl), by repeat (first | (with_reducible first | exact HB.out | apply Sq.rc | refine below_set ?_ GE1476.out | refine below_set ?_ GE1477.out | refine below_set ?_ GE1493.out | refine below_set ?_ GE1498.out | refine below_set ?_ GE1503.out | refine below_set ?_ GE1509.out | refine below_set ?_ GE1542.out) | exact HB.out)⟩
              ·rw [if_neg c51] at H
               exact absurd H (by simp)
           ·replace c47 := Bool.eq_false_iff.mpr c47
            subst c47
            have H1 : (none) = some r := by rw [if_neg (show ¬ (false = true) by decide)] at H; exact H
            clear H
            have H := H1
            clear H1
            exact absurd H (by simp)
          ·rw [if_neg c42] at H
           exact absurd H (by simp)
        ·replace c38 := Bool.eq_false_iff.mpr c38
         subst c38
         have H1 : (none) = some r := by rw [if_neg (show ¬ (false = true) by decide)] at H; exact H
         clear H
         have H := H1
         clear H1
         exact absurd H (by simp)
      ·replace c33 := Bool.eq_false_iff.mpr c33
       subst c33
       have H1 : (none) = some r := by rw [if_neg (show ¬ (false = true) by decide)] at H; exact H
       clear H
       have H := H1
       clear H1
       exact absurd H (by simp)
     ·replace c30 := Bool.eq_false_iff.mpr c30
      subst c30
      have H1 : (none) = some r := by rw [if_neg (show ¬ (false = true) by decide)] at H; exact H
      clear H
      have H := H1
      clear H1
      exact absurd H (by simp)
   ·replace c26 := Bool.eq_false_iff.mpr c26
    subst c26
    have H1 : (none) = some r := by rw [if_neg (show ¬ (false = true) by decide)] at H; exact H
    clear H
    have H := H1
    clear H1
    exact absurd H (by simp)

end Go.Proofs.Ytjepgnfgalnjhaa.Q
