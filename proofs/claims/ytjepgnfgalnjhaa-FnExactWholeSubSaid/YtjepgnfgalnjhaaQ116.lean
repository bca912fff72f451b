/- The machine side of Go functions, written by a program of this session over the print of the translation. No conditions. -/
import Derived.Test.YtjepgnfgalnjhaaSq
import Derived.Test.YtjepgnfgalnjhaaQ0
import Derived.Test.YtjepgnfgalnjhaaQ97
import Derived.Test.YtjepgnfgalnjhaaQ103
import Derived.Test.YtjepgnfgalnjhaaQ109
import Derived.Test.YtjepgnfgalnjhaaQ110
import Derived.Test.YtjepgnfgalnjhaaQ111
import Derived.Test.YtjepgnfgalnjhaaQ114
import Derived.Test.YtjepgnfgalnjhaaQ115
namespace Go.Proofs.Ytjepgnfgalnjhaa.Q
open Go.RowKit Go.Proofs.YtjepgnfgalnjhaaW.PrintWords Go.Proofs.YtjepgnfgalnjhaaW.PrintLast Go.Proofs.YtjepgnfgalnjhaaW.PrintMore
attribute [local go_sem] max2_int min2_int max_two min_two max_three min_three max_four min_four   -- for this text's walks alone
set_option linter.unusedVariables false
set_option linter.unusedSimpArgs false

/-! ### laws_FnExactWholeSub: function 13 -/
def laws_FnExactWholeSub.f (k : Nat) (a0_0 : Bool) (l0_1 : List Int) (a1_0 : Bool) (l1_1 : List Int) : Option (Bool) := (laws_szWhole.f a0_0 l0_1 1048576).bind fun t1373 => (if t1373 < 0 then (some true) else ((laws_szWhole.f a1_0 l1_1 t1373).bind fun t1374 => (if t1374 < 0 then (some true) else ((laws_toWhole.f k a0_0 l0_1).bind fun bt1375 => ((laws_toWhole.f k a1_0 l1_1).bind fun bt1379 => ((spec_WholeSub.f k bt1375.1 bt1375.2 bt1379.1 bt1379.2).bind fun bt1383 => ((laws_toWhole.f k a0_0 l0_1).bind fun bt1389 => ((laws_toWhole.f k a1_0 l1_1).bind fun bt1394 => ((impl_WholeSub.f k bt1389.1 bt1389.2 bt1394.1 bt1394.2).bind fun bt1399 => ((laws_eqWhole.f k bt1399.1 bt1399.2.1 bt1383.1 bt1383.2.1).bind fun t1405 => (if t1405 = true then (if (bt1399.2.2 != bt1383.2.2) = true then (none) else ((laws_toWhole.f k a0_0 l0_1).bind fun bt1406 => ((laws_eqWhole.f k bt1389.1 bt1389.2 bt1406.1 bt1406.2).bind fun t1410 => (if t1410 = true then ((laws_toWhole.f k a1_0 l1_1).bind fun bt1411 => ((laws_eqWhole.f k bt1394.1 bt1394.2 bt1411.1 bt1411.2).bind fun t1415 => (if t1415 = true then ((laws_markWhole.f k bt1389.1 bt1389.2 1).bind fun bt1416 => ((laws_markWhole.f k bt1394.1 bt1394.2 bt1416.1).bind fun bt1418 => (if bt1418.1 < 0 then (none) else ((laws_eqWhole.f k bt1399.1 bt1399.2.1 bt1383.1 bt1383.2.1).bind fun t1420 => (if t1420 = true then ((laws_markWhole.f k bt1399.1 bt1399.2.1 1).bind fun bt1421 => ((laws_heldWhole.f k bt1399.1 bt1421.2 1).bind fun t1423 => (if t1423 < 0 then (none) else (if t1423 = bt1421.1 then ((laws_toWhole.f k a0_0 l0_1).bind fun bt1424 => ((laws_toWhole.f k a1_0 l1_1).bind fun bt1428 => ((impl_WholeSub.f k bt1424.1 bt1424.2 bt1428.1 bt1428.2).bind fun bt1432 => ((laws_eqWhole.f k bt1432.1 bt1432.2.1 bt1383.1 bt1383.2.1).bind fun t1438 => (if t1438 = true then (if (bt1432.2.2 != bt1383.2.2) = true then (none) else ((laws_heldWhole.f k bt1399.1 bt1421.2 1).bind fun t1439 => (if t1439 < 0 then (none) else (if t1439 = bt1421.1 then (some true) else (none))))) else (none)))))) else (none))))) else (none)))))) else (none)))) else (none))))) else (none))))))))))))
def laws_FnExactWholeSub.T8 : Bool × List (List Nat × List Nat) := (true, [([], []), ([0], [0]), ([], []), ([2, 1], [2]), ([1, 3, 3], [1, 3]), ([4], [4]), ([5], [5]), ([5], [5]), ([], []), ([8, 6, 4, 0, 1, 2, 3, 4, 5, 6, 8], [6, 8]), ([7, 9, 0, 1, 2, 3, 4, 5, 6, 7, 8, 9], [7])])
def laws_FnExactWholeSub.B8 : List Nat := [0, 1, 0, 7, 15, 31, 63, 63, 0, 383, 1023]
theorem laws_FnExactWholeSub.tab8 : rtab .any (opsOf Try.f13 8) = laws_FnExactWholeSub.T8 := by kernel_rfl
theorem laws_FnExactWholeSub.bits8 : waitsOk laws_FnExactWholeSub.T8.2 laws_FnExactWholeSub.B8 = true := by kernel_rfl
def laws_FnExactWholeSub.T31 : Bool × List (List Nat × List Nat) := (true, [([], []), ([0], [0]), ([], []), ([2, 1], [2]), ([1, 3, 3], [1, 3]), ([4], [4]), ([5], [5]), ([5], [5]), ([], []), ([8, 6, 4, 0, 1, 2, 3, 4, 5, 6, 8], [6, 8]), ([7, 9, 0, 1, 2, 3, 4, 5, 6, 7, 8, 9], [7])])
def laws_FnExactWholeSub.B31 : List Nat := [0, 1, 0, 7, 15, 31, 63, 63, 0, 383, 1023]
theorem laws_FnExactWholeSub.tab31 : rtab .any (opsOf Try.f13 31) = laws_FnExactWholeSub.T31 := by kernel_rfl
theorem laws_FnExactWholeSub.bits31 : waitsOk laws_FnExactWholeSub.T31.2 laws_FnExactWholeSub.B31 = true := by kernel_rfl
set_option maxHeartbeats 8000000 in
set_option maxRecDepth 100000 in
theorem laws_FnExactWholeSub.calls (k : Nat) (a0_0 : Bool) (A0_1 : Option Addr) (c0_1 : Nat) (l0_1 : List Int) (a1_0 : Bool) (A1_1 : Option Addr) (c1_1 : Nat) (l1_1 : List Int) (r : Bool) (w : World) (hr0_1 : Kd.C (Kd.int .i64) w A0_1 l0_1.length l0_1) (hc0_1 : l0_1.length ≤ c0_1) (hr1_1 : Kd.C (Kd.int .i64) w A1_1 l1_1.length l1_1) (hc1_1 : l1_1.length ≤ c1_1) (h : laws_FnExactWholeSub.f k a0_0 l0_1 a1_0 l1_1 = some r) :
  Calls Try.prog 13 #[.agg #[.bool a0_0, .slice A0_1 l0_1.length c0_1], .agg #[.bool a1_0, .slice A1_1 l1_1.length c1_1]] w fun e w' => e = .returned (.bool r) ∧ Below w.heap.size w w' := by
 have hu56 := Try.underlying56
 have hu59 := Try.underlying59
 have HR0_1 := Aside0.mk hr0_1
 have HC0_1 := Aside0.mk hc0_1
 clear hr0_1 hc0_1
 have HR1_1 := Aside0.mk hr1_1
 have HC1_1 := Aside0.mk hc1_1
 clear hr1_1 hc1_1
 have HB := Sq.m (Below.refl w.heap.size w)
 have H : ((laws_szWhole.f a0_0 l0_1 1048576).bind fun t1373 => (if t1373 < 0 then (some true) else ((laws_szWhole.f a1_0 l1_1 t1373).bind fun t1374 => (if t1374 < 0 then (some true) else ((laws_toWhole.f k a0_0 l0_1).bind fun bt1375 => ((laws_toWhole.f k a1_0 l1_1).bind fun bt1379 => ((spec_WholeSub.f k bt1375.1 bt1375.2 bt1379.1 bt1379.2).bind fun bt1383 => ((laws_toWhole.f k a0_0 l0_1).bind fun bt1389 => ((laws_toWhole.f k a1_0 l1_1).bind fun bt1394 => ((impl_WholeSub.f k bt1389.1 bt1389.2 bt1394.1 bt1394.2).bind fun bt1399 => ((laws_eqWhole.f k bt1399.1 bt1399.2.1 bt1383.1 bt1383.2.1).bind fun t1405 => (if t1405 = true then (if (bt1399.2.2 != bt1383.2.2) = true then (none) else ((laws_toWhole.f k a0_0 l0_1).bind fun bt1406 => ((laws_eqWhole.f k bt1389.1 bt1389.2 bt1406.1 bt1406.2).bind fun t1410 => (if t1410 = true then ((laws_toWhole.f k a1_0 l1_1).bind fun bt1411 => ((laws_eqWhole.f k bt1394.1 bt1394.2 bt1411.1 bt1411.2).bind fun t1415 => (if t1415 = true then ((laws_markWhole.f k bt1389.1 bt1389.2 1).bind fun bt1416 => ((laws_markWhole.f k bt1394.1 bt1394.2 bt1416.1).bind fun bt1418 => (if bt1418.1 < 0 then (none) else ((laws_eqWhole.f k bt1399.1 bt1399.2.1 bt1383.1 bt1383.2.1).bind fun t1420 => (if t1420 = true then ((laws_markWhole.f k bt1399.1 bt1399.2.1 1).bind fun bt1421 => ((laws_heldWhole.f k bt1399.1 bt1421.2 1).bind fun t1423 => (if t1423 < 0 then (none) else (if t1423 = bt1421.1 then ((laws_toWhole.f k a0_0 l0_1).bind fun bt1424 => ((laws_toWhole.f k a1_0 l1_1).bind fun bt1428 => ((impl_WholeSub.f k bt1424.1 bt1424.2 bt1428.1 bt1428.2).bind fun bt1432 => ((laws_eqWhole.f k bt1432.1 bt1432.2.1 bt1383.1 bt1383.2.1).bind fun t1438 => (if t1438 = true then (if (bt1432.2.2 != bt1383.2.2) = true then (none) else ((laws_heldWhole.f k bt1399.1 bt1421.2 1).bind fun t1439 => (if t1439 < 0 then (none) else (if t1439 = bt1421.1 then (some true) else (none))))) else (none)))))) else (none))))) else (none)))))) else (none)))) else (none))))) else (none))))))))))))) = some r := h
 clear h
 replace H := Option.bind_eq_some_iff.mp H
 obtain ⟨t1373, A30, H⟩ := H
 try dsimp only at H
 have A3 := Aside0.mk A30
 clear A30
 by_cases c4 : t1373 < 0
 ·rw [if_pos c4] at H
  have c4b0 : decide (t1373 < 0) = true := decide_eq_true c4
  clear c4
  obtain rfl := Option.some.inj H
  go_enter Try.func13, Try.ntmps13
  go_wp2_with (first | ((with_reducible refine gate_dst (N := 2) rfl ?_); refine box_event ?hg (N := 2) ?hd (cs := #[.bool a0_0, .slice A0_1 l0_1.length c0_1]) (t := 56) ?hr ?_; (case hd => rfl); (case hg => rfl); (case hr => first | (go_simp; done) | (go_simp; rfl)); intro gb1371 hg w5 hbox hb; have n0_ := Sq.m (below_step (by repeat (first | (with_reducible first | exact HB.out | apply Sq.rc) | exact HB.out)) hb); have n1_ := Sq.m (hbox); have n2_ := Sq.m ((by rw [hg]; exact (below_size (by repeat (first | (with_reducible first | exact HB.out | apply Sq.rc) | exact HB.out))) : w.heap.size ≤ gb1371)); have n3_ := Sq.m ((by rw [hg]; exact (below_size (by repeat (first | (with_reducible first | exact HB.out | apply Sq.rc) | exact HB.out))) : w.heap.size ≤ gb1371)); clear HB; have HB := n0_; have BK1371 := n1_; have GW1371 := n2_; have GE1371 := n3_; clear n0_ n1_ n2_ n3_; clear hb hbox hg) | ((with_reducible refine gate_dst (N := 3) rfl ?_); refine box_event ?hg (N := 3) ?hd (cs := #[.bool a1_0, .slice A1_1 l1_1.length c1_1]) (t := 56) ?hr ?_; (case hd => rfl); (case hg => rfl); (case hr => first | (go_simp; done) | (go_simp; rfl)); intro gb1372 hg w6 hbox hb; have n0_ := Sq.m (blk_below (g := gb1371) (o := .cells #[.bool a0_0, .slice A0_1 l0_1.length c0_1] 56 (0, 0)) (by apply Sq.rb; exact BK1371.out) hb); have n1_ := Sq.m (below_step (by repeat (first | (with_reducible first | exact HB.out | apply Sq.rc | refine below_set ?_ GE1371.out) | exact HB.out)) hb); have n2_ := Sq.m (hbox); have n3_ := Sq.m ((by rw [hg]; exact (below_size (by repeat (first | (with_reducible first | exact HB.out | apply Sq.rc | refine below_set ?_ GE1371.out) | exact HB.out))) : w.heap.size ≤ gb1372)); have n4_ := Sq.m ((by rw [hg]; exact (below_size (by repeat (first | (with_reducible first | exact HB.out | apply Sq.rc | refine below_set ?_ GE1371.out) | exact HB.out))) : w.heap.size ≤ gb1372)); have n5_ := Sq.m ((by rw [hg]; exact Nat.ne_of_lt (blk_lt (g := gb1371) (o := .cells #[.bool a0_0, .slice A0_1 l0_1.length c0_1] 56 (0, 0)) (by apply Sq.rb; exact BK1371.out)) : gb1371 ≠ gb1372)); have n6_ := Sq.m ((by rw [hg]; exact Nat.ne_of_gt (blk_lt (g := gb1371) (o := .cells #[.bool a0_0, .slice A0_1 l0_1.length c0_1] 56 (0, 0)) (by apply Sq.rb; exact BK1371.out)) : gb1372 ≠ gb1371)); clear BK1371; clear HB; have BK1371 := n0_; have HB := n1_; have BK1372 := n2_; have GW1372 := n3_; have GE1372 := n4_; have NB1371_1372 := n5_; have NB1372_1371 := n6_; clear n0_ n1_ n2_ n3_ n4_ n5_ n6_; clear hb hbox hg; have hnb7 := NB1371_1372.out; have hnc7 := NB1372_1371.out; have hcz8_0 : w6.cell? ⟨gb1371, 0, none⟩ = some (.bool a0_0) := (blk_cell BK1371.out 0).trans rfl; have hcz8_1 : w6.cell? ⟨gb1371, 1, none⟩ = some (.slice A0_1 l0_1.length c0_1) := (blk_cell BK1371.out 1).trans rfl; have hfz8_0 := blk_frozen BK1371.out 0; have hfz8_1 := blk_frozen BK1371.out 1) | ((with_reducible refine gate_callee (f := 50) rfl ?_); refine goesL_ (some 19) rfl rfl Try.func50 (by kernel_rfl) rfl #[.agg #[.bool a0_0, .slice A0_1 l0_1.length c0_1], .int .i64 1048576] rfl (by (try simp only [List.map_toArray, List.map_cons, List.map_nil]); first | done | rfl | (simp only [List.length_drop, List.length_take]; rfl) | (simp only [i64_w, u8_w, w64_b]; rfl)) ?_; (with_reducible refine (laws_szWhole.calls a0_0 _ _ l0_1 1048576 t1373 _ ?side1 ?side2 A3.out).mono ?_); (case side1 => repeat (first | exact (Kd.C_below HR0_1.out HB.out) | (with_reducible refine Kd.C_alloc ?_ _) | (with_reducible refine Kd.C_drewN ?_ _) | (with_reducible refine Kd.C_drew ?_))); (case side2 => exact HC0_1.out); rintro e w9 ⟨rfl, hb⟩; refine ⟨_, rfl, ?_⟩; have n0_ := Sq.m (blk_below (g := gb1371) (o := .cells #[.bool a0_0, .slice A0_1 l0_1.length c0_1] 56 (0, 0)) (by apply Sq.rb; exact BK1371.out) hb); have n1_ := Sq.m (blk_below (g := gb1372) (o := .cells #[.bool a1_0, .slice A1_1 l1_1.length c1_1] 56 (0, 0)) (by apply Sq.rb; exact BK1372.out) hb); have n2_ := Sq.m (below_step (by repeat (first | (with_reducible first | exact HB.out | apply Sq.rc | refine below_set ?_ GE1371.out | refine below_set ?_ GE1372.out) | exact HB.out)) hb); clear BK1371; clear BK1372; clear HB; have BK1371 := n0_; have BK1372 := n1_; have HB := n2_; clear n0_ n1_ n2_; (try clear hb); (try clear hb2); (try clear hk); (try clear hi)))
  go_ret
  exact ⟨by first | rfl | (simp [errW_none, errW_some] <;> rfl) | (simp [*, errW_none, errW_some] <;> rfl), by repeat (first | (with_reducible first | exact HB.out | apply Sq.rc | refine below_set ?_ GE1371.out | refine below_set ?_ GE1372.out) | exact HB.out)⟩
 ·rw [if_neg c4] at H
  have c4b0 : decide (t1373 < 0) = false := decide_eq_false c4
  clear c4
  replace H := Option.bind_eq_some_iff.mp H
  obtain ⟨t1374, A100, H⟩ := H
  try dsimp only at H
  have A10 := Aside0.mk A100
  clear A100
  by_cases c11 : t1374 < 0
  ·rw [if_pos c11] at H
   have c11b0 : decide (t1374 < 0) = true := decide_eq_true c11
   clear c11
   obtain rfl := Option.some.inj H
   go_enter Try.func13, Try.ntmps13
   go_wp2_with (first | ((with_reducible refine gate_dst (N := 2) rfl ?_); refine box_event ?hg (N := 2) ?hd (cs := #[.bool a0_0, .slice A0_1 l0_1.length c0_1]) (t := 56) ?hr ?_; (case hd => rfl); (case hg => rfl); (case hr => first | (go_simp; done) | (go_simp; rfl)); intro gb1371 hg w12 hbox hb; have n0_ := Sq.m (below_step (by repeat (first | (with_reducible first | exact HB.out | apply Sq.rc) | exact HB.out)) hb); have n1_ := Sq.m (hbox); have n2_ := Sq.m ((by rw [hg]; exact (below_size (by repeat (first | (with_reducible first | exact HB.out | apply Sq.rc) | exact HB.out))) : w.heap.size ≤ gb1371)); have n3_ := Sq.m ((by rw [hg]; exact (below_size (by repeat (first | (with_reducible first | exact HB.out | apply Sq.rc) | exact HB.out))) : w.heap.size ≤ gb1371)); clear HB; have HB := n0_; have BK1371 := n1_; have GW1371 := n2_; have GE1371 := n3_; clear n0_ n1_ n2_ n3_; clear hb hbox hg) | ((with_reducible refine gate_dst (N := 3) rfl ?_); refine box_event ?hg (N := 3) ?hd (cs := #[.bool a1_0, .slice A1_1 l1_1.length c1_1]) (t := 56) ?hr ?_; (case hd => rfl); (case hg => rfl); (case hr => first | (go_simp; done) | (go_simp; rfl)); intro gb1372 hg w13 hbox hb; have n0_ := Sq.m (blk_below (g := gb1371) (o := .cells #[.bool a0_0, .slice A0_1 l0_1.length c0_1] 56 (0, 0)) (by apply Sq.rb; exact BK1371.out) hb); have n1_ := Sq.m (below_step (by repeat (first | (with_reducible first | exact HB.out | apply Sq.rc | refine below_set ?_ GE1371.out) | exact HB.out)) hb); have n2_ := Sq.m (hbox); have n3_ := Sq.m ((by rw [hg]; exact (below_size (by repeat (first | (with_reducible first | exact HB.out | apply Sq.rc | refine below_set ?_ GE1371.out) | exact HB.out))) : w.heap.size ≤ gb1372)); have n4_ := Sq.m ((by rw [hg]; exact (below_size (by repeat (first | (with_reducible first | exact HB.out | apply Sq.rc | refine below_set ?_ GE1371.out) | exact HB.out))) : w.heap.size ≤ gb1372)); have n5_ := Sq.m ((by rw [hg]; exact Nat.ne_of_lt (blk_lt (g := gb1371) (o := .cells #[.bool a0_0, .slice A0_1 l0_1.length c0_1] 56 (0, 0)) (by apply Sq.rb; exact BK1371.out)) : gb1371 ≠ gb1372)); have n6_ := Sq.m ((by rw [hg]; exact Nat.ne_of_gt (blk_lt (g := gb1371) (o := .cells #[.bool a0_0, .slice A0_1 l0_1.length c0_1] 56 (0, 0)) (by apply Sq.rb; exact BK1371.out)) : gb1372 ≠ gb1371)); clear BK1371; clear HB; have BK1371 := n0_; have HB := n1_; have BK1372 := n2_; have GW1372 := n3_; have GE1372 := n4_; have NB1371_1372 := n5_; have NB1372_1371 := n6_; clear n0_ n1_ n2_ n3_ n4_ n5_ n6_; clear hb hbox hg; have hnb14 := NB1371_1372.out; have hnc14 := NB1372_1371.out; have hcz15_0 : w13.cell? ⟨gb1371, 0, none⟩ = some (.bool a0_0) := (blk_cell BK1371.out 0).trans rfl; have hcz15_1 : w13.cell? ⟨gb1371, 1, none⟩ = some (.slice A0_1 l0_1.length c0_1) := (blk_cell BK1371.out 1).trans rfl; have hfz15_0 := blk_frozen BK1371.out 0; have hfz15_1 := blk_frozen BK1371.out 1) | ((with_reducible refine gate_callee (f := 50) rfl ?_); refine goesL_ (some 19) rfl rfl Try.func50 (by kernel_rfl) rfl #[.agg #[.bool a0_0, .slice A0_1 l0_1.length c0_1], .int .i64 1048576] rfl (by (try simp only [List.map_toArray, List.map_cons, List.map_nil]); first | done | rfl | (simp only [List.length_drop, List.length_take]; rfl) | (simp only [i64_w, u8_w, w64_b]; rfl)) ?_; (with_reducible refine (laws_szWhole.calls a0_0 _ _ l0_1 1048576 t1373 _ ?side1 ?side2 A3.out).mono ?_); (case side1 => repeat (first | exact (Kd.C_below HR0_1.out HB.out) | (with_reducible refine Kd.C_alloc ?_ _) | (with_reducible refine Kd.C_drewN ?_ _) | (with_reducible refine Kd.C_drew ?_))); (case side2 => exact HC0_1.out); rintro e w16 ⟨rfl, hb⟩; refine ⟨_, rfl, ?_⟩; have n0_ := Sq.m (blk_below (g := gb1371) (o := .cells #[.bool a0_0, .slice A0_1 l0_1.length c0_1] 56 (0, 0)) (by apply Sq.rb; exact BK1371.out) hb); have n1_ := Sq.m (blk_below (g := gb1372) (o := .cells #[.bool a1_0, .slice A1_1 l1_1.length c1_1] 56 (0, 0)) (by apply Sq.rb; exact BK1372.out) hb); have n2_ := Sq.m (below_step (by repeat (first | (with_reducible first | exact HB.out | apply Sq.rc | refine below_set ?_ GE1371.out | refine below_set ?_ GE1372.out) | exact HB.out)) hb); clear BK1371; clear BK1372; clear HB; have BK1371 := n0_; have BK1372 := n1_; have HB := n2_; clear n0_ n1_ n2_; (try clear hb); (try clear hb2); (try clear hk); (try clear hi); have hcz17_0 : w16.cell? ⟨gb1372, 0, none⟩ = some (.bool a1_0) := (blk_cell BK1372.out 0).trans rfl; have hcz17_1 : w16.cell? ⟨gb1372, 1, none⟩ = some (.slice A1_1 l1_1.length c1_1) := (blk_cell BK1372.out 1).trans rfl; have hfz17_0 := blk_frozen BK1372.out 0; have hfz17_1 := blk_frozen BK1372.out 1) | ((with_reducible refine gate_callee (f := 50) rfl ?_); refine goesL_ (some 24) rfl rfl Try.func50 (by kernel_rfl) rfl #[.agg #[.bool a1_0, .slice A1_1 l1_1.length c1_1], .int .i64 t1373] rfl (by (try simp only [List.map_toArray, List.map_cons, List.map_nil]); first | done | rfl | (simp only [List.length_drop, List.length_take]; rfl) | (simp only [i64_w, u8_w, w64_b]; rfl)) ?_; (with_reducible refine (laws_szWhole.calls a1_0 _ _ l1_1 t1373 t1374 _ ?side1 ?side2 A10.out).mono ?_); (case side1 => repeat (first | exact (Kd.C_below HR1_1.out HB.out) | (with_reducible refine Kd.C_alloc ?_ _) | (with_reducible refine Kd.C_drewN ?_ _) | (with_reducible refine Kd.C_drew ?_))); (case side2 => exact HC1_1.out); rintro e w18 ⟨rfl, hb⟩; refine ⟨_, rfl, ?_⟩; have n0_ := Sq.m (blk_below (g := gb1371) (o := .cells #[.bool a0_0, .slice A0_1 l0_1.length c0_1] 56 (0, 0)) (by apply Sq.rb; exact BK1371.out) hb); have n1_ := Sq.m (blk_below (g := gb1372) (o := .cells #[.bool a1_0, .slice A1_1 l1_1.length c1_1] 56 (0, 0)) (by apply Sq.rb; exact BK1372.out) hb); have n2_ := Sq.m (below_step (by repeat (first | (with_reducible first | exact HB.out | apply Sq.rc | refine below_set ?_ GE1371.out | refine below_set ?_ GE1372.out) | exact HB.out)) hb); clear BK1371; clear BK1372; clear HB; have BK1371 := n0_; have BK1372 := n1_; have HB := n2_; clear n0_ n1_ n2_; (try clear hb); (try clear hb2); (try clear hk); (try clear hi)))
   go_ret
   exact ⟨by first | rfl | (simp [errW_none, errW_some] <;> rfl) | (simp [*, errW_none, errW_some] <;> rfl), by repeat (first | (with_reducible first | exact HB.out | apply Sq.rc | refine below_set ?_ GE1371.out | refine below_set ?_ GE1372.out) | exact HB.out)⟩
  ·rw [if_neg c11] at H
   have c11b0 : decide (t1374 < 0) = false := decide_eq_false c11
   clear c11
   replace H := Option.bind_eq_some_iff.mp H
   obtain ⟨⟨t1375, t1376⟩, A190, H⟩ := H
   try dsimp only at H
   have A19 := Aside0.mk A190
   clear A190
   replace H := Option.bind_eq_some_iff.mp H
   obtain ⟨⟨t1379, t1380⟩, A200, H⟩ := H
   try dsimp only at H
   have A20 := Aside0.mk A200
   clear A200
   replace H := Option.bind_eq_some_iff.mp H
   obtain ⟨⟨t1383, t1384, t1387⟩, A210, H⟩ := H
   try dsimp only at H
   have A21 := Aside0.mk A210
   clear A210
   replace H := Option.bind_eq_some_iff.mp H
   obtain ⟨⟨t1389, t1390⟩, A220, H⟩ := H
   try dsimp only at H
   have A22 := Aside0.mk A220
   clear A220
   replace H := Option.bind_eq_some_iff.mp H
   obtain ⟨⟨t1394, t1395⟩, A230, H⟩ := H
   try dsimp only at H
   have A23 := Aside0.mk A230
   clear A230
   replace H := Option.bind_eq_some_iff.mp H
   obtain ⟨⟨t1399, t1400, t1403⟩, A240, H⟩ := H
   try dsimp only at H
   have A24 := Aside0.mk A240
   clear A240
   replace H := Option.bind_eq_some_iff.mp H
   obtain ⟨t1405, A250, H⟩ := H
   try dsimp only at H
   have A25 := Aside0.mk A250
   clear A250
   by_cases c26 : t1405 = true
   ·subst c26
    have H1 : (if (t1403 != t1387) = true then (none) else ((laws_toWhole.f k a0_0 l0_1).bind fun bt1406 => ((laws_eqWhole.f k t1389 t1390 bt1406.1 bt1406.2).bind fun t1410 => (if t1410 = true then ((laws_toWhole.f k a1_0 l1_1).bind fun bt1411 => ((laws_eqWhole.f k t1394 t1395 bt1411.1 bt1411.2).bind fun t1415 => (if t1415 = true then ((laws_markWhole.f k t1389 t1390 1).bind fun bt1416 => ((laws_markWhole.f k t1394 t1395 bt1416.1).bind fun bt1418 => (if bt1418.1 < 0 then (none) else ((laws_eqWhole.f k t1399 t1400 t1383 t1384).bind fun t1420 => (if t1420 = true then ((laws_markWhole.f k t1399 t1400 1).bind fun bt1421 => ((laws_heldWhole.f k t1399 bt1421.2 1).bind fun t1423 => (if t1423 < 0 then (none) else (if t1423 = bt1421.1 then ((laws_toWhole.f k a0_0 l0_1).bind fun bt1424 => ((laws_toWhole.f k a1_0 l1_1).bind fun bt1428 => ((impl_WholeSub.f k bt1424.1 bt1424.2 bt1428.1 bt1428.2).bind fun bt1432 => ((laws_eqWhole.f k bt1432.1 bt1432.2.1 t1383 t1384).bind fun t1438 => (if t1438 = true then (if (bt1432.2.2 != t1387) = true then (none) else ((laws_heldWhole.f k t1399 bt1421.2 1).bind fun t1439 => (if t1439 < 0 then (none) else (if t1439 = bt1421.1 then (some true) else (none))))) else (none)))))) else (none))))) else (none)))))) else (none)))) else (none))))) = some r := by rw [if_pos rfl] at H; exact H
    clear H
    have H := H1
    clear H1
    by_cases c27 : (t1403 != t1387) = true
    ·rw [if_pos c27] at H
     exact absurd H (by simp)
    ·rw [if_neg c27] at H
     have c27b0 : (t1403 != t1387) = false := by simpa using c27
     (try (have c27b1 : decide (t1403 = t1387) = true := by simpa using c27))
     (try (have c27b2 : (t1403 == t1387) = true := by simpa using c27))
     clear c27
     replace H := Option.bind_eq_some_iff.mp H
     obtain ⟨⟨t1406, t1407⟩, A280, H⟩ := H
     try dsimp only at H
     have A28 := Aside0.mk A280
     clear A280
     replace H := Option.bind_eq_some_iff.mp H
     obtain ⟨t1410, A290, H⟩ := H
     try dsimp only at H
     have A29 := Aside0.mk A290
     clear A290
     by_cases c30 : t1410 = true
     ·subst c30
      have H1 : ((laws_toWhole.f k a1_0 l1_1).bind fun bt1411 => ((laws_eqWhole.f k t1394 t1395 bt1411.1 bt1411.2).bind fun t1415 => (if t1415 = true then ((laws_markWhole.f k t1389 t1390 1).bind fun bt1416 => ((laws_markWhole.f k t1394 t1395 bt1416.1).bind fun bt1418 => (if bt1418.1 < 0 then (none) else ((laws_eqWhole.f k t1399 t1400 t1383 t1384).bind fun t1420 => (if t1420 = true then ((laws_markWhole.f k t1399 t1400 1).bind fun bt1421 => ((laws_heldWhole.f k t1399 bt1421.2 1).bind fun t1423 => (if t1423 < 0 then (none) else (if t1423 = bt1421.1 then ((laws_toWhole.f k a0_0 l0_1).bind fun bt1424 => ((laws_toWhole.f k a1_0 l1_1).bind fun bt1428 => ((impl_WholeSub.f k bt1424.1 bt1424.2 bt1428.1 bt1428.2).bind fun bt1432 => ((laws_eqWhole.f k bt1432.1 bt1432.2.1 t1383 t1384).bind fun t1438 => (if t1438 = true then (if (bt1432.2.2 != t1387) = true then (none) else ((laws_heldWhole.f k t1399 bt1421.2 1).bind fun t1439 => (if t1439 < 0 then (none) else (if t1439 = bt1421.1 then (some true) else (none))))) else (none)))))) else (none))))) else (none)))))) else (none)))) = some r := by rw [if_pos rfl] at H; exact H
      clear H
      have H := H1
      clear H1
      replace H := Option.bind_eq_some_iff.mp H
      obtain ⟨⟨t1411, t1412⟩, A310, H⟩ := H
      try dsimp only at H
      have A31 := Aside0.mk A310
      clear A310
      replace H := Option.bind_eq_some_iff.mp H
      obtain ⟨t1415, A320, H⟩ := H
      try dsimp only at H
      have A32 := Aside0.mk A320
      clear A320
      by_cases c33 : t1415 = true
      ·subst c33
       have H1 : ((laws_markWhole.f k t1389 t1390 1).bind fun bt1416 => ((laws_markWhole.f k t1394 t1395 bt1416.1).bind fun bt1418 => (if bt1418.1 < 0 then (none) else ((laws_eqWhole.f k t1399 t1400 t1383 t1384).bind fun t1420 => (if t1420 = true then ((laws_markWhole.f k t1399 t1400 1).bind fun bt1421 => ((laws_heldWhole.f k t1399 bt1421.2 1).bind fun t1423 => (if t1423 < 0 then (none) else (if t1423 = bt1421.1 then ((laws_toWhole.f k a0_0 l0_1).bind fun bt1424 => ((laws_toWhole.f k a1_0 l1_1).bind fun bt1428 => ((impl_WholeSub.f k bt1424.1 bt1424.2 bt1428.1 bt1428.2).bind fun bt1432 => ((laws_eqWhole.f k bt1432.1 bt1432.2.1 t1383 t1384).bind fun t1438 => (if t1438 = true then (if (bt1432.2.2 != t1387) = true then (none) else ((laws_heldWhole.f k t1399 bt1421.2 1).bind fun t1439 => (if t1439 < 0 then (none) else (if t1439 = bt1421.1 then (some true) else (none))))) else (none)))))) else (none))))) else (none)))))) = some r := by rw [if_pos rfl] at H; exact H
       clear H
       have H := H1
       clear H1
       replace H := Option.bind_eq_some_iff.mp H
       obtain ⟨⟨t1416, t1417⟩, A340, H⟩ := H
       try dsimp only at H
       have A34 := Aside0.mk A340
       clear A340
       replace H := Option.bind_eq_some_iff.mp H
       obtain ⟨⟨t1418, t1419⟩, A350, H⟩ := H
       try dsimp only at H
       have A35 := Aside0.mk A350
       clear A350
       by_cases c36 : t1418 < 0
       ·rw [if_pos c36] at H
        exact absurd H (by simp)
       ·rw [if_neg c36] at H
        have c36b0 : decide (t1418 < 0) = false := decide_eq_false c36
        clear c36
        replace H := Option.bind_eq_some_iff.mp H
        obtain ⟨t1420, A370, H⟩ := H
        try dsimp only at H
        have A37 := Aside0.mk A370
        clear A370
        by_cases c38 : t1420 = true
        ·subst c38
         have H1 : ((laws_markWhole.f k t1399 t1400 1).bind fun bt1421 => ((laws_heldWhole.f k t1399 bt1421.2 1).bind fun t1423 => (if t1423 < 0 then (none) else (if t1423 = bt1421.1 then ((laws_toWhole.f k a0_0 l0_1).bind fun bt1424 => ((laws_toWhole.f k a1_0 l1_1).bind fun bt1428 => ((impl_WholeSub.f k bt1424.1 bt1424.2 bt1428.1 bt1428.2).bind fun bt1432 => ((laws_eqWhole.f k bt1432.1 bt1432.2.1 t1383 t1384).bind fun t1438 => (if t1438 = true then (if (bt1432.2.2 != t1387) = true then (none) else ((laws_heldWhole.f k t1399 bt1421.2 1).bind fun t1439 => (if t1439 < 0 then (none) else (if t1439 = bt1421.1 then (some true) else (none))))) else (none)))))) else (none))))) = some r := by rw [if_pos rfl] at H; exact H
         clear H
         have H := H1
         clear H1
         replace H := Option.bind_eq_some_iff.mp H
         obtain ⟨⟨t1421, t1422⟩, A390, H⟩ := H
         try dsimp only at H
         have A39 := Aside0.mk A390
         clear A390
         replace H := Option.bind_eq_some_iff.mp H
         obtain ⟨t1423, A400, H⟩ := H
         try dsimp only at H
         have A40 := Aside0.mk A400
         clear A400
         by_cases c41 : t1423 < 0
         ·rw [if_pos c41] at H
          exact absurd H (by simp)
         ·rw [if_neg c41] at H
          have c41b0 : decide (t1423 < 0) = false := decide_eq_false c41
          clear c41
          by_cases c42 : t1423 = t1421
          ·rw [if_pos c42] at H
           have c42b0 : (t1423 == t1421) = true := beq_iff_eq.mpr c42
           have c42b1 : (t1423 != t1421) = false := bne_eq_false_iff_eq.mpr c42
           clear c42
           replace H := Option.bind_eq_some_iff.mp H
           obtain ⟨⟨t1424, t1425⟩, A430, H⟩ := H
           try dsimp only at H
           have A43 := Aside0.mk A430
           clear A430
           replace H := Option.bind_eq_some_iff.mp H
           obtain ⟨⟨t1428, t1429⟩, A440, H⟩ := H
           try dsimp only at H
           have A44 := Aside0.mk A440
           clear A440
           replace H := Option.bind_eq_some_iff.mp H
           obtain ⟨⟨t1432, t1433, t1436⟩, A450, H⟩ := H
           try dsimp only at H
           have A45 := Aside0.mk A450
           clear A450
           replace H := Option.bind_eq_some_iff.mp H
           obtain ⟨t1438, A460, H⟩ := H
           try dsimp only at H
           have A46 := Aside0.mk A460
           clear A460
           by_cases c47 : t1438 = true
           ·subst c47
            have H1 : (if (t1436 != t1387) = true then (none) else ((laws_heldWhole.f k t1399 t1422 1).bind fun t1439 => (if t1439 < 0 then (none) else (if t1439 = t1421 then (some true) else (none))))) = some r := by rw [if_pos rfl] at H; exact H
            clear H
            have H := H1
            clear H1
            by_cases c48 : (t1436 != t1387) = true
            ·rw [if_pos c48] at H
             exact absurd H (by simp)
            ·rw [if_neg c48] at H
             have c48b0 : (t1436 != t1387) = false := by simpa using c48
             (try (have c48b1 : decide (t1436 = t1387) = true := by simpa using c48))
             (try (have c48b2 : (t1436 == t1387) = true := by simpa using c48))
             clear c48
             replace H := Option.bind_eq_some_iff.mp H
             obtain ⟨t1439, A490, H⟩ := H
             try dsimp only at H
             have A49 := Aside0.mk A490
             clear A490
             by_cases c50 : t1439 < 0
             ·rw [if_pos c50] at H
              exact absurd H (by simp)
             ·rw [if_neg c50] at H
              have c50b0 : decide (t1439 < 0) = false := decide_eq_false c50
              clear c50
              by_cases c51 : t1439 = t1421
              ·rw [if_pos c51] at H
               have c51b0 : (t1439 == t1421) = true := beq_iff_eq.mpr c51
               have c51b1 : (t1439 != t1421) = false := bne_eq_false_iff_eq.mpr c51
               clear c51
               obtain rfl := Option.some.inj H
               go_enter Try.func13, Try.ntmps13
               try go_wp2_with (first | ((with_reducible refine gate_dst (N := 2) rfl ?_); refine box_event ?hg (N := 2) ?hd (cs := #[.bool a0_0, .slice A0_1 l0_1.length c0_1]) (t := 56) ?hr ?_; (case hd => rfl); (case hg => rfl); (case hr => first | (go_simp; done) | (go_simp; rfl)); intro gb1371 hg w52 hbox hb; have n0_ := Sq.m (below_step (by repeat (first | (with_reducible first | exact HB.out | apply Sq.rc) | exact HB.out)) hb); have n1_ := Sq.m (hbox); have n2_ := Sq.m ((by rw [hg]; exact (below_size (by repeat (first | (with_reducible first | exact HB.out | apply Sq.rc) | exact HB.out))) : w.heap.size ≤ gb1371)); have n3_ := Sq.m ((by rw [hg]; exact (below_size (by repeat (first | (with_reducible first | exact HB.out | apply Sq.rc) | exact HB.out))) : w.heap.size ≤ gb1371)); clear HB; have HB := n0_; have BK1371 := n1_; have GW1371 := n2_; have GE1371 := n3_; clear n0_ n1_ n2_ n3_; clear hb hbox hg) | ((with_reducible refine gate_dst (N := 3) rfl ?_); refine box_event ?hg (N := 3) ?hd (cs := #[.bool a1_0, .slice A1_1 l1_1.length c1_1]) (t := 56) ?hr ?_; (case hd => rfl); (case hg => rfl); (case hr => first | (go_simp; done) | (go_simp; rfl)); intro gb1372 hg w53 hbox hb; have n0_ := Sq.m (blk_below (g := gb1371) (o := .cells #[.bool a0_0, .slice A0_1 l0_1.length c0_1] 56 (0, 0)) (by apply Sq.rb; exact BK1371.out) hb); have n1_ := Sq.m (below_step (by repeat (first | (with_reducible first | exact HB.out | apply Sq.rc | refine below_set ?_ GE1371.out) | exact HB.out)) hb); have n2_ := Sq.m (hbox); have n3_ := Sq.m ((by rw [hg]; exact (below_size (by repeat (first | (with_reducible first | exact HB.out | apply Sq.rc | refine below_set ?_ GE1371.out) | exact HB.out))) : w.heap.size ≤ gb1372)); have n4_ := Sq.m ((by rw [hg]; exact (below_size (by repeat (first | (with_reducible first | exact HB.out | apply Sq.rc | refine below_set ?_ GE1371.out) | exact HB.out))) : w.heap.size ≤ gb1372)); have n5_ := Sq.m ((by rw [hg]; exact Nat.ne_of_lt (blk_lt (g := gb1371) (o := .cells #[.bool a0_0, .slice A0_1 l0_1.length c0_1] 56 (0, 0)) (by apply Sq.rb; exact BK1371.out)) : gb1371 ≠ gb1372)); have n6_ := Sq.m ((by rw [hg]; exact Nat.ne_of_gt (blk_lt (g := gb1371) (o := .cells #[.bool a0_0, .slice A0_1 l0_1.length c0_1] 56 (0, 0)) (by apply Sq.rb; exact BK1371.out)) : gb1372 ≠ gb1371)); clear BK1371; clear HB; have BK1371 := n0_; have HB := n1_; have BK1372 := n2_; have GW1372 := n3_; have GE1372 := n4_; have NB1371_1372 := n5_; have NB1372_1371 := n6_; clear n0_ n1_ n2_ n3_ n4_ n5_ n6_; clear hb hbox hg; have hnb54 := NB1371_1372.out; have hnc54 := NB1372_1371.out; have hcz55_0 : w53.cell? ⟨gb1371, 0, none⟩ = some (.bool a0_0) := (blk_cell BK1371.out 0).trans rfl; have hcz55_1 : w53.cell? ⟨gb1371, 1, none⟩ = some (.slice A0_1 l0_1.length c0_1) := (blk_cell BK1371.out 1).trans rfl; have hfz55_0 := blk_frozen BK1371.out 0; have hfz55_1 := blk_frozen BK1371.out 1) | ((with_reducible refine gate_callee (f := 50) rfl ?_); refine goesL_ (some 19) rfl rfl Try.func50 (by kernel_rfl) rfl #[.agg #[.bool a0_0, .slice A0_1 l0_1.length c0_1], .int .i64 1048576] rfl (by (try simp only [List.map_toArray, List.map_cons, List.map_nil]); first | done | rfl | (simp only [List.length_drop, List.length_take]; rfl) | (simp only [i64_w, u8_w, w64_b]; rfl)) ?_; (with_reducible refine (laws_szWhole.calls a0_0 _ _ l0_1 1048576 t1373 _ ?side1 ?side2 A3.out).mono ?_); (case side1 => repeat (first | exact (Kd.C_below HR0_1.out HB.out) | (with_reducible refine Kd.C_alloc ?_ _) | (with_reducible refine Kd.C_drewN ?_ _) | (with_reducible refine Kd.C_drew ?_))); (case side2 => exact HC0_1.out); rintro e w56 ⟨rfl, hb⟩; refine ⟨_, rfl, ?_⟩; have n0_ := Sq.m (blk_below (g := gb1371) (o := .cells #[.bool a0_0, .slice A0_1 l0_1.length c0_1] 56 (0, 0)) (by apply Sq.rb; exact BK1371.out) hb); have n1_ := Sq.m (blk_below (g := gb1372) (o := .cells #[.bool a1_0, .slice A1_1 l1_1.length c1_1] 56 (0, 0)) (by apply Sq.rb; exact BK1372.out) hb); have n2_ := Sq.m (below_step (by repeat (first | (with_reducible first | exact HB.out | apply Sq.rc | refine below_set ?_ GE1371.out | refine below_set ?_ GE1372.out) | exact HB.out)) hb); clear BK1371; clear BK1372; clear HB; have BK1371 := n0_; have BK1372 := n1_; have HB := n2_; clear n0_ n1_ n2_; (try clear hb); (try clear hb2); (try clear hk); (try clear hi); have hcz57_0 : w56.cell? ⟨gb1372, 0, none⟩ = some (.bool a1_0) := (blk_cell BK1372.out 0).trans rfl; have hcz57_1 : w56.cell? ⟨gb1372, 1, none⟩ = some (.slice A1_1 l1_1.length c1_1) := (blk_cell BK1372.out 1).trans rfl; have hfz57_0 := blk_frozen BK1372.out 0; have hfz57_1 := blk_frozen BK1372.out 1) | ((with_reducible refine gate_callee (f := 50) rfl ?_); refine goesL_ (some 24) rfl rfl Try.func50 (by kernel_rfl) rfl #[.agg #[.bool a1_0, .slice A1_1 l1_1.length c1_1], .int .i64 t1373] rfl (by (try simp only [List.map_toArray, List.map_cons, List.map_nil]); first | done | rfl | (simp only [List.length_drop, List.length_take]; rfl) | (simp only [i64_w, u8_w, w64_b]; rfl)) ?_; (with_reducible refine (laws_szWhole.calls a1_0 _ _ l1_1 t1373 t1374 _ ?side1 ?side2 A10.out).mono ?_); (case side1 => repeat (first | exact (Kd.C_below HR1_1.out HB.out) | (with_reducible refine Kd.C_alloc ?_ _) | (with_reducible refine Kd.C_drewN ?_ _) | (with_reducible refine Kd.C_drew ?_))); (case side2 => exact HC1_1.out); rintro e w58 ⟨rfl, hb⟩; refine ⟨_, rfl, ?_⟩; have n0_ := Sq.m (blk_below (g := gb1371) (o := .cells #[.bool a0_0, .slice A0_1 l0_1.length c0_1] 56 (0, 0)) (by apply Sq.rb; exact BK1371.out) hb); have n1_ := Sq.m (blk_below (g := gb1372) (o := .cells #[.bool a1_0, .slice A1_1 l1_1.length c1_1] 56 (0, 0)) (by apply Sq.rb; exact BK1372.out) hb); have n2_ := Sq.m (below_step (by repeat (first | (with_reducible first | exact HB.out | apply Sq.rc | refine below_set ?_ GE1371.out | refine below_set ?_ GE1372.out) | exact HB.out)) hb); clear BK1371; clear BK1372; clear HB; have BK1371 := n0_; have BK1372 := n1_; have HB := n2_; clear n0_ n1_ n2_; (try clear hb); (try clear hb2); (try clear hk); (try clear hi)))
               have n0_ := Sq.m (blk_drew BK1371.out)
               have n1_ := Sq.m (blk_drew BK1372.out)
               have n2_ := Sq.m (below_drew1 HB.out)
               clear BK1371
               clear BK1372
               clear HB
               have BK1371 := n0_
               have BK1372 := n1_
               have HB := n2_
               clear n0_ n1_ n2_
               refine start_ (n := 11) (S := fun w' => True) (ds := []) #[false, false, false, false, false, false, false, false, false, false, false] (by kernel_rfl) rfl rfl trivial (fun hHeld => ?_); refine with_tabW laws_FnExactWholeSub.tab8 laws_FnExactWholeSub.bits8 (fun HT_ HW_ => ?_)
               generalize w58.drew = w59 at BK1371 BK1372 HB hHeld ⊢
               refine inv_at [0, 1, 2, 3, 4, 5, 6, 7, 8, 9, 10] (fun a0_ b a w' => ∃ (v1377 : Value) (v1381 : Value) (v1385 : Value) (gb1388 : Nat) (m1_ : Value) (m3_ : Value) (m4_ : Value) (m5_ : Value) (m6_ : Value) (m8_ : Value), a = putSel a0_ b [(0, 28, .agg #[.bool a0_0, .slice A0_1 l0_1.length c0_1]), (1, 29, m1_), (2, 30, .agg #[.bool a1_0, .slice A1_1 l1_1.length c1_1]), (3, 31, m3_), (4, 32, m4_), (5, 27, m5_), (6, 33, m6_), (7, 34, .bool t1387), (8, 6, m8_), (10, 7, .bool t1387)] ∧ (w'.heap[gb1371]? = some (.cells #[.bool a0_0, .slice A0_1 l0_1.length c0_1] 56 (0, 0))) ∧ (w'.heap[gb1372]? = some (.cells #[.bool a1_0, .slice A1_1 l1_1.length c1_1] 56 (0, 0))) ∧ (Below w.heap.size w w') ∧ (b 1 = true → Kd.R (Kd.int .i64) 3 w' w.heap.size (fun _ => True) v1377 t1376) ∧ (b 3 = true → Kd.R (Kd.int .i64) 3 w' w.heap.size (fun _ => True) v1381 t1380) ∧ (b 4 = true → Kd.R (Kd.int .i64) 3 w' w.heap.size (fun _ => True) v1385 t1384) ∧ (b 8 = true → b 9 = false → w'.heap[gb1388]? = some (.cells #[.bool false, .slice none 0 0] 59 (0, 0))) ∧ (b 8 = true → w.heap.size ≤ gb1388) ∧ (b 8 = true → w.heap.size ≤ gb1388) ∧ (b 8 = true → gb1371 ≠ gb1388) ∧ (b 8 = true → gb1388 ≠ gb1371) ∧ (b 8 = true → gb1372 ≠ gb1388) ∧ (b 8 = true → gb1388 ≠ gb1372) ∧ (b 9 = true → w'.heap[gb1388]? = some (.cells #[.bool t1383, v1385] 59 (0, 0))) ∧ (b 1 = true → (m1_ : Value) = .agg #[.bool t1375, v1377]) ∧ (b 3 = true → (m3_ : Value) = .agg #[.bool t1379, v1381]) ∧ (b 4 = true → (m4_ : Value) = .tuple #[.agg #[.bool t1383, v1385], .bool t1387]) ∧ (b 5 = true → (m5_ : Value) = .tuple #[.agg #[.bool t1383, v1385], .bool t1387]) ∧ (b 6 = true → (m6_ : Value) = .agg #[.bool t1383, v1385]) ∧ (b 8 = true → (m8_ : Value) = .pointer (some ⟨gb1388, 0, none⟩))) HT_.out HW_.out (by kernel_rfl) (by kernel_rfl) ?_ ?_ ?_
               ·exact ⟨.bool false, .bool false, .bool false, 0, .bool false, .bool false, .bool false, .bool false, .bool false, .bool false, by simp only [putSel, Bool.false_eq_true, if_false], BK1371.out, BK1372.out, HB.out, fun h_ => absurd h_ (by decide), fun h_ => absurd h_ (by decide), fun h_ => absurd h_ (by decide), fun h_ => absurd h_ (by decide), fun h_ => absurd h_ (by decide), fun h_ => absurd h_ (by decide), fun h_ => absurd h_ (by decide), fun h_ => absurd h_ (by decide), fun h_ => absurd h_ (by decide), fun h_ => absurd h_ (by decide), fun h_ => absurd h_ (by decide), fun h_ => absurd h_ (by decide), fun h_ => absurd h_ (by decide), fun h_ => absurd h_ (by decide), fun h_ => absurd h_ (by decide), fun h_ => absurd h_ (by decide), fun h_ => absurd h_ (by decide)⟩
               ·skip
                clear BK1371 BK1372 HB
                refine steps_cons ?_ ?_
                ·rintro b a w' ⟨v1377, v1381, v1385, gb1388, m1_, m3_, m4_, m5_, m6_, m8_, ha, Q_BK1371, Q_BK1372, Q_HB, Q_HO1378, Q_HO1382, Q_HO1386, Q_BK1388, Q_GW1388, Q_GE1388, Q_NB1371_1388, Q_NB1388_1371, Q_NB1372_1388, Q_NB1388_1372, Q_BK1388_e9, Q_X1_, Q_X3_, Q_X4_, Q_X5_, Q_X6_, Q_X8_⟩ hb_ hon hoff
                 refine ⟨_, rfl, fun K hK => ?_⟩
                 have e2 : a.tmps[2]? = some (.pointer (some ⟨gb1371, 0, none⟩)) := by rw [ha]; exact (putSel_off rfl).trans rfl
                 replace ha := Aside0.mk ha
                 have BK1371 := Aside0.mk Q_BK1371
                 have BK1372 := Aside0.mk Q_BK1372
                 have HB := Aside0.mk Q_HB
                 have hc0_ : w'.cell? ⟨gb1371, 0, none⟩ = some (.bool a0_0) := (blk_cell BK1371.out 0).trans rfl
                 have hc1_ : w'.cell? ⟨gb1371, 1, none⟩ = some (.slice A0_1 l0_1.length c0_1) := (blk_cell BK1371.out 1).trans rfl
                 refine value_ (w1 := w') (v := .agg #[.bool a0_0, .slice A0_1 l0_1.length c0_1]) (by rfl) rfl ?_ ?_
                 ·go_simp
                  (try simp only [i64_w])
                  try rfl
                 refine hK.out _ _ ⟨v1377, v1381, v1385, gb1388, m1_, m3_, m4_, m5_, m6_, m8_, (by rw [ha.out]; exact putSel_upk 0 hb_ rfl rfl rfl), Q_BK1371, Q_BK1372, Q_HB, fun h0_ => absurd ((hoff 1 (by kernel_rfl)).symm.trans h0_) (by decide), fun h0_ => absurd ((hoff 3 (by kernel_rfl)).symm.trans h0_) (by decide), fun h0_ => absurd ((hoff 4 (by kernel_rfl)).symm.trans h0_) (by decide), Q_BK1388, Q_GW1388, Q_GE1388, Q_NB1371_1388, Q_NB1388_1371, Q_NB1372_1388, Q_NB1388_1372, fun h0_ => absurd ((hoff 9 (by kernel_rfl)).symm.trans h0_) (by decide), fun h0_ => absurd ((hoff 1 (by kernel_rfl)).symm.trans h0_) (by decide), fun h0_ => absurd ((hoff 3 (by kernel_rfl)).symm.trans h0_) (by decide), fun h0_ => absurd ((hoff 4 (by kernel_rfl)).symm.trans h0_) (by decide), fun h0_ => absurd ((hoff 5 (by kernel_rfl)).symm.trans h0_) (by decide), fun h0_ => absurd ((hoff 6 (by kernel_rfl)).symm.trans h0_) (by decide), Q_X8_⟩
                refine steps_cons ?_ ?_
                ·rintro b a w' ⟨v1377, v1381, v1385, gb1388, m1_, m3_, m4_, m5_, m6_, m8_, ha, Q_BK1371, Q_BK1372, Q_HB, Q_HO1378, Q_HO1382, Q_HO1386, Q_BK1388, Q_GW1388, Q_GE1388, Q_NB1371_1388, Q_NB1388_1371, Q_NB1372_1388, Q_NB1388_1372, Q_BK1388_e9, Q_X1_, Q_X3_, Q_X4_, Q_X5_, Q_X6_, Q_X8_⟩ hb_ hon hoff
                 refine ⟨_, rfl, fun K hK => ?_⟩
                 have e28 : a.tmps[28]? = some (.agg #[.bool a0_0, .slice A0_1 l0_1.length c0_1]) := by rw [ha]; exact putSel_on (e := (0, 28, .agg #[.bool a0_0, .slice A0_1 l0_1.length c0_1])) 0 rfl rfl (hon 0 (by kernel_rfl)) rfl
                 replace ha := Aside0.mk ha
                 have BK1371 := Aside0.mk Q_BK1371
                 have BK1372 := Aside0.mk Q_BK1372
                 have HB := Aside0.mk Q_HB
                 refine goes_ Try.func52 (by kernel_rfl) rfl #[.agg #[.bool a0_0, .slice A0_1 l0_1.length c0_1]] (by rfl) rfl rfl (by first | (simp only [List.map_toArray, List.map_cons, List.map_nil, Act.eval, Array.getD_eq_getD_getElem?, Option.getD_some, e28]; done) | (simp only [List.map_toArray, List.map_cons, List.map_nil, Act.eval, Array.getD_eq_getD_getElem?, Option.getD_some, e28]; rfl)) ?_
                 with_reducible refine (laws_toWhole.calls k a0_0 _ _ l0_1 t1375 t1376 _ ?side1 ?side2 A19.out).mono ?_
                 (case side1 => repeat (first | exact (Kd.C_below HR0_1.out HB.out) | (with_reducible refine Kd.C_alloc ?_ _) | (with_reducible refine Kd.C_drewN ?_ _) | (with_reducible refine Kd.C_drew ?_)))
                 (case side2 => exact HC0_1.out)
                 rintro e w60 ⟨v1377, rfl, ho0, hb⟩
                 refine ⟨_, rfl, ?_⟩
                 have n0_ := Sq.m (Kd.R_lower ho0 (below_size (by repeat (first | (with_reducible first | exact HB.out | apply Sq.rc | refine below_set ?_ GE1371.out | refine below_set ?_ GE1372.out) | exact HB.out))))
                 have n1_ := Sq.m (blk_below (g := gb1371) (o := .cells #[.bool a0_0, .slice A0_1 l0_1.length c0_1] 56 (0, 0)) (by apply Sq.rb; exact BK1371.out) hb)
                 have n2_ := Sq.m (blk_below (g := gb1372) (o := .cells #[.bool a1_0, .slice A1_1 l1_1.length c1_1] 56 (0, 0)) (by apply Sq.rb; exact BK1372.out) hb)
                 have n3_ := Sq.m (below_step (by repeat (first | (with_reducible first | exact HB.out | apply Sq.rc | refine below_set ?_ GE1371.out | refine below_set ?_ GE1372.out) | exact HB.out)) hb)
                 have z_BK1388 := fun (h0_ : b 8 = true) (h1_ : b 9 = false) => (show w60.heap[gb1388]? = some (.cells #[.bool false, .slice none 0 0] 59 (0, 0)) from by first | exact (blk_below (g := gb1388) (o := .cells #[.bool false, .slice none 0 0] 59 (0, 0)) (by apply Sq.rb; exact (Q_BK1388 h0_ h1_)) hb))
                 clear BK1371
                 clear BK1372
                 clear HB
                 have HO1378 := n0_
                 have BK1371 := n1_
                 have BK1372 := n2_
                 have HB := n3_
                 clear n0_ n1_ n2_ n3_
                 (try clear hb)
                 (try clear hb2)
                 (try clear hk)
                 (try clear hi)
                 (try clear ho0)
                 refine hK.out _ _ ⟨v1377, v1381, v1385, gb1388, (.agg #[.bool t1375, v1377]), m3_, m4_, m5_, m6_, m8_, (by rw [ha.out]; exact putSel_upk 1 hb_ rfl rfl rfl), (by apply Sq.rb; exact BK1371.out), (by apply Sq.rb; exact BK1372.out), (by repeat (first | (with_reducible first | exact HB.out | apply Sq.rc | refine below_set ?_ GE1371.out | refine below_set ?_ GE1372.out) | exact HB.out)), fun _ => (by apply Sq.ra; exact HO1378.out), fun h0_ => absurd ((hoff 3 (by kernel_rfl)).symm.trans h0_) (by decide), fun h0_ => absurd ((hoff 4 (by kernel_rfl)).symm.trans h0_) (by decide), z_BK1388, Q_GW1388, Q_GE1388, Q_NB1371_1388, Q_NB1388_1371, Q_NB1372_1388, Q_NB1388_1372, fun h0_ => absurd ((hoff 9 (by kernel_rfl)).symm.trans h0_) (by decide), fun _ => rfl, fun h0_ => absurd ((hoff 3 (by kernel_rfl)).symm.trans h0_) (by decide), fun h0_ => absurd ((hoff 4 (by kernel_rfl)).symm.trans h0_) (by decide), fun h0_ => absurd ((hoff 5 (by kernel_rfl)).symm.trans h0_) (by decide), fun h0_ => absurd ((hoff 6 (by kernel_rfl)).symm.trans h0_) (by decide), Q_X8_⟩
                refine steps_cons ?_ ?_
                ·rintro b a w' ⟨v1377, v1381, v1385, gb1388, m1_, m3_, m4_, m5_, m6_, m8_, ha, Q_BK1371, Q_BK1372, Q_HB, Q_HO1378, Q_HO1382, Q_HO1386, Q_BK1388, Q_GW1388, Q_GE1388, Q_NB1371_1388, Q_NB1388_1371, Q_NB1372_1388, Q_NB1388_1372, Q_BK1388_e9, Q_X1_, Q_X3_, Q_X4_, Q_X5_, Q_X6_, Q_X8_⟩ hb_ hon hoff
                 refine ⟨_, rfl, fun K hK => ?_⟩
                 have e3 : a.tmps[3]? = some (.pointer (some ⟨gb1372, 0, none⟩)) := by rw [ha]; exact (putSel_off rfl).trans rfl
                 replace ha := Aside0.mk ha
                 have BK1371 := Aside0.mk Q_BK1371
                 have BK1372 := Aside0.mk Q_BK1372
                 have HB := Aside0.mk Q_HB
                 have hc0_ : w'.cell? ⟨gb1372, 0, none⟩ = some (.bool a1_0) := (blk_cell BK1372.out 0).trans rfl
                 have hc1_ : w'.cell? ⟨gb1372, 1, none⟩ = some (.slice A1_1 l1_1.length c1_1) := (blk_cell BK1372.out 1).trans rfl
                 refine value_ (w1 := w') (v := .agg #[.bool a1_0, .slice A1_1 l1_1.length c1_1]) (by rfl) rfl ?_ ?_
                 ·go_simp
                  (try simp only [i64_w])
                  try rfl
                 refine hK.out _ _ ⟨v1377, v1381, v1385, gb1388, m1_, m3_, m4_, m5_, m6_, m8_, (by rw [ha.out]; exact putSel_upk 2 hb_ rfl rfl rfl), Q_BK1371, Q_BK1372, Q_HB, Q_HO1378, fun h0_ => absurd ((hoff 3 (by kernel_rfl)).symm.trans h0_) (by decide), fun h0_ => absurd ((hoff 4 (by kernel_rfl)).symm.trans h0_) (by decide), Q_BK1388, Q_GW1388, Q_GE1388, Q_NB1371_1388, Q_NB1388_1371, Q_NB1372_1388, Q_NB1388_1372, fun h0_ => absurd ((hoff 9 (by kernel_rfl)).symm.trans h0_) (by decide), Q_X1_, fun h0_ => absurd ((hoff 3 (by kernel_rfl)).symm.trans h0_) (by decide), fun h0_ => absurd ((hoff 4 (by kernel_rfl)).symm.trans h0_) (by decide), fun h0_ => absurd ((hoff 5 (by kernel_rfl)).symm.trans h0_) (by decide), fun h0_ => absurd ((hoff 6 (by kernel_rfl)).symm.trans h0_) (by decide), Q_X8_⟩
                refine steps_cons ?_ ?_
                ·rintro b a w' ⟨v1377, v1381, v1385, gb1388, m1_, m3_, m4_, m5_, m6_, m8_, ha, Q_BK1371, Q_BK1372, Q_HB, Q_HO1378, Q_HO1382, Q_HO1386, Q_BK1388, Q_GW1388, Q_GE1388, Q_NB1371_1388, Q_NB1388_1371, Q_NB1372_1388, Q_NB1388_1372, Q_BK1388_e9, Q_X1_, Q_X3_, Q_X4_, Q_X5_, Q_X6_, Q_X8_⟩ hb_ hon hoff
                 refine ⟨_, rfl, fun K hK => ?_⟩
                 have e30 : a.tmps[30]? = some (.agg #[.bool a1_0, .slice A1_1 l1_1.length c1_1]) := by rw [ha]; exact putSel_on (e := (2, 30, .agg #[.bool a1_0, .slice A1_1 l1_1.length c1_1])) 2 rfl rfl (hon 2 (by kernel_rfl)) rfl
                 replace ha := Aside0.mk ha
                 have BK1371 := Aside0.mk Q_BK1371
                 have BK1372 := Aside0.mk Q_BK1372
                 have HB := Aside0.mk Q_HB
                 have HO1378 := Sq.m (Q_HO1378 (hon 1 (by kernel_rfl)))
                 refine goes_ Try.func52 (by kernel_rfl) rfl #[.agg #[.bool a1_0, .slice A1_1 l1_1.length c1_1]] (by rfl) rfl rfl (by first | (simp only [List.map_toArray, List.map_cons, List.map_nil, Act.eval, Array.getD_eq_getD_getElem?, Option.getD_some, e30]; done) | (simp only [List.map_toArray, List.map_cons, List.map_nil, Act.eval, Array.getD_eq_getD_getElem?, Option.getD_some, e30]; rfl)) ?_
                 with_reducible refine (laws_toWhole.calls k a1_0 _ _ l1_1 t1379 t1380 _ ?side1 ?side2 A20.out).mono ?_
                 (case side1 => repeat (first | exact (Kd.C_below HR1_1.out HB.out) | (with_reducible refine Kd.C_alloc ?_ _) | (with_reducible refine Kd.C_drewN ?_ _) | (with_reducible refine Kd.C_drew ?_)))
                 (case side2 => exact HC1_1.out)
                 rintro e w62 ⟨v1381, rfl, ho0, hb⟩
                 refine ⟨_, rfl, ?_⟩
                 have n0_ := Sq.m (Kd.R_elder' (by apply Sq.ra; exact HO1378.out) (Kd.R_base ho0) hb)
                 have n1_ := Sq.m (Kd.R_lower (Kd.R_new' ho0 (Kd.R_lt (by apply Sq.ra; exact HO1378.out))) (below_size (by repeat (first | (with_reducible first | exact HB.out | apply Sq.rc | refine below_set ?_ GE1371.out | refine below_set ?_ GE1372.out) | exact HB.out))))
                 have n2_ := Sq.m (blk_below (g := gb1371) (o := .cells #[.bool a0_0, .slice A0_1 l0_1.length c0_1] 56 (0, 0)) (by apply Sq.rb; exact BK1371.out) hb)
                 have n3_ := Sq.m (blk_below (g := gb1372) (o := .cells #[.bool a1_0, .slice A1_1 l1_1.length c1_1] 56 (0, 0)) (by apply Sq.rb; exact BK1372.out) hb)
                 have n4_ := Sq.m (below_step (by repeat (first | (with_reducible first | exact HB.out | apply Sq.rc | refine below_set ?_ GE1371.out | refine below_set ?_ GE1372.out) | exact HB.out)) hb)
                 have z_BK1388 := fun (h0_ : b 8 = true) (h1_ : b 9 = false) => (show w62.heap[gb1388]? = some (.cells #[.bool false, .slice none 0 0] 59 (0, 0)) from by first | exact (blk_below (g := gb1388) (o := .cells #[.bool false, .slice none 0 0] 59 (0, 0)) (by apply Sq.rb; exact (Q_BK1388 h0_ h1_)) hb))
                 clear HO1378
                 clear BK1371
                 clear BK1372
                 clear HB
                 have HO1378 := n0_
                 have HO1382 := n1_
                 have BK1371 := n2_
                 have BK1372 := n3_
                 have HB := n4_
                 clear n0_ n1_ n2_ n3_ n4_
                 (try clear hb)
                 (try clear hb2)
                 (try clear hk)
                 (try clear hi)
                 (try clear ho0)
                 refine hK.out _ _ ⟨v1377, v1381, v1385, gb1388, m1_, (.agg #[.bool t1379, v1381]), m4_, m5_, m6_, m8_, (by rw [ha.out]; exact putSel_upk 3 hb_ rfl rfl rfl), (by apply Sq.rb; exact BK1371.out), (by apply Sq.rb; exact BK1372.out), (by repeat (first | (with_reducible first | exact HB.out | apply Sq.rc | refine below_set ?_ GE1371.out | refine below_set ?_ GE1372.out) | exact HB.out)), fun _ => (by apply Sq.ra; exact Kd.R_mono HO1378.out (fun _ hk => by first | exact True.intro | exact hk.1 | exact hk | exact hk.2 | simp only [hk, ne_eq, not_false_eq_true, and_self, and_true, true_and])), fun _ => (by apply Sq.ra; exact Kd.R_mono HO1382.out (fun _ hk => by first | exact True.intro | exact hk.1 | exact hk | exact hk.2 | simp only [hk, ne_eq, not_false_eq_true, and_self, and_true, true_and])), fun h0_ => absurd ((hoff 4 (by kernel_rfl)).symm.trans h0_) (by decide), z_BK1388, Q_GW1388, Q_GE1388, Q_NB1371_1388, Q_NB1388_1371, Q_NB1372_1388, Q_NB1388_1372, fun h0_ => absurd ((hoff 9 (by kernel_rfl)).symm.trans h0_) (by decide), Q_X1_, fun _ => rfl, fun h0_ => absurd ((hoff 4 (by kernel_rfl)).symm.trans h0_) (by decide), fun h0_ => absurd ((hoff 5 (by kernel_rfl)).symm.trans h0_) (by decide), fun h0_ => absurd ((hoff 6 (by kernel_rfl)).symm.trans h0_) (by decide), Q_X8_⟩
                refine steps_cons ?_ ?_
                ·rintro b a w' ⟨v1377, v1381, v1385, gb1388, m1_, m3_, m4_, m5_, m6_, m8_, ha, Q_BK1371, Q_BK1372, Q_HB, Q_HO1378, Q_HO1382, Q_HO1386, Q_BK1388, Q_GW1388, Q_GE1388, Q_NB1371_1388, Q_NB1388_1371, Q_NB1372_1388, Q_NB1388_1372, Q_BK1388_e9, Q_X1_, Q_X3_, Q_X4_, Q_X5_, Q_X6_, Q_X8_⟩ hb_ hon hoff
                 refine ⟨_, rfl, fun K hK => ?_⟩
                 have e29 : a.tmps[29]? = some (m1_) := by rw [ha]; exact putSel_on (e := (1, 29, m1_)) 1 rfl rfl (hon 1 (by kernel_rfl)) rfl
                 rw [Q_X1_ (hon 1 (by kernel_rfl))] at e29
                 have e31 : a.tmps[31]? = some (m3_) := by rw [ha]; exact putSel_on (e := (3, 31, m3_)) 3 rfl rfl (hon 3 (by kernel_rfl)) rfl
                 rw [Q_X3_ (hon 3 (by kernel_rfl))] at e31
                 replace ha := Aside0.mk ha
                 have BK1371 := Aside0.mk Q_BK1371
                 have BK1372 := Aside0.mk Q_BK1372
                 have HB := Aside0.mk Q_HB
                 have HO1378 := Sq.m (Q_HO1378 (hon 1 (by kernel_rfl)))
                 have HO1382 := Sq.m (Q_HO1382 (hon 3 (by kernel_rfl)))
                 obtain ⟨Ao63, co63, eo63⟩ := Kd.R_slice HO1378.out
                 (first | subst eo63 | (injection eo63 with f1_ f2_ f3_; have f4_ := f1_.symm; have f5_ := f3_.symm; clear f1_ f2_ f3_; subst f4_; subst f5_))
                 obtain ⟨Ao64, co64, eo64⟩ := Kd.R_slice HO1382.out
                 (first | subst eo64 | (injection eo64 with f1_ f2_ f3_; have f4_ := f1_.symm; have f5_ := f3_.symm; clear f1_ f2_ f3_; subst f4_; subst f5_))
                 refine goes_ Try.func57 (by kernel_rfl) rfl #[.agg #[.bool t1375, .slice Ao63 t1376.length co63], .agg #[.bool t1379, .slice Ao64 t1380.length co64]] (by rfl) rfl rfl (by first | (simp only [List.map_toArray, List.map_cons, List.map_nil, Act.eval, Array.getD_eq_getD_getElem?, Option.getD_some, e29, e31]; done) | (simp only [List.map_toArray, List.map_cons, List.map_nil, Act.eval, Array.getD_eq_getD_getElem?, Option.getD_some, e29, e31]; rfl)) ?_
                 with_reducible refine (spec_WholeSub.calls k t1375 _ _ t1376 t1379 _ _ t1380 t1383 t1384 t1387 _ ?side1 ?side2 ?side3 ?side4 A21.out).mono ?_
                 (case side1 => repeat (first | exact (Kd.R_reads' HO1378.out).2.2 | (with_reducible refine Kd.C_alloc ?_ _) | (with_reducible refine Kd.C_drewN ?_ _) | (with_reducible refine Kd.C_drew ?_)))
                 (case side2 => exact (Kd.R_reads' HO1378.out).2.1)
                 (case side3 => repeat (first | exact (Kd.R_reads' HO1382.out).2.2 | (with_reducible refine Kd.C_alloc ?_ _) | (with_reducible refine Kd.C_drewN ?_ _) | (with_reducible refine Kd.C_drew ?_)))
                 (case side4 => exact (Kd.R_reads' HO1382.out).2.1)
                 rintro e w65 ⟨v1385, rfl, ho0, hb⟩
                 refine ⟨_, rfl, ?_⟩
                 have n0_ := Sq.m (Kd.R_elder' (by apply Sq.ra; exact HO1378.out) (Kd.R_base ho0) hb)
                 have n1_ := Sq.m (Kd.R_elder' (by apply Sq.ra; exact HO1382.out) (Kd.R_base ho0) hb)
                 have n2_ := Sq.m (Kd.R_lower (Kd.R_new' (Kd.R_new' ho0 (Kd.R_lt (by apply Sq.ra; exact HO1378.out))) (Kd.R_lt (by apply Sq.ra; exact HO1382.out))) (below_size (by repeat (first | (with_reducible first | exact HB.out | apply Sq.rc | refine below_set ?_ GE1371.out | refine below_set ?_ GE1372.out) | exact HB.out))))
                 have n3_ := Sq.m (blk_below (g := gb1371) (o := .cells #[.bool a0_0, .slice A0_1 l0_1.length c0_1] 56 (0, 0)) (by apply Sq.rb; exact BK1371.out) hb)
                 have n4_ := Sq.m (blk_below (g := gb1372) (o := .cells #[.bool a1_0, .slice A1_1 l1_1.length c1_1] 56 (0, 0)) (by apply Sq.rb; exact BK1372.out) hb)
                 have n5_ := Sq.m (below_step (by repeat (first | (with_reducible first | exact HB.out | apply Sq.rc | refine below_set ?_ GE1371.out | refine below_set ?_ GE1372.out) | exact HB.out)) hb)
                 have z_BK1388 := fun (h0_ : b 8 = true) (h1_ : b 9 = false) => (show w65.heap[gb1388]? = some (.cells #[.bool false, .slice none 0 0] 59 (0, 0)) from by first | exact (blk_below (g := gb1388) (o := .cells #[.bool false, .slice none 0 0] 59 (0, 0)) (by apply Sq.rb; exact (Q_BK1388 h0_ h1_)) hb))
                 clear HO1378
                 clear HO1382
                 clear BK1371
                 clear BK1372
                 clear HB
                 have HO1378 := n0_
                 have HO1382 := n1_
                 have HO1386 := n2_
                 have BK1371 := n3_
                 have BK1372 := n4_
                 have HB := n5_
                 clear n0_ n1_ n2_ n3_ n4_ n5_
                 (try clear hb)
                 (try clear hb2)
                 (try clear hk)
                 (try clear hi)
                 (try clear ho0)
                 refine hK.out _ _ ⟨.slice Ao63 t1376.length co63, .slice Ao64 t1380.length co64, v1385, gb1388, m1_, m3_, (.tuple #[.agg #[.bool t1383, v1385], .bool t1387]), m5_, m6_, m8_, (by rw [ha.out]; exact putSel_upk 4 hb_ rfl rfl rfl), (by apply Sq.rb; exact BK1371.out), (by apply Sq.rb; exact BK1372.out), (by repeat (first | (with_reducible first | exact HB.out | apply Sq.rc | refine below_set ?_ GE1371.out | refine below_set ?_ GE1372.out) | exact HB.out)), fun _ => (by apply Sq.ra; exact Kd.R_mono HO1378.out (fun _ hk => by first | exact True.intro | exact hk.1 | exact hk | exact hk.2 | simp only [hk, ne_eq, not_false_eq_true, and_self, and_true, true_and])), fun _ => (by apply Sq.ra; exact Kd.R_mono HO1382.out (fun _ hk => by first | exact True.intro | exact hk.1 | exact hk | exact hk.2 | simp only [hk, ne_eq, not_false_eq_true, and_self, and_true, true_and])), fun _ => (by apply Sq.ra; exact Kd.R_mono HO1386.out (fun _ hk => by first | exact True.intro | exact hk.1 | exact hk | exact ⟨hk.1.2, hk.2⟩ | simp only [hk, ne_eq, not_false_eq_true, and_self, and_true, true_and])), z_BK1388, Q_GW1388, Q_GE1388, Q_NB1371_1388, Q_NB1388_1371, Q_NB1372_1388, Q_NB1388_1372, fun h0_ => absurd ((hoff 9 (by kernel_rfl)).symm.trans h0_) (by decide), Q_X1_, Q_X3_, fun _ => rfl, fun h0_ => absurd ((hoff 5 (by kernel_rfl)).symm.trans h0_) (by decide), fun h0_ => absurd ((hoff 6 (by kernel_rfl)).symm.trans h0_) (by decide), Q_X8_⟩
                refine steps_cons ?_ ?_
                ·rintro b a w' ⟨v1377, v1381, v1385, gb1388, m1_, m3_, m4_, m5_, m6_, m8_, ha, Q_BK1371, Q_BK1372, Q_HB, Q_HO1378, Q_HO1382, Q_HO1386, Q_BK1388, Q_GW1388, Q_GE1388, Q_NB1371_1388, Q_NB1388_1371, Q_NB1372_1388, Q_NB1388_1372, Q_BK1388_e9, Q_X1_, Q_X3_, Q_X4_, Q_X5_, Q_X6_, Q_X8_⟩ hb_ hon hoff
                 refine ⟨_, rfl, fun K hK => ?_⟩
                 have e32 : a.tmps[32]? = some (m4_) := by rw [ha]; exact putSel_on (e := (4, 32, m4_)) 4 rfl rfl (hon 4 (by kernel_rfl)) rfl
                 rw [Q_X4_ (hon 4 (by kernel_rfl))] at e32
                 replace ha := Aside0.mk ha
                 have BK1371 := Aside0.mk Q_BK1371
                 have BK1372 := Aside0.mk Q_BK1372
                 have HB := Aside0.mk Q_HB
                 have HO1378 := Sq.m (Q_HO1378 (hon 1 (by kernel_rfl)))
                 have HO1382 := Sq.m (Q_HO1382 (hon 3 (by kernel_rfl)))
                 have HO1386 := Sq.m (Q_HO1386 (hon 4 (by kernel_rfl)))
                 refine value_ (w1 := w') (v := .tuple #[.agg #[.bool t1383, v1385], .bool t1387]) (by rfl) rfl ?_ ?_
                 ·go_simp
                  (try simp only [i64_w])
                  try rfl
                 refine hK.out _ _ ⟨v1377, v1381, v1385, gb1388, m1_, m3_, m4_, (.tuple #[.agg #[.bool t1383, v1385], .bool t1387]), m6_, m8_, (by rw [ha.out]; exact putSel_upk 5 hb_ rfl rfl rfl), Q_BK1371, Q_BK1372, Q_HB, Q_HO1378, Q_HO1382, Q_HO1386, Q_BK1388, Q_GW1388, Q_GE1388, Q_NB1371_1388, Q_NB1388_1371, Q_NB1372_1388, Q_NB1388_1372, fun h0_ => absurd ((hoff 9 (by kernel_rfl)).symm.trans h0_) (by decide), Q_X1_, Q_X3_, Q_X4_, fun _ => rfl, fun h0_ => absurd ((hoff 6 (by kernel_rfl)).symm.trans h0_) (by decide), Q_X8_⟩
                refine steps_cons ?_ ?_
                ·rintro b a w' ⟨v1377, v1381, v1385, gb1388, m1_, m3_, m4_, m5_, m6_, m8_, ha, Q_BK1371, Q_BK1372, Q_HB, Q_HO1378, Q_HO1382, Q_HO1386, Q_BK1388, Q_GW1388, Q_GE1388, Q_NB1371_1388, Q_NB1388_1371, Q_NB1372_1388, Q_NB1388_1372, Q_BK1388_e9, Q_X1_, Q_X3_, Q_X4_, Q_X5_, Q_X6_, Q_X8_⟩ hb_ hon hoff
                 refine ⟨_, rfl, fun K hK => ?_⟩
                 have e27 : a.tmps[27]? = some (m5_) := by rw [ha]; exact putSel_on (e := (5, 27, m5_)) 5 rfl rfl (hon 5 (by kernel_rfl)) rfl
                 rw [Q_X5_ (hon 5 (by kernel_rfl))] at e27
                 replace ha := Aside0.mk ha
                 have BK1371 := Aside0.mk Q_BK1371
                 have BK1372 := Aside0.mk Q_BK1372
                 have HB := Aside0.mk Q_HB
                 have HO1378 := Sq.m (Q_HO1378 (hon 1 (by kernel_rfl)))
                 have HO1382 := Sq.m (Q_HO1382 (hon 3 (by kernel_rfl)))
                 have HO1386 := Sq.m (Q_HO1386 (hon 4 (by kernel_rfl)))
                 refine value_ (w1 := w') (v := .agg #[.bool t1383, v1385]) (by rfl) rfl ?_ ?_
                 ·go_simp
                  (try simp only [i64_w])
                  try rfl
                 refine hK.out _ _ ⟨v1377, v1381, v1385, gb1388, m1_, m3_, m4_, m5_, (.agg #[.bool t1383, v1385]), m8_, (by rw [ha.out]; exact putSel_upk 6 hb_ rfl rfl rfl), Q_BK1371, Q_BK1372, Q_HB, Q_HO1378, Q_HO1382, Q_HO1386, Q_BK1388, Q_GW1388, Q_GE1388, Q_NB1371_1388, Q_NB1388_1371, Q_NB1372_1388, Q_NB1388_1372, fun h0_ => absurd ((hoff 9 (by kernel_rfl)).symm.trans h0_) (by decide), Q_X1_, Q_X3_, Q_X4_, Q_X5_, fun _ => rfl, Q_X8_⟩
                refine steps_cons ?_ ?_
                ·rintro b a w' ⟨v1377, v1381, v1385, gb1388, m1_, m3_, m4_, m5_, m6_, m8_, ha, Q_BK1371, Q_BK1372, Q_HB, Q_HO1378, Q_HO1382, Q_HO1386, Q_BK1388, Q_GW1388, Q_GE1388, Q_NB1371_1388, Q_NB1388_1371, Q_NB1372_1388, Q_NB1388_1372, Q_BK1388_e9, Q_X1_, Q_X3_, Q_X4_, Q_X5_, Q_X6_, Q_X8_⟩ hb_ hon hoff
                 refine ⟨_, rfl, fun K hK => ?_⟩
                 have e27 : a.tmps[27]? = some (m5_) := by rw [ha]; exact putSel_on (e := (5, 27, m5_)) 5 rfl rfl (hon 5 (by kernel_rfl)) rfl
                 rw [Q_X5_ (hon 5 (by kernel_rfl))] at e27
                 replace ha := Aside0.mk ha
                 have BK1371 := Aside0.mk Q_BK1371
                 have BK1372 := Aside0.mk Q_BK1372
                 have HB := Aside0.mk Q_HB
                 have HO1378 := Sq.m (Q_HO1378 (hon 1 (by kernel_rfl)))
                 have HO1382 := Sq.m (Q_HO1382 (hon 3 (by kernel_rfl)))
                 have HO1386 := Sq.m (Q_HO1386 (hon 4 (by kernel_rfl)))
                 refine value_ (w1 := w') (v := .bool t1387) (by rfl) rfl ?_ ?_
                 ·go_simp
                  (try simp only [i64_w])
                  try rfl
                 refine hK.out _ _ ⟨v1377, v1381, v1385, gb1388, m1_, m3_, m4_, m5_, m6_, m8_, (by rw [ha.out]; exact putSel_upk 7 hb_ rfl rfl rfl), Q_BK1371, Q_BK1372, Q_HB, Q_HO1378, Q_HO1382, Q_HO1386, Q_BK1388, Q_GW1388, Q_GE1388, Q_NB1371_1388, Q_NB1388_1371, Q_NB1372_1388, Q_NB1388_1372, Q_BK1388_e9, Q_X1_, Q_X3_, Q_X4_, Q_X5_, Q_X6_, Q_X8_⟩
                refine steps_cons ?_ ?_
                ·rintro b a w' ⟨v1377, v1381, v1385, gb1388, m1_, m3_, m4_, m5_, m6_, m8_, ha, Q_BK1371, Q_BK1372, Q_HB, Q_HO1378, Q_HO1382, Q_HO1386, Q_BK1388, Q_GW1388, Q_GE1388, Q_NB1371_1388, Q_NB1388_1371, Q_NB1372_1388, Q_NB1388_1372, Q_BK1388_e9, Q_X1_, Q_X3_, Q_X4_, Q_X5_, Q_X6_, Q_X8_⟩ hb_ hon hoff
                 refine ⟨_, rfl, fun K hK => ?_⟩
                 replace ha := Aside0.mk ha
                 have BK1371 := Aside0.mk Q_BK1371
                 have BK1372 := Aside0.mk Q_BK1372
                 have HB := Aside0.mk Q_HB
                 refine box_step ?hg (N := 6) ?hd (cs := #[.bool false, .slice none 0 0]) (t := 59) ?hr ?_; (case hd => rfl); (case hg => rfl); (case hr => first | (go_simp; done) | (go_simp; rfl))
                 intro gb1388 hg w60 hbox hb
                 have n0_ := Sq.m (blk_below (g := gb1371) (o := .cells #[.bool a0_0, .slice A0_1 l0_1.length c0_1] 56 (0, 0)) (by apply Sq.rb; exact BK1371.out) hb)
                 have n1_ := Sq.m (blk_below (g := gb1372) (o := .cells #[.bool a1_0, .slice A1_1 l1_1.length c1_1] 56 (0, 0)) (by apply Sq.rb; exact BK1372.out) hb)
                 have n2_ := Sq.m (below_step (by repeat (first | (with_reducible first | exact HB.out | apply Sq.rc | refine below_set ?_ GE1371.out | refine below_set ?_ GE1372.out) | exact HB.out)) hb)
                 have n3_ := Sq.m (hbox)
                 have n4_ := Sq.m ((by rw [hg]; exact (below_size (by repeat (first | (with_reducible first | exact HB.out | apply Sq.rc | refine below_set ?_ GE1371.out | refine below_set ?_ GE1372.out) | exact HB.out))) : w.heap.size ≤ gb1388))
                 have n5_ := Sq.m ((by rw [hg]; exact (below_size (by repeat (first | (with_reducible first | exact HB.out | apply Sq.rc | refine below_set ?_ GE1371.out | refine below_set ?_ GE1372.out) | exact HB.out))) : w.heap.size ≤ gb1388))
                 have n6_ := Sq.m ((by rw [hg]; exact Nat.ne_of_lt (blk_lt (g := gb1371) (o := .cells #[.bool a0_0, .slice A0_1 l0_1.length c0_1] 56 (0, 0)) (by apply Sq.rb; exact BK1371.out)) : gb1371 ≠ gb1388))
                 have n7_ := Sq.m ((by rw [hg]; exact Nat.ne_of_gt (blk_lt (g := gb1371) (o := .cells #[.bool a0_0, .slice A0_1 l0_1.length c0_1] 56 (0, 0)) (by apply Sq.rb; exact BK1371.out)) : gb1388 ≠ gb1371))
                 have n8_ := Sq.m ((by rw [hg]; exact Nat.ne_of_lt (blk_lt (g := gb1372) (o := .cells #[.bool a1_0, .slice A1_1 l1_1.length c1_1] 56 (0, 0)) (by apply Sq.rb; exact BK1372.out)) : gb1372 ≠ gb1388))
                 have n9_ := Sq.m ((by rw [hg]; exact Nat.ne_of_gt (blk_lt (g := gb1372) (o := .cells #[.bool a1_0, .slice A1_1 l1_1.length c1_1] 56 (0, 0)) (by apply Sq.rb; exact BK1372.out)) : gb1388 ≠ gb1372))
                 have z_HO1378 := fun (h0_ : b 1 = true) => (show Kd.R (Kd.int .i64) 3 w60 w.heap.size (fun _ => True) v1377 t1376 from by first | exact (Kd.R_below (by apply Sq.ra; exact (Q_HO1378 h0_)) hb) | exact Kd.R_mono (Kd.R_below (by apply Sq.ra; exact (Q_HO1378 h0_)) hb) (fun _ h_ => by first | trivial | exact h_ | exact h_.1))
                 have z_HO1382 := fun (h0_ : b 3 = true) => (show Kd.R (Kd.int .i64) 3 w60 w.heap.size (fun _ => True) v1381 t1380 from by first | exact (Kd.R_below (by apply Sq.ra; exact (Q_HO1382 h0_)) hb) | exact Kd.R_mono (Kd.R_below (by apply Sq.ra; exact (Q_HO1382 h0_)) hb) (fun _ h_ => by first | trivial | exact h_ | exact h_.1))
                 have z_HO1386 := fun (h0_ : b 4 = true) => (show Kd.R (Kd.int .i64) 3 w60 w.heap.size (fun _ => True) v1385 t1384 from by first | exact (Kd.R_below (by apply Sq.ra; exact (Q_HO1386 h0_)) hb) | exact Kd.R_mono (Kd.R_below (by apply Sq.ra; exact (Q_HO1386 h0_)) hb) (fun _ h_ => by first | trivial | exact h_ | exact h_.1))
                 clear BK1371
                 clear BK1372
                 clear HB
                 have BK1371 := n0_
                 have BK1372 := n1_
                 have HB := n2_
                 have BK1388 := n3_
                 have GW1388 := n4_
                 have GE1388 := n5_
                 have NB1371_1388 := n6_
                 have NB1388_1371 := n7_
                 have NB1372_1388 := n8_
                 have NB1388_1372 := n9_
                 clear n0_ n1_ n2_ n3_ n4_ n5_ n6_ n7_ n8_ n9_
                 clear hb hbox hg
                 refine hK.out _ _ ⟨v1377, v1381, v1385, gb1388, m1_, m3_, m4_, m5_, m6_, (.pointer (some ⟨gb1388, 0, none⟩)), (by rw [ha.out]; exact putSel_upk 8 hb_ rfl rfl rfl), (by apply Sq.rb; exact BK1371.out), (by apply Sq.rb; exact BK1372.out), (by repeat (first | (with_reducible first | exact HB.out | apply Sq.rc | refine below_set ?_ GE1371.out | refine below_set ?_ GE1372.out | refine below_set ?_ GE1388.out) | exact HB.out)), z_HO1378, z_HO1382, z_HO1386, fun _ _ => (by apply Sq.rb; exact BK1388.out), fun _ => GW1388.out, fun _ => GE1388.out, fun _ => NB1371_1388.out, fun _ => NB1388_1371.out, fun _ => NB1372_1388.out, fun _ => NB1388_1372.out, fun h0_ => absurd ((hoff 9 (by kernel_rfl)).symm.trans h0_) (by decide), Q_X1_, Q_X3_, Q_X4_, Q_X5_, Q_X6_, fun _ => rfl⟩
                refine steps_cons ?_ ?_
                ·rintro b a w' ⟨v1377, v1381, v1385, gb1388, m1_, m3_, m4_, m5_, m6_, m8_, ha, Q_BK1371, Q_BK1372, Q_HB, Q_HO1378, Q_HO1382, Q_HO1386, Q_BK1388, Q_GW1388, Q_GE1388, Q_NB1371_1388, Q_NB1388_1371, Q_NB1372_1388, Q_NB1388_1372, Q_BK1388_e9, Q_X1_, Q_X3_, Q_X4_, Q_X5_, Q_X6_, Q_X8_⟩ hb_ hon hoff
                 refine ⟨_, rfl, fun K hK => ?_⟩
                 have e6 : a.tmps[6]? = some (m8_) := by rw [ha]; exact putSel_on (e := (8, 6, m8_)) 8 rfl rfl (hon 8 (by kernel_rfl)) rfl
                 rw [Q_X8_ (hon 8 (by kernel_rfl))] at e6
                 have e33 : a.tmps[33]? = some (m6_) := by rw [ha]; exact putSel_on (e := (6, 33, m6_)) 6 rfl rfl (hon 6 (by kernel_rfl)) rfl
                 rw [Q_X6_ (hon 6 (by kernel_rfl))] at e33
                 replace ha := Aside0.mk ha
                 have BK1371 := Aside0.mk Q_BK1371
                 have BK1372 := Aside0.mk Q_BK1372
                 have HB := Aside0.mk Q_HB
                 have HO1378 := Sq.m (Q_HO1378 (hon 1 (by kernel_rfl)))
                 have HO1382 := Sq.m (Q_HO1382 (hon 3 (by kernel_rfl)))
                 have HO1386 := Sq.m (Q_HO1386 (hon 4 (by kernel_rfl)))
                 have BK1388 := Sq.m (Q_BK1388 (hon 8 (by kernel_rfl)) hb_)
                 have GW1388 := Sq.m (Q_GW1388 (hon 8 (by kernel_rfl)))
                 have GE1388 := Sq.m (Q_GE1388 (hon 8 (by kernel_rfl)))
                 have NB1371_1388 := Sq.m (Q_NB1371_1388 (hon 8 (by kernel_rfl)))
                 have NB1388_1371 := Sq.m (Q_NB1388_1371 (hon 8 (by kernel_rfl)))
                 have NB1372_1388 := Sq.m (Q_NB1372_1388 (hon 8 (by kernel_rfl)))
                 have NB1388_1372 := Sq.m (Q_NB1388_1372 (hon 8 (by kernel_rfl)))
                 obtain ⟨Ao68, co68, eo68⟩ := Kd.R_slice HO1386.out
                 (first | subst eo68 | (injection eo68 with f1_ f2_ f3_; have f4_ := f1_.symm; have f5_ := f3_.symm; clear f1_ f2_ f3_; subst f4_; subst f5_))
                 have hs67 : w'.cell? ⟨gb1388, 0, none⟩ = some (.bool false) := (blk_cell BK1388.out 0).trans rfl
                 have hfs67 := blk_frozen BK1388.out 0
                 have hns67_0 := NB1371_1388.out
                 have hns67_1 := NB1372_1388.out
                 have hms67_0 := NB1388_1371.out
                 have hms67_1 := NB1388_1372.out
                 have hs69 : w'.cell? ⟨gb1388, 1, none⟩ = some (.slice none 0 0) := (blk_cell BK1388.out 1).trans rfl
                 have hfs69 := blk_frozen BK1388.out 1
                 have hns69_0 := NB1371_1388.out
                 have hns69_1 := NB1372_1388.out
                 have hms69_0 := NB1388_1371.out
                 have hms69_1 := NB1388_1372.out
                 refine skip_ (w1 := ?_) (by rfl) rfl ?_ ?_
                 rotate_left
                 ·go_simp
                  rfl
                 refine hK.out _ _ ⟨v1377, v1381, .slice Ao68 t1384.length co68, gb1388, m1_, m3_, m4_, m5_, m6_, m8_, (by rw [ha.out]; exact putSel_none (v := undef) rfl), (by apply Sq.rb; refine blk_far ?_ NB1371_1388.out _; apply Sq.rb; refine blk_far ?_ NB1371_1388.out _; apply Sq.rb; exact BK1371.out), (by apply Sq.rb; refine blk_far ?_ NB1372_1388.out _; apply Sq.rb; refine blk_far ?_ NB1372_1388.out _; apply Sq.rb; exact BK1372.out), (by repeat (first | (with_reducible first | exact HB.out | apply Sq.rc | refine below_set ?_ GE1371.out | refine below_set ?_ GE1372.out | refine below_set ?_ GE1388.out) | exact HB.out)), fun _ => (by apply Sq.ra; exact Kd.R_mono (Kd.R_far (p := ⟨gb1388, 1, none⟩) (Kd.R_far (p := ⟨gb1388, 0, none⟩) (Kd.R_types HO1378.out BK1388.out (by decide)) (fun _ hk => hk.2) (.bool t1383)) (fun _ hk => hk.2) (.slice Ao68 t1384.length co68)) (fun _ hk => trivial)), fun _ => (by apply Sq.ra; exact Kd.R_mono (Kd.R_far (p := ⟨gb1388, 1, none⟩) (Kd.R_far (p := ⟨gb1388, 0, none⟩) (Kd.R_types HO1382.out BK1388.out (by decide)) (fun _ hk => hk.2) (.bool t1383)) (fun _ hk => hk.2) (.slice Ao68 t1384.length co68)) (fun _ hk => trivial)), fun _ => (by apply Sq.ra; exact Kd.R_mono (Kd.R_far (p := ⟨gb1388, 1, none⟩) (Kd.R_far (p := ⟨gb1388, 0, none⟩) (Kd.R_types HO1386.out BK1388.out (by decide)) (fun _ hk => hk.2) (.bool t1383)) (fun _ hk => hk.2) (.slice Ao68 t1384.length co68)) (fun _ hk => trivial)), fun _ h1_ => absurd ((up_self b 9).symm.trans h1_) (by decide), fun _ => GW1388.out, fun _ => GE1388.out, fun _ => NB1371_1388.out, fun _ => NB1388_1371.out, fun _ => NB1372_1388.out, fun _ => NB1388_1372.out, fun _ => (by apply Sq.rb; refine blk_put (cs := #[.bool t1383, .slice none 0 0]) ?_ 1 _ rfl; apply Sq.rb; refine blk_put (cs := #[.bool false, .slice none 0 0]) ?_ 0 _ rfl; apply Sq.rb; exact BK1388.out), Q_X1_, Q_X3_, Q_X4_, Q_X5_, Q_X6_, Q_X8_⟩
                refine steps_cons ?_ ?_
                ·rintro b a w' ⟨v1377, v1381, v1385, gb1388, m1_, m3_, m4_, m5_, m6_, m8_, ha, Q_BK1371, Q_BK1372, Q_HB, Q_HO1378, Q_HO1382, Q_HO1386, Q_BK1388, Q_GW1388, Q_GE1388, Q_NB1371_1388, Q_NB1388_1371, Q_NB1372_1388, Q_NB1388_1372, Q_BK1388_e9, Q_X1_, Q_X3_, Q_X4_, Q_X5_, Q_X6_, Q_X8_⟩ hb_ hon hoff
                 refine ⟨_, rfl, fun K hK => ?_⟩
                 have e34 : a.tmps[34]? = some (.bool t1387) := by rw [ha]; exact putSel_on (e := (7, 34, .bool t1387)) 7 rfl rfl (hon 7 (by kernel_rfl)) rfl
                 replace ha := Aside0.mk ha
                 have BK1371 := Aside0.mk Q_BK1371
                 have BK1372 := Aside0.mk Q_BK1372
                 have HB := Aside0.mk Q_HB
                 have HO1378 := Sq.m (Q_HO1378 (hon 1 (by kernel_rfl)))
                 have HO1382 := Sq.m (Q_HO1382 (hon 3 (by kernel_rfl)))
                 have HO1386 := Sq.m (Q_HO1386 (hon 4 (by kernel_rfl)))
                 have GW1388 := Sq.m (Q_GW1388 (hon 8 (by kernel_rfl)))
                 have GE1388 := Sq.m (Q_GE1388 (hon 8 (by kernel_rfl)))
                 have NB1371_1388 := Sq.m (Q_NB1371_1388 (hon 8 (by kernel_rfl)))
                 have NB1388_1371 := Sq.m (Q_NB1388_1371 (hon 8 (by kernel_rfl)))
                 have NB1372_1388 := Sq.m (Q_NB1372_1388 (hon 8 (by kernel_rfl)))
                 have NB1388_1372 := Sq.m (Q_NB1388_1372 (hon 8 (by kernel_rfl)))
                 have BK1388 := Sq.m (Q_BK1388_e9 (hon 9 (by kernel_rfl)))
                 refine value_ (w1 := w') (v := .bool t1387) (by rfl) rfl ?_ ?_
                 ·go_simp
                  (try simp only [i64_w])
                  try rfl
                 refine hK.out _ _ ⟨v1377, v1381, v1385, gb1388, m1_, m3_, m4_, m5_, m6_, m8_, (by rw [ha.out]; exact putSel_upk 9 hb_ rfl rfl rfl), Q_BK1371, Q_BK1372, Q_HB, Q_HO1378, Q_HO1382, Q_HO1386, fun _ h1_ => absurd ((hon 9 (by kernel_rfl)).symm.trans h1_) (by decide), Q_GW1388, Q_GE1388, Q_NB1371_1388, Q_NB1388_1371, Q_NB1372_1388, Q_NB1388_1372, Q_BK1388_e9, Q_X1_, Q_X3_, Q_X4_, Q_X5_, Q_X6_, Q_X8_⟩
                exact steps_nil
               rintro b a w69 hall ⟨v1377, v1381, v1385, gb1388, m1_, m3_, m4_, m5_, m6_, m8_, ha, Q_BK1371, Q_BK1372, Q_HB, Q_HO1378, Q_HO1382, Q_HO1386, Q_BK1388, Q_GW1388, Q_GE1388, Q_NB1371_1388, Q_NB1388_1371, Q_NB1372_1388, Q_NB1388_1372, Q_BK1388_e9, Q_X1_, Q_X3_, Q_X4_, Q_X5_, Q_X6_, Q_X8_⟩
               clear BK1371 BK1372 HB
               have hb0_ := hall 0 (by kernel_rfl)
               have hb1_ := hall 1 (by kernel_rfl)
               have hb2_ := hall 2 (by kernel_rfl)
               have hb3_ := hall 3 (by kernel_rfl)
               have hb4_ := hall 4 (by kernel_rfl)
               have hb5_ := hall 5 (by kernel_rfl)
               have hb6_ := hall 6 (by kernel_rfl)
               have hb7_ := hall 7 (by kernel_rfl)
               have hb8_ := hall 8 (by kernel_rfl)
               have hb9_ := hall 9 (by kernel_rfl)
               have hb10_ := hall 10 (by kernel_rfl)
               subst ha
               obtain rfl := Q_X1_ hb1_
               obtain rfl := Q_X3_ hb3_
               obtain rfl := Q_X4_ hb4_
               obtain rfl := Q_X5_ hb5_
               obtain rfl := Q_X6_ hb6_
               obtain rfl := Q_X8_ hb8_
               simp only [putSel, hb0_, hb1_, hb2_, hb3_, hb4_, hb5_, hb6_, hb7_, hb8_, hb9_, hb10_, if_true, Act.put, List.setIfInBounds_toArray, List.set_cons_zero, List.set_cons_succ]
               have BK1371 := Aside0.mk Q_BK1371
               clear Q_BK1371
               have BK1372 := Aside0.mk Q_BK1372
               clear Q_BK1372
               have HB := Aside0.mk Q_HB
               clear Q_HB
               have HO1378 := Sq.m (Q_HO1378 hb1_)
               clear Q_HO1378
               have HO1382 := Sq.m (Q_HO1382 hb3_)
               clear Q_HO1382
               have HO1386 := Sq.m (Q_HO1386 hb4_)
               clear Q_HO1386
               clear Q_BK1388
               have GW1388 := Sq.m (Q_GW1388 hb8_)
               clear Q_GW1388
               have GE1388 := Sq.m (Q_GE1388 hb8_)
               clear Q_GE1388
               have NB1371_1388 := Sq.m (Q_NB1371_1388 hb8_)
               clear Q_NB1371_1388
               have NB1388_1371 := Sq.m (Q_NB1388_1371 hb8_)
               clear Q_NB1388_1371
               have NB1372_1388 := Sq.m (Q_NB1372_1388 hb8_)
               clear Q_NB1372_1388
               have NB1388_1372 := Sq.m (Q_NB1388_1372 hb8_)
               clear Q_NB1388_1372
               have BK1388 := Sq.m (Q_BK1388_e9 hb9_)
               clear Q_BK1388_e9
               clear hall hb0_ hb1_ hb2_ hb3_ hb4_ hb5_ hb6_ hb7_ hb8_ hb9_ hb10_
               have hnb70 := NB1371_1388.out
               have hnc70 := NB1388_1371.out
               have hcz71_0 : w69.cell? ⟨gb1371, 0, none⟩ = some (.bool a0_0) := (blk_cell BK1371.out 0).trans rfl
               have hcz71_1 : w69.cell? ⟨gb1371, 1, none⟩ = some (.slice A0_1 l0_1.length c0_1) := (blk_cell BK1371.out 1).trans rfl
               have hfz71_0 := blk_frozen BK1371.out 0
               have hfz71_1 := blk_frozen BK1371.out 1
               try go_wp2_with (first | ((with_reducible refine gate_callee (f := 52) rfl ?_); refine goesL_ (some 36) rfl rfl Try.func52 (by kernel_rfl) rfl #[.agg #[.bool a0_0, .slice A0_1 l0_1.length c0_1]] rfl (by (try simp only [List.map_toArray, List.map_cons, List.map_nil]); first | done | rfl | (simp only [List.length_drop, List.length_take]; rfl) | (simp only [i64_w, u8_w, w64_b]; rfl)) ?_; (with_reducible refine (laws_toWhole.calls k a0_0 _ _ l0_1 t1389 t1390 _ ?side1 ?side2 A22.out).mono ?_); (case side1 => repeat (first | exact (Kd.C_below HR0_1.out HB.out) | (with_reducible refine Kd.C_alloc ?_ _) | (with_reducible refine Kd.C_drewN ?_ _) | (with_reducible refine Kd.C_drew ?_))); (case side2 => exact HC0_1.out); rintro e w72 ⟨v1391, rfl, ho0, hb⟩; refine ⟨_, rfl, ?_⟩; have n0_ := Sq.m (Kd.R_elder' (by apply Sq.ra; exact HO1378.out) (Kd.R_base ho0) hb); have n1_ := Sq.m (Kd.R_elder' (by apply Sq.ra; exact HO1382.out) (Kd.R_base ho0) hb); have n2_ := Sq.m (Kd.R_elder' (by apply Sq.ra; exact HO1386.out) (Kd.R_base ho0) hb); have n3_ := Sq.m (Kd.R_lower (Kd.R_new' (Kd.R_new' (Kd.R_new' ho0 (Kd.R_lt (by apply Sq.ra; exact HO1378.out))) (Kd.R_lt (by apply Sq.ra; exact HO1382.out))) (Kd.R_lt (by apply Sq.ra; exact HO1386.out))) (below_size (by repeat (first | (with_reducible first | exact HB.out | apply Sq.rc | refine below_set ?_ GE1371.out | refine below_set ?_ GE1372.out | refine below_set ?_ GE1388.out) | exact HB.out)))); have n4_ := Sq.m (blk_below (g := gb1371) (o := .cells #[.bool a0_0, .slice A0_1 l0_1.length c0_1] 56 (0, 0)) (by apply Sq.rb; exact BK1371.out) hb); have n5_ := Sq.m (blk_below (g := gb1372) (o := .cells #[.bool a1_0, .slice A1_1 l1_1.length c1_1] 56 (0, 0)) (by apply Sq.rb; exact BK1372.out) hb); have n6_ := Sq.m (blk_below (g := gb1388) (o := .cells #[.bool t1383, v1385] 59 (0, 0)) (by apply Sq.rb; exact BK1388.out) hb); have n7_ := Sq.m (below_step (by repeat (first | (with_reducible first | exact HB.out | apply Sq.rc | refine below_set ?_ GE1371.out | refine below_set ?_ GE1372.out | refine below_set ?_ GE1388.out) | exact HB.out)) hb); clear HO1378; clear HO1382; clear HO1386; clear BK1371; clear BK1372; clear BK1388; clear HB; have HO1378 := n0_; have HO1382 := n1_; have HO1386 := n2_; have HO1392 := n3_; have BK1371 := n4_; have BK1372 := n5_; have BK1388 := n6_; have HB := n7_; clear n0_ n1_ n2_ n3_ n4_ n5_ n6_ n7_; (try clear hb); (try clear hb2); (try clear hk); (try clear hi); (try clear ho0)) | ((with_reducible refine gate_dst (N := 8) rfl ?_); refine box_event ?hg (N := 8) ?hd (cs := #[.bool false, .slice none 0 0]) (t := 59) ?hr ?_; (case hd => rfl); (case hg => rfl); (case hr => first | (go_simp; done) | (go_simp; rfl)); intro gb1393 hg w73 hbox hb; have n0_ := Sq.m (Kd.R_below (by apply Sq.ra; exact HO1378.out) hb); have n1_ := Sq.m (Kd.R_below (by apply Sq.ra; exact HO1382.out) hb); have n2_ := Sq.m (Kd.R_below (by apply Sq.ra; exact HO1386.out) hb); have n3_ := Sq.m (Kd.R_below (by apply Sq.ra; exact HO1392.out) hb); have n4_ := Sq.m (blk_below (g := gb1371) (o := .cells #[.bool a0_0, .slice A0_1 l0_1.length c0_1] 56 (0, 0)) (by apply Sq.rb; exact BK1371.out) hb); have n5_ := Sq.m (blk_below (g := gb1372) (o := .cells #[.bool a1_0, .slice A1_1 l1_1.length c1_1] 56 (0, 0)) (by apply Sq.rb; exact BK1372.out) hb); have n6_ := Sq.m (blk_below (g := gb1388) (o := .cells #[.bool t1383, v1385] 59 (0, 0)) (by apply Sq.rb; exact BK1388.out) hb); have n7_ := Sq.m (below_step (by repeat (first | (with_reducible first | exact HB.out | apply Sq.rc | refine below_set ?_ GE1371.out | refine below_set ?_ GE1372.out | refine below_set ?_ GE1388.out) | exact HB.out)) hb); have n8_ := Sq.m (hbox); have n9_ := Sq.m ((by rw [hg]; exact (below_size (by repeat (first | (with_reducible first | exact HB.out | apply Sq.rc | refine below_set ?_ GE1371.out | refine below_set ?_ GE1372.out | refine below_set ?_ GE1388.out) | exact HB.out))) : w.heap.size ≤ gb1393)); have n10_ := Sq.m ((by rw [hg]; exact (below_size (by repeat (first | (with_reducible first | exact HB.out | apply Sq.rc | refine below_set ?_ GE1371.out | refine below_set ?_ GE1372.out | refine below_set ?_ GE1388.out) | exact HB.out))) : w.heap.size ≤ gb1393)); have n11_ := Sq.m ((by rw [hg]; exact Nat.ne_of_lt (blk_lt (g := gb1371) (o := .cells #[.bool a0_0, .slice A0_1 l0_1.length c0_1] 56 (0, 0)) (by apply Sq.rb; exact BK1371.out)) : gb1371 ≠ gb1393)); have n12_ := Sq.m ((by rw [hg]; exact Nat.ne_of_gt (blk_lt (g := gb1371) (o := .cells #[.bool a0_0, .slice A0_1 l0_1.length c0_1] 56 (0, 0)) (by apply Sq.rb; exact BK1371.out)) : gb1393 ≠ gb1371)); have n13_ := Sq.m ((by rw [hg]; exact Nat.ne_of_lt (blk_lt (g := gb1372) (o := .cells #[.bool a1_0, .slice A1_1 l1_1.length c1_1] 56 (0, 0)) (by apply Sq.rb; exact BK1372.out)) : gb1372 ≠ gb1393)); have n14_ := Sq.m ((by rw [hg]; exact Nat.ne_of_gt (blk_lt (g := gb1372) (o := .cells #[.bool a1_0, .slice A1_1 l1_1.length c1_1] 56 (0, 0)) (by apply Sq.rb; exact BK1372.out)) : gb1393 ≠ gb1372)); have n15_ := Sq.m ((by rw [hg]; exact Nat.ne_of_lt (blk_lt (g := gb1388) (o := .cells #[.bool t1383, v1385] 59 (0, 0)) (by apply Sq.rb; exact BK1388.out)) : gb1388 ≠ gb1393)); have n16_ := Sq.m ((by rw [hg]; exact Nat.ne_of_gt (blk_lt (g := gb1388) (o := .cells #[.bool t1383, v1385] 59 (0, 0)) (by apply Sq.rb; exact BK1388.out)) : gb1393 ≠ gb1388)); clear HO1378; clear HO1382; clear HO1386; clear HO1392; clear BK1371; clear BK1372; clear BK1388; clear HB; have HO1378 := n0_; have HO1382 := n1_; have HO1386 := n2_; have HO1392 := n3_; have BK1371 := n4_; have BK1372 := n5_; have BK1388 := n6_; have HB := n7_; have BK1393 := n8_; have GW1393 := n9_; have GE1393 := n10_; have NB1371_1393 := n11_; have NB1393_1371 := n12_; have NB1372_1393 := n13_; have NB1393_1372 := n14_; have NB1388_1393 := n15_; have NB1393_1388 := n16_; clear n0_ n1_ n2_ n3_ n4_ n5_ n6_ n7_ n8_ n9_ n10_ n11_ n12_ n13_ n14_ n15_ n16_; clear hb hbox hg; have hnb74 := NB1393_1371.out; have hnc74 := NB1371_1393.out; have hnb75 := NB1393_1372.out; have hnc75 := NB1372_1393.out; have hnb76 := NB1393_1388.out; have hnc76 := NB1388_1393.out; have hcz77_0 : w73.cell? ⟨gb1393, 0, none⟩ = some (.bool false) := (blk_cell BK1393.out 0).trans rfl; have hcz77_1 : w73.cell? ⟨gb1393, 1, none⟩ = some (.slice none 0 0) := (blk_cell BK1393.out 1).trans rfl; have hfz77_0 := blk_frozen BK1393.out 0; have hfz77_1 := blk_frozen BK1393.out 1; obtain ⟨Ao78, co78, eo78⟩ := Kd.R_slice HO1392.out; subst eo78; have hnb79 := NB1372_1388.out; have hnc79 := NB1388_1372.out; have hcz80_0 : w73.cell? ⟨gb1372, 0, none⟩ = some (.bool a1_0) := (blk_cell BK1372.out 0).trans rfl; have hcz80_1 : w73.cell? ⟨gb1372, 1, none⟩ = some (.slice A1_1 l1_1.length c1_1) := (blk_cell BK1372.out 1).trans rfl; have hfz80_0 := blk_frozen BK1372.out 0; have hfz80_1 := blk_frozen BK1372.out 1) | ((with_reducible refine gate_callee (f := 52) rfl ?_); refine goesL_ (some 38) rfl rfl Try.func52 (by kernel_rfl) rfl #[.agg #[.bool a1_0, .slice A1_1 l1_1.length c1_1]] rfl (by (try simp only [List.map_toArray, List.map_cons, List.map_nil]); first | done | rfl | (simp only [List.length_drop, List.length_take]; rfl) | (simp only [i64_w, u8_w, w64_b]; rfl)) ?_; (with_reducible refine (laws_toWhole.calls k a1_0 _ _ l1_1 t1394 t1395 _ ?side1 ?side2 A23.out).mono ?_); (case side1 => exact Kd.C_below HR1_1.out (by repeat (first | (with_reducible first | exact HB.out | apply Sq.rc | refine below_set ?_ GE1371.out | refine below_set ?_ GE1372.out | refine below_set ?_ GE1388.out | refine below_set ?_ GE1393.out) | exact HB.out))); (case side2 => exact HC1_1.out); rintro e w81 ⟨v1396, rfl, ho0, hb⟩; refine ⟨_, rfl, ?_⟩; have n0_ := Sq.m (Kd.R_elder' (by apply Sq.ra; exact (Kd.R_mono (Kd.R_far (p := ⟨gb1393, 1, none⟩) (Kd.R_far (p := ⟨gb1393, 0, none⟩) (Kd.R_types HO1378.out BK1393.out (by decide)) (fun _ hk => hk.2) (.bool t1389)) (fun _ hk => hk.2) (.slice Ao78 t1390.length co78)) (fun _ h_ => h_.1))) (Kd.R_base ho0) hb); have n1_ := Sq.m (Kd.R_elder' (by apply Sq.ra; exact (Kd.R_mono (Kd.R_far (p := ⟨gb1393, 1, none⟩) (Kd.R_far (p := ⟨gb1393, 0, none⟩) (Kd.R_types HO1382.out BK1393.out (by decide)) (fun _ hk => hk.2) (.bool t1389)) (fun _ hk => hk.2) (.slice Ao78 t1390.length co78)) (fun _ h_ => h_.1))) (Kd.R_base ho0) hb); have n2_ := Sq.m (Kd.R_elder' (by apply Sq.ra; exact (Kd.R_mono (Kd.R_far (p := ⟨gb1393, 1, none⟩) (Kd.R_far (p := ⟨gb1393, 0, none⟩) (Kd.R_types HO1386.out BK1393.out (by decide)) (fun _ hk => hk.2) (.bool t1389)) (fun _ hk => hk.2) (.slice Ao78 t1390.length co78)) (fun _ h_ => h_.1))) (Kd.R_base ho0) hb); have n3_ := Sq.m (Kd.R_elder' (by apply Sq.ra; exact (Kd.R_mono (Kd.R_far (p := ⟨gb1393, 1, none⟩) (Kd.R_far (p := ⟨gb1393, 0, none⟩) (Kd.R_types HO1392.out BK1393.out (by decide)) (fun _ hk => hk.2) (.bool t1389)) (fun _ hk => hk.2) (.slice Ao78 t1390.length co78)) (fun _ h_ => h_.1))) (Kd.R_base ho0) hb); have n4_ := Sq.m (Kd.R_lower (Kd.R_new' (Kd.R_new' (Kd.R_new' (Kd.R_new' ho0 (Kd.R_lt (by apply Sq.ra; exact (Kd.R_mono (Kd.R_far (p := ⟨gb1393, 1, none⟩) (Kd.R_far (p := ⟨gb1393, 0, none⟩) (Kd.R_types HO1378.out BK1393.out (by decide)) (fun _ hk => hk.2) (.bool t1389)) (fun _ hk => hk.2) (.slice Ao78 t1390.length co78)) (fun _ h_ => h_.1))))) (Kd.R_lt (by apply Sq.ra; exact (Kd.R_mono (Kd.R_far (p := ⟨gb1393, 1, none⟩) (Kd.R_far (p := ⟨gb1393, 0, none⟩) (Kd.R_types HO1382.out BK1393.out (by decide)) (fun _ hk => hk.2) (.bool t1389)) (fun _ hk => hk.2) (.slice Ao78 t1390.length co78)) (fun _ h_ => h_.1))))) (Kd.R_lt (by apply Sq.ra; exact (Kd.R_mono (Kd.R_far (p := ⟨gb1393, 1, none⟩) (Kd.R_far (p := ⟨gb1393, 0, none⟩) (Kd.R_types HO1386.out BK1393.out (by decide)) (fun _ hk => hk.2) (.bool t1389)) (fun _ hk => hk.2) (.slice Ao78 t1390.length co78)) (fun _ h_ => h_.1))))) (Kd.R_lt (by apply Sq.ra; exact (Kd.R_mono (Kd.R_far (p := ⟨gb1393, 1, none⟩) (Kd.R_far (p := ⟨gb1393, 0, none⟩) (Kd.R_types HO1392.out BK1393.out (by decide)) (fun _ hk => hk.2) (.bool t1389)) (fun _ hk => hk.2) (.slice Ao78 t1390.length co78)) (fun _ h_ => h_.1))))) (below_size (by repeat (first | (with_reducible first | exact HB.out | apply Sq.rc | refine below_set ?_ GE1371.out | refine below_set ?_ GE1372.out | refine below_set ?_ GE1388.out | refine below_set ?_ GE1393.out) | exact HB.out)))); have n5_ := Sq.m (blk_below (g := gb1371) (o := .cells #[.bool a0_0, .slice A0_1 l0_1.length c0_1] 56 (0, 0)) (by apply Sq.rb; refine blk_far ?_ NB1371_1393.out _; apply Sq.rb; refine blk_far ?_ NB1371_1393.out _; apply Sq.rb; exact BK1371.out) hb); have n6_ := Sq.m (blk_below (g := gb1372) (o := .cells #[.bool a1_0, .slice A1_1 l1_1.length c1_1] 56 (0, 0)) (by apply Sq.rb; refine blk_far ?_ NB1372_1393.out _; apply Sq.rb; refine blk_far ?_ NB1372_1393.out _; apply Sq.rb; exact BK1372.out) hb); have n7_ := Sq.m (blk_below (g := gb1388) (o := .cells #[.bool t1383, v1385] 59 (0, 0)) (by apply Sq.rb; refine blk_far ?_ NB1388_1393.out _; apply Sq.rb; refine blk_far ?_ NB1388_1393.out _; apply Sq.rb; exact BK1388.out) hb); have n8_ := Sq.m (blk_below (g := gb1393) (o := .cells #[.bool t1389, .slice Ao78 t1390.length co78] 59 (0, 0)) (by apply Sq.rb; refine blk_put (cs := #[.bool t1389, .slice none 0 0]) ?_ 1 _ rfl; apply Sq.rb; refine blk_put (cs := #[.bool false, .slice none 0 0]) ?_ 0 _ rfl; apply Sq.rb; exact BK1393.out) hb); have n9_ := Sq.m (below_step (by repeat (first | (with_reducible first | exact HB.out | apply Sq.rc | refine below_set ?_ GE1371.out | refine below_set ?_ GE1372.out | refine below_set ?_ GE1388.out | refine below_set ?_ GE1393.out) | exact HB.out)) hb); clear HO1378; clear HO1382; clear HO1386; clear HO1392; clear BK1371; clear BK1372; clear BK1388; clear BK1393; clear HB; have HO1378 := n0_; have HO1382 := n1_; have HO1386 := n2_; have HO1392 := n3_; have HO1397 := n4_; have BK1371 := n5_; have BK1372 := n6_; have BK1388 := n7_; have BK1393 := n8_; have HB := n9_; clear n0_ n1_ n2_ n3_ n4_ n5_ n6_ n7_ n8_ n9_; (try clear hb); (try clear hb2); (try clear hk); (try clear hi); (try clear ho0)) | ((with_reducible refine gate_dst (N := 9) rfl ?_); refine box_event ?hg (N := 9) ?hd (cs := #[.bool false, .slice none 0 0]) (t := 59) ?hr ?_; (case hd => rfl); (case hg => rfl); (case hr => first | (go_simp; done) | (go_simp; rfl)); intro gb1398 hg w82 hbox hb; have n0_ := Sq.m (Kd.R_below (by apply Sq.ra; exact HO1378.out) hb); have n1_ := Sq.m (Kd.R_below (by apply Sq.ra; exact HO1382.out) hb); have n2_ := Sq.m (Kd.R_below (by apply Sq.ra; exact HO1386.out) hb); have n3_ := Sq.m (Kd.R_below (by apply Sq.ra; exact HO1392.out) hb); have n4_ := Sq.m (Kd.R_below (by apply Sq.ra; exact HO1397.out) hb); have n5_ := Sq.m (blk_below (g := gb1371) (o := .cells #[.bool a0_0, .slice A0_1 l0_1.length c0_1] 56 (0, 0)) (by apply Sq.rb; exact BK1371.out) hb); have n6_ := Sq.m (blk_below (g := gb1372) (o := .cells #[.bool a1_0, .slice A1_1 l1_1.length c1_1] 56 (0, 0)) (by apply Sq.rb; exact BK1372.out) hb); have n7_ := Sq.m (blk_below (g := gb1388) (o := .cells #[.bool t1383, v1385] 59 (0, 0)) (by apply Sq.rb; exact BK1388.out) hb); have n8_ := Sq.m (blk_below (g := gb1393) (o := .cells #[.bool t1389, .slice Ao78 t1390.length co78] 59 (0, 0)) (by apply Sq.rb; exact BK1393.out) hb); have n9_ := Sq.m (below_step (by repeat (first | (with_reducible first | exact HB.out | apply Sq.rc | refine below_set ?_ GE1371.out | refine below_set ?_ GE1372.out | refine below_set ?_ GE1388.out | refine below_set ?_ GE1393.out) | exact HB.out)) hb); have n10_ := Sq.m (hbox); have n11_ := Sq.m ((by rw [hg]; exact (below_size (by repeat (first | (with_reducible first | exact HB.out | apply Sq.rc | refine below_set ?_ GE1371.out | refine below_set ?_ GE1372.out | refine below_set ?_ GE1388.out | refine below_set ?_ GE1393.out) | exact HB.out))) : w.heap.size ≤ gb1398)); have n12_ := Sq.m ((by rw [hg]; exact (below_size (by repeat (first | (with_reducible first | exact HB.out | apply Sq.rc | refine below_set ?_ GE1371.out | refine below_set ?_ GE1372.out | refine below_set ?_ GE1388.out | refine below_set ?_ GE1393.out) | exact HB.out))) : w.heap.size ≤ gb1398)); have n13_ := Sq.m ((by rw [hg]; exact Nat.ne_of_lt (blk_lt (g := gb1371) (o := .cells #[.bool a0_0, .slice A0_1 l0_1.length c0_1] 56 (0, 0)) (by apply Sq.rb; exact BK1371.out)) : gb1371 ≠ gb1398)); have n14_ := Sq.m ((by rw [hg]; exact Nat.ne_of_gt (blk_lt (g := gb1371) (o := .cells #[.bool a0_0, .slice A0_1 l0_1.length c0_1] 56 (0, 0)) (by apply Sq.rb; exact BK1371.out)) : gb1398 ≠ gb1371)); have n15_ := Sq.m ((by rw [hg]; exact Nat.ne_of_lt (blk_lt (g := gb1372) (o := .cells #[.bool a1_0, .slice A1_1 l1_1.length c1_1] 56 (0, 0)) (by apply Sq.rb; exact BK1372.out)) : gb1372 ≠ gb1398)); have n16_ := Sq.m ((by rw [hg]; exact Nat.ne_of_gt (blk_lt (g := gb1372) (o := .cells #[.bool a1_0, .slice A1_1 l1_1.length c1_1] 56 (0, 0)) (by apply Sq.rb; exact BK1372.out)) : gb1398 ≠ gb1372)); have n17_ := Sq.m ((by rw [hg]; exact Nat.ne_of_lt (blk_lt (g := gb1388) (o := .cells #[.bool t1383, v1385] 59 (0, 0)) (by apply Sq.rb; exact BK1388.out)) : gb1388 ≠ gb1398)); have n18_ := Sq.m ((by rw [hg]; exact Nat.ne_of_gt (blk_lt (g := gb1388) (o := .cells #[.bool t1383, v1385] 59 (0, 0)) (by apply Sq.rb; exact BK1388.out)) : gb1398 ≠ gb1388)); have n19_ := Sq.m ((by rw [hg]; exact Nat.ne_of_lt (blk_lt (g := gb1393) (o := .cells #[.bool t1389, .slice Ao78 t1390.length co78] 59 (0, 0)) (by apply Sq.rb; exact BK1393.out)) : gb1393 ≠ gb1398)); have n20_ := Sq.m ((by rw [hg]; exact Nat.ne_of_gt (blk_lt (g := gb1393) (o := .cells #[.bool t1389, .slice Ao78 t1390.length co78] 59 (0, 0)) (by apply Sq.rb; exact BK1393.out)) : gb1398 ≠ gb1393)); clear HO1378; clear HO1382; clear HO1386; clear HO1392; clear HO1397; clear BK1371; clear BK1372; clear BK1388; clear BK1393; clear HB; have HO1378 := n0_; have HO1382 := n1_; have HO1386 := n2_; have HO1392 := n3_; have HO1397 := n4_; have BK1371 := n5_; have BK1372 := n6_; have BK1388 := n7_; have BK1393 := n8_; have HB := n9_; have BK1398 := n10_; have GW1398 := n11_; have GE1398 := n12_; have NB1371_1398 := n13_; have NB1398_1371 := n14_; have NB1372_1398 := n15_; have NB1398_1372 := n16_; have NB1388_1398 := n17_; have NB1398_1388 := n18_; have NB1393_1398 := n19_; have NB1398_1393 := n20_; clear n0_ n1_ n2_ n3_ n4_ n5_ n6_ n7_ n8_ n9_ n10_ n11_ n12_ n13_ n14_ n15_ n16_ n17_ n18_ n19_ n20_; clear hb hbox hg; have hnb83 := NB1398_1371.out; have hnc83 := NB1371_1398.out; have hnb84 := NB1398_1372.out; have hnc84 := NB1372_1398.out; have hnb85 := NB1398_1388.out; have hnc85 := NB1388_1398.out; have hnb86 := NB1398_1393.out; have hnc86 := NB1393_1398.out; have hcz87_0 : w82.cell? ⟨gb1398, 0, none⟩ = some (.bool false) := (blk_cell BK1398.out 0).trans rfl; have hcz87_1 : w82.cell? ⟨gb1398, 1, none⟩ = some (.slice none 0 0) := (blk_cell BK1398.out 1).trans rfl; have hfz87_0 := blk_frozen BK1398.out 0; have hfz87_1 := blk_frozen BK1398.out 1; obtain ⟨Ao88, co88, eo88⟩ := Kd.R_slice HO1397.out; subst eo88; have hcz89_0 : w82.cell? ⟨gb1393, 0, none⟩ = some (.bool t1389) := (blk_cell BK1393.out 0).trans rfl; have hcz89_1 : w82.cell? ⟨gb1393, 1, none⟩ = some (.slice Ao78 t1390.length co78) := (blk_cell BK1393.out 1).trans rfl; have hfz89_0 := blk_frozen BK1393.out 0; have hfz89_1 := blk_frozen BK1393.out 1) | ((with_reducible refine gate_callee (f := 58) rfl ?_); refine goesL_ (some 42) rfl rfl Try.func58 (by kernel_rfl) rfl #[.agg #[.bool t1389, .slice Ao78 t1390.length co78], .agg #[.bool t1394, .slice Ao88 t1395.length co88]] rfl (by (try simp only [List.map_toArray, List.map_cons, List.map_nil]); first | done | rfl | (simp only [List.length_drop, List.length_take]; rfl) | (simp only [i64_w, u8_w, w64_b]; rfl)) ?_; (with_reducible refine (impl_WholeSub.calls k t1389 _ _ t1390 t1394 _ _ t1395 t1399 t1400 t1403 _ ?side1 ?side2 ?side3 ?side4 A24.out).mono ?_); (case side1 => refine (Kd.R_reads' (e := 3) (base := w.heap.size) (ok := fun k_ => ((((True ∧ some k_ ≠ (v1377 : Value).ownBlock) ∧ some k_ ≠ (v1381 : Value).ownBlock) ∧ some k_ ≠ (v1385 : Value).ownBlock) ∧ some k_ ≠ (.slice Ao88 t1395.length co88 : Value).ownBlock)) (n := t1390.length) (c := co78) ?_).2.2; exact (by apply Sq.ra; exact (Kd.R_mono (Kd.R_far (p := ⟨gb1398, 1, none⟩) (Kd.R_far (p := ⟨gb1398, 0, none⟩) (Kd.R_types HO1392.out BK1398.out (by decide)) (fun _ hk => hk.2) (.bool t1394)) (fun _ hk => hk.2) (.slice Ao88 t1395.length co88)) (fun _ h_ => h_.1)))); (case side2 => exact (Kd.R_reads' HO1392.out).2.1); (case side3 => refine (Kd.R_reads' (e := 3) (base := w.heap.size) (ok := fun k_ => ((((True ∧ some k_ ≠ (v1377 : Value).ownBlock) ∧ some k_ ≠ (v1381 : Value).ownBlock) ∧ some k_ ≠ (v1385 : Value).ownBlock) ∧ some k_ ≠ (.slice Ao78 t1390.length co78 : Value).ownBlock)) (n := t1395.length) (c := co88) ?_).2.2; exact (by apply Sq.ra; exact (Kd.R_mono (Kd.R_far (p := ⟨gb1398, 1, none⟩) (Kd.R_far (p := ⟨gb1398, 0, none⟩) (Kd.R_types HO1397.out BK1398.out (by decide)) (fun _ hk => hk.2) (.bool t1394)) (fun _ hk => hk.2) (.slice Ao88 t1395.length co88)) (fun _ h_ => h_.1)))); (case side4 => exact (Kd.R_reads' HO1397.out).2.1); rintro e w90 ⟨v1401, rfl, ho0, hb⟩; refine ⟨_, rfl, ?_⟩; have n0_ := Sq.m (Kd.R_elder' (by apply Sq.ra; exact (Kd.R_mono (Kd.R_far (p := ⟨gb1398, 1, none⟩) (Kd.R_far (p := ⟨gb1398, 0, none⟩) (Kd.R_types HO1378.out BK1398.out (by decide)) (fun _ hk => hk.2) (.bool t1394)) (fun _ hk => hk.2) (.slice Ao88 t1395.length co88)) (fun _ h_ => h_.1))) (Kd.R_base ho0) hb); have n1_ := Sq.m (Kd.R_elder' (by apply Sq.ra; exact (Kd.R_mono (Kd.R_far (p := ⟨gb1398, 1, none⟩) (Kd.R_far (p := ⟨gb1398, 0, none⟩) (Kd.R_types HO1382.out BK1398.out (by decide)) (fun _ hk => hk.2) (.bool t1394)) (fun _ hk => hk.2) (.slice Ao88 t1395.length co88)) (fun _ h_ => h_.1))) (Kd.R_base ho0) hb); have n2_ := Sq.m (Kd.R_elder' (by apply Sq.ra; exact (Kd.R_mono (Kd.R_far (p := ⟨gb1398, 1, none⟩) (Kd.R_far (p := ⟨gb1398, 0, none⟩) (Kd.R_types HO1386.out BK1398.out (by decide)) (fun _ hk => hk.2) (.bool t1394)) (fun _ hk => hk.2) (.slice Ao88 t1395.length co88)) (fun _ h_ => h_.1))) (Kd.R_base ho0) hb); have n3_ := Sq.m (Kd.R_elder' (by apply Sq.ra; exact (Kd.R_mono (Kd.R_far (p := ⟨gb1398, 1, none⟩) (Kd.R_far (p := ⟨gb1398, 0, none⟩) (Kd.R_types HO1392.out BK1398.out (by decide)) (fun _ hk => hk.2) (.bool t1394)) (fun _ hk => hk.2) (.slice Ao88 t1395.length co88)) (fun _ h_ => h_.1))) (Kd.R_base ho0) hb); have n4_ := Sq.m (Kd.R_elder' (by apply Sq.ra; exact (Kd.R_mono (Kd.R_far (p := ⟨gb1398, 1, none⟩) (Kd.R_far (p := ⟨gb1398, 0, none⟩) (Kd.R_types HO1397.out BK1398.out (by decide)) (fun _ hk => hk.2) (.bool t1394)) (fun _ hk => hk.2) (.slice Ao88 t1395.length co88)) (fun _ h_ => h_.1))) (Kd.R_base ho0) hb); have n5_ := Sq.m (Kd.R_lower (Kd.R_new' (Kd.R_new' (Kd.R_new' (Kd.R_new' (Kd.R_new' ho0 (Kd.R_lt (by apply Sq.ra; exact (Kd.R_mono (Kd.R_far (p := ⟨gb1398, 1, none⟩) (Kd.R_far (p := ⟨gb1398, 0, none⟩) (Kd.R_types HO1378.out BK1398.out (by decide)) (fun _ hk => hk.2) (.bool t1394)) (fun _ hk => hk.2) (.slice Ao88 t1395.length co88)) (fun _ h_ => h_.1))))) (Kd.R_lt (by apply Sq.ra; exact (Kd.R_mono (Kd.R_far (p := ⟨gb1398, 1, none⟩) (Kd.R_far (p := ⟨gb1398, 0, none⟩) (Kd.R_types HO1382.out BK1398.out (by decide)) (fun _ hk => hk.2) (.bool t1394)) (fun _ hk => hk.2) (.slice Ao88 t1395.length co88)) (fun _ h_ => h_.1))))) (Kd.R_lt (by apply Sq.ra; exact (Kd.R_mono (Kd.R_far (p := ⟨gb1398, 1, none⟩) (Kd.R_far (p := ⟨gb1398, 0, none⟩) (Kd.R_types HO1386.out BK1398.out (by decide)) (fun _ hk => hk.2) (.bool t1394)) (fun _ hk => hk.2) (.slice Ao88 t1395.length co88)) (fun _ h_ => h_.1))))) (Kd.R_lt (by apply Sq.ra; exact (Kd.R_mono (Kd.R_far (p := ⟨gb1398, 1, none⟩) (Kd.R_far (p := ⟨gb1398, 0, none⟩) (Kd.R_types HO1392.out BK1398.out (by decide)) (fun _ hk => hk.2) (.bool t1394)) (fun _ hk => hk.2) (.slice Ao88 t1395.length co88)) (fun _ h_ => h_.1))))) (Kd.R_lt (by apply Sq.ra; exact (Kd.R_mono (Kd.R_far (p := ⟨gb1398, 1, none⟩) (Kd.R_far (p := ⟨gb1398, 0, none⟩) (Kd.R_types HO1397.out BK1398.out (by decide)) (fun _ hk => hk.2) (.bool t1394)) (fun _ hk => hk.2) (.slice Ao88 t1395.length co88)) (fun _ h_ => h_.1))))) (below_size (by repeat (first | (with_reducible first | exact HB.out | apply Sq.rc | refine below_set ?_ GE1371.out | refine below_set ?_ GE1372.out | refine below_set ?_ GE1388.out | refine below_set ?_ GE1393.out | refine below_set ?_ GE1398.out) | exact HB.out)))); have n6_ := Sq.m (blk_below (g := gb1371) (o := .cells #[.bool a0_0, .slice A0_1 l0_1.length c0_1] 56 (0, 0)) (by apply Sq.rb; refine blk_far ?_ NB1371_1398.out _; apply Sq.rb; refine blk_far ?_ NB1371_1398.out _; apply Sq.rb; exact BK1371.out) hb); have n7_ := Sq.m (blk_below (g := gb1372) (o := .cells #[.bool a1_0, .slice A1_1 l1_1.length c1_1] 56 (0, 0)) (by apply Sq.rb; refine blk_far ?_ NB1372_1398.out _; apply Sq.rb; refine blk_far ?_ NB1372_1398.out _; apply Sq.rb; exact BK1372.out) hb); have n8_ := Sq.m (blk_below (g := gb1388) (o := .cells #[.bool t1383, v1385] 59 (0, 0)) (by apply Sq.rb; refine blk_far ?_ NB1388_1398.out _; apply Sq.rb; refine blk_far ?_ NB1388_1398.out _; apply Sq.rb; exact BK1388.out) hb); have n9_ := Sq.m (blk_below (g := gb1393) (o := .cells #[.bool t1389, .slice Ao78 t1390.length co78] 59 (0, 0)) (by apply Sq.rb; refine blk_far ?_ NB1393_1398.out _; apply Sq.rb; refine blk_far ?_ NB1393_1398.out _; apply Sq.rb; exact BK1393.out) hb); have n10_ := Sq.m (blk_below (g := gb1398) (o := .cells #[.bool t1394, .slice Ao88 t1395.length co88] 59 (0, 0)) (by apply Sq.rb; refine blk_put (cs := #[.bool t1394, .slice none 0 0]) ?_ 1 _ rfl; apply Sq.rb; refine blk_put (cs := #[.bool false, .slice none 0 0]) ?_ 0 _ rfl; apply Sq.rb; exact BK1398.out) hb); have n11_ := Sq.m (below_step (by repeat (first | (with_reducible first | exact HB.out | apply Sq.rc | refine below_set ?_ GE1371.out | refine below_set ?_ GE1372.out | refine below_set ?_ GE1388.out | refine below_set ?_ GE1393.out | refine below_set ?_ GE1398.out) | exact HB.out)) hb); clear HO1378; clear HO1382; clear HO1386; clear HO1392; clear HO1397; clear BK1371; clear BK1372; clear BK1388; clear BK1393; clear BK1398; clear HB; have HO1378 := n0_; have HO1382 := n1_; have HO1386 := n2_; have HO1392 := n3_; have HO1397 := n4_; have HO1402 := n5_; have BK1371 := n6_; have BK1372 := n7_; have BK1388 := n8_; have BK1393 := n9_; have BK1398 := n10_; have HB := n11_; clear n0_ n1_ n2_ n3_ n4_ n5_ n6_ n7_ n8_ n9_ n10_ n11_; (try clear hb); (try clear hb2); (try clear hk); (try clear hi); (try clear ho0)) | ((with_reducible refine gate_dst (N := 10) rfl ?_); refine box_event ?hg (N := 10) ?hd (cs := #[.bool false, .slice none 0 0]) (t := 59) ?hr ?_; (case hd => rfl); (case hg => rfl); (case hr => first | (go_simp; done) | (go_simp; rfl)); intro gb1404 hg w91 hbox hb; have n0_ := Sq.m (Kd.R_below (by apply Sq.ra; exact HO1378.out) hb); have n1_ := Sq.m (Kd.R_below (by apply Sq.ra; exact HO1382.out) hb); have n2_ := Sq.m (Kd.R_below (by apply Sq.ra; exact HO1386.out) hb); have n3_ := Sq.m (Kd.R_below (by apply Sq.ra; exact HO1392.out) hb); have n4_ := Sq.m (Kd.R_below (by apply Sq.ra; exact HO1397.out) hb); have n5_ := Sq.m (Kd.R_below (by apply Sq.ra; exact HO1402.out) hb); have n6_ := Sq.m (blk_below (g := gb1371) (o := .cells #[.bool a0_0, .slice A0_1 l0_1.length c0_1] 56 (0, 0)) (by apply Sq.rb; exact BK1371.out) hb); have n7_ := Sq.m (blk_below (g := gb1372) (o := .cells #[.bool a1_0, .slice A1_1 l1_1.length c1_1] 56 (0, 0)) (by apply Sq.rb; exact BK1372.out) hb); have n8_ := Sq.m (blk_below (g := gb1388) (o := .cells #[.bool t1383, v1385] 59 (0, 0)) (by apply Sq.rb; exact BK1388.out) hb); have n9_ := Sq.m (blk_below (g := gb1393) (o := .cells #[.bool t1389, .slice Ao78 t1390.length co78] 59 (0, 0)) (by apply Sq.rb; exact BK1393.out) hb); have n10_ := Sq.m (blk_below (g := gb1398) (o := .cells #[.bool t1394, .slice Ao88 t1395.length co88] 59 (0, 0)) (by apply Sq.rb; exact BK1398.out) hb); have n11_ := Sq.m (below_step (by repeat (first | (with_reducible first | exact HB.out | apply Sq.rc | refine below_set ?_ GE1371.out | refine below_set ?_ GE1372.out | refine below_set ?_ GE1388.out | refine below_set ?_ GE1393.out | refine below_set ?_ GE1398.out) | exact HB.out)) hb); have n12_ := Sq.m (hbox); have n13_ := Sq.m ((by rw [hg]; exact (below_size (by repeat (first | (with_reducible first | exact HB.out | apply Sq.rc | refine below_set ?_ GE1371.out | refine below_set ?_ GE1372.out | refine below_set ?_ GE1388.out | refine below_set ?_ GE1393.out | refine below_set ?_ GE1398.out) | exact HB.out))) : w.heap.size ≤ gb1404)); have n14_ := Sq.m ((by rw [hg]; exact (below_size (by repeat (first | (with_reducible first | exact HB.out | apply Sq.rc | refine below_set ?_ GE1371.out | refine below_set ?_ GE1372.out | refine below_set ?_ GE1388.out | refine below_set ?_ GE1393.out | refine below_set ?_ GE1398.out) | exact HB.out))) : w.heap.size ≤ gb1404)); have n15_ := Sq.m ((by rw [hg]; exact Nat.ne_of_lt (blk_lt (g := gb1371) (o := .cells #[.bool a0_0, .slice A0_1 l0_1.length c0_1] 56 (0, 0)) (by apply Sq.rb; exact BK1371.out)) : gb1371 ≠ gb1404)); have n16_ := Sq.m ((by rw [hg]; exact Nat.ne_of_gt (blk_lt (g := gb1371) (o := .cells #[.bool a0_0, .slice A0_1 l0_1.length c0_1] 56 (0, 0)) (by apply Sq.rb; exact BK1371.out)) : gb1404 ≠ gb1371)); have n17_ := Sq.m ((by rw [hg]; exact Nat.ne_of_lt (blk_lt (g := gb1372) (o := .cells #[.bool a1_0, .slice A1_1 l1_1.length c1_1] 56 (0, 0)) (by apply Sq.rb; exact BK1372.out)) : gb1372 ≠ gb1404)); have n18_ := Sq.m ((by rw [hg]; exact Nat.ne_of_gt (blk_lt (g := gb1372) (o := .cells #[.bool a1_0, .slice A1_1 l1_1.length c1_1] 56 (0, 0)) (by apply Sq.rb; exact BK1372.out)) : gb1404 ≠ gb1372)); have n19_ := Sq.m ((by rw [hg]; exact Nat.ne_of_lt (blk_lt (g := gb1388) (o := .cells #[.bool t1383, v1385] 59 (0, 0)) (by apply Sq.rb; exact BK1388.out)) : gb1388 ≠ gb1404)); have n20_ := Sq.m ((by rw [hg]; exact Nat.ne_of_gt (blk_lt (g := gb1388) (o := .cells #[.bool t1383, v1385] 59 (0, 0)) (by apply Sq.rb; exact BK1388.out)) : gb1404 ≠ gb1388)); have n21_ := Sq.m ((by rw [hg]; exact Nat.ne_of_lt (blk_lt (g := gb1393) (o := .cells #[.bool t1389, .slice Ao78 t1390.length co78] 59 (0, 0)) (by apply Sq.rb; exact BK1393.out)) : gb1393 ≠ gb1404)); have n22_ := Sq.m ((by rw [hg]; exact Nat.ne_of_gt (blk_lt (g := gb1393) (o := .cells #[.bool t1389, .slice Ao78 t1390.length co78] 59 (0, 0)) (by apply Sq.rb; exact BK1393.out)) : gb1404 ≠ gb1393)); have n23_ := Sq.m ((by rw [hg]; exact Nat.ne_of_lt (blk_lt (g := gb1398) (o := .cells #[.bool t1394, .slice Ao88 t1395.length co88] 59 (0, 0)) (by apply Sq.rb; exact BK1398.out)) : gb1398 ≠ gb1404)); have n24_ := Sq.m ((by rw [hg]; exact Nat.ne_of_gt (blk_lt (g := gb1398) (o := .cells #[.bool t1394, .slice Ao88 t1395.length co88] 59 (0, 0)) (by apply Sq.rb; exact BK1398.out)) : gb1404 ≠ gb1398)); clear HO1378; clear HO1382; clear HO1386; clear HO1392; clear HO1397; clear HO1402; clear BK1371; clear BK1372; clear BK1388; clear BK1393; clear BK1398; clear HB; have HO1378 := n0_; have HO1382 := n1_; have HO1386 := n2_; have HO1392 := n3_; have HO1397 := n4_; have HO1402 := n5_; have BK1371 := n6_; have BK1372 := n7_; have BK1388 := n8_; have BK1393 := n9_; have BK1398 := n10_; have HB := n11_; have BK1404 := n12_; have GW1404 := n13_; have GE1404 := n14_; have NB1371_1404 := n15_; have NB1404_1371 := n16_; have NB1372_1404 := n17_; have NB1404_1372 := n18_; have NB1388_1404 := n19_; have NB1404_1388 := n20_; have NB1393_1404 := n21_; have NB1404_1393 := n22_; have NB1398_1404 := n23_; have NB1404_1398 := n24_; clear n0_ n1_ n2_ n3_ n4_ n5_ n6_ n7_ n8_ n9_ n10_ n11_ n12_ n13_ n14_ n15_ n16_ n17_ n18_ n19_ n20_ n21_ n22_ n23_ n24_; clear hb hbox hg; have hnb92 := NB1404_1371.out; have hnc92 := NB1371_1404.out; have hnb93 := NB1404_1372.out; have hnc93 := NB1372_1404.out; have hnb94 := NB1404_1388.out; have hnc94 := NB1388_1404.out; have hnb95 := NB1404_1393.out; have hnc95 := NB1393_1404.out; have hnb96 := NB1404_1398.out; have hnc96 := NB1398_1404.out; have hcz97_0 : w91.cell? ⟨gb1404, 0, none⟩ = some (.bool false) := (blk_cell BK1404.out 0).trans rfl; have hcz97_1 : w91.cell? ⟨gb1404, 1, none⟩ = some (.slice none 0 0) := (blk_cell BK1404.out 1).trans rfl; have hfz97_0 := blk_frozen BK1404.out 0; have hfz97_1 := blk_frozen BK1404.out 1; obtain ⟨Ao98, co98, eo98⟩ := Kd.R_slice HO1402.out; subst eo98; have hcz99_0 : w91.cell? ⟨gb1388, 0, none⟩ = some (.bool t1383) := (blk_cell BK1388.out 0).trans rfl; have hcz99_1 : w91.cell? ⟨gb1388, 1, none⟩ = some (v1385) := (blk_cell BK1388.out 1).trans rfl; have hfz99_0 := blk_frozen BK1388.out 0; have hfz99_1 := blk_frozen BK1388.out 1; obtain ⟨Ao100, co100, eo100⟩ := Kd.R_slice HO1386.out; subst eo100) | ((with_reducible refine gate_callee (f := 54) rfl ?_); refine goesL_ (some 47) rfl rfl Try.func54 (by kernel_rfl) rfl #[.agg #[.bool t1399, .slice Ao98 t1400.length co98], .agg #[.bool t1383, .slice Ao100 t1384.length co100]] rfl (by (try simp only [List.map_toArray, List.map_cons, List.map_nil]); first | done | rfl | (simp only [List.length_drop, List.length_take]; rfl) | (simp only [i64_w, u8_w, w64_b]; rfl)) ?_; (with_reducible refine (laws_eqWhole.calls k t1399 _ _ t1400 t1383 _ _ t1384 true _ ?side1 ?side2 ?side3 ?side4 A25.out).mono ?_); (case side1 => refine (Kd.R_reads' (e := 3) (base := w.heap.size) (ok := fun k_ => (((((True ∧ some k_ ≠ (v1377 : Value).ownBlock) ∧ some k_ ≠ (v1381 : Value).ownBlock) ∧ some k_ ≠ (.slice Ao100 t1384.length co100 : Value).ownBlock) ∧ some k_ ≠ (.slice Ao78 t1390.length co78 : Value).ownBlock) ∧ some k_ ≠ (.slice Ao88 t1395.length co88 : Value).ownBlock)) (n := t1400.length) (c := co98) ?_).2.2; exact (by apply Sq.ra; exact (Kd.R_mono (Kd.R_far (p := ⟨gb1404, 1, none⟩) (Kd.R_far (p := ⟨gb1404, 0, none⟩) (Kd.R_types HO1402.out BK1404.out (by decide)) (fun _ hk => hk.2) (.bool t1399)) (fun _ hk => hk.2) (.slice Ao98 t1400.length co98)) (fun _ h_ => h_.1)))); (case side2 => exact (Kd.R_reads' HO1402.out).2.1); (case side3 => refine (Kd.R_reads' (e := 3) (base := w.heap.size) (ok := fun k_ => (((True ∧ some k_ ≠ (.slice Ao78 t1390.length co78 : Value).ownBlock) ∧ some k_ ≠ (.slice Ao88 t1395.length co88 : Value).ownBlock) ∧ some k_ ≠ (.slice Ao98 t1400.length co98 : Value).ownBlock)) (n := t1384.length) (c := co100) ?_).2.2; exact (by apply Sq.ra; exact (Kd.R_mono (Kd.R_far (p := ⟨gb1404, 1, none⟩) (Kd.R_far (p := ⟨gb1404, 0, none⟩) (Kd.R_types HO1386.out BK1404.out (by decide)) (fun _ hk => hk.2) (.bool t1399)) (fun _ hk => hk.2) (.slice Ao98 t1400.length co98)) (fun _ h_ => h_.1)))); (case side4 => exact (Kd.R_reads' HO1386.out).2.1); rintro e w101 ⟨rfl, hb⟩; refine ⟨_, rfl, ?_⟩; have n0_ := Sq.m (Kd.R_below (by apply Sq.ra; exact (Kd.R_mono (Kd.R_far (p := ⟨gb1404, 1, none⟩) (Kd.R_far (p := ⟨gb1404, 0, none⟩) (Kd.R_types HO1378.out BK1404.out (by decide)) (fun _ hk => hk.2) (.bool t1399)) (fun _ hk => hk.2) (.slice Ao98 t1400.length co98)) (fun _ h_ => h_.1))) hb); have n1_ := Sq.m (Kd.R_below (by apply Sq.ra; exact (Kd.R_mono (Kd.R_far (p := ⟨gb1404, 1, none⟩) (Kd.R_far (p := ⟨gb1404, 0, none⟩) (Kd.R_types HO1382.out BK1404.out (by decide)) (fun _ hk => hk.2) (.bool t1399)) (fun _ hk => hk.2) (.slice Ao98 t1400.length co98)) (fun _ h_ => h_.1))) hb); have n2_ := Sq.m (Kd.R_below (by apply Sq.ra; exact (Kd.R_mono (Kd.R_far (p := ⟨gb1404, 1, none⟩) (Kd.R_far (p := ⟨gb1404, 0, none⟩) (Kd.R_types HO1386.out BK1404.out (by decide)) (fun _ hk => hk.2) (.bool t1399)) (fun _ hk => hk.2) (.slice Ao98 t1400.length co98)) (fun _ h_ => h_.1))) hb); have n3_ := Sq.m (Kd.R_below (by apply Sq.ra; exact (Kd.R_mono (Kd.R_far (p := ⟨gb1404, 1, none⟩) (Kd.R_far (p := ⟨gb1404, 0, none⟩) (Kd.R_types HO1392.out BK1404.out (by decide)) (fun _ hk => hk.2) (.bool t1399)) (fun _ hk => hk.2) (.slice Ao98 t1400.length co98)) (fun _ h_ => h_.1))) hb); have n4_ := Sq.m (Kd.R_below (by apply Sq.ra; exact (Kd.R_mono (Kd.R_far (p := ⟨gb1404, 1, none⟩) (Kd.R_far (p := ⟨gb1404, 0, none⟩) (Kd.R_types HO1397.out BK1404.out (by decide)) (fun _ hk => hk.2) (.bool t1399)) (fun _ hk => hk.2) (.slice Ao98 t1400.length co98)) (fun _ h_ => h_.1))) hb); have n5_ := Sq.m (Kd.R_below (by apply Sq.ra; exact (Kd.R_mono (Kd.R_far (p := ⟨gb1404, 1, none⟩) (Kd.R_far (p := ⟨gb1404, 0, none⟩) (Kd.R_types HO1402.out BK1404.out (by decide)) (fun _ hk => hk.2) (.bool t1399)) (fun _ hk => hk.2) (.slice Ao98 t1400.length co98)) (fun _ h_ => h_.1))) hb); have n6_ := Sq.m (blk_below (g := gb1371) (o := .cells #[.bool a0_0, .slice A0_1 l0_1.length c0_1] 56 (0, 0)) (by apply Sq.rb; refine blk_far ?_ NB1371_1404.out _; apply Sq.rb; refine blk_far ?_ NB1371_1404.out _; apply Sq.rb; exact BK1371.out) hb); have n7_ := Sq.m (blk_below (g := gb1372) (o := .cells #[.bool a1_0, .slice A1_1 l1_1.length c1_1] 56 (0, 0)) (by apply Sq.rb; refine blk_far ?_ NB1372_1404.out _; apply Sq.rb; refine blk_far ?_ NB1372_1404.out _; apply Sq.rb; exact BK1372.out) hb); have n8_ := Sq.m (blk_below (g := gb1388) (o := .cells #[.bool t1383, .slice Ao100 t1384.length co100] 59 (0, 0)) (by apply Sq.rb; refine blk_far ?_ NB1388_1404.out _; apply Sq.rb; refine blk_far ?_ NB1388_1404.out _; apply Sq.rb; exact BK1388.out) hb); have n9_ := Sq.m (blk_below (g := gb1393) (o := .cells #[.bool t1389, .slice Ao78 t1390.length co78] 59 (0, 0)) (by apply Sq.rb; refine blk_far ?_ NB1393_1404.out _; apply Sq.rb; refine blk_far ?_ NB1393_1404.out _; apply Sq.rb; exact BK1393.out) hb); have n10_ := Sq.m (blk_below (g := gb1398) (o := .cells #[.bool t1394, .slice Ao88 t1395.length co88] 59 (0, 0)) (by apply Sq.rb; refine blk_far ?_ NB1398_1404.out _; apply Sq.rb; refine blk_far ?_ NB1398_1404.out _; apply Sq.rb; exact BK1398.out) hb); have n11_ := Sq.m (blk_below (g := gb1404) (o := .cells #[.bool t1399, .slice Ao98 t1400.length co98] 59 (0, 0)) (by apply Sq.rb; refine blk_put (cs := #[.bool t1399, .slice none 0 0]) ?_ 1 _ rfl; apply Sq.rb; refine blk_put (cs := #[.bool false, .slice none 0 0]) ?_ 0 _ rfl; apply Sq.rb; exact BK1404.out) hb); have n12_ := Sq.m (below_step (by repeat (first | (with_reducible first | exact HB.out | apply Sq.rc | refine below_set ?_ GE1371.out | refine below_set ?_ GE1372.out | refine below_set ?_ GE1388.out | refine below_set ?_ GE1393.out | refine below_set ?_ GE1398.out | refine below_set ?_ GE1404.out) | exact HB.out)) hb); clear HO1378; clear HO1382; clear HO1386; clear HO1392; clear HO1397; clear HO1402; clear BK1371; clear BK1372; clear BK1388; clear BK1393; clear BK1398; clear BK1404; clear HB; have HO1378 := n0_; have HO1382 := n1_; have HO1386 := n2_; have HO1392 := n3_; have HO1397 := n4_; have HO1402 := n5_; have BK1371 := n6_; have BK1372 := n7_; have BK1388 := n8_; have BK1393 := n9_; have BK1398 := n10_; have BK1404 := n11_; have HB := n12_; clear n0_ n1_ n2_ n3_ n4_ n5_ n6_ n7_ n8_ n9_ n10_ n11_ n12_; (try clear hb); (try clear hb2); (try clear hk); (try clear hi)))
               have n0_ := Sq.m (Kd.R_drew HO1378.out)
               have n1_ := Sq.m (Kd.R_drew HO1382.out)
               have n2_ := Sq.m (Kd.R_drew HO1386.out)
               have n3_ := Sq.m (Kd.R_drew HO1392.out)
               have n4_ := Sq.m (Kd.R_drew HO1397.out)
               have n5_ := Sq.m (Kd.R_drew HO1402.out)
               have n6_ := Sq.m (blk_drew BK1371.out)
               have n7_ := Sq.m (blk_drew BK1372.out)
               have n8_ := Sq.m (blk_drew BK1388.out)
               have n9_ := Sq.m (blk_drew BK1393.out)
               have n10_ := Sq.m (blk_drew BK1398.out)
               have n11_ := Sq.m (blk_drew BK1404.out)
               have n12_ := Sq.m (below_drew1 HB.out)
               clear HO1378
               clear HO1382
               clear HO1386
               clear HO1392
               clear HO1397
               clear HO1402
               clear BK1371
               clear BK1372
               clear BK1388
               clear BK1393
               clear BK1398
               clear BK1404
               clear HB
               have HO1378 := n0_
               have HO1382 := n1_
               have HO1386 := n2_
               have HO1392 := n3_
               have HO1397 := n4_
               have HO1402 := n5_
               have BK1371 := n6_
               have BK1372 := n7_
               have BK1388 := n8_
               have BK1393 := n9_
               have BK1398 := n10_
               have BK1404 := n11_
               have HB := n12_
               clear n0_ n1_ n2_ n3_ n4_ n5_ n6_ n7_ n8_ n9_ n10_ n11_ n12_
               refine start_ (n := 5) (S := fun w' => w'.cell? ⟨gb1393, 0, none⟩ = some (.bool t1389) ∧ w'.cell? ⟨gb1393, 1, none⟩ = some (.slice Ao78 t1390.length co78) ∧ w'.cell? ⟨gb1371, 0, none⟩ = some (.bool a0_0) ∧ w'.cell? ⟨gb1371, 1, none⟩ = some (.slice A0_1 l0_1.length c0_1)) (ds := []) #[false, false, false, false, false] (by kernel_rfl) rfl rfl ⟨(blk_cell BK1393.out 0).trans rfl, (blk_cell BK1393.out 1).trans rfl, (blk_cell BK1371.out 0).trans rfl, (blk_cell BK1371.out 1).trans rfl⟩ (fun hHeld => ?_)
               generalize w101.drew = w102 at HO1378 HO1382 HO1386 HO1392 HO1397 HO1402 BK1371 BK1372 BK1388 BK1393 BK1398 BK1404 HB hHeld ⊢
               refine take_ (i := 0) (N := some 54) (v := ?_) (a' := ?_) #[true, false, false, false, false] rfl rfl (by kernel_rfl) (fun _ _ _ h => h) (Or.inl ⟨by rfl, ?_⟩) hHeld ?_ ?_
               rotate_left
               ·rintro w' ⟨s0, s1, s2, s3⟩
                go_simp
                with_reducible rfl
               rotate_left
               ·simp only [Act.put, List.setIfInBounds_toArray, List.set_cons_zero, List.set_cons_succ, i64_w, i32_w, u8_w, w64_b]
                rfl
               refine take_ (i := 1) (N := some 55) (v := ?_) (a' := ?_) #[true, true, false, false, false] rfl rfl (by kernel_rfl) (fun _ _ _ h => h) (Or.inl ⟨by rfl, ?_⟩) hHeld ?_ ?_
               rotate_left
               ·rintro w' ⟨s0, s1, s2, s3⟩
                go_simp
                with_reducible rfl
               rotate_left
               ·simp only [Act.put, List.setIfInBounds_toArray, List.set_cons_zero, List.set_cons_succ, i64_w, i32_w, u8_w, w64_b]
                rfl
               refine one_ (i := 2) (N := some 56) #[true, true, true, false, false] rfl rfl (by kernel_rfl) (by decide) (fun K hK => ?_)
               refine goes_ Try.func52 (by kernel_rfl) rfl #[.agg #[.bool a0_0, .slice A0_1 l0_1.length c0_1]] (by rfl) rfl rfl (by (try simp only [List.map_toArray, List.map_cons, List.map_nil]); first | done | rfl | (simp only [List.length_drop, List.length_take]; rfl) | (simp only [i64_w, u8_w, w64_b]; rfl)) ?_
               with_reducible refine (laws_toWhole.calls k a0_0 _ _ l0_1 t1406 t1407 _ ?side1 ?side2 A28.out).mono ?_
               (case side1 => repeat (first | exact (Kd.C_below HR0_1.out HB.out) | (with_reducible refine Kd.C_alloc ?_ _) | (with_reducible refine Kd.C_drewN ?_ _) | (with_reducible refine Kd.C_drew ?_)))
               (case side2 => exact HC0_1.out)
               rintro e w103 ⟨v1408, rfl, ho0, hb⟩
               refine ⟨_, rfl, ?_⟩
               have n0_ := Sq.m (Kd.R_elder' (by apply Sq.ra; exact HO1378.out) (Kd.R_base ho0) hb)
               have n1_ := Sq.m (Kd.R_elder' (by apply Sq.ra; exact HO1382.out) (Kd.R_base ho0) hb)
               have n2_ := Sq.m (Kd.R_elder' (by apply Sq.ra; exact HO1386.out) (Kd.R_base ho0) hb)
               have n3_ := Sq.m (Kd.R_elder' (by apply Sq.ra; exact HO1392.out) (Kd.R_base ho0) hb)
               have n4_ := Sq.m (Kd.R_elder' (by apply Sq.ra; exact HO1397.out) (Kd.R_base ho0) hb)
               have n5_ := Sq.m (Kd.R_elder' (by apply Sq.ra; exact HO1402.out) (Kd.R_base ho0) hb)
               have n6_ := Sq.m (Kd.R_lower (Kd.R_new' (Kd.R_new' (Kd.R_new' (Kd.R_new' (Kd.R_new' (Kd.R_new' ho0 (Kd.R_lt (by apply Sq.ra; exact HO1378.out))) (Kd.R_lt (by apply Sq.ra; exact HO1382.out))) (Kd.R_lt (by apply Sq.ra; exact HO1386.out))) (Kd.R_lt (by apply Sq.ra; exact HO1392.out))) (Kd.R_lt (by apply Sq.ra; exact HO1397.out))) (Kd.R_lt (by apply Sq.ra; exact HO1402.out))) (below_size (by repeat (first | (with_reducible first | exact HB.out | apply Sq.rc | refine below_set ?_ GE1371.out | refine below_set ?_ GE1372.out | refine below_set ?_ GE1388.out | refine below_set ?_ GE1393.out | refine below_set ?_ GE1398.out | refine below_set ?_ GE1404.out) | exact HB.out))))
               have n7_ := Sq.m (blk_below (g := gb1371) (o := .cells #[.bool a0_0, .slice A0_1 l0_1.length c0_1] 56 (0, 0)) (by apply Sq.rb; exact BK1371.out) hb)
               have n8_ := Sq.m (blk_below (g := gb1372) (o := .cells #[.bool a1_0, .slice A1_1 l1_1.length c1_1] 56 (0, 0)) (by apply Sq.rb; exact BK1372.out) hb)
               have n9_ := Sq.m (blk_below (g := gb1388) (o := .cells #[.bool t1383, .slice Ao100 t1384.length co100] 59 (0, 0)) (by apply Sq.rb; exact BK1388.out) hb)
               have n10_ := Sq.m (blk_below (g := gb1393) (o := .cells #[.bool t1389, .slice Ao78 t1390.length co78] 59 (0, 0)) (by apply Sq.rb; exact BK1393.out) hb)
               have n11_ := Sq.m (blk_below (g := gb1398) (o := .cells #[.bool t1394, .slice Ao88 t1395.length co88] 59 (0, 0)) (by apply Sq.rb; exact BK1398.out) hb)
               have n12_ := Sq.m (blk_below (g := gb1404) (o := .cells #[.bool t1399, .slice Ao98 t1400.length co98] 59 (0, 0)) (by apply Sq.rb; exact BK1404.out) hb)
               have n13_ := Sq.m (below_step (by repeat (first | (with_reducible first | exact HB.out | apply Sq.rc | refine below_set ?_ GE1371.out | refine below_set ?_ GE1372.out | refine below_set ?_ GE1388.out | refine below_set ?_ GE1393.out | refine below_set ?_ GE1398.out | refine below_set ?_ GE1404.out) | exact HB.out)) hb)
               clear HO1378
               clear HO1382
               clear HO1386
               clear HO1392
               clear HO1397
               clear HO1402
               clear BK1371
               clear BK1372
               clear BK1388
               clear BK1393
               clear BK1398
               clear BK1404
               clear HB
               have HO1378 := n0_
               have HO1382 := n1_
               have HO1386 := n2_
               have HO1392 := n3_
               have HO1397 := n4_
               have HO1402 := n5_
               have HO1409 := n6_
               have BK1371 := n7_
               have BK1372 := n8_
               have BK1388 := n9_
               have BK1393 := n10_
               have BK1398 := n11_
               have BK1404 := n12_
               have HB := n13_
               clear n0_ n1_ n2_ n3_ n4_ n5_ n6_ n7_ n8_ n9_ n10_ n11_ n12_ n13_
               (try clear hb)
               (try clear hb2)
               (try clear hk)
               (try clear hi)
               (try clear ho0)
               obtain ⟨Ao104, co104, eo104⟩ := Kd.R_slice HO1409.out
               (first | subst eo104 | (injection eo104 with f1_ f2_ f3_; have f4_ := f1_.symm; have f5_ := f3_.symm; clear f1_ f2_ f3_; subst f4_; subst f5_))
               refine hK.out _ _ ⟨(blk_cell BK1393.out 0).trans rfl, (blk_cell BK1393.out 1).trans rfl, (blk_cell BK1371.out 0).trans rfl, (blk_cell BK1371.out 1).trans rfl⟩ (fun hHeld => ?_)
               clear hK K
               refine norm_ (a' := ?_) ?_ ?_
               rotate_left
               ·show Act.put _ (some 56) _ = _
                simp only [Act.put, List.setIfInBounds_toArray, List.set_cons_zero, List.set_cons_succ, i64_w, i32_w, u8_w, w64_b]
                rfl
               refine one_ (i := 3) (N := some 57) #[true, true, true, true, false] rfl rfl (by kernel_rfl) (by decide) (fun K hK => ?_)
               refine goes_ Try.func54 (by kernel_rfl) rfl #[.agg #[.bool t1389, .slice Ao78 t1390.length co78], .agg #[.bool t1406, .slice Ao104 t1407.length co104]] (by rfl) rfl rfl (by (try simp only [List.map_toArray, List.map_cons, List.map_nil]); first | done | rfl | (simp only [List.length_drop, List.length_take]; rfl) | (simp only [i64_w, u8_w, w64_b]; rfl)) ?_
               with_reducible refine (laws_eqWhole.calls k t1389 _ _ t1390 t1406 _ _ t1407 true _ ?side1 ?side2 ?side3 ?side4 A29.out).mono ?_
               (case side1 => repeat (first | exact (Kd.R_reads' HO1392.out).2.2 | (with_reducible refine Kd.C_alloc ?_ _) | (with_reducible refine Kd.C_drewN ?_ _) | (with_reducible refine Kd.C_drew ?_)))
               (case side2 => exact (Kd.R_reads' HO1392.out).2.1)
               (case side3 => repeat (first | exact (Kd.R_reads' HO1409.out).2.2 | (with_reducible refine Kd.C_alloc ?_ _) | (with_reducible refine Kd.C_drewN ?_ _) | (with_reducible refine Kd.C_drew ?_)))
               (case side4 => exact (Kd.R_reads' HO1409.out).2.1)
               rintro e w105 ⟨rfl, hb⟩
               refine ⟨_, rfl, ?_⟩
               have n0_ := Sq.m (Kd.R_below (by apply Sq.ra; exact HO1378.out) hb)
               have n1_ := Sq.m (Kd.R_below (by apply Sq.ra; exact HO1382.out) hb)
               have n2_ := Sq.m (Kd.R_below (by apply Sq.ra; exact HO1386.out) hb)
               have n3_ := Sq.m (Kd.R_below (by apply Sq.ra; exact HO1392.out) hb)
               have n4_ := Sq.m (Kd.R_below (by apply Sq.ra; exact HO1397.out) hb)
               have n5_ := Sq.m (Kd.R_below (by apply Sq.ra; exact HO1402.out) hb)
               have n6_ := Sq.m (Kd.R_below (by apply Sq.ra; exact HO1409.out) hb)
               have n7_ := Sq.m (blk_below (g := gb1371) (o := .cells #[.bool a0_0, .slice A0_1 l0_1.length c0_1] 56 (0, 0)) (by apply Sq.rb; exact BK1371.out) hb)
               have n8_ := Sq.m (blk_below (g := gb1372) (o := .cells #[.bool a1_0, .slice A1_1 l1_1.length c1_1] 56 (0, 0)) (by apply Sq.rb; exact BK1372.out) hb)
               have n9_ := Sq.m (blk_below (g := gb1388) (o := .cells #[.bool t1383, .slice Ao100 t1384.length co100] 59 (0, 0)) (by apply Sq.rb; exact BK1388.out) hb)
               have n10_ := Sq.m (blk_below (g := gb1393) (o := .cells #[.bool t1389, .slice Ao78 t1390.length co78] 59 (0, 0)) (by apply Sq.rb; exact BK1393.out) hb)
               have n11_ := Sq.m (blk_below (g := gb1398) (o := .cells #[.bool t1394, .slice Ao88 t1395.length co88] 59 (0, 0)) (by apply Sq.rb; exact BK1398.out) hb)
               have n12_ := Sq.m (blk_below (g := gb1404) (o := .cells #[.bool t1399, .slice Ao98 t1400.length co98] 59 (0, 0)) (by apply Sq.rb; exact BK1404.out) hb)
               have n13_ := Sq.m (below_step (by repeat (first | (with_reducible first | exact HB.out | apply Sq.rc | refine below_set ?_ GE1371.out | refine below_set ?_ GE1372.out | refine below_set ?_ GE1388.out | refine below_set ?_ GE1393.out | refine below_set ?_ GE1398.out | refine below_set ?_ GE1404.out) | exact HB.out)) hb)
               clear HO1378
               clear HO1382
               clear HO1386
               clear HO1392
               clear HO1397
               clear HO1402
               clear HO1409
               clear BK1371
               clear BK1372
               clear BK1388
               clear BK1393
               clear BK1398
               clear BK1404
               clear HB
               have HO1378 := n0_
               have HO1382 := n1_
               have HO1386 := n2_
               have HO1392 := n3_
               have HO1397 := n4_
               have HO1402 := n5_
               have HO1409 := n6_
               have BK1371 := n7_
               have BK1372 := n8_
               have BK1388 := n9_
               have BK1393 := n10_
               have BK1398 := n11_
               have BK1404 := n12_
               have HB := n13_
               clear n0_ n1_ n2_ n3_ n4_ n5_ n6_ n7_ n8_ n9_ n10_ n11_ n12_ n13_
               (try clear hb)
               (try clear hb2)
               (try clear hk)
               (try clear hi)
               refine hK.out _ _ ⟨(blk_cell BK1393.out 0).trans rfl, (blk_cell BK1393.out 1).trans rfl, (blk_cell BK1371.out 0).trans rfl, (blk_cell BK1371.out 1).trans rfl⟩ (fun hHeld => ?_)
               clear hK K
               refine norm_ (a' := ?_) ?_ ?_
               rotate_left
               ·show Act.put _ (some 57) _ = _
                simp only [Act.put, List.setIfInBounds_toArray, List.set_cons_zero, List.set_cons_succ, i64_w, i32_w, u8_w, w64_b]
                rfl
               refine pure_ (i := 4) (N := some 58) (v := ?_) (a' := ?_) #[true, true, true, true, true] rfl rfl (by kernel_rfl) (fun _ _ _ h => h) (Or.inl ⟨by rfl, ?_⟩) ?_ ?_
               rotate_left
               ·intro w'
                go_simp
                with_reducible rfl
               rotate_left
               ·simp only [Act.put, List.setIfInBounds_toArray, List.set_cons_zero, List.set_cons_succ, i64_w, i32_w, u8_w, w64_b]
                rfl
               refine done_ (by kernel_rfl) ?_
               try go_wp2
               have n0_ := Sq.m (Kd.R_drew HO1378.out)
               have n1_ := Sq.m (Kd.R_drew HO1382.out)
               have n2_ := Sq.m (Kd.R_drew HO1386.out)
               have n3_ := Sq.m (Kd.R_drew HO1392.out)
               have n4_ := Sq.m (Kd.R_drew HO1397.out)
               have n5_ := Sq.m (Kd.R_drew HO1402.out)
               have n6_ := Sq.m (Kd.R_drew HO1409.out)
               have n7_ := Sq.m (blk_drew BK1371.out)
               have n8_ := Sq.m (blk_drew BK1372.out)
               have n9_ := Sq.m (blk_drew BK1388.out)
               have n10_ := Sq.m (blk_drew BK1393.out)
               have n11_ := Sq.m (blk_drew BK1398.out)
               have n12_ := Sq.m (blk_drew BK1404.out)
               have n13_ := Sq.m (below_drew1 HB.out)
               clear HO1378
               clear HO1382
               clear HO1386
               clear HO1392
               clear HO1397
               clear HO1402
               clear HO1409
               clear BK1371
               clear BK1372
               clear BK1388
               clear BK1393
               clear BK1398
               clear BK1404
               clear HB
               have HO1378 := n0_
               have HO1382 := n1_
               have HO1386 := n2_
               have HO1392 := n3_
               have HO1397 := n4_
               have HO1402 := n5_
               have HO1409 := n6_
               have BK1371 := n7_
               have BK1372 := n8_
               have BK1388 := n9_
               have BK1393 := n10_
               have BK1398 := n11_
               have BK1404 := n12_
               have HB := n13_
               clear n0_ n1_ n2_ n3_ n4_ n5_ n6_ n7_ n8_ n9_ n10_ n11_ n12_ n13_
               refine start_ (n := 5) (S := fun w' => w'.cell? ⟨gb1398, 0, none⟩ = some (.bool t1394) ∧ w'.cell? ⟨gb1398, 1, none⟩ = some (.slice Ao88 t1395.length co88) ∧ w'.cell? ⟨gb1372, 0, none⟩ = some (.bool a1_0) ∧ w'.cell? ⟨gb1372, 1, none⟩ = some (.slice A1_1 l1_1.length c1_1)) (ds := []) #[false, false, false, false, false] (by kernel_rfl) rfl rfl ⟨(blk_cell BK1398.out 0).trans rfl, (blk_cell BK1398.out 1).trans rfl, (blk_cell BK1372.out 0).trans rfl, (blk_cell BK1372.out 1).trans rfl⟩ (fun hHeld => ?_)
               generalize w105.drew = w106 at HO1378 HO1382 HO1386 HO1392 HO1397 HO1402 HO1409 BK1371 BK1372 BK1388 BK1393 BK1398 BK1404 HB hHeld ⊢
               refine take_ (i := 0) (N := some 59) (v := ?_) (a' := ?_) #[true, false, false, false, false] rfl rfl (by kernel_rfl) (fun _ _ _ h => h) (Or.inl ⟨by rfl, ?_⟩) hHeld ?_ ?_
               rotate_left
               ·rintro w' ⟨s0, s1, s2, s3⟩
                go_simp
                with_reducible rfl
               rotate_left
               ·simp only [Act.put, List.setIfInBounds_toArray, List.set_cons_zero, List.set_cons_succ, i64_w, i32_w, u8_w, w64_b]
                rfl
               refine take_ (i := 1) (N := some 60) (v := ?_) (a' := ?_) #[true, true, false, false, false] rfl rfl (by kernel_rfl) (fun _ _ _ h => h) (Or.inl ⟨by rfl, ?_⟩) hHeld ?_ ?_
               rotate_left
               ·rintro w' ⟨s0, s1, s2, s3⟩
                go_simp
                with_reducible rfl
               rotate_left
               ·simp only [Act.put, List.setIfInBounds_toArray, List.set_cons_zero, List.set_cons_succ, i64_w, i32_w, u8_w, w64_b]
                rfl
               refine one_ (i := 2) (N := some 61) #[true, true, true, false, false] rfl rfl (by kernel_rfl) (by decide) (fun K hK => ?_)
               refine goes_ Try.func52 (by kernel_rfl) rfl #[.agg #[.bool a1_0, .slice A1_1 l1_1.length c1_1]] (by rfl) rfl rfl (by (try simp only [List.map_toArray, List.map_cons, List.map_nil]); first | done | rfl | (simp only [List.length_drop, List.length_take]; rfl) | (simp only [i64_w, u8_w, w64_b]; rfl)) ?_
               with_reducible refine (laws_toWhole.calls k a1_0 _ _ l1_1 t1411 t1412 _ ?side1 ?side2 A31.out).mono ?_
               (case side1 => repeat (first | exact (Kd.C_below HR1_1.out HB.out) | (with_reducible refine Kd.C_alloc ?_ _) | (with_reducible refine Kd.C_drewN ?_ _) | (with_reducible refine Kd.C_drew ?_)))
               (case side2 => exact HC1_1.out)
               rintro e w107 ⟨v1413, rfl, ho0, hb⟩
               refine ⟨_, rfl, ?_⟩
               have n0_ := Sq.m (Kd.R_elder' (by apply Sq.ra; exact HO1378.out) (Kd.R_base ho0) hb)
               have n1_ := Sq.m (Kd.R_elder' (by apply Sq.ra; exact HO1382.out) (Kd.R_base ho0) hb)
               have n2_ := Sq.m (Kd.R_elder' (by apply Sq.ra; exact HO1386.out) (Kd.R_base ho0) hb)
               have n3_ := Sq.m (Kd.R_elder' (by apply Sq.ra; exact HO1392.out) (Kd.R_base ho0) hb)
               have n4_ := Sq.m (Kd.R_elder' (by apply Sq.ra; exact HO1397.out) (Kd.R_base ho0) hb)
               have n5_ := Sq.m (Kd.R_elder' (by apply Sq.ra; exact HO1402.out) (Kd.R_base ho0) hb)
               have n6_ := Sq.m (Kd.R_elder' (by apply Sq.ra; exact HO1409.out) (Kd.R_base ho0) hb)
               have n7_ := Sq.m (Kd.R_lower (Kd.R_new' (Kd.R_new' (Kd.R_new' (Kd.R_new' (Kd.R_new' (Kd.R_new' (Kd.R_new' ho0 (Kd.R_lt (by apply Sq.ra; exact HO1378.out))) (Kd.R_lt (by apply Sq.ra; exact HO1382.out))) (Kd.R_lt (by apply Sq.ra; exact HO1386.out))) (Kd.R_lt (by apply Sq.ra; exact HO1392.out))) (Kd.R_lt (by apply Sq.ra; exact HO1397.out))) (Kd.R_lt (by apply Sq.ra; exact HO1402.out))) (Kd.R_lt (by apply Sq.ra; exact HO1409.out))) (below_size (by repeat (first | (with_reducible first | exact HB.out | apply Sq.rc | refine below_set ?_ GE1371.out | refine below_set ?_ GE1372.out | refine below_set ?_ GE1388.out | refine below_set ?_ GE1393.out | refine below_set ?_ GE1398.out | refine below_set ?_ GE1404.out) | exact HB.out))))
               have n8_ := Sq.m (blk_below (g := gb1371) (o := .cells #[.bool a0_0, .slice A0_1 l0_1.length c0_1] 56 (0, 0)) (by apply Sq.rb; exact BK1371.out) hb)
               have n9_ := Sq.m (blk_below (g := gb1372) (o := .cells #[.bool a1_0, .slice A1_1 l1_1.length c1_1] 56 (0, 0)) (by apply Sq.rb; exact BK1372.out) hb)
               have n10_ := Sq.m (blk_below (g := gb1388) (o := .cells #[.bool t1383, .slice Ao100 t1384.length co100] 59 (0, 0)) (by apply Sq.rb; exact BK1388.out) hb)
               have n11_ := Sq.m (blk_below (g := gb1393) (o := .cells #[.bool t1389, .slice Ao78 t1390.length co78] 59 (0, 0)) (by apply Sq.rb; exact BK1393.out) hb)
               have n12_ := Sq.m (blk_below (g := gb1398) (o := .cells #[.bool t1394, .slice Ao88 t1395.length co88] 59 (0, 0)) (by apply Sq.rb; exact BK1398.out) hb)
               have n13_ := Sq.m (blk_below (g := gb1404) (o := .cells #[.bool t1399, .slice Ao98 t1400.length co98] 59 (0, 0)) (by apply Sq.rb; exact BK1404.out) hb)
               have n14_ := Sq.m (below_step (by repeat (first | (with_reducible first | exact HB.out | apply Sq.rc | refine below_set ?_ GE1371.out | refine below_set ?_ GE1372.out | refine below_set ?_ GE1388.out | refine below_set ?_ GE1393.out | refine below_set ?_ GE1398.out | refine below_set ?_ GE1404.out) | exact HB.out)) hb)
               clear HO1378
               clear HO1382
               clear HO1386
               clear HO1392
               clear HO1397
               clear HO1402
               clear HO1409
               clear BK1371
               clear BK1372
               clear BK1388
               clear BK1393
               clear BK1398
               clear BK1404
               clear HB
               have HO1378 := n0_
               have HO1382 := n1_
               have HO1386 := n2_
               have HO1392 := n3_
               have HO1397 := n4_
               have HO1402 := n5_
               have HO1409 := n6_
               have HO1414 := n7_
               have BK1371 := n8_
               have BK1372 := n9_
               have BK1388 := n10_
               have BK1393 := n11_
               have BK1398 := n12_
               have BK1404 := n13_
               have HB := n14_
               clear n0_ n1_ n2_ n3_ n4_ n5_ n6_ n7_ n8_ n9_ n10_ n11_ n12_ n13_ n14_
               (try clear hb)
               (try clear hb2)
               (try clear hk)
               (try clear hi)
               (try clear ho0)
               obtain ⟨Ao108, co108, eo108⟩ := Kd.R_slice HO1414.out
               (first | subst eo108 | (injection eo108 with f1_ f2_ f3_; have f4_ := f1_.symm; have f5_ := f3_.symm; clear f1_ f2_ f3_; subst f4_; subst f5_))
               refine hK.out _ _ ⟨(blk_cell BK1398.out 0).trans rfl, (blk_cell BK1398.out 1).trans rfl, (blk_cell BK1372.out 0).trans rfl, (blk_cell BK1372.out 1).trans rfl⟩ (fun hHeld => ?_)
               clear hK K
               refine norm_ (a' := ?_) ?_ ?_
               rotate_left
               ·show Act.put _ (some 61) _ = _
                simp only [Act.put, List.setIfInBounds_toArray, List.set_cons_zero, List.set_cons_succ, i64_w, i32_w, u8_w, w64_b]
                rfl
               refine one_ (i := 3) (N := some 62) #[true, true, true, true, false] rfl rfl (by kernel_rfl) (by decide) (fun K hK => ?_)
               refine goes_ Try.func54 (by kernel_rfl) rfl #[.agg #[.bool t1394, .slice Ao88 t1395.length co88], .agg #[.bool t1411, .slice Ao108 t1412.length co108]] (by rfl) rfl rfl (by (try simp only [List.map_toArray, List.map_cons, List.map_nil]); first | done | rfl | (simp only [List.length_drop, List.length_take]; rfl) | (simp only [i64_w, u8_w, w64_b]; rfl)) ?_
               with_reducible refine (laws_eqWhole.calls k t1394 _ _ t1395 t1411 _ _ t1412 true _ ?side1 ?side2 ?side3 ?side4 A32.out).mono ?_
               (case side1 => repeat (first | exact (Kd.R_reads' HO1397.out).2.2 | (with_reducible refine Kd.C_alloc ?_ _) | (with_reducible refine Kd.C_drewN ?_ _) | (with_reducible refine Kd.C_drew ?_)))
               (case side2 => exact (Kd.R_reads' HO1397.out).2.1)
               (case side3 => repeat (first | exact (Kd.R_reads' HO1414.out).2.2 | (with_reducible refine Kd.C_alloc ?_ _) | (with_reducible refine Kd.C_drewN ?_ _) | (with_reducible refine Kd.C_drew ?_)))
               (case side4 => exact (Kd.R_reads' HO1414.out).2.1)
               rintro e w109 ⟨rfl, hb⟩
               refine ⟨_, rfl, ?_⟩
               have n0_ := Sq.m (Kd.R_below (by apply Sq.ra; exact HO1378.out) hb)
               have n1_ := Sq.m (Kd.R_below (by apply Sq.ra; exact HO1382.out) hb)
               have n2_ := Sq.m (Kd.R_below (by apply Sq.ra; exact HO1386.out) hb)
               have n3_ := Sq.m (Kd.R_below (by apply Sq.ra; exact HO1392.out) hb)
               have n4_ := Sq.m (Kd.R_below (by apply Sq.ra; exact HO1397.out) hb)
               have n5_ := Sq.m (Kd.R_below (by apply Sq.ra; exact HO1402.out) hb)
               have n6_ := Sq.m (Kd.R_below (by apply Sq.ra; exact HO1409.out) hb)
               have n7_ := Sq.m (Kd.R_below (by apply Sq.ra; exact HO1414.out) hb)
               have n8_ := Sq.m (blk_below (g := gb1371) (o := .cells #[.bool a0_0, .slice A0_1 l0_1.length c0_1] 56 (0, 0)) (by apply Sq.rb; exact BK1371.out) hb)
               have n9_ := Sq.m (blk_below (g := gb1372) (o := .cells #[.bool a1_0, .slice A1_1 l1_1.length c1_1] 56 (0, 0)) (by apply Sq.rb; exact BK1372.out) hb)
               have n10_ := Sq.m (blk_below (g := gb1388) (o := .cells #[.bool t1383, .slice Ao100 t1384.length co100] 59 (0, 0)) (by apply Sq.rb; exact BK1388.out) hb)
               have n11_ := Sq.m (blk_below (g := gb1393) (o := .cells #[.bool t1389, .slice Ao78 t1390.length co78] 59 (0, 0)) (by apply Sq.rb; exact BK1393.out) hb)
               have n12_ := Sq.m (blk_below (g := gb1398) (o := .cells #[.bool t1394, .slice Ao88 t1395.length co88] 59 (0, 0)) (by apply Sq.rb; exact BK1398.out) hb)
               have n13_ := Sq.m (blk_below (g := gb1404) (o := .cells #[.bool t1399, .slice Ao98 t1400.length co98] 59 (0, 0)) (by apply Sq.rb; exact BK1404.out) hb)
               have n14_ := Sq.m (below_step (by repeat (first | (with_reducible first | exact HB.out | apply Sq.rc | refine below_set ?_ GE1371.out | refine below_set ?_ GE1372.out | refine below_set ?_ GE1388.out | refine below_set ?_ GE1393.out | refine below_set ?_ GE1398.out | refine below_set ?_ GE1404.out) | exact HB.out)) hb)
               clear HO1378
               clear HO1382
               clear HO1386
               clear HO1392
               clear HO1397
               clear HO1402
               clear HO1409
               clear HO1414
               clear BK1371
               clear BK1372
               clear BK1388
               clear BK1393
               clear BK1398
               clear BK1404
               clear HB
               have HO1378 := n0_
               have HO1382 := n1_
               have HO1386 := n2_
               have HO1392 := n3_
               have HO1397 := n4_
               have HO1402 := n5_
               have HO1409 := n6_
               have HO1414 := n7_
               have BK1371 := n8_
               have BK1372 := n9_
               have BK1388 := n10_
               have BK1393 := n11_
               have BK1398 := n12_
               have BK1404 := n13_
               have HB := n14_
               clear n0_ n1_ n2_ n3_ n4_ n5_ n6_ n7_ n8_ n9_ n10_ n11_ n12_ n13_ n14_
               (try clear hb)
               (try clear hb2)
               (try clear hk)
               (try clear hi)
               refine hK.out _ _ ⟨(blk_cell BK1398.out 0).trans rfl, (blk_cell BK1398.out 1).trans rfl, (blk_cell BK1372.out 0).trans rfl, (blk_cell BK1372.out 1).trans rfl⟩ (fun hHeld => ?_)
               clear hK K
               refine norm_ (a' := ?_) ?_ ?_
               rotate_left
               ·show Act.put _ (some 62) _ = _
                simp only [Act.put, List.setIfInBounds_toArray, List.set_cons_zero, List.set_cons_succ, i64_w, i32_w, u8_w, w64_b]
                rfl
               refine pure_ (i := 4) (N := some 63) (v := ?_) (a' := ?_) #[true, true, true, true, true] rfl rfl (by kernel_rfl) (fun _ _ _ h => h) (Or.inl ⟨by rfl, ?_⟩) ?_ ?_
               rotate_left
               ·intro w'
                go_simp
                with_reducible rfl
               rotate_left
               ·simp only [Act.put, List.setIfInBounds_toArray, List.set_cons_zero, List.set_cons_succ, i64_w, i32_w, u8_w, w64_b]
                rfl
               refine done_ (by kernel_rfl) ?_
               have hcz110_0 : w109.cell? ⟨gb1393, 0, none⟩ = some (.bool t1389) := (blk_cell BK1393.out 0).trans rfl
               have hcz110_1 : w109.cell? ⟨gb1393, 1, none⟩ = some (.slice Ao78 t1390.length co78) := (blk_cell BK1393.out 1).trans rfl
               have hfz110_0 := blk_frozen BK1393.out 0
               have hfz110_1 := blk_frozen BK1393.out 1
               try go_wp2_with (first | ((with_reducible refine gate_callee (f := 55) rfl ?_); refine goesL_ (some 66) rfl rfl Try.func55 (by kernel_rfl) rfl #[.agg #[.bool t1389, .slice Ao78 t1390.length co78], .int .i64 1] rfl (by (try simp only [List.map_toArray, List.map_cons, List.map_nil]); first | done | rfl | (simp only [List.length_drop, List.length_take]; rfl) | (simp only [i64_w, u8_w, w64_b]; rfl)) ?_; (with_reducible refine (laws_markWhole.calls k t1389 (fun k_ => some k_ = (.slice Ao78 t1390.length co78 : Value).ownBlock) (.slice Ao78 t1390.length co78) t1390 1 t1416 t1417 w _ ?side1 ?side2 A34.out).mono ?_); (case side1 => repeat (first | (with_reducible first | exact HB.out | apply Sq.rc | refine below_set ?_ GE1371.out | refine below_set ?_ GE1372.out | refine below_set ?_ GE1388.out | refine below_set ?_ GE1393.out | refine below_set ?_ GE1398.out | refine below_set ?_ GE1404.out) | exact HB.out)); (case side2 => exact Kd.R_tight rfl HO1392.out); rintro e w111 ⟨rfl, hy0, hb, hkp⟩; refine ⟨_, rfl, ?_⟩; have n0_ := Sq.m (blk_kept (by apply Sq.rb; exact BK1371.out) hkp (fun hs_ => (fun e_ => (Kd.R_ne HO1392.out BK1371.out (by decide)) e_) hs_)); have n1_ := Sq.m (blk_kept (by apply Sq.rb; exact BK1372.out) hkp (fun hs_ => (fun e_ => (Kd.R_ne HO1392.out BK1372.out (by decide)) e_) hs_)); have n2_ := Sq.m (Kd.R_mono (ok' := fun k_ => some k_ ≠ (.slice Ao78 t1390.length co78 : Value).ownBlock ∧ some k_ ≠ (.slice Ao88 t1395.length co88 : Value).ownBlock ∧ some k_ ≠ (.slice Ao98 t1400.length co98 : Value).ownBlock ∧ some k_ ≠ (.slice Ao104 t1407.length co104 : Value).ownBlock ∧ some k_ ≠ (.slice Ao108 t1412.length co108 : Value).ownBlock) (Kd.R_keptB (HO1378.out) hkp (fun k_ hk_ hs_ => (hk_.1.1.1.1.2) hs_)) (fun k_ hk_ => ⟨hk_.1.1.1.1.1.2, hk_.1.1.1.1.2, hk_.1.1.1.2, hk_.1.1.2, hk_.1.2⟩)); have n3_ := Sq.m (Kd.R_mono (ok' := fun k_ => some k_ ≠ (.slice Ao78 t1390.length co78 : Value).ownBlock ∧ some k_ ≠ (.slice Ao88 t1395.length co88 : Value).ownBlock ∧ some k_ ≠ (.slice Ao98 t1400.length co98 : Value).ownBlock ∧ some k_ ≠ (.slice Ao104 t1407.length co104 : Value).ownBlock ∧ some k_ ≠ (.slice Ao108 t1412.length co108 : Value).ownBlock) (Kd.R_keptB (HO1382.out) hkp (fun k_ hk_ hs_ => (hk_.1.1.1.1.2) hs_)) (fun k_ hk_ => ⟨hk_.1.1.1.1.1.2, hk_.1.1.1.1.2, hk_.1.1.1.2, hk_.1.1.2, hk_.1.2⟩)); have n4_ := Sq.m (Kd.R_mono (ok' := fun k_ => some k_ ≠ (.slice Ao78 t1390.length co78 : Value).ownBlock ∧ some k_ ≠ (.slice Ao88 t1395.length co88 : Value).ownBlock ∧ some k_ ≠ (.slice Ao98 t1400.length co98 : Value).ownBlock ∧ some k_ ≠ (.slice Ao104 t1407.length co104 : Value).ownBlock ∧ some k_ ≠ (.slice Ao108 t1412.length co108 : Value).ownBlock) (Kd.R_keptB (HO1386.out) hkp (fun k_ hk_ hs_ => (hk_.1.1.1.1.2) hs_)) (fun k_ hk_ => ⟨hk_.1.1.1.1.1.2, hk_.1.1.1.1.2, hk_.1.1.1.2, hk_.1.1.2, hk_.1.2⟩)); have n5_ := Sq.m (blk_kept (by apply Sq.rb; exact BK1388.out) hkp (fun hs_ => (fun e_ => (Kd.R_ne HO1392.out BK1388.out (by decide)) e_) hs_)); have n6_ := Sq.m (Kd.R_reok rfl hy0 (fun k_ e_ => HO1392.out.1 k_ e_)); have n7_ := Sq.m (blk_kept (by apply Sq.rb; exact BK1393.out) hkp (fun hs_ => (fun e_ => (Kd.R_ne HO1392.out BK1393.out (by decide)) e_) hs_)); have n8_ := Sq.m (Kd.R_mono (ok' := fun k_ => some k_ ≠ (v1377 : Value).ownBlock ∧ some k_ ≠ (v1381 : Value).ownBlock ∧ some k_ ≠ (.slice Ao100 t1384.length co100 : Value).ownBlock ∧ some k_ ≠ (.slice Ao78 t1390.length co78 : Value).ownBlock ∧ some k_ ≠ (.slice Ao98 t1400.length co98 : Value).ownBlock ∧ some k_ ≠ (.slice Ao104 t1407.length co104 : Value).ownBlock ∧ some k_ ≠ (.slice Ao108 t1412.length co108 : Value).ownBlock) (Kd.R_keptB (HO1397.out) hkp (fun k_ hk_ hs_ => (hk_.1.1.1.2) hs_)) (fun k_ hk_ => ⟨hk_.1.1.1.1.1.1.1.2, hk_.1.1.1.1.1.1.2, hk_.1.1.1.1.1.2, hk_.1.1.1.1.2, hk_.1.1.1.2, hk_.1.1.2, hk_.1.2⟩)); have n9_ := Sq.m (blk_kept (by apply Sq.rb; exact BK1398.out) hkp (fun hs_ => (fun e_ => (Kd.R_ne HO1392.out BK1398.out (by decide)) e_) hs_)); have n10_ := Sq.m (Kd.R_mono (ok' := fun k_ => some k_ ≠ (v1377 : Value).ownBlock ∧ some k_ ≠ (v1381 : Value).ownBlock ∧ some k_ ≠ (.slice Ao100 t1384.length co100 : Value).ownBlock ∧ some k_ ≠ (.slice Ao78 t1390.length co78 : Value).ownBlock ∧ some k_ ≠ (.slice Ao88 t1395.length co88 : Value).ownBlock ∧ some k_ ≠ (.slice Ao104 t1407.length co104 : Value).ownBlock ∧ some k_ ≠ (.slice Ao108 t1412.length co108 : Value).ownBlock) (Kd.R_keptB (HO1402.out) hkp (fun k_ hk_ hs_ => (hk_.1.1.1.2) hs_)) (fun k_ hk_ => ⟨hk_.1.1.1.1.1.1.1.2, hk_.1.1.1.1.1.1.2, hk_.1.1.1.1.1.2, hk_.1.1.1.1.2, hk_.1.1.1.2, hk_.1.1.2, hk_.1.2⟩)); have n11_ := Sq.m (blk_kept (by apply Sq.rb; exact BK1404.out) hkp (fun hs_ => (fun e_ => (Kd.R_ne HO1392.out BK1404.out (by decide)) e_) hs_)); have n12_ := Sq.m (Kd.R_mono (ok' := fun k_ => some k_ ≠ (v1377 : Value).ownBlock ∧ some k_ ≠ (v1381 : Value).ownBlock ∧ some k_ ≠ (.slice Ao100 t1384.length co100 : Value).ownBlock ∧ some k_ ≠ (.slice Ao78 t1390.length co78 : Value).ownBlock ∧ some k_ ≠ (.slice Ao88 t1395.length co88 : Value).ownBlock ∧ some k_ ≠ (.slice Ao98 t1400.length co98 : Value).ownBlock ∧ some k_ ≠ (.slice Ao108 t1412.length co108 : Value).ownBlock) (Kd.R_keptB (HO1409.out) hkp (fun k_ hk_ hs_ => (hk_.1.1.1.2) hs_)) (fun k_ hk_ => ⟨hk_.1.1.1.1.1.1.1.2, hk_.1.1.1.1.1.1.2, hk_.1.1.1.1.1.2, hk_.1.1.1.1.2, hk_.1.1.1.2, hk_.1.1.2, hk_.1.2⟩)); have n13_ := Sq.m (Kd.R_mono (ok' := fun k_ => some k_ ≠ (v1377 : Value).ownBlock ∧ some k_ ≠ (v1381 : Value).ownBlock ∧ some k_ ≠ (.slice Ao100 t1384.length co100 : Value).ownBlock ∧ some k_ ≠ (.slice Ao78 t1390.length co78 : Value).ownBlock ∧ some k_ ≠ (.slice Ao88 t1395.length co88 : Value).ownBlock ∧ some k_ ≠ (.slice Ao98 t1400.length co98 : Value).ownBlock ∧ some k_ ≠ (.slice Ao104 t1407.length co104 : Value).ownBlock) (Kd.R_keptB (HO1414.out) hkp (fun k_ hk_ hs_ => (hk_.1.1.1.2) hs_)) (fun k_ hk_ => ⟨hk_.1.1.1.1.1.1.1.2, hk_.1.1.1.1.1.1.2, hk_.1.1.1.1.1.2, hk_.1.1.1.1.2, hk_.1.1.1.2, hk_.1.1.2, hk_.1.2⟩)); have n14_ := Sq.m (hb); clear BK1371; clear BK1372; clear HO1378; clear HO1382; clear HO1386; clear BK1388; clear HO1392; clear BK1393; clear HO1397; clear BK1398; clear HO1402; clear BK1404; clear HO1409; clear HO1414; clear HB; have BK1371 := n0_; have BK1372 := n1_; have HO1378 := n2_; have HO1382 := n3_; have HO1386 := n4_; have BK1388 := n5_; have HO1392 := n6_; have BK1393 := n7_; have HO1397 := n8_; have BK1398 := n9_; have HO1402 := n10_; have BK1404 := n11_; have HO1409 := n12_; have HO1414 := n13_; have HB := n14_; clear n0_ n1_ n2_ n3_ n4_ n5_ n6_ n7_ n8_ n9_ n10_ n11_ n12_ n13_ n14_; (try clear hb); (try clear hkp); (try clear hy0); have hcz112_0 : w111.cell? ⟨gb1398, 0, none⟩ = some (.bool t1394) := (blk_cell BK1398.out 0).trans rfl; have hcz112_1 : w111.cell? ⟨gb1398, 1, none⟩ = some (.slice Ao88 t1395.length co88) := (blk_cell BK1398.out 1).trans rfl; have hfz112_0 := blk_frozen BK1398.out 0; have hfz112_1 := blk_frozen BK1398.out 1) | ((with_reducible refine gate_callee (f := 55) rfl ?_); refine goesL_ (some 69) rfl rfl Try.func55 (by kernel_rfl) rfl #[.agg #[.bool t1394, .slice Ao88 t1395.length co88], .int .i64 t1416] rfl (by (try simp only [List.map_toArray, List.map_cons, List.map_nil]); first | done | rfl | (simp only [List.length_drop, List.length_take]; rfl) | (simp only [i64_w, u8_w, w64_b]; rfl)) ?_; (with_reducible refine (laws_markWhole.calls k t1394 (fun k_ => some k_ = (.slice Ao88 t1395.length co88 : Value).ownBlock) (.slice Ao88 t1395.length co88) t1395 t1416 t1418 t1419 w _ ?side1 ?side2 A35.out).mono ?_); (case side1 => repeat (first | (with_reducible first | exact HB.out | apply Sq.rc | refine below_set ?_ GE1371.out | refine below_set ?_ GE1372.out | refine below_set ?_ GE1388.out | refine below_set ?_ GE1393.out | refine below_set ?_ GE1398.out | refine below_set ?_ GE1404.out) | exact HB.out)); (case side2 => exact Kd.R_tight rfl HO1397.out); rintro e w113 ⟨rfl, hy0, hb, hkp⟩; refine ⟨_, rfl, ?_⟩; have n0_ := Sq.m (blk_kept (by apply Sq.rb; exact BK1371.out) hkp (fun hs_ => (fun e_ => (Kd.R_ne HO1397.out BK1371.out (by decide)) e_) hs_)); have n1_ := Sq.m (blk_kept (by apply Sq.rb; exact BK1372.out) hkp (fun hs_ => (fun e_ => (Kd.R_ne HO1397.out BK1372.out (by decide)) e_) hs_)); have n2_ := Sq.m (Kd.R_mono (ok' := fun k_ => some k_ ≠ (.slice Ao78 t1390.length co78 : Value).ownBlock ∧ some k_ ≠ (.slice Ao88 t1395.length co88 : Value).ownBlock ∧ some k_ ≠ (.slice Ao98 t1400.length co98 : Value).ownBlock ∧ some k_ ≠ (.slice Ao104 t1407.length co104 : Value).ownBlock ∧ some k_ ≠ (.slice Ao108 t1412.length co108 : Value).ownBlock) (Kd.R_keptB (HO1378.out) hkp (fun k_ hk_ hs_ => (hk_.2.1) hs_)) (fun k_ hk_ => ⟨hk_.1.1, hk_.1.2.1, hk_.1.2.2.1, hk_.1.2.2.2.1, hk_.1.2.2.2.2⟩)); have n3_ := Sq.m (Kd.R_mono (ok' := fun k_ => some k_ ≠ (.slice Ao78 t1390.length co78 : Value).ownBlock ∧ some k_ ≠ (.slice Ao88 t1395.length co88 : Value).ownBlock ∧ some k_ ≠ (.slice Ao98 t1400.length co98 : Value).ownBlock ∧ some k_ ≠ (.slice Ao104 t1407.length co104 : Value).ownBlock ∧ some k_ ≠ (.slice Ao108 t1412.length co108 : Value).ownBlock) (Kd.R_keptB (HO1382.out) hkp (fun k_ hk_ hs_ => (hk_.2.1) hs_)) (fun k_ hk_ => ⟨hk_.1.1, hk_.1.2.1, hk_.1.2.2.1, hk_.1.2.2.2.1, hk_.1.2.2.2.2⟩)); have n4_ := Sq.m (Kd.R_mono (ok' := fun k_ => some k_ ≠ (.slice Ao78 t1390.length co78 : Value).ownBlock ∧ some k_ ≠ (.slice Ao88 t1395.length co88 : Value).ownBlock ∧ some k_ ≠ (.slice Ao98 t1400.length co98 : Value).ownBlock ∧ some k_ ≠ (.slice Ao104 t1407.length co104 : Value).ownBlock ∧ some k_ ≠ (.slice Ao108 t1412.length co108 : Value).ownBlock) (Kd.R_keptB (HO1386.out) hkp (fun k_ hk_ hs_ => (hk_.2.1) hs_)) (fun k_ hk_ => ⟨hk_.1.1, hk_.1.2.1, hk_.1.2.2.1, hk_.1.2.2.2.1, hk_.1.2.2.2.2⟩)); have n5_ := Sq.m (blk_kept (by apply Sq.rb; exact BK1388.out) hkp (fun hs_ => (fun e_ => (Kd.R_ne HO1397.out BK1388.out (by decide)) e_) hs_)); have n6_ := Sq.m (Kd.R_mono (ok' := fun k_ => some k_ ≠ (v1377 : Value).ownBlock ∧ some k_ ≠ (v1381 : Value).ownBlock ∧ some k_ ≠ (.slice Ao100 t1384.length co100 : Value).ownBlock ∧ some k_ ≠ (.slice Ao88 t1395.length co88 : Value).ownBlock ∧ some k_ ≠ (.slice Ao98 t1400.length co98 : Value).ownBlock ∧ some k_ ≠ (.slice Ao104 t1407.length co104 : Value).ownBlock ∧ some k_ ≠ (.slice Ao108 t1412.length co108 : Value).ownBlock) (Kd.R_keptB (HO1392.out) hkp (fun k_ hk_ hs_ => (hk_.1.1.1.2) hs_)) (fun k_ hk_ => ⟨hk_.1.1.1.1.1.1.1.2, hk_.1.1.1.1.1.1.2, hk_.1.1.1.1.1.2, hk_.1.1.1.1.2, hk_.1.1.1.2, hk_.1.1.2, hk_.1.2⟩)); have n7_ := Sq.m (blk_kept (by apply Sq.rb; exact BK1393.out) hkp (fun hs_ => (fun e_ => (Kd.R_ne HO1397.out BK1393.out (by decide)) e_) hs_)); have n8_ := Sq.m (Kd.R_reok rfl hy0 (fun k_ e_ => HO1397.out.1 k_ e_)); have n9_ := Sq.m (blk_kept (by apply Sq.rb; exact BK1398.out) hkp (fun hs_ => (fun e_ => (Kd.R_ne HO1397.out BK1398.out (by decide)) e_) hs_)); have n10_ := Sq.m (Kd.R_mono (ok' := fun k_ => some k_ ≠ (v1377 : Value).ownBlock ∧ some k_ ≠ (v1381 : Value).ownBlock ∧ some k_ ≠ (.slice Ao100 t1384.length co100 : Value).ownBlock ∧ some k_ ≠ (.slice Ao78 t1390.length co78 : Value).ownBlock ∧ some k_ ≠ (.slice Ao88 t1395.length co88 : Value).ownBlock ∧ some k_ ≠ (.slice Ao104 t1407.length co104 : Value).ownBlock ∧ some k_ ≠ (.slice Ao108 t1412.length co108 : Value).ownBlock) (Kd.R_keptB (HO1402.out) hkp (fun k_ hk_ hs_ => (hk_.2.2.2.2.1) hs_)) (fun k_ hk_ => ⟨hk_.1.1, hk_.1.2.1, hk_.1.2.2.1, hk_.1.2.2.2.1, hk_.1.2.2.2.2.1, hk_.1.2.2.2.2.2.1, hk_.1.2.2.2.2.2.2⟩)); have n11_ := Sq.m (blk_kept (by apply Sq.rb; exact BK1404.out) hkp (fun hs_ => (fun e_ => (Kd.R_ne HO1397.out BK1404.out (by decide)) e_) hs_)); have n12_ := Sq.m (Kd.R_mono (ok' := fun k_ => some k_ ≠ (v1377 : Value).ownBlock ∧ some k_ ≠ (v1381 : Value).ownBlock ∧ some k_ ≠ (.slice Ao100 t1384.length co100 : Value).ownBlock ∧ some k_ ≠ (.slice Ao78 t1390.length co78 : Value).ownBlock ∧ some k_ ≠ (.slice Ao88 t1395.length co88 : Value).ownBlock ∧ some k_ ≠ (.slice Ao98 t1400.length co98 : Value).ownBlock ∧ some k_ ≠ (.slice Ao108 t1412.length co108 : Value).ownBlock) (Kd.R_keptB (HO1409.out) hkp (fun k_ hk_ hs_ => (hk_.2.2.2.2.1) hs_)) (fun k_ hk_ => ⟨hk_.1.1, hk_.1.2.1, hk_.1.2.2.1, hk_.1.2.2.2.1, hk_.1.2.2.2.2.1, hk_.1.2.2.2.2.2.1, hk_.1.2.2.2.2.2.2⟩)); have n13_ := Sq.m (Kd.R_mono (ok' := fun k_ => some k_ ≠ (v1377 : Value).ownBlock ∧ some k_ ≠ (v1381 : Value).ownBlock ∧ some k_ ≠ (.slice Ao100 t1384.length co100 : Value).ownBlock ∧ some k_ ≠ (.slice Ao78 t1390.length co78 : Value).ownBlock ∧ some k_ ≠ (.slice Ao88 t1395.length co88 : Value).ownBlock ∧ some k_ ≠ (.slice Ao98 t1400.length co98 : Value).ownBlock ∧ some k_ ≠ (.slice Ao104 t1407.length co104 : Value).ownBlock) (Kd.R_keptB (HO1414.out) hkp (fun k_ hk_ hs_ => (hk_.2.2.2.2.1) hs_)) (fun k_ hk_ => ⟨hk_.1.1, hk_.1.2.1, hk_.1.2.2.1, hk_.1.2.2.2.1, hk_.1.2.2.2.2.1, hk_.1.2.2.2.2.2.1, hk_.1.2.2.2.2.2.2⟩)); have n14_ := Sq.m (hb); clear BK1371; clear BK1372; clear HO1378; clear HO1382; clear HO1386; clear BK1388; clear HO1392; clear BK1393; clear HO1397; clear BK1398; clear HO1402; clear BK1404; clear HO1409; clear HO1414; clear HB; have BK1371 := n0_; have BK1372 := n1_; have HO1378 := n2_; have HO1382 := n3_; have HO1386 := n4_; have BK1388 := n5_; have HO1392 := n6_; have BK1393 := n7_; have HO1397 := n8_; have BK1398 := n9_; have HO1402 := n10_; have BK1404 := n11_; have HO1409 := n12_; have HO1414 := n13_; have HB := n14_; clear n0_ n1_ n2_ n3_ n4_ n5_ n6_ n7_ n8_ n9_ n10_ n11_ n12_ n13_ n14_; (try clear hb); (try clear hkp); (try clear hy0); have hcz114_0 : w113.cell? ⟨gb1404, 0, none⟩ = some (.bool t1399) := (blk_cell BK1404.out 0).trans rfl; have hcz114_1 : w113.cell? ⟨gb1404, 1, none⟩ = some (.slice Ao98 t1400.length co98) := (blk_cell BK1404.out 1).trans rfl; have hfz114_0 := blk_frozen BK1404.out 0; have hfz114_1 := blk_frozen BK1404.out 1; have hcz115_0 : w113.cell? ⟨gb1388, 0, none⟩ = some (.bool t1383) := (blk_cell BK1388.out 0).trans rfl; have hcz115_1 : w113.cell? ⟨gb1388, 1, none⟩ = some (.slice Ao100 t1384.length co100) := (blk_cell BK1388.out 1).trans rfl; have hfz115_0 := blk_frozen BK1388.out 0; have hfz115_1 := blk_frozen BK1388.out 1) | (go_at_call 54; (with_reducible refine (laws_eqWhole.calls k t1399 _ _ t1400 t1383 _ _ t1384 true _ ?side1 ?side2 ?side3 ?side4 A37.out).mono ?_); (case side1 => repeat (first | exact (Kd.R_reads' HO1402.out).2.2 | (with_reducible refine Kd.C_alloc ?_ _) | (with_reducible refine Kd.C_drewN ?_ _) | (with_reducible refine Kd.C_drew ?_))); (case side2 => exact (Kd.R_reads' HO1402.out).2.1); (case side3 => repeat (first | exact (Kd.R_reads' HO1386.out).2.2 | (with_reducible refine Kd.C_alloc ?_ _) | (with_reducible refine Kd.C_drewN ?_ _) | (with_reducible refine Kd.C_drew ?_))); (case side4 => exact (Kd.R_reads' HO1386.out).2.1); rintro e w116 ⟨rfl, hb⟩; have n0_ := Sq.m (Kd.R_below (by apply Sq.ra; exact HO1378.out) hb); have n1_ := Sq.m (Kd.R_below (by apply Sq.ra; exact HO1382.out) hb); have n2_ := Sq.m (Kd.R_below (by apply Sq.ra; exact HO1386.out) hb); have n3_ := Sq.m (Kd.R_below (by apply Sq.ra; exact HO1392.out) hb); have n4_ := Sq.m (Kd.R_below (by apply Sq.ra; exact HO1397.out) hb); have n5_ := Sq.m (Kd.R_below (by apply Sq.ra; exact HO1402.out) hb); have n6_ := Sq.m (Kd.R_below (by apply Sq.ra; exact HO1409.out) hb); have n7_ := Sq.m (Kd.R_below (by apply Sq.ra; exact HO1414.out) hb); have n8_ := Sq.m (blk_below (g := gb1371) (o := .cells #[.bool a0_0, .slice A0_1 l0_1.length c0_1] 56 (0, 0)) (by apply Sq.rb; exact BK1371.out) hb); have n9_ := Sq.m (blk_below (g := gb1372) (o := .cells #[.bool a1_0, .slice A1_1 l1_1.length c1_1] 56 (0, 0)) (by apply Sq.rb; exact BK1372.out) hb); have n10_ := Sq.m (blk_below (g := gb1388) (o := .cells #[.bool t1383, .slice Ao100 t1384.length co100] 59 (0, 0)) (by apply Sq.rb; exact BK1388.out) hb); have n11_ := Sq.m (blk_below (g := gb1393) (o := .cells #[.bool t1389, .slice Ao78 t1390.length co78] 59 (0, 0)) (by apply Sq.rb; exact BK1393.out) hb); have n12_ := Sq.m (blk_below (g := gb1398) (o := .cells #[.bool t1394, .slice Ao88 t1395.length co88] 59 (0, 0)) (by apply Sq.rb; exact BK1398.out) hb); have n13_ := Sq.m (blk_below (g := gb1404) (o := .cells #[.bool t1399, .slice Ao98 t1400.length co98] 59 (0, 0)) (by apply Sq.rb; exact BK1404.out) hb); have n14_ := Sq.m (below_step (by repeat (first | (with_reducible first | exact HB.out | apply Sq.rc | refine below_set ?_ GE1371.out | refine below_set ?_ GE1372.out | refine below_set ?_ GE1388.out | refine below_set ?_ GE1393.out | refine below_set ?_ GE1398.out | refine below_set ?_ GE1404.out) | exact HB.out)) hb); clear HO1378; clear HO1382; clear HO1386; clear HO1392; clear HO1397; clear HO1402; clear HO1409; clear HO1414; clear BK1371; clear BK1372; clear BK1388; clear BK1393; clear BK1398; clear BK1404; clear HB; have HO1378 := n0_; have HO1382 := n1_; have HO1386 := n2_; have HO1392 := n3_; have HO1397 := n4_; have HO1402 := n5_; have HO1409 := n6_; have HO1414 := n7_; have BK1371 := n8_; have BK1372 := n9_; have BK1388 := n10_; have BK1393 := n11_; have BK1398 := n12_; have BK1404 := n13_; have HB := n14_; clear n0_ n1_ n2_ n3_ n4_ n5_ n6_ n7_ n8_ n9_ n10_ n11_ n12_ n13_ n14_; (try clear hb); (try clear hb2); (try clear hk); (try clear hi); have hcz117_0 : w116.cell? ⟨gb1404, 0, none⟩ = some (.bool t1399) := (blk_cell BK1404.out 0).trans rfl; have hcz117_1 : w116.cell? ⟨gb1404, 1, none⟩ = some (.slice Ao98 t1400.length co98) := (blk_cell BK1404.out 1).trans rfl; have hfz117_0 := blk_frozen BK1404.out 0; have hfz117_1 := blk_frozen BK1404.out 1) | ((with_reducible refine gate_callee (f := 55) rfl ?_); refine goesL_ (some 85) rfl rfl Try.func55 (by kernel_rfl) rfl #[.agg #[.bool t1399, .slice Ao98 t1400.length co98], .int .i64 1] rfl (by (try simp only [List.map_toArray, List.map_cons, List.map_nil]); first | done | rfl | (simp only [List.length_drop, List.length_take]; rfl) | (simp only [i64_w, u8_w, w64_b]; rfl)) ?_; (with_reducible refine (laws_markWhole.calls k t1399 (fun k_ => some k_ = (.slice Ao98 t1400.length co98 : Value).ownBlock) (.slice Ao98 t1400.length co98) t1400 1 t1421 t1422 w _ ?side1 ?side2 A39.out).mono ?_); (case side1 => repeat (first | (with_reducible first | exact HB.out | apply Sq.rc | refine below_set ?_ GE1371.out | refine below_set ?_ GE1372.out | refine below_set ?_ GE1388.out | refine below_set ?_ GE1393.out | refine below_set ?_ GE1398.out | refine below_set ?_ GE1404.out) | exact HB.out)); (case side2 => exact Kd.R_tight rfl HO1402.out); rintro e w118 ⟨rfl, hy0, hb, hkp⟩; refine ⟨_, rfl, ?_⟩; have n0_ := Sq.m (blk_kept (by apply Sq.rb; exact BK1371.out) hkp (fun hs_ => (fun e_ => (Kd.R_ne HO1402.out BK1371.out (by decide)) e_) hs_)); have n1_ := Sq.m (blk_kept (by apply Sq.rb; exact BK1372.out) hkp (fun hs_ => (fun e_ => (Kd.R_ne HO1402.out BK1372.out (by decide)) e_) hs_)); have n2_ := Sq.m (Kd.R_mono (ok' := fun k_ => some k_ ≠ (.slice Ao78 t1390.length co78 : Value).ownBlock ∧ some k_ ≠ (.slice Ao88 t1395.length co88 : Value).ownBlock ∧ some k_ ≠ (.slice Ao98 t1400.length co98 : Value).ownBlock ∧ some k_ ≠ (.slice Ao104 t1407.length co104 : Value).ownBlock ∧ some k_ ≠ (.slice Ao108 t1412.length co108 : Value).ownBlock) (Kd.R_keptB (HO1378.out) hkp (fun k_ hk_ hs_ => (hk_.2.2.1) hs_)) (fun k_ hk_ => ⟨hk_.1.1, hk_.1.2.1, hk_.1.2.2.1, hk_.1.2.2.2.1, hk_.1.2.2.2.2⟩)); have n3_ := Sq.m (Kd.R_mono (ok' := fun k_ => some k_ ≠ (.slice Ao78 t1390.length co78 : Value).ownBlock ∧ some k_ ≠ (.slice Ao88 t1395.length co88 : Value).ownBlock ∧ some k_ ≠ (.slice Ao98 t1400.length co98 : Value).ownBlock ∧ some k_ ≠ (.slice Ao104 t1407.length co104 : Value).ownBlock ∧ some k_ ≠ (.slice Ao108 t1412.length co108 : Value).ownBlock) (Kd.R_keptB (HO1382.out) hkp (fun k_ hk_ hs_ => (hk_.2.2.1) hs_)) (fun k_ hk_ => ⟨hk_.1.1, hk_.1.2.1, hk_.1.2.2.1, hk_.1.2.2.2.1, hk_.1.2.2.2.2⟩)); have n4_ := Sq.m (Kd.R_mono (ok' := fun k_ => some k_ ≠ (.slice Ao78 t1390.length co78 : Value).ownBlock ∧ some k_ ≠ (.slice Ao88 t1395.length co88 : Value).ownBlock ∧ some k_ ≠ (.slice Ao98 t1400.length co98 : Value).ownBlock ∧ some k_ ≠ (.slice Ao104 t1407.length co104 : Value).ownBlock ∧ some k_ ≠ (.slice Ao108 t1412.length co108 : Value).ownBlock) (Kd.R_keptB (HO1386.out) hkp (fun k_ hk_ hs_ => (hk_.2.2.1) hs_)) (fun k_ hk_ => ⟨hk_.1.1, hk_.1.2.1, hk_.1.2.2.1, hk_.1.2.2.2.1, hk_.1.2.2.2.2⟩)); have n5_ := Sq.m (blk_kept (by apply Sq.rb; exact BK1388.out) hkp (fun hs_ => (fun e_ => (Kd.R_ne HO1402.out BK1388.out (by decide)) e_) hs_)); have n6_ := Sq.m (Kd.R_mono (ok' := fun k_ => some k_ ≠ (v1377 : Value).ownBlock ∧ some k_ ≠ (v1381 : Value).ownBlock ∧ some k_ ≠ (.slice Ao100 t1384.length co100 : Value).ownBlock ∧ some k_ ≠ (.slice Ao88 t1395.length co88 : Value).ownBlock ∧ some k_ ≠ (.slice Ao98 t1400.length co98 : Value).ownBlock ∧ some k_ ≠ (.slice Ao104 t1407.length co104 : Value).ownBlock ∧ some k_ ≠ (.slice Ao108 t1412.length co108 : Value).ownBlock) (Kd.R_keptB (HO1392.out) hkp (fun k_ hk_ hs_ => (hk_.2.2.2.2.1) hs_)) (fun k_ hk_ => ⟨hk_.1.1, hk_.1.2.1, hk_.1.2.2.1, hk_.1.2.2.2.1, hk_.1.2.2.2.2.1, hk_.1.2.2.2.2.2.1, hk_.1.2.2.2.2.2.2⟩)); have n7_ := Sq.m (blk_kept (by apply Sq.rb; exact BK1393.out) hkp (fun hs_ => (fun e_ => (Kd.R_ne HO1402.out BK1393.out (by decide)) e_) hs_)); have n8_ := Sq.m (Kd.R_mono (ok' := fun k_ => some k_ ≠ (v1377 : Value).ownBlock ∧ some k_ ≠ (v1381 : Value).ownBlock ∧ some k_ ≠ (.slice Ao100 t1384.length co100 : Value).ownBlock ∧ some k_ ≠ (.slice Ao78 t1390.length co78 : Value).ownBlock ∧ some k_ ≠ (.slice Ao98 t1400.length co98 : Value).ownBlock ∧ some k_ ≠ (.slice Ao104 t1407.length co104 : Value).ownBlock ∧ some k_ ≠ (.slice Ao108 t1412.length co108 : Value).ownBlock) (Kd.R_keptB (HO1397.out) hkp (fun k_ hk_ hs_ => (hk_.2.2.2.2.1) hs_)) (fun k_ hk_ => ⟨hk_.1.1, hk_.1.2.1, hk_.1.2.2.1, hk_.1.2.2.2.1, hk_.1.2.2.2.2.1, hk_.1.2.2.2.2.2.1, hk_.1.2.2.2.2.2.2⟩)); have n9_ := Sq.m (blk_kept (by apply Sq.rb; exact BK1398.out) hkp (fun hs_ => (fun e_ => (Kd.R_ne HO1402.out BK1398.out (by decide)) e_) hs_)); have n10_ := Sq.m (Kd.R_reok rfl hy0 (fun k_ e_ => HO1402.out.1 k_ e_)); have n11_ := Sq.m (blk_kept (by apply Sq.rb; exact BK1404.out) hkp (fun hs_ => (fun e_ => (Kd.R_ne HO1402.out BK1404.out (by decide)) e_) hs_)); have n12_ := Sq.m (Kd.R_mono (ok' := fun k_ => some k_ ≠ (v1377 : Value).ownBlock ∧ some k_ ≠ (v1381 : Value).ownBlock ∧ some k_ ≠ (.slice Ao100 t1384.length co100 : Value).ownBlock ∧ some k_ ≠ (.slice Ao78 t1390.length co78 : Value).ownBlock ∧ some k_ ≠ (.slice Ao88 t1395.length co88 : Value).ownBlock ∧ some k_ ≠ (.slice Ao98 t1400.length co98 : Value).ownBlock ∧ some k_ ≠ (.slice Ao108 t1412.length co108 : Value).ownBlock) (Kd.R_keptB (HO1409.out) hkp (fun k_ hk_ hs_ => (hk_.2.2.2.2.2.1) hs_)) (fun k_ hk_ => ⟨hk_.1.1, hk_.1.2.1, hk_.1.2.2.1, hk_.1.2.2.2.1, hk_.1.2.2.2.2.1, hk_.1.2.2.2.2.2.1, hk_.1.2.2.2.2.2.2⟩)); have n13_ := Sq.m (Kd.R_mono (ok' := fun k_ => some k_ ≠ (v1377 : Value).ownBlock ∧ some k_ ≠ (v1381 : Value).ownBlock ∧ some k_ ≠ (.slice Ao100 t1384.length co100 : Value).ownBlock ∧ some k_ ≠ (.slice Ao78 t1390.length co78 : Value).ownBlock ∧ some k_ ≠ (.slice Ao88 t1395.length co88 : Value).ownBlock ∧ some k_ ≠ (.slice Ao98 t1400.length co98 : Value).ownBlock ∧ some k_ ≠ (.slice Ao104 t1407.length co104 : Value).ownBlock) (Kd.R_keptB (HO1414.out) hkp (fun k_ hk_ hs_ => (hk_.2.2.2.2.2.1) hs_)) (fun k_ hk_ => ⟨hk_.1.1, hk_.1.2.1, hk_.1.2.2.1, hk_.1.2.2.2.1, hk_.1.2.2.2.2.1, hk_.1.2.2.2.2.2.1, hk_.1.2.2.2.2.2.2⟩)); have n14_ := Sq.m (hb); clear BK1371; clear BK1372; clear HO1378; clear HO1382; clear HO1386; clear BK1388; clear HO1392; clear BK1393; clear HO1397; clear BK1398; clear HO1402; clear BK1404; clear HO1409; clear HO1414; clear HB; have BK1371 := n0_; have BK1372 := n1_; have HO1378 := n2_; have HO1382 := n3_; have HO1386 := n4_; have BK1388 := n5_; have HO1392 := n6_; have BK1393 := n7_; have HO1397 := n8_; have BK1398 := n9_; have HO1402 := n10_; have BK1404 := n11_; have HO1409 := n12_; have HO1414 := n13_; have HB := n14_; clear n0_ n1_ n2_ n3_ n4_ n5_ n6_ n7_ n8_ n9_ n10_ n11_ n12_ n13_ n14_; (try clear hb); (try clear hkp); (try clear hy0); have hcz119_0 : w118.cell? ⟨gb1404, 0, none⟩ = some (.bool t1399) := (blk_cell BK1404.out 0).trans rfl; have hcz119_1 : w118.cell? ⟨gb1404, 1, none⟩ = some (.slice Ao98 t1400.length co98) := (blk_cell BK1404.out 1).trans rfl; have hfz119_0 := blk_frozen BK1404.out 0; have hfz119_1 := blk_frozen BK1404.out 1) | ((with_reducible refine gate_callee (f := 56) rfl ?_); refine goesL_ (some 88) rfl rfl Try.func56 (by kernel_rfl) rfl #[.agg #[.bool t1399, .slice Ao98 t1422.length co98], .int .i64 1] rfl (by (try simp only [List.map_toArray, List.map_cons, List.map_nil]); first | done | (rw [show t1422.length = t1400.length from (Kd.R_reads' HO1402.out).1.symm] <;> rfl) | rfl | (simp only [List.length_drop, List.length_take]; rfl) | (simp only [i64_w, u8_w, w64_b]; rfl)) ?_; (with_reducible refine (laws_heldWhole.calls k t1399 _ _ t1422 1 t1423 _ ?side1 ?side2 A40.out).mono ?_); (case side1 => repeat (first | exact (Kd.R_reads' HO1402.out).2.2 | (with_reducible refine Kd.C_alloc ?_ _) | (with_reducible refine Kd.C_drewN ?_ _) | (with_reducible refine Kd.C_drew ?_))); (case side2 => rw [show t1422.length = t1400.length from (Kd.R_reads' HO1402.out).1.symm]; exact (Kd.R_reads' HO1402.out).2.1); rintro e w120 ⟨rfl, hb⟩; refine ⟨_, rfl, ?_⟩; have n0_ := Sq.m (Kd.R_below (by apply Sq.ra; exact HO1378.out) hb); have n1_ := Sq.m (Kd.R_below (by apply Sq.ra; exact HO1382.out) hb); have n2_ := Sq.m (Kd.R_below (by apply Sq.ra; exact HO1386.out) hb); have n3_ := Sq.m (Kd.R_below (by apply Sq.ra; exact HO1392.out) hb); have n4_ := Sq.m (Kd.R_below (by apply Sq.ra; exact HO1397.out) hb); have n5_ := Sq.m (Kd.R_below (by apply Sq.ra; exact HO1402.out) hb); have n6_ := Sq.m (Kd.R_below (by apply Sq.ra; exact HO1409.out) hb); have n7_ := Sq.m (Kd.R_below (by apply Sq.ra; exact HO1414.out) hb); have n8_ := Sq.m (blk_below (g := gb1371) (o := .cells #[.bool a0_0, .slice A0_1 l0_1.length c0_1] 56 (0, 0)) (by apply Sq.rb; exact BK1371.out) hb); have n9_ := Sq.m (blk_below (g := gb1372) (o := .cells #[.bool a1_0, .slice A1_1 l1_1.length c1_1] 56 (0, 0)) (by apply Sq.rb; exact BK1372.out) hb); have n10_ := Sq.m (blk_below (g := gb1388) (o := .cells #[.bool t1383, .slice Ao100 t1384.length co100] 59 (0, 0)) (by apply Sq.rb; exact BK1388.out) hb); have n11_ := Sq.m (blk_below (g := gb1393) (o := .cells #[.bool t1389, .slice Ao78 t1390.length co78] 59 (0, 0)) (by apply Sq.rb; exact BK1393.out) hb); have n12_ := Sq.m (blk_below (g := gb1398) (o := .cells #[.bool t1394, .slice Ao88 t1395.length co88] 59 (0, 0)) (by apply Sq.rb; exact BK1398.out) hb); have n13_ := Sq.m (blk_below (g := gb1404) (o := .cells #[.bool t1399, .slice Ao98 t1400.length co98] 59 (0, 0)) (by apply Sq.rb; exact BK1404.out) hb); have n14_ := Sq.m (below_step (by repeat (first | (with_reducible first | exact HB.out | apply Sq.rc | refine below_set ?_ GE1371.out | refine below_set ?_ GE1372.out | refine below_set ?_ GE1388.out | refine below_set ?_ GE1393.out | refine below_set ?_ GE1398.out | refine below_set ?_ GE1404.out) | exact HB.out)) hb); clear HO1378; clear HO1382; clear HO1386; clear HO1392; clear HO1397; clear HO1402; clear HO1409; clear HO1414; clear BK1371; clear BK1372; clear BK1388; clear BK1393; clear BK1398; clear BK1404; clear HB; have HO1378 := n0_; have HO1382 := n1_; have HO1386 := n2_; have HO1392 := n3_; have HO1397 := n4_; have HO1402 := n5_; have HO1409 := n6_; have HO1414 := n7_; have BK1371 := n8_; have BK1372 := n9_; have BK1388 := n10_; have BK1393 := n11_; have BK1398 := n12_; have BK1404 := n13_; have HB := n14_; clear n0_ n1_ n2_ n3_ n4_ n5_ n6_ n7_ n8_ n9_ n10_ n11_ n12_ n13_ n14_; (try clear hb); (try clear hb2); (try clear hk); (try clear hi)))
               have n0_ := Sq.m (Kd.R_drew HO1378.out)
               have n1_ := Sq.m (Kd.R_drew HO1382.out)
               have n2_ := Sq.m (Kd.R_drew HO1386.out)
               have n3_ := Sq.m (Kd.R_drew HO1392.out)
               have n4_ := Sq.m (Kd.R_drew HO1397.out)
               have n5_ := Sq.m (Kd.R_drew HO1402.out)
               have n6_ := Sq.m (Kd.R_drew HO1409.out)
               have n7_ := Sq.m (Kd.R_drew HO1414.out)
               have n8_ := Sq.m (blk_drew BK1371.out)
               have n9_ := Sq.m (blk_drew BK1372.out)
               have n10_ := Sq.m (blk_drew BK1388.out)
               have n11_ := Sq.m (blk_drew BK1393.out)
               have n12_ := Sq.m (blk_drew BK1398.out)
               have n13_ := Sq.m (blk_drew BK1404.out)
               have n14_ := Sq.m (below_drew1 HB.out)
               clear HO1378
               clear HO1382
               clear HO1386
               clear HO1392
               clear HO1397
               clear HO1402
               clear HO1409
               clear HO1414
               clear BK1371
               clear BK1372
               clear BK1388
               clear BK1393
               clear BK1398
               clear BK1404
               clear HB
               have HO1378 := n0_
               have HO1382 := n1_
               have HO1386 := n2_
               have HO1392 := n3_
               have HO1397 := n4_
               have HO1402 := n5_
               have HO1409 := n6_
               have HO1414 := n7_
               have BK1371 := n8_
               have BK1372 := n9_
               have BK1388 := n10_
               have BK1393 := n11_
               have BK1398 := n12_
               have BK1404 := n13_
               have HB := n14_
               clear n0_ n1_ n2_ n3_ n4_ n5_ n6_ n7_ n8_ n9_ n10_ n11_ n12_ n13_ n14_
               refine start_ (n := 11) (S := fun w' => True) (ds := []) #[false, false, false, false, false, false, false, false, false, false, false] (by kernel_rfl) rfl rfl trivial (fun hHeld => ?_); refine with_tabW laws_FnExactWholeSub.tab31 laws_FnExactWholeSub.bits31 (fun HT_ HW_ => ?_)
               generalize w120.drew = w121 at HO1378 HO1382 HO1386 HO1392 HO1397 HO1402 HO1409 HO1414 BK1371 BK1372 BK1388 BK1393 BK1398 BK1404 HB hHeld ⊢
               refine inv_at [0, 1, 2, 3, 4, 5, 6, 7, 8, 9, 10] (fun a0_ b a w' => ∃ (v1426 : Value) (v1430 : Value) (v1434 : Value) (gb1437 : Nat) (m1_ : Value) (m3_ : Value) (m4_ : Value) (m5_ : Value) (m6_ : Value) (m8_ : Value), a = putSel a0_ b [(0, 95, .agg #[.bool a0_0, .slice A0_1 l0_1.length c0_1]), (1, 96, m1_), (2, 97, .agg #[.bool a1_0, .slice A1_1 l1_1.length c1_1]), (3, 98, m3_), (4, 99, m4_), (5, 94, m5_), (6, 100, m6_), (7, 101, .bool t1436), (8, 15, m8_), (10, 16, .bool t1436)] ∧ (Kd.R (Kd.int .i64) 3 w' w.heap.size (fun k_ => some k_ ≠ (.slice Ao78 t1390.length co78 : Value).ownBlock ∧ some k_ ≠ (.slice Ao88 t1395.length co88 : Value).ownBlock ∧ some k_ ≠ (.slice Ao98 t1400.length co98 : Value).ownBlock ∧ some k_ ≠ (.slice Ao104 t1407.length co104 : Value).ownBlock ∧ some k_ ≠ (.slice Ao108 t1412.length co108 : Value).ownBlock) v1377 t1376) ∧ (Kd.R (Kd.int .i64) 3 w' w.heap.size (fun k_ => some k_ ≠ (.slice Ao78 t1390.length co78 : Value).ownBlock ∧ some k_ ≠ (.slice Ao88 t1395.length co88 : Value).ownBlock ∧ some k_ ≠ (.slice Ao98 t1400.length co98 : Value).ownBlock ∧ some k_ ≠ (.slice Ao104 t1407.length co104 : Value).ownBlock ∧ some k_ ≠ (.slice Ao108 t1412.length co108 : Value).ownBlock) v1381 t1380) ∧ (Kd.R (Kd.int .i64) 3 w' w.heap.size (fun k_ => some k_ ≠ (.slice Ao78 t1390.length co78 : Value).ownBlock ∧ some k_ ≠ (.slice Ao88 t1395.length co88 : Value).ownBlock ∧ some k_ ≠ (.slice Ao98 t1400.length co98 : Value).ownBlock ∧ some k_ ≠ (.slice Ao104 t1407.length co104 : Value).ownBlock ∧ some k_ ≠ (.slice Ao108 t1412.length co108 : Value).ownBlock) (.slice Ao100 t1384.length co100) t1384) ∧ (Kd.R (Kd.int .i64) 3 w' w.heap.size (fun k_ => some k_ ≠ (v1377 : Value).ownBlock ∧ some k_ ≠ (v1381 : Value).ownBlock ∧ some k_ ≠ (.slice Ao100 t1384.length co100 : Value).ownBlock ∧ some k_ ≠ (.slice Ao88 t1395.length co88 : Value).ownBlock ∧ some k_ ≠ (.slice Ao98 t1400.length co98 : Value).ownBlock ∧ some k_ ≠ (.slice Ao104 t1407.length co104 : Value).ownBlock ∧ some k_ ≠ (.slice Ao108 t1412.length co108 : Value).ownBlock) (.slice Ao78 t1390.length co78) t1417) ∧ (Kd.R (Kd.int .i64) 3 w' w.heap.size (fun k_ => some k_ ≠ (v1377 : Value).ownBlock ∧ some k_ ≠ (v1381 : Value).ownBlock ∧ some k_ ≠ (.slice Ao100 t1384.length co100 : Value).ownBlock ∧ some k_ ≠ (.slice Ao78 t1390.length co78 : Value).ownBlock ∧ some k_ ≠ (.slice Ao98 t1400.length co98 : Value).ownBlock ∧ some k_ ≠ (.slice Ao104 t1407.length co104 : Value).ownBlock ∧ some k_ ≠ (.slice Ao108 t1412.length co108 : Value).ownBlock) (.slice Ao88 t1395.length co88) t1419) ∧ (Kd.R (Kd.int .i64) 3 w' w.heap.size (fun k_ => some k_ ≠ (v1377 : Value).ownBlock ∧ some k_ ≠ (v1381 : Value).ownBlock ∧ some k_ ≠ (.slice Ao100 t1384.length co100 : Value).ownBlock ∧ some k_ ≠ (.slice Ao78 t1390.length co78 : Value).ownBlock ∧ some k_ ≠ (.slice Ao88 t1395.length co88 : Value).ownBlock ∧ some k_ ≠ (.slice Ao104 t1407.length co104 : Value).ownBlock ∧ some k_ ≠ (.slice Ao108 t1412.length co108 : Value).ownBlock) (.slice Ao98 t1400.length co98) t1422) ∧ (Kd.R (Kd.int .i64) 3 w' w.heap.size (fun k_ => some k_ ≠ (v1377 : Value).ownBlock ∧ some k_ ≠ (v1381 : Value).ownBlock ∧ some k_ ≠ (.slice Ao100 t1384.length co100 : Value).ownBlock ∧ some k_ ≠ (.slice Ao78 t1390.length co78 : Value).ownBlock ∧ some k_ ≠ (.slice Ao88 t1395.length co88 : Value).ownBlock ∧ some k_ ≠ (.slice Ao98 t1400.length co98 : Value).ownBlock ∧ some k_ ≠ (.slice Ao108 t1412.length co108 : Value).ownBlock) (.slice Ao104 t1407.length co104) t1407) ∧ (Kd.R (Kd.int .i64) 3 w' w.heap.size (fun k_ => some k_ ≠ (v1377 : Value).ownBlock ∧ some k_ ≠ (v1381 : Value).ownBlock ∧ some k_ ≠ (.slice Ao100 t1384.length co100 : Value).ownBlock ∧ some k_ ≠ (.slice Ao78 t1390.length co78 : Value).ownBlock ∧ some k_ ≠ (.slice Ao88 t1395.length co88 : Value).ownBlock ∧ some k_ ≠ (.slice Ao98 t1400.length co98 : Value).ownBlock ∧ some k_ ≠ (.slice Ao104 t1407.length co104 : Value).ownBlock) (.slice Ao108 t1412.length co108) t1412) ∧ (w'.heap[gb1371]? = some (.cells #[.bool a0_0, .slice A0_1 l0_1.length c0_1] 56 (0, 0))) ∧ (w'.heap[gb1372]? = some (.cells #[.bool a1_0, .slice A1_1 l1_1.length c1_1] 56 (0, 0))) ∧ (w'.heap[gb1388]? = some (.cells #[.bool t1383, .slice Ao100 t1384.length co100] 59 (0, 0))) ∧ (w'.heap[gb1393]? = some (.cells #[.bool t1389, .slice Ao78 t1390.length co78] 59 (0, 0))) ∧ (w'.heap[gb1398]? = some (.cells #[.bool t1394, .slice Ao88 t1395.length co88] 59 (0, 0))) ∧ (w'.heap[gb1404]? = some (.cells #[.bool t1399, .slice Ao98 t1400.length co98] 59 (0, 0))) ∧ (Below w.heap.size w w') ∧ (b 1 = true → Kd.R (Kd.int .i64) 3 w' w.heap.size (fun k_ => some k_ ≠ (v1377 : Value).ownBlock ∧ some k_ ≠ (v1381 : Value).ownBlock ∧ some k_ ≠ (.slice Ao100 t1384.length co100 : Value).ownBlock ∧ some k_ ≠ (.slice Ao78 t1390.length co78 : Value).ownBlock ∧ some k_ ≠ (.slice Ao88 t1395.length co88 : Value).ownBlock ∧ some k_ ≠ (.slice Ao98 t1400.length co98 : Value).ownBlock ∧ some k_ ≠ (.slice Ao104 t1407.length co104 : Value).ownBlock ∧ some k_ ≠ (.slice Ao108 t1412.length co108 : Value).ownBlock) v1426 t1425) ∧ (b 3 = true → Kd.R (Kd.int .i64) 3 w' w.heap.size (fun k_ => some k_ ≠ (v1377 : Value).ownBlock ∧ some k_ ≠ (v1381 : Value).ownBlock ∧ some k_ ≠ (.slice Ao100 t1384.length co100 : Value).ownBlock ∧ some k_ ≠ (.slice Ao78 t1390.length co78 : Value).ownBlock ∧ some k_ ≠ (.slice Ao88 t1395.length co88 : Value).ownBlock ∧ some k_ ≠ (.slice Ao98 t1400.length co98 : Value).ownBlock ∧ some k_ ≠ (.slice Ao104 t1407.length co104 : Value).ownBlock ∧ some k_ ≠ (.slice Ao108 t1412.length co108 : Value).ownBlock) v1430 t1429) ∧ (b 4 = true → Kd.R (Kd.int .i64) 3 w' w.heap.size (fun k_ => some k_ ≠ (v1377 : Value).ownBlock ∧ some k_ ≠ (v1381 : Value).ownBlock ∧ some k_ ≠ (.slice Ao100 t1384.length co100 : Value).ownBlock ∧ some k_ ≠ (.slice Ao78 t1390.length co78 : Value).ownBlock ∧ some k_ ≠ (.slice Ao88 t1395.length co88 : Value).ownBlock ∧ some k_ ≠ (.slice Ao98 t1400.length co98 : Value).ownBlock ∧ some k_ ≠ (.slice Ao104 t1407.length co104 : Value).ownBlock ∧ some k_ ≠ (.slice Ao108 t1412.length co108 : Value).ownBlock) v1434 t1433) ∧ (b 8 = true → b 9 = false → w'.heap[gb1437]? = some (.cells #[.bool false, .slice none 0 0] 59 (0, 0))) ∧ (b 8 = true → w.heap.size ≤ gb1437) ∧ (b 8 = true → w.heap.size ≤ gb1437) ∧ (b 8 = true → gb1371 ≠ gb1437) ∧ (b 8 = true → gb1437 ≠ gb1371) ∧ (b 8 = true → gb1372 ≠ gb1437) ∧ (b 8 = true → gb1437 ≠ gb1372) ∧ (b 8 = true → gb1388 ≠ gb1437) ∧ (b 8 = true → gb1437 ≠ gb1388) ∧ (b 8 = true → gb1393 ≠ gb1437) ∧ (b 8 = true → gb1437 ≠ gb1393) ∧ (b 8 = true → gb1398 ≠ gb1437) ∧ (b 8 = true → gb1437 ≠ gb1398) ∧ (b 8 = true → gb1404 ≠ gb1437) ∧ (b 8 = true → gb1437 ≠ gb1404) ∧ (b 9 = true → w'.heap[gb1437]? = some (.cells #[.bool t1432, v1434] 59 (0, 0))) ∧ (b 1 = true → (m1_ : Value) = .agg #[.bool t1424, v1426]) ∧ (b 3 = true → (m3_ : Value) = .agg #[.bool t1428, v1430]) ∧ (b 4 = true → (m4_ : Value) = .tuple #[.agg #[.bool t1432, v1434], .bool t1436]) ∧ (b 5 = true → (m5_ : Value) = .tuple #[.agg #[.bool t1432, v1434], .bool t1436]) ∧ (b 6 = true → (m6_ : Value) = .agg #[.bool t1432, v1434]) ∧ (b 8 = true → (m8_ : Value) = .pointer (some ⟨gb1437, 0, none⟩))) HT_.out HW_.out (by kernel_rfl) (by kernel_rfl) ?_ ?_ ?_
               ·exact ⟨.bool false, .bool false, .bool false, 0, .bool false, .bool false, .bool false, .bool false, .bool false, .bool false, by simp only [putSel, Bool.false_eq_true, if_false], HO1378.out, HO1382.out, HO1386.out, HO1392.out, HO1397.out, HO1402.out, HO1409.out, HO1414.out, BK1371.out, BK1372.out, BK1388.out, BK1393.out, BK1398.out, BK1404.out, HB.out, fun h_ => absurd h_ (by decide), fun h_ => absurd h_ (by decide), fun h_ => absurd h_ (by decide), fun h_ => absurd h_ (by decide), fun h_ => absurd h_ (by decide), fun h_ => absurd h_ (by decide), fun h_ => absurd h_ (by decide), fun h_ => absurd h_ (by decide), fun h_ => absurd h_ (by decide), fun h_ => absurd h_ (by decide), fun h_ => absurd h_ (by decide), fun h_ => absurd h_ (by decide), fun h_ => absurd h_ (by decide), fun h_ => absurd h_ (by decide), fun h_ => absurd h_ (by decide), fun h_ => absurd h_ (by decide), fun h_ => absurd h_ (by decide), fun h_ => absurd h_ (by decide), fun h_ => absurd h_ (by decide), fun h_ => absurd h_ (by decide), fun h_ => absurd h_ (by decide), fun h_ => absurd h_ (by decide), fun h_ => absurd h_ (by decide), fun h_ => absurd h_ (by decide), fun h_ => absurd h_ (by decide)⟩
               ·skip
                clear BK1371 BK1372 BK1388 BK1393 BK1398 BK1404 HB HO1378 HO1382 HO1386 HO1392 HO1397 HO1402 HO1409 HO1414
                refine steps_cons ?_ ?_
                ·rintro b a w' ⟨v1426, v1430, v1434, gb1437, m1_, m3_, m4_, m5_, m6_, m8_, ha, Q_HO1378, Q_HO1382, Q_HO1386, Q_HO1392, Q_HO1397, Q_HO1402, Q_HO1409, Q_HO1414, Q_BK1371, Q_BK1372, Q_BK1388, Q_BK1393, Q_BK1398, Q_BK1404, Q_HB, Q_HO1427, Q_HO1431, Q_HO1435, Q_BK1437, Q_GW1437, Q_GE1437, Q_NB1371_1437, Q_NB1437_1371, Q_NB1372_1437, Q_NB1437_1372, Q_NB1388_1437, Q_NB1437_1388, Q_NB1393_1437, Q_NB1437_1393, Q_NB1398_1437, Q_NB1437_1398, Q_NB1404_1437, Q_NB1437_1404, Q_BK1437_e9, Q_X1_, Q_X3_, Q_X4_, Q_X5_, Q_X6_, Q_X8_⟩ hb_ hon hoff
                 refine ⟨_, rfl, fun K hK => ?_⟩
                 have e2 : a.tmps[2]? = some (.pointer (some ⟨gb1371, 0, none⟩)) := by rw [ha]; exact (putSel_off rfl).trans rfl
                 replace ha := Aside0.mk ha
                 have HO1378 := Aside0.mk Q_HO1378
                 have HO1382 := Aside0.mk Q_HO1382
                 have HO1386 := Aside0.mk Q_HO1386
                 have HO1392 := Aside0.mk Q_HO1392
                 have HO1397 := Aside0.mk Q_HO1397
                 have HO1402 := Aside0.mk Q_HO1402
                 have HO1409 := Aside0.mk Q_HO1409
                 have HO1414 := Aside0.mk Q_HO1414
                 have BK1371 := Aside0.mk Q_BK1371
                 have BK1372 := Aside0.mk Q_BK1372
                 have BK1388 := Aside0.mk Q_BK1388
                 have BK1393 := Aside0.mk Q_BK1393
                 have BK1398 := Aside0.mk Q_BK1398
                 have BK1404 := Aside0.mk Q_BK1404
                 have HB := Aside0.mk Q_HB
                 have hc0_ : w'.cell? ⟨gb1371, 0, none⟩ = some (.bool a0_0) := (blk_cell BK1371.out 0).trans rfl
                 have hc1_ : w'.cell? ⟨gb1371, 1, none⟩ = some (.slice A0_1 l0_1.length c0_1) := (blk_cell BK1371.out 1).trans rfl
                 refine value_ (w1 := w') (v := .agg #[.bool a0_0, .slice A0_1 l0_1.length c0_1]) (by rfl) rfl ?_ ?_
                 ·go_simp
                  (try simp only [i64_w])
                  try rfl
                 refine hK.out _ _ ⟨v1426, v1430, v1434, gb1437, m1_, m3_, m4_, m5_, m6_, m8_, (by rw [ha.out]; exact putSel_upk 0 hb_ rfl rfl rfl), Q_HO1378, Q_HO1382, Q_HO1386, Q_HO1392, Q_HO1397, Q_HO1402, Q_HO1409, Q_HO1414, Q_BK1371, Q_BK1372, Q_BK1388, Q_BK1393, Q_BK1398, Q_BK1404, Q_HB, fun h0_ => absurd ((hoff 1 (by kernel_rfl)).symm.trans h0_) (by decide), fun h0_ => absurd ((hoff 3 (by kernel_rfl)).symm.trans h0_) (by decide), fun h0_ => absurd ((hoff 4 (by kernel_rfl)).symm.trans h0_) (by decide), Q_BK1437, Q_GW1437, Q_GE1437, Q_NB1371_1437, Q_NB1437_1371, Q_NB1372_1437, Q_NB1437_1372, Q_NB1388_1437, Q_NB1437_1388, Q_NB1393_1437, Q_NB1437_1393, Q_NB1398_1437, Q_NB1437_1398, Q_NB1404_1437, Q_NB1437_1404, fun h0_ => absurd ((hoff 9 (by kernel_rfl)).symm.trans h0_) (by decide), fun h0_ => absurd ((hoff 1 (by kernel_rfl)).symm.trans h0_) (by decide), fun h0_ => absurd ((hoff 3 (by kernel_rfl)).symm.trans h0_) (by decide), fun h0_ => absurd ((hoff 4 (by kernel_rfl)).symm.trans h0_) (by decide), fun h0_ => absurd ((hoff 5 (by kernel_rfl)).symm.trans h0_) (by decide), fun h0_ => absurd ((hoff 6 (by kernel_rfl)).symm.trans h0_) (by decide), Q_X8_⟩
                refine steps_cons ?_ ?_
                ·rintro b a w' ⟨v1426, v1430, v1434, gb1437, m1_, m3_, m4_, m5_, m6_, m8_, ha, Q_HO1378, Q_HO1382, Q_HO1386, Q_HO1392, Q_HO1397, Q_HO1402, Q_HO1409, Q_HO1414, Q_BK1371, Q_BK1372, Q_BK1388, Q_BK1393, Q_BK1398, Q_BK1404, Q_HB, Q_HO1427, Q_HO1431, Q_HO1435, Q_BK1437, Q_GW1437, Q_GE1437, Q_NB1371_1437, Q_NB1437_1371, Q_NB1372_1437, Q_NB1437_1372, Q_NB1388_1437, Q_NB1437_1388, Q_NB1393_1437, Q_NB1437_1393, Q_NB1398_1437, Q_NB1437_1398, Q_NB1404_1437, Q_NB1437_1404, Q_BK1437_e9, Q_X1_, Q_X3_, Q_X4_, Q_X5_, Q_X6_, Q_X8_⟩ hb_ hon hoff
                 refine ⟨_, rfl, fun K hK => ?_⟩
                 have e95 : a.tmps[95]? = some (.agg #[.bool a0_0, .slice A0_1 l0_1.length c0_1]) := by rw [ha]; exact putSel_on (e := (0, 95, .agg #[.bool a0_0, .slice A0_1 l0_1.length c0_1])) 0 rfl rfl (hon 0 (by kernel_rfl)) rfl
                 replace ha := Aside0.mk ha
                 have HO1378 := Aside0.mk Q_HO1378
                 have HO1382 := Aside0.mk Q_HO1382
                 have HO1386 := Aside0.mk Q_HO1386
                 have HO1392 := Aside0.mk Q_HO1392
                 have HO1397 := Aside0.mk Q_HO1397
                 have HO1402 := Aside0.mk Q_HO1402
                 have HO1409 := Aside0.mk Q_HO1409
                 have HO1414 := Aside0.mk Q_HO1414
                 have BK1371 := Aside0.mk Q_BK1371
                 have BK1372 := Aside0.mk Q_BK1372
                 have BK1388 := Aside0.mk Q_BK1388
                 have BK1393 := Aside0.mk Q_BK1393
                 have BK1398 := Aside0.mk Q_BK1398
                 have BK1404 := Aside0.mk Q_BK1404
                 have HB := Aside0.mk Q_HB
                 refine goes_ Try.func52 (by kernel_rfl) rfl #[.agg #[.bool a0_0, .slice A0_1 l0_1.length c0_1]] (by rfl) rfl rfl (by first | (simp only [List.map_toArray, List.map_cons, List.map_nil, Act.eval, Array.getD_eq_getD_getElem?, Option.getD_some, e95]; done) | (simp only [List.map_toArray, List.map_cons, List.map_nil, Act.eval, Array.getD_eq_getD_getElem?, Option.getD_some, e95]; rfl)) ?_
                 with_reducible refine (laws_toWhole.calls k a0_0 _ _ l0_1 t1424 t1425 _ ?side1 ?side2 A43.out).mono ?_
                 (case side1 => repeat (first | exact (Kd.C_below HR0_1.out HB.out) | (with_reducible refine Kd.C_alloc ?_ _) | (with_reducible refine Kd.C_drewN ?_ _) | (with_reducible refine Kd.C_drew ?_)))
                 (case side2 => exact HC0_1.out)
                 rintro e w122 ⟨v1426, rfl, ho0, hb⟩
                 refine ⟨_, rfl, ?_⟩
                 have n0_ := Sq.m (Kd.R_elder' (by apply Sq.ra; exact HO1378.out) (Kd.R_base ho0) hb)
                 have n1_ := Sq.m (Kd.R_elder' (by apply Sq.ra; exact HO1382.out) (Kd.R_base ho0) hb)
                 have n2_ := Sq.m (Kd.R_elder' (by apply Sq.ra; exact HO1386.out) (Kd.R_base ho0) hb)
                 have n3_ := Sq.m (Kd.R_elder' (by apply Sq.ra; exact HO1392.out) (Kd.R_base ho0) hb)
                 have n4_ := Sq.m (Kd.R_elder' (by apply Sq.ra; exact HO1397.out) (Kd.R_base ho0) hb)
                 have n5_ := Sq.m (Kd.R_elder' (by apply Sq.ra; exact HO1402.out) (Kd.R_base ho0) hb)
                 have n6_ := Sq.m (Kd.R_elder' (by apply Sq.ra; exact HO1409.out) (Kd.R_base ho0) hb)
                 have n7_ := Sq.m (Kd.R_elder' (by apply Sq.ra; exact HO1414.out) (Kd.R_base ho0) hb)
                 have n8_ := Sq.m (Kd.R_lower (Kd.R_new' (Kd.R_new' (Kd.R_new' (Kd.R_new' (Kd.R_new' (Kd.R_new' (Kd.R_new' (Kd.R_new' ho0 (Kd.R_lt (by apply Sq.ra; exact HO1378.out))) (Kd.R_lt (by apply Sq.ra; exact HO1382.out))) (Kd.R_lt (by apply Sq.ra; exact HO1386.out))) (Kd.R_lt (by apply Sq.ra; exact HO1392.out))) (Kd.R_lt (by apply Sq.ra; exact HO1397.out))) (Kd.R_lt (by apply Sq.ra; exact HO1402.out))) (Kd.R_lt (by apply Sq.ra; exact HO1409.out))) (Kd.R_lt (by apply Sq.ra; exact HO1414.out))) (below_size (by repeat (first | (with_reducible first | exact HB.out | apply Sq.rc | refine below_set ?_ GE1371.out | refine below_set ?_ GE1372.out | refine below_set ?_ GE1388.out | refine below_set ?_ GE1393.out | refine below_set ?_ GE1398.out | refine below_set ?_ GE1404.out) | exact HB.out))))
                 have n9_ := Sq.m (blk_below (g := gb1371) (o := .cells #[.bool a0_0, .slice A0_1 l0_1.length c0_1] 56 (0, 0)) (by apply Sq.rb; exact BK1371.out) hb)
                 have n10_ := Sq.m (blk_below (g := gb1372) (o := .cells #[.bool a1_0, .slice A1_1 l1_1.length c1_1] 56 (0, 0)) (by apply Sq.rb; exact BK1372.out) hb)
                 have n11_ := Sq.m (blk_below (g := gb1388) (o := .cells #[.bool t1383, .slice Ao100 t1384.length co100] 59 (0, 0)) (by apply Sq.rb; exact BK1388.out) hb)
                 have n12_ := Sq.m (blk_below (g := gb1393) (o := .cells #[.bool t1389, .slice Ao78 t1390.length co78] 59 (0, 0)) (by apply Sq.rb; exact BK1393.out) hb)
                 have n13_ := Sq.m (blk_below (g := gb1398) (o := .cells #[.bool t1394, .slice Ao88 t1395.length co88] 59 (0, 0)) (by apply Sq.rb; exact BK1398.out) hb)
                 have n14_ := Sq.m (blk_below (g := gb1404) (o := .cells #[.bool t1399, .slice Ao98 t1400.length co98] 59 (0, 0)) (by apply Sq.rb; exact BK1404.out) hb)
                 have n15_ := Sq.m (below_step (by repeat (first | (with_reducible first | exact HB.out | apply Sq.rc | refine below_set ?_ GE1371.out | refine below_set ?_ GE1372.out | refine below_set ?_ GE1388.out | refine below_set ?_ GE1393.out | refine below_set ?_ GE1398.out | refine below_set ?_ GE1404.out) | exact HB.out)) hb)
                 have z_BK1437 := fun (h0_ : b 8 = true) (h1_ : b 9 = false) => (show w122.heap[gb1437]? = some (.cells #[.bool false, .slice none 0 0] 59 (0, 0)) from by first | exact (blk_below (g := gb1437) (o := .cells #[.bool false, .slice none 0 0] 59 (0, 0)) (by apply Sq.rb; exact (Q_BK1437 h0_ h1_)) hb))
                 clear HO1378
                 clear HO1382
                 clear HO1386
                 clear HO1392
                 clear HO1397
                 clear HO1402
                 clear HO1409
                 clear HO1414
                 clear BK1371
                 clear BK1372
                 clear BK1388
                 clear BK1393
                 clear BK1398
                 clear BK1404
                 clear HB
                 have HO1378 := n0_
                 have HO1382 := n1_
                 have HO1386 := n2_
                 have HO1392 := n3_
                 have HO1397 := n4_
                 have HO1402 := n5_
                 have HO1409 := n6_
                 have HO1414 := n7_
                 have HO1427 := n8_
                 have BK1371 := n9_
                 have BK1372 := n10_
                 have BK1388 := n11_
                 have BK1393 := n12_
                 have BK1398 := n13_
                 have BK1404 := n14_
                 have HB := n15_
                 clear n0_ n1_ n2_ n3_ n4_ n5_ n6_ n7_ n8_ n9_ n10_ n11_ n12_ n13_ n14_ n15_
                 (try clear hb)
                 (try clear hb2)
                 (try clear hk)
                 (try clear hi)
                 (try clear ho0)
                 refine hK.out _ _ ⟨v1426, v1430, v1434, gb1437, (.agg #[.bool t1424, v1426]), m3_, m4_, m5_, m6_, m8_, (by rw [ha.out]; exact putSel_upk 1 hb_ rfl rfl rfl), (by apply Sq.ra; exact Kd.R_mono HO1378.out (fun _ hk => by first | exact True.intro | exact hk.1 | exact hk | exact ⟨hk.1.1, ⟨hk.1.2.1, ⟨hk.1.2.2.1, ⟨hk.1.2.2.2.1, ⟨hk.1.2.2.2.2, hk.2⟩⟩⟩⟩⟩ | simp only [hk, ne_eq, not_false_eq_true, and_self, and_true, true_and])), (by apply Sq.ra; exact Kd.R_mono HO1382.out (fun _ hk => by first | exact True.intro | exact hk.1 | exact hk | exact ⟨hk.1.1, ⟨hk.1.2.1, ⟨hk.1.2.2.1, ⟨hk.1.2.2.2.1, ⟨hk.1.2.2.2.2, hk.2⟩⟩⟩⟩⟩ | simp only [hk, ne_eq, not_false_eq_true, and_self, and_true, true_and])), (by apply Sq.ra; exact Kd.R_mono HO1386.out (fun _ hk => by first | exact True.intro | exact hk.1 | exact hk | exact ⟨hk.1.1, ⟨hk.1.2.1, ⟨hk.1.2.2.1, ⟨hk.1.2.2.2.1, ⟨hk.1.2.2.2.2, hk.2⟩⟩⟩⟩⟩ | simp only [hk, ne_eq, not_false_eq_true, and_self, and_true, true_and])), (by apply Sq.ra; exact Kd.R_mono HO1392.out (fun _ hk => by first | exact True.intro | exact hk.1 | exact hk | exact ⟨hk.1.1, ⟨hk.1.2.1, ⟨hk.1.2.2.1, ⟨hk.1.2.2.2.1, ⟨hk.1.2.2.2.2.1, ⟨hk.1.2.2.2.2.2.1, ⟨hk.1.2.2.2.2.2.2, hk.2⟩⟩⟩⟩⟩⟩⟩ | simp only [hk, ne_eq, not_false_eq_true, and_self, and_true, true_and])), (by apply Sq.ra; exact Kd.R_mono HO1397.out (fun _ hk => by first | exact True.intro | exact hk.1 | exact hk | exact ⟨hk.1.1, ⟨hk.1.2.1, ⟨hk.1.2.2.1, ⟨hk.1.2.2.2.1, ⟨hk.1.2.2.2.2.1, ⟨hk.1.2.2.2.2.2.1, ⟨hk.1.2.2.2.2.2.2, hk.2⟩⟩⟩⟩⟩⟩⟩ | simp only [hk, ne_eq, not_false_eq_true, and_self, and_true, true_and])), (by apply Sq.ra; exact Kd.R_mono HO1402.out (fun _ hk => by first | exact True.intro | exact hk.1 | exact hk | exact ⟨hk.1.1, ⟨hk.1.2.1, ⟨hk.1.2.2.1, ⟨hk.1.2.2.2.1, ⟨hk.1.2.2.2.2.1, ⟨hk.1.2.2.2.2.2.1, ⟨hk.1.2.2.2.2.2.2, hk.2⟩⟩⟩⟩⟩⟩⟩ | simp only [hk, ne_eq, not_false_eq_true, and_self, and_true, true_and])), (by apply Sq.ra; exact Kd.R_mono HO1409.out (fun _ hk => by first | exact True.intro | exact hk.1 | exact hk | exact ⟨hk.1.1, ⟨hk.1.2.1, ⟨hk.1.2.2.1, ⟨hk.1.2.2.2.1, ⟨hk.1.2.2.2.2.1, ⟨hk.1.2.2.2.2.2.1, ⟨hk.1.2.2.2.2.2.2, hk.2⟩⟩⟩⟩⟩⟩⟩ | simp only [hk, ne_eq, not_false_eq_true, and_self, and_true, true_and])), (by apply Sq.ra; exact Kd.R_mono HO1414.out (fun _ hk => by first | exact True.intro | exact hk.1 | exact hk | exact ⟨hk.1.1, ⟨hk.1.2.1, ⟨hk.1.2.2.1, ⟨hk.1.2.2.2.1, ⟨hk.1.2.2.2.2.1, ⟨hk.1.2.2.2.2.2.1, ⟨hk.1.2.2.2.2.2.2, hk.2⟩⟩⟩⟩⟩⟩⟩ | simp only [hk, ne_eq, not_false_eq_true, and_self, and_true, true_and])), (by apply Sq.rb; exact BK1371.out), (by apply Sq.rb; exact BK1372.out), (by apply Sq.rb; exact BK1388.out), (by apply Sq.rb; exact BK1393.out), (by apply Sq.rb; exact BK1398.out), (by apply Sq.rb; exact BK1404.out), (by repeat (first | (with_reducible first | exact HB.out | apply Sq.rc | refine below_set ?_ GE1371.out | refine below_set ?_ GE1372.out | refine below_set ?_ GE1388.out | refine below_set ?_ GE1393.out | refine below_set ?_ GE1398.out | refine below_set ?_ GE1404.out) | exact HB.out)), fun _ => (by apply Sq.ra; exact Kd.R_mono HO1427.out (fun _ hk => ⟨hk.1.1.1.1.1.1.1.2, ⟨hk.1.1.1.1.1.1.2, ⟨hk.1.1.1.1.1.2, ⟨hk.1.1.1.1.2, ⟨hk.1.1.1.2, ⟨hk.1.1.2, ⟨hk.1.2, hk.2⟩⟩⟩⟩⟩⟩⟩)), fun h0_ => absurd ((hoff 3 (by kernel_rfl)).symm.trans h0_) (by decide), fun h0_ => absurd ((hoff 4 (by kernel_rfl)).symm.trans h0_) (by decide), z_BK1437, Q_GW1437, Q_GE1437, Q_NB1371_1437, Q_NB1437_1371, Q_NB1372_1437, Q_NB1437_1372, Q_NB1388_1437, Q_NB1437_1388, Q_NB1393_1437, Q_NB1437_1393, Q_NB1398_1437, Q_NB1437_1398, Q_NB1404_1437, Q_NB1437_1404, fun h0_ => absurd ((hoff 9 (by kernel_rfl)).symm.trans h0_) (by decide), fun _ => rfl, fun h0_ => absurd ((hoff 3 (by kernel_rfl)).symm.trans h0_) (by decide), fun h0_ => absurd ((hoff 4 (by kernel_rfl)).symm.trans h0_) (by decide), fun h0_ => absurd ((hoff 5 (by kernel_rfl)).symm.trans h0_) (by decide), fun h0_ => absurd ((hoff 6 (by kernel_rfl)).symm.trans h0_) (by decide), Q_X8_⟩
                refine steps_cons ?_ ?_
                ·rintro b a w' ⟨v1426, v1430, v1434, gb1437, m1_, m3_, m4_, m5_, m6_, m8_, ha, Q_HO1378, Q_HO1382, Q_HO1386, Q_HO1392, Q_HO1397, Q_HO1402, Q_HO1409, Q_HO1414, Q_BK1371, Q_BK1372, Q_BK1388, Q_BK1393, Q_BK1398, Q_BK1404, Q_HB, Q_HO1427, Q_HO1431, Q_HO1435, Q_BK1437, Q_GW1437, Q_GE1437, Q_NB1371_1437, Q_NB1437_1371, Q_NB1372_1437, Q_NB1437_1372, Q_NB1388_1437, Q_NB1437_1388, Q_NB1393_1437, Q_NB1437_1393, Q_NB1398_1437, Q_NB1437_1398, Q_NB1404_1437, Q_NB1437_1404, Q_BK1437_e9, Q_X1_, Q_X3_, Q_X4_, Q_X5_, Q_X6_, Q_X8_⟩ hb_ hon hoff
                 refine ⟨_, rfl, fun K hK => ?_⟩
                 have e3 : a.tmps[3]? = some (.pointer (some ⟨gb1372, 0, none⟩)) := by rw [ha]; exact (putSel_off rfl).trans rfl
                 replace ha := Aside0.mk ha
                 have HO1378 := Aside0.mk Q_HO1378
                 have HO1382 := Aside0.mk Q_HO1382
                 have HO1386 := Aside0.mk Q_HO1386
                 have HO1392 := Aside0.mk Q_HO1392
                 have HO1397 := Aside0.mk Q_HO1397
                 have HO1402 := Aside0.mk Q_HO1402
                 have HO1409 := Aside0.mk Q_HO1409
                 have HO1414 := Aside0.mk Q_HO1414
                 have BK1371 := Aside0.mk Q_BK1371
                 have BK1372 := Aside0.mk Q_BK1372
                 have BK1388 := Aside0.mk Q_BK1388
                 have BK1393 := Aside0.mk Q_BK1393
                 have BK1398 := Aside0.mk Q_BK1398
                 have BK1404 := Aside0.mk Q_BK1404
                 have HB := Aside0.mk Q_HB
                 have hc0_ : w'.cell? ⟨gb1372, 0, none⟩ = some (.bool a1_0) := (blk_cell BK1372.out 0).trans rfl
                 have hc1_ : w'.cell? ⟨gb1372, 1, none⟩ = some (.slice A1_1 l1_1.length c1_1) := (blk_cell BK1372.out 1).trans rfl
                 refine value_ (w1 := w') (v := .agg #[.bool a1_0, .slice A1_1 l1_1.length c1_1]) (by rfl) rfl ?_ ?_
                 ·go_simp
                  (try simp only [i64_w])
                  try rfl
                 refine hK.out _ _ ⟨v1426, v1430, v1434, gb1437, m1_, m3_, m4_, m5_, m6_, m8_, (by rw [ha.out]; exact putSel_upk 2 hb_ rfl rfl rfl), Q_HO1378, Q_HO1382, Q_HO1386, Q_HO1392, Q_HO1397, Q_HO1402, Q_HO1409, Q_HO1414, Q_BK1371, Q_BK1372, Q_BK1388, Q_BK1393, Q_BK1398, Q_BK1404, Q_HB, Q_HO1427, fun h0_ => absurd ((hoff 3 (by kernel_rfl)).symm.trans h0_) (by decide), fun h0_ => absurd ((hoff 4 (by kernel_rfl)).symm.trans h0_) (by decide), Q_BK1437, Q_GW1437, Q_GE1437, Q_NB1371_1437, Q_NB1437_1371, Q_NB1372_1437, Q_NB1437_1372, Q_NB1388_1437, Q_NB1437_1388, Q_NB1393_1437, Q_NB1437_1393, Q_NB1398_1437, Q_NB1437_1398, Q_NB1404_1437, Q_NB1437_1404, fun h0_ => absurd ((hoff 9 (by kernel_rfl)).symm.trans h0_) (by decide), Q_X1_, fun h0_ => absurd ((hoff 3 (by kernel_rfl)).symm.trans h0_) (by decide), fun h0_ => absurd ((hoff 4 (by kernel_rfl)).symm.trans h0_) (by decide), fun h0_ => absurd ((hoff 5 (by kernel_rfl)).symm.trans h0_) (by decide), fun h0_ => absurd ((hoff 6 (by kernel_rfl)).symm.trans h0_) (by decide), Q_X8_⟩
                refine steps_cons ?_ ?_
                ·rintro b a w' ⟨v1426, v1430, v1434, gb1437, m1_, m3_, m4_, m5_, m6_, m8_, ha, Q_HO1378, Q_HO1382, Q_HO1386, Q_HO1392, Q_HO1397, Q_HO1402, Q_HO1409, Q_HO1414, Q_BK1371, Q_BK1372, Q_BK1388, Q_BK1393, Q_BK1398, Q_BK1404, Q_HB, Q_HO1427, Q_HO1431, Q_HO1435, Q_BK1437, Q_GW1437, Q_GE1437, Q_NB1371_1437, Q_NB1437_1371, Q_NB1372_1437, Q_NB1437_1372, Q_NB1388_1437, Q_NB1437_1388, Q_NB1393_1437, Q_NB1437_1393, Q_NB1398_1437, Q_NB1437_1398, Q_NB1404_1437, Q_NB1437_1404, Q_BK1437_e9, Q_X1_, Q_X3_, Q_X4_, Q_X5_, Q_X6_, Q_X8_⟩ hb_ hon hoff
                 refine ⟨_, rfl, fun K hK => ?_⟩
                 have e97 : a.tmps[97]? = some (.agg #[.bool a1_0, .slice A1_1 l1_1.length c1_1]) := by rw [ha]; exact putSel_on (e := (2, 97, .agg #[.bool a1_0, .slice A1_1 l1_1.length c1_1])) 2 rfl rfl (hon 2 (by kernel_rfl)) rfl
                 replace ha := Aside0.mk ha
                 have HO1378 := Aside0.mk Q_HO1378
                 have HO1382 := Aside0.mk Q_HO1382
                 have HO1386 := Aside0.mk Q_HO1386
                 have HO1392 := Aside0.mk Q_HO1392
                 have HO1397 := Aside0.mk Q_HO1397
                 have HO1402 := Aside0.mk Q_HO1402
                 have HO1409 := Aside0.mk Q_HO1409
                 have HO1414 := Aside0.mk Q_HO1414
                 have BK1371 := Aside0.mk Q_BK1371
                 have BK1372 := Aside0.mk Q_BK1372
                 have BK1388 := Aside0.mk Q_BK1388
                 have BK1393 := Aside0.mk Q_BK1393
                 have BK1398 := Aside0.mk Q_BK1398
                 have BK1404 := Aside0.mk Q_BK1404
                 have HB := Aside0.mk Q_HB
                 have HO1427 := Sq.m (Q_HO1427 (hon 1 (by kernel_rfl)))
                 refine goes_ Try.func52 (by kernel_rfl) rfl #[.agg #[.bool a1_0, .slice A1_1 l1_1.length c1_1]] (by rfl) rfl rfl (by first | (simp only [List.map_toArray, List.map_cons, List.map_nil, Act.eval, Array.getD_eq_getD_getElem?, Option.getD_some, e97]; done) | (simp only [List.map_toArray, List.map_cons, List.map_nil, Act.eval, Array.getD_eq_getD_getElem?, Option.getD_some, e97]; rfl)) ?_
                 with_reducible refine (laws_toWhole.calls k a1_0 _ _ l1_1 t1428 t1429 _ ?side1 ?side2 A44.out).mono ?_
                 (case side1 => repeat (first | exact (Kd.C_below HR1_1.out HB.out) | (with_reducible refine Kd.C_alloc ?_ _) | (with_reducible refine Kd.C_drewN ?_ _) | (with_reducible refine Kd.C_drew ?_)))
                 (case side2 => exact HC1_1.out)
                 rintro e w124 ⟨v1430, rfl, ho0, hb⟩
                 refine ⟨_, rfl, ?_⟩
                 have n0_ := Sq.m (Kd.R_elder' (by apply Sq.ra; exact HO1378.out) (Kd.R_base ho0) hb)
                 have n1_ := Sq.m (Kd.R_elder' (by apply Sq.ra; exact HO1382.out) (Kd.R_base ho0) hb)
                 have n2_ := Sq.m (Kd.R_elder' (by apply Sq.ra; exact HO1386.out) (Kd.R_base ho0) hb)
                 have n3_ := Sq.m (Kd.R_elder' (by apply Sq.ra; exact HO1392.out) (Kd.R_base ho0) hb)
                 have n4_ := Sq.m (Kd.R_elder' (by apply Sq.ra; exact HO1397.out) (Kd.R_base ho0) hb)
                 have n5_ := Sq.m (Kd.R_elder' (by apply Sq.ra; exact HO1402.out) (Kd.R_base ho0) hb)
                 have n6_ := Sq.m (Kd.R_elder' (by apply Sq.ra; exact HO1409.out) (Kd.R_base ho0) hb)
                 have n7_ := Sq.m (Kd.R_elder' (by apply Sq.ra; exact HO1414.out) (Kd.R_base ho0) hb)
                 have n8_ := Sq.m (Kd.R_elder' (by apply Sq.ra; exact HO1427.out) (Kd.R_base ho0) hb)
                 have n9_ := Sq.m (Kd.R_lower (Kd.R_new' (Kd.R_new' (Kd.R_new' (Kd.R_new' (Kd.R_new' (Kd.R_new' (Kd.R_new' (Kd.R_new' (Kd.R_new' ho0 (Kd.R_lt (by apply Sq.ra; exact HO1378.out))) (Kd.R_lt (by apply Sq.ra; exact HO1382.out))) (Kd.R_lt (by apply Sq.ra; exact HO1386.out))) (Kd.R_lt (by apply Sq.ra; exact HO1392.out))) (Kd.R_lt (by apply Sq.ra; exact HO1397.out))) (Kd.R_lt (by apply Sq.ra; exact HO1402.out))) (Kd.R_lt (by apply Sq.ra; exact HO1409.out))) (Kd.R_lt (by apply Sq.ra; exact HO1414.out))) (Kd.R_lt (by apply Sq.ra; exact HO1427.out))) (below_size (by repeat (first | (with_reducible first | exact HB.out | apply Sq.rc | refine below_set ?_ GE1371.out | refine below_set ?_ GE1372.out | refine below_set ?_ GE1388.out | refine below_set ?_ GE1393.out | refine below_set ?_ GE1398.out | refine below_set ?_ GE1404.out) | exact HB.out))))
                 have n10_ := Sq.m (blk_below (g := gb1371) (o := .cells #[.bool a0_0, .slice A0_1 l0_1.length c0_1] 56 (0, 0)) (by apply Sq.rb; exact BK1371.out) hb)
                 have n11_ := Sq.m (blk_below (g := gb1372) (o := .cells #[.bool a1_0, .slice A1_1 l1_1.length c1_1] 56 (0, 0)) (by apply Sq.rb; exact BK1372.out) hb)
                 have n12_ := Sq.m (blk_below (g := gb1388) (o := .cells #[.bool t1383, .slice Ao100 t1384.length co100] 59 (0, 0)) (by apply Sq.rb; exact BK1388.out) hb)
                 have n13_ := Sq.m (blk_below (g := gb1393) (o := .cells #[.bool t1389, .slice Ao78 t1390.length co78] 59 (0, 0)) (by apply Sq.rb; exact BK1393.out) hb)
                 have n14_ := Sq.m (blk_below (g := gb1398) (o := .cells #[.bool t1394, .slice Ao88 t1395.length co88] 59 (0, 0)) (by apply Sq.rb; exact BK1398.out) hb)
                 have n15_ := Sq.m (blk_below (g := gb1404) (o := .cells #[.bool t1399, .slice Ao98 t1400.length co98] 59 (0, 0)) (by apply Sq.rb; exact BK1404.out) hb)
                 have n16_ := Sq.m (below_step (by repeat (first | (with_reducible first | exact HB.out | apply Sq.rc | refine below_set ?_ GE1371.out | refine below_set ?_ GE1372.out | refine below_set ?_ GE1388.out | refine below_set ?_ GE1393.out | refine below_set ?_ GE1398.out | refine below_set ?_ GE1404.out) | exact HB.out)) hb)
                 have z_BK1437 := fun (h0_ : b 8 = true) (h1_ : b 9 = false) => (show w124.heap[gb1437]? = some (.cells #[.bool false, .slice none 0 0] 59 (0, 0)) from by first | exact (blk_below (g := gb1437) (o := .cells #[.bool false, .slice none 0 0] 59 (0, 0)) (by apply Sq.rb; exact (Q_BK1437 h0_ h1_)) hb))
                 clear HO1378
                 clear HO1382
                 clear HO1386
                 clear HO1392
                 clear HO1397
                 clear HO1402
                 clear HO1409
                 clear HO1414
                 clear HO1427
                 clear BK1371
                 clear BK1372
                 clear BK1388
                 clear BK1393
                 clear BK1398
                 clear BK1404
                 clear HB
                 have HO1378 := n0_
                 have HO1382 := n1_
                 have HO1386 := n2_
                 have HO1392 := n3_
                 have HO1397 := n4_
                 have HO1402 := n5_
                 have HO1409 := n6_
                 have HO1414 := n7_
                 have HO1427 := n8_
                 have HO1431 := n9_
                 have BK1371 := n10_
                 have BK1372 := n11_
                 have BK1388 := n12_
                 have BK1393 := n13_
                 have BK1398 := n14_
                 have BK1404 := n15_
                 have HB := n16_
                 clear n0_ n1_ n2_ n3_ n4_ n5_ n6_ n7_ n8_ n9_ n10_ n11_ n12_ n13_ n14_ n15_ n16_
                 (try clear hb)
                 (try clear hb2)
                 (try clear hk)
                 (try clear hi)
                 (try clear ho0)
                 refine hK.out _ _ ⟨v1426, v1430, v1434, gb1437, m1_, (.agg #[.bool t1428, v1430]), m4_, m5_, m6_, m8_, (by rw [ha.out]; exact putSel_upk 3 hb_ rfl rfl rfl), (by apply Sq.ra; exact Kd.R_mono HO1378.out (fun _ hk => by first | exact True.intro | exact hk.1 | exact hk | exact ⟨hk.1.1, ⟨hk.1.2.1, ⟨hk.1.2.2.1, ⟨hk.1.2.2.2.1, ⟨hk.1.2.2.2.2, hk.2⟩⟩⟩⟩⟩ | simp only [hk, ne_eq, not_false_eq_true, and_self, and_true, true_and])), (by apply Sq.ra; exact Kd.R_mono HO1382.out (fun _ hk => by first | exact True.intro | exact hk.1 | exact hk | exact ⟨hk.1.1, ⟨hk.1.2.1, ⟨hk.1.2.2.1, ⟨hk.1.2.2.2.1, ⟨hk.1.2.2.2.2, hk.2⟩⟩⟩⟩⟩ | simp only [hk, ne_eq, not_false_eq_true, and_self, and_true, true_and])), (by apply Sq.ra; exact Kd.R_mono HO1386.out (fun _ hk => by first | exact True.intro | exact hk.1 | exact hk | exact ⟨hk.1.1, ⟨hk.1.2.1, ⟨hk.1.2.2.1, ⟨hk.1.2.2.2.1, ⟨hk.1.2.2.2.2, hk.2⟩⟩⟩⟩⟩ | simp only [hk, ne_eq, not_false_eq_true, and_self, and_true, true_and])), (by apply Sq.ra; exact Kd.R_mono HO1392.out (fun _ hk => by first | exact True.intro | exact hk.1 | exact hk | exact ⟨hk.1.1, ⟨hk.1.2.1, ⟨hk.1.2.2.1, ⟨hk.1.2.2.2.1, ⟨hk.1.2.2.2.2.1, ⟨hk.1.2.2.2.2.2.1, ⟨hk.1.2.2.2.2.2.2, hk.2⟩⟩⟩⟩⟩⟩⟩ | simp only [hk, ne_eq, not_false_eq_true, and_self, and_true, true_and])), (by apply Sq.ra; exact Kd.R_mono HO1397.out (fun _ hk => by first | exact True.intro | exact hk.1 | exact hk | exact ⟨hk.1.1, ⟨hk.1.2.1, ⟨hk.1.2.2.1, ⟨hk.1.2.2.2.1, ⟨hk.1.2.2.2.2.1, ⟨hk.1.2.2.2.2.2.1, ⟨hk.1.2.2.2.2.2.2, hk.2⟩⟩⟩⟩⟩⟩⟩ | simp only [hk, ne_eq, not_false_eq_true, and_self, and_true, true_and])), (by apply Sq.ra; exact Kd.R_mono HO1402.out (fun _ hk => by first | exact True.intro | exact hk.1 | exact hk | exact ⟨hk.1.1, ⟨hk.1.2.1, ⟨hk.1.2.2.1, ⟨hk.1.2.2.2.1, ⟨hk.1.2.2.2.2.1, ⟨hk.1.2.2.2.2.2.1, ⟨hk.1.2.2.2.2.2.2, hk.2⟩⟩⟩⟩⟩⟩⟩ | simp only [hk, ne_eq, not_false_eq_true, and_self, and_true, true_and])), (by apply Sq.ra; exact Kd.R_mono HO1409.out (fun _ hk => by first | exact True.intro | exact hk.1 | exact hk | exact ⟨hk.1.1, ⟨hk.1.2.1, ⟨hk.1.2.2.1, ⟨hk.1.2.2.2.1, ⟨hk.1.2.2.2.2.1, ⟨hk.1.2.2.2.2.2.1, ⟨hk.1.2.2.2.2.2.2, hk.2⟩⟩⟩⟩⟩⟩⟩ | simp only [hk, ne_eq, not_false_eq_true, and_self, and_true, true_and])), (by apply Sq.ra; exact Kd.R_mono HO1414.out (fun _ hk => by first | exact True.intro | exact hk.1 | exact hk | exact ⟨hk.1.1, ⟨hk.1.2.1, ⟨hk.1.2.2.1, ⟨hk.1.2.2.2.1, ⟨hk.1.2.2.2.2.1, ⟨hk.1.2.2.2.2.2.1, ⟨hk.1.2.2.2.2.2.2, hk.2⟩⟩⟩⟩⟩⟩⟩ | simp only [hk, ne_eq, not_false_eq_true, and_self, and_true, true_and])), (by apply Sq.rb; exact BK1371.out), (by apply Sq.rb; exact BK1372.out), (by apply Sq.rb; exact BK1388.out), (by apply Sq.rb; exact BK1393.out), (by apply Sq.rb; exact BK1398.out), (by apply Sq.rb; exact BK1404.out), (by repeat (first | (with_reducible first | exact HB.out | apply Sq.rc | refine below_set ?_ GE1371.out | refine below_set ?_ GE1372.out | refine below_set ?_ GE1388.out | refine below_set ?_ GE1393.out | refine below_set ?_ GE1398.out | refine below_set ?_ GE1404.out) | exact HB.out)), fun _ => (by apply Sq.ra; exact Kd.R_mono HO1427.out (fun _ hk => by first | exact True.intro | exact hk.1 | exact hk | exact ⟨hk.1.1, ⟨hk.1.2.1, ⟨hk.1.2.2.1, ⟨hk.1.2.2.2.1, ⟨hk.1.2.2.2.2.1, ⟨hk.1.2.2.2.2.2.1, ⟨hk.1.2.2.2.2.2.2.1, ⟨hk.1.2.2.2.2.2.2.2, hk.2⟩⟩⟩⟩⟩⟩⟩⟩ | simp only [hk, ne_eq, not_false_eq_true, and_self, and_true, true_and])), fun _ => (by apply Sq.ra; exact Kd.R_mono HO1431.out (fun _ hk => by first | exact True.intro | exact hk.1 | exact hk | exact ⟨hk.1.1.1.1.1.1.1.1.2, ⟨hk.1.1.1.1.1.1.1.2, ⟨hk.1.1.1.1.1.1.2, ⟨hk.1.1.1.1.1.2, ⟨hk.1.1.1.1.2, ⟨hk.1.1.1.2, ⟨hk.1.1.2, ⟨hk.1.2, hk.2⟩⟩⟩⟩⟩⟩⟩⟩ | simp only [hk, ne_eq, not_false_eq_true, and_self, and_true, true_and])), fun h0_ => absurd ((hoff 4 (by kernel_rfl)).symm.trans h0_) (by decide), z_BK1437, Q_GW1437, Q_GE1437, Q_NB1371_1437, Q_NB1437_1371, Q_NB1372_1437, Q_NB1437_1372, Q_NB1388_1437, Q_NB1437_1388, Q_NB1393_1437, Q_NB1437_1393, Q_NB1398_1437, Q_NB1437_1398, Q_NB1404_1437, Q_NB1437_1404, fun h0_ => absurd ((hoff 9 (by kernel_rfl)).symm.trans h0_) (by decide), Q_X1_, fun _ => rfl, fun h0_ => absurd ((hoff 4 (by kernel_rfl)).symm.trans h0_) (by decide), fun h0_ => absurd ((hoff 5 (by kernel_rfl)).symm.trans h0_) (by decide), fun h0_ => absurd ((hoff 6 (by kernel_rfl)).symm.trans h0_) (by decide), Q_X8_⟩
                refine steps_cons ?_ ?_
                ·rintro b a w' ⟨v1426, v1430, v1434, gb1437, m1_, m3_, m4_, m5_, m6_, m8_, ha, Q_HO1378, Q_HO1382, Q_HO1386, Q_HO1392, Q_HO1397, Q_HO1402, Q_HO1409, Q_HO1414, Q_BK1371, Q_BK1372, Q_BK1388, Q_BK1393, Q_BK1398, Q_BK1404, Q_HB, Q_HO1427, Q_HO1431, Q_HO1435, Q_BK1437, Q_GW1437, Q_GE1437, Q_NB1371_1437, Q_NB1437_1371, Q_NB1372_1437, Q_NB1437_1372, Q_NB1388_1437, Q_NB1437_1388, Q_NB1393_1437, Q_NB1437_1393, Q_NB1398_1437, Q_NB1437_1398, Q_NB1404_1437, Q_NB1437_1404, Q_BK1437_e9, Q_X1_, Q_X3_, Q_X4_, Q_X5_, Q_X6_, Q_X8_⟩ hb_ hon hoff
                 refine ⟨_, rfl, fun K hK => ?_⟩
                 have e96 : a.tmps[96]? = some (m1_) := by rw [ha]; exact putSel_on (e := (1, 96, m1_)) 1 rfl rfl (hon 1 (by kernel_rfl)) rfl
                 rw [Q_X1_ (hon 1 (by kernel_rfl))] at e96
                 have e98 : a.tmps[98]? = some (m3_) := by rw [ha]; exact putSel_on (e := (3, 98, m3_)) 3 rfl rfl (hon 3 (by kernel_rfl)) rfl
                 rw [Q_X3_ (hon 3 (by kernel_rfl))] at e98
                 replace ha := Aside0.mk ha
                 have HO1378 := Aside0.mk Q_HO1378
                 have HO1382 := Aside0.mk Q_HO1382
                 have HO1386 := Aside0.mk Q_HO1386
                 have HO1392 := Aside0.mk Q_HO1392
                 have HO1397 := Aside0.mk Q_HO1397
                 have HO1402 := Aside0.mk Q_HO1402
                 have HO1409 := Aside0.mk Q_HO1409
                 have HO1414 := Aside0.mk Q_HO1414
                 have BK1371 := Aside0.mk Q_BK1371
                 have BK1372 := Aside0.mk Q_BK1372
                 have BK1388 := Aside0.mk Q_BK1388
                 have BK1393 := Aside0.mk Q_BK1393
                 have BK1398 := Aside0.mk Q_BK1398
                 have BK1404 := Aside0.mk Q_BK1404
                 have HB := Aside0.mk Q_HB
                 have HO1427 := Sq.m (Q_HO1427 (hon 1 (by kernel_rfl)))
                 have HO1431 := Sq.m (Q_HO1431 (hon 3 (by kernel_rfl)))
                 obtain ⟨Ao125, co125, eo125⟩ := Kd.R_slice HO1427.out
                 (first | subst eo125 | (injection eo125 with f1_ f2_ f3_; have f4_ := f1_.symm; have f5_ := f3_.symm; clear f1_ f2_ f3_; subst f4_; subst f5_))
                 obtain ⟨Ao126, co126, eo126⟩ := Kd.R_slice HO1431.out
                 (first | subst eo126 | (injection eo126 with f1_ f2_ f3_; have f4_ := f1_.symm; have f5_ := f3_.symm; clear f1_ f2_ f3_; subst f4_; subst f5_))
                 refine goes_ Try.func58 (by kernel_rfl) rfl #[.agg #[.bool t1424, .slice Ao125 t1425.length co125], .agg #[.bool t1428, .slice Ao126 t1429.length co126]] (by rfl) rfl rfl (by first | (simp only [List.map_toArray, List.map_cons, List.map_nil, Act.eval, Array.getD_eq_getD_getElem?, Option.getD_some, e96, e98]; done) | (simp only [List.map_toArray, List.map_cons, List.map_nil, Act.eval, Array.getD_eq_getD_getElem?, Option.getD_some, e96, e98]; rfl)) ?_
                 with_reducible refine (impl_WholeSub.calls k t1424 _ _ t1425 t1428 _ _ t1429 t1432 t1433 t1436 _ ?side1 ?side2 ?side3 ?side4 A45.out).mono ?_
                 (case side1 => repeat (first | exact (Kd.R_reads' HO1427.out).2.2 | (with_reducible refine Kd.C_alloc ?_ _) | (with_reducible refine Kd.C_drewN ?_ _) | (with_reducible refine Kd.C_drew ?_)))
                 (case side2 => exact (Kd.R_reads' HO1427.out).2.1)
                 (case side3 => repeat (first | exact (Kd.R_reads' HO1431.out).2.2 | (with_reducible refine Kd.C_alloc ?_ _) | (with_reducible refine Kd.C_drewN ?_ _) | (with_reducible refine Kd.C_drew ?_)))
                 (case side4 => exact (Kd.R_reads' HO1431.out).2.1)
                 rintro e w127 ⟨v1434, rfl, ho0, hb⟩
                 refine ⟨_, rfl, ?_⟩
                 have n0_ := Sq.m (Kd.R_elder' (by apply Sq.ra; exact HO1378.out) (Kd.R_base ho0) hb)
                 have n1_ := Sq.m (Kd.R_elder' (by apply Sq.ra; exact HO1382.out) (Kd.R_base ho0) hb)
                 have n2_ := Sq.m (Kd.R_elder' (by apply Sq.ra; exact HO1386.out) (Kd.R_base ho0) hb)
                 have n3_ := Sq.m (Kd.R_elder' (by apply Sq.ra; exact HO1392.out) (Kd.R_base ho0) hb)
                 have n4_ := Sq.m (Kd.R_elder' (by apply Sq.ra; exact HO1397.out) (Kd.R_base ho0) hb)
                 have n5_ := Sq.m (Kd.R_elder' (by apply Sq.ra; exact HO1402.out) (Kd.R_base ho0) hb)
                 have n6_ := Sq.m (Kd.R_elder' (by apply Sq.ra; exact HO1409.out) (Kd.R_base ho0) hb)
                 have n7_ := Sq.m (Kd.R_elder' (by apply Sq.ra; exact HO1414.out) (Kd.R_base ho0) hb)
                 have n8_ := Sq.m (Kd.R_elder' (by apply Sq.ra; exact HO1427.out) (Kd.R_base ho0) hb)
                 have n9_ := Sq.m (Kd.R_elder' (by apply Sq.ra; exact HO1431.out) (Kd.R_base ho0) hb)
                 have n10_ := Sq.m (Kd.R_lower (Kd.R_new' (Kd.R_new' (Kd.R_new' (Kd.R_new' (Kd.R_new' (Kd.R_new' (Kd.R_new' (Kd.R_new' (Kd.R_new' (Kd.R_new' ho0 (Kd.R_lt (by apply Sq.ra; exact HO1378.out))) (Kd.R_lt (by apply Sq.ra; exact HO1382.out))) (Kd.R_lt (by apply Sq.ra; exact HO1386.out))) (Kd.R_lt (by apply Sq.ra; exact HO1392.out))) (Kd.R_lt (by apply Sq.ra; exact HO1397.out))) (Kd.R_lt (by apply Sq.ra; exact HO1402.out))) (Kd.R_lt (by apply Sq.ra; exact HO1409.out))) (Kd.R_lt (by apply Sq.ra; exact HO1414.out))) (Kd.R_lt (by apply Sq.ra; exact HO1427.out))) (Kd.R_lt (by apply Sq.ra; exact HO1431.out))) (below_size (by repeat (first | (with_reducible first | exact HB.out | apply Sq.rc | refine below_set ?_ GE1371.out | refine below_set ?_ GE1372.out | refine below_set ?_ GE1388.out | refine below_set ?_ GE1393.out | refine below_set ?_ GE1398.out | refine below_set ?_ GE1404.out) | exact HB.out))))
                 have n11_ := Sq.m (blk_below (g := gb1371) (o := .cells #[.bool a0_0, .slice A0_1 l0_1.length c0_1] 56 (0, 0)) (by apply Sq.rb; exact BK1371.out) hb)
                 have n12_ := Sq.m (blk_below (g := gb1372) (o := .cells #[.bool a1_0, .slice A1_1 l1_1.length c1_1] 56 (0, 0)) (by apply Sq.rb; exact BK1372.out) hb)
                 have n13_ := Sq.m (blk_below (g := gb1388) (o := .cells #[.bool t1383, .slice Ao100 t1384.length co100] 59 (0, 0)) (by apply Sq.rb; exact BK1388.out) hb)
                 have n14_ := Sq.m (blk_below (g := gb1393) (o := .cells #[.bool t1389, .slice Ao78 t1390.length co78] 59 (0, 0)) (by apply Sq.rb; exact BK1393.out) hb)
                 have n15_ := Sq.m (blk_below (g := gb1398) (o := .cells #[.bool t1394, .slice Ao88 t1395.length co88] 59 (0, 0)) (by apply Sq.rb; exact BK1398.out) hb)
                 have n16_ := Sq.m (blk_below (g := gb1404) (o := .cells #[.bool t1399, .slice Ao98 t1400.length co98] 59 (0, 0)) (by apply Sq.rb; exact BK1404.out) hb)
                 have n17_ := Sq.m (below_step (by repeat (first | (with_reducible first | exact HB.out | apply Sq.rc | refine below_set ?_ GE1371.out | refine below_set ?_ GE1372.out | refine below_set ?_ GE1388.out | refine below_set ?_ GE1393.out | refine below_set ?_ GE1398.out | refine below_set ?_ GE1404.out) | exact HB.out)) hb)
                 have z_BK1437 := fun (h0_ : b 8 = true) (h1_ : b 9 = false) => (show w127.heap[gb1437]? = some (.cells #[.bool false, .slice none 0 0] 59 (0, 0)) from by first | exact (blk_below (g := gb1437) (o := .cells #[.bool false, .slice none 0 0] 59 (0, 0)) (by apply Sq.rb; exact (Q_BK1437 h0_ h1_)) hb))
                 clear HO1378
                 clear HO1382
                 clear HO1386
                 clear HO1392
                 clear HO1397
                 clear HO1402
                 clear HO1409
                 clear HO1414
                 clear HO1427
                 clear HO1431
                 clear BK1371
                 clear BK1372
                 clear BK1388
                 clear BK1393
                 clear BK1398
                 clear BK1404
                 clear HB
                 have HO1378 := n0_
                 have HO1382 := n1_
                 have HO1386 := n2_
                 have HO1392 := n3_
                 have HO1397 := n4_
                 have HO1402 := n5_
                 have HO1409 := n6_
                 have HO1414 := n7_
                 have HO1427 := n8_
                 have HO1431 := n9_
                 have HO1435 := n10_
                 have BK1371 := n11_
                 have BK1372 := n12_
                 have BK1388 := n13_
                 have BK1393 := n14_
                 have BK1398 := n15_
                 have BK1404 := n16_
                 have HB := n17_
                 clear n0_ n1_ n2_ n3_ n4_ n5_ n6_ n7_ n8_ n9_ n10_ n11_ n12_ n13_ n14_ n15_ n16_ n17_
                 (try clear hb)
                 (try clear hb2)
                 (try clear hk)
                 (try clear hi)
                 (try clear ho0)
                 refine hK.out _ _ ⟨.slice Ao125 t1425.length co125, .slice Ao126 t1429.length co126, v1434, gb1437, m1_, m3_, (.tuple #[.agg #[.bool t1432, v1434], .bool t1436]), m5_, m6_, m8_, (by rw [ha.out]; exact putSel_upk 4 hb_ rfl rfl rfl), (by apply Sq.ra; exact Kd.R_mono HO1378.out (fun _ hk => by first | exact True.intro | exact hk.1 | exact hk | exact ⟨hk.1.1, ⟨hk.1.2.1, ⟨hk.1.2.2.1, ⟨hk.1.2.2.2.1, ⟨hk.1.2.2.2.2, hk.2⟩⟩⟩⟩⟩ | simp only [hk, ne_eq, not_false_eq_true, and_self, and_true, true_and])), (by apply Sq.ra; exact Kd.R_mono HO1382.out (fun _ hk => by first | exact True.intro | exact hk.1 | exact hk | exact ⟨hk.1.1, ⟨hk.1.2.1, ⟨hk.1.2.2.1, ⟨hk.1.2.2.2.1, ⟨hk.1.2.2.2.2, hk.2⟩⟩⟩⟩⟩ | simp only [hk, ne_eq, not_false_eq_true, and_self, and_true, true_and])), (by apply Sq.ra; exact Kd.R_mono HO1386.out (fun _ hk => by first | exact True.intro | exact hk.1 | exact hk | exact ⟨hk.1.1, ⟨hk.1.2.1, ⟨hk.1.2.2.1, ⟨hk.1.2.2.2.1, ⟨hk.1.2.2.2.2, hk.2⟩⟩⟩⟩⟩ | simp only [hk, ne_eq, not_false_eq_true, and_self, and_true, true_and])), (by apply Sq.ra; exact Kd.R_mono HO1392.out (fun _ hk => by first | exact True.intro | exact hk.1 | exact hk | exact ⟨hk.1.1, ⟨hk.1.2.1, ⟨hk.1.2.2.1, ⟨hk.1.2.2.2.1, ⟨hk.1.2.2.2.2.1, ⟨hk.1.2.2.2.2.2.1, ⟨hk.1.2.2.2.2.2.2, hk.2⟩⟩⟩⟩⟩⟩⟩ | simp only [hk, ne_eq, not_false_eq_true, and_self, and_true, true_and])), (by apply Sq.ra; exact Kd.R_mono HO1397.out (fun _ hk => by first | exact True.intro | exact hk.1 | exact hk | exact ⟨hk.1.1, ⟨hk.1.2.1, ⟨hk.1.2.2.1, ⟨hk.1.2.2.2.1, ⟨hk.1.2.2.2.2.1, ⟨hk.1.2.2.2.2.2.1, ⟨hk.1.2.2.2.2.2.2, hk.2⟩⟩⟩⟩⟩⟩⟩ | simp only [hk, ne_eq, not_false_eq_true, and_self, and_true, true_and])), (by apply Sq.ra; exact Kd.R_mono HO1402.out (fun _ hk => by first | exact True.intro | exact hk.1 | exact hk | exact ⟨hk.1.1, ⟨hk.1.2.1, ⟨hk.1.2.2.1, ⟨hk.1.2.2.2.1, ⟨hk.1.2.2.2.2.1, ⟨hk.1.2.2.2.2.2.1, ⟨hk.1.2.2.2.2.2.2, hk.2⟩⟩⟩⟩⟩⟩⟩ | simp only [hk, ne_eq, not_false_eq_true, and_self, and_true, true_and])), (by apply Sq.ra; exact Kd.R_mono HO1409.out (fun _ hk => by first | exact True.intro | exact hk.1 | exact hk | exact ⟨hk.1.1, ⟨hk.1.2.1, ⟨hk.1.2.2.1, ⟨hk.1.2.2.2.1, ⟨hk.1.2.2.2.2.1, ⟨hk.1.2.2.2.2.2.1, ⟨hk.1.2.2.2.2.2.2, hk.2⟩⟩⟩⟩⟩⟩⟩ | simp only [hk, ne_eq, not_false_eq_true, and_self, and_true, true_and])), (by apply Sq.ra; exact Kd.R_mono HO1414.out (fun _ hk => by first | exact True.intro | exact hk.1 | exact hk | exact ⟨hk.1.1, ⟨hk.1.2.1, ⟨hk.1.2.2.1, ⟨hk.1.2.2.2.1, ⟨hk.1.2.2.2.2.1, ⟨hk.1.2.2.2.2.2.1, ⟨hk.1.2.2.2.2.2.2, hk.2⟩⟩⟩⟩⟩⟩⟩ | simp only [hk, ne_eq, not_false_eq_true, and_self, and_true, true_and])), (by apply Sq.rb; exact BK1371.out), (by apply Sq.rb; exact BK1372.out), (by apply Sq.rb; exact BK1388.out), (by apply Sq.rb; exact BK1393.out), (by apply Sq.rb; exact BK1398.out), (by apply Sq.rb; exact BK1404.out), (by repeat (first | (with_reducible first | exact HB.out | apply Sq.rc | refine below_set ?_ GE1371.out | refine below_set ?_ GE1372.out | refine below_set ?_ GE1388.out | refine below_set ?_ GE1393.out | refine below_set ?_ GE1398.out | refine below_set ?_ GE1404.out) | exact HB.out)), fun _ => (by apply Sq.ra; exact Kd.R_mono HO1427.out (fun _ hk => by first | exact True.intro | exact hk.1 | exact hk | exact ⟨hk.1.1, ⟨hk.1.2.1, ⟨hk.1.2.2.1, ⟨hk.1.2.2.2.1, ⟨hk.1.2.2.2.2.1, ⟨hk.1.2.2.2.2.2.1, ⟨hk.1.2.2.2.2.2.2.1, ⟨hk.1.2.2.2.2.2.2.2, hk.2⟩⟩⟩⟩⟩⟩⟩⟩ | simp only [hk, ne_eq, not_false_eq_true, and_self, and_true, true_and])), fun _ => (by apply Sq.ra; exact Kd.R_mono HO1431.out (fun _ hk => by first | exact True.intro | exact hk.1 | exact hk | exact ⟨hk.1.1, ⟨hk.1.2.1, ⟨hk.1.2.2.1, ⟨hk.1.2.2.2.1, ⟨hk.1.2.2.2.2.1, ⟨hk.1.2.2.2.2.2.1, ⟨hk.1.2.2.2.2.2.2.1, ⟨hk.1.2.2.2.2.2.2.2, hk.2⟩⟩⟩⟩⟩⟩⟩⟩ | simp only [hk, ne_eq, not_false_eq_true, and_self, and_true, true_and])), fun _ => (by apply Sq.ra; exact Kd.R_mono HO1435.out (fun _ hk => by first | exact True.intro | exact hk.1 | exact hk | exact ⟨hk.1.1.1.1.1.1.1.1.1.2, ⟨hk.1.1.1.1.1.1.1.1.2, ⟨hk.1.1.1.1.1.1.1.2, ⟨hk.1.1.1.1.1.1.2, ⟨hk.1.1.1.1.1.2, ⟨hk.1.1.1.1.2, ⟨hk.1.1.1.2, ⟨hk.1.1.2, ⟨hk.1.2, hk.2⟩⟩⟩⟩⟩⟩⟩⟩⟩ | simp only [hk, ne_eq, not_false_eq_true, and_self, and_true, true_and])), z_BK1437, Q_GW1437, Q_GE1437, Q_NB1371_1437, Q_NB1437_1371, Q_NB1372_1437, Q_NB1437_1372, Q_NB1388_1437, Q_NB1437_1388, Q_NB1393_1437, Q_NB1437_1393, Q_NB1398_1437, Q_NB1437_1398, Q_NB1404_1437, Q_NB1437_1404, fun h0_ => absurd ((hoff 9 (by kernel_rfl)).symm.trans h0_) (by decide), Q_X1_, Q_X3_, fun _ => rfl, fun h0_ => absurd ((hoff 5 (by kernel_rfl)).symm.trans h0_) (by decide), fun h0_ => absurd ((hoff 6 (by kernel_rfl)).symm.trans h0_) (by decide), Q_X8_⟩
                refine steps_cons ?_ ?_
                ·rintro b a w' ⟨v1426, v1430, v1434, gb1437, m1_, m3_, m4_, m5_, m6_, m8_, ha, Q_HO1378, Q_HO1382, Q_HO1386, Q_HO1392, Q_HO1397, Q_HO1402, Q_HO1409, Q_HO1414, Q_BK1371, Q_BK1372, Q_BK1388, Q_BK1393, Q_BK1398, Q_BK1404, Q_HB, Q_HO1427, Q_HO1431, Q_HO1435, Q_BK1437, Q_GW1437, Q_GE1437, Q_NB1371_1437, Q_NB1437_1371, Q_NB1372_1437, Q_NB1437_1372, Q_NB1388_1437, Q_NB1437_1388, Q_NB1393_1437, Q_NB1437_1393, Q_NB1398_1437, Q_NB1437_1398, Q_NB1404_1437, Q_NB1437_1404, Q_BK1437_e9, Q_X1_, Q_X3_, Q_X4_, Q_X5_, Q_X6_, Q_X8_⟩ hb_ hon hoff
                 refine ⟨_, rfl, fun K hK => ?_⟩
                 have e99 : a.tmps[99]? = some (m4_) := by rw [ha]; exact putSel_on (e := (4, 99, m4_)) 4 rfl rfl (hon 4 (by kernel_rfl)) rfl
                 rw [Q_X4_ (hon 4 (by kernel_rfl))] at e99
                 replace ha := Aside0.mk ha
                 have HO1378 := Aside0.mk Q_HO1378
                 have HO1382 := Aside0.mk Q_HO1382
                 have HO1386 := Aside0.mk Q_HO1386
                 have HO1392 := Aside0.mk Q_HO1392
                 have HO1397 := Aside0.mk Q_HO1397
                 have HO1402 := Aside0.mk Q_HO1402
                 have HO1409 := Aside0.mk Q_HO1409
                 have HO1414 := Aside0.mk Q_HO1414
                 have BK1371 := Aside0.mk Q_BK1371
                 have BK1372 := Aside0.mk Q_BK1372
                 have BK1388 := Aside0.mk Q_BK1388
                 have BK1393 := Aside0.mk Q_BK1393
                 have BK1398 := Aside0.mk Q_BK1398
                 have BK1404 := Aside0.mk Q_BK1404
                 have HB := Aside0.mk Q_HB
                 have HO1427 := Sq.m (Q_HO1427 (hon 1 (by kernel_rfl)))
                 have HO1431 := Sq.m (Q_HO1431 (hon 3 (by kernel_rfl)))
                 have HO1435 := Sq.m (Q_HO1435 (hon 4 (by kernel_rfl)))
                 refine value_ (w1 := w') (v := .tuple #[.agg #[.bool t1432, v1434], .bool t1436]) (by rfl) rfl ?_ ?_
                 ·go_simp
                  (try simp only [i64_w])
                  try rfl
                 refine hK.out _ _ ⟨v1426, v1430, v1434, gb1437, m1_, m3_, m4_, (.tuple #[.agg #[.bool t1432, v1434], .bool t1436]), m6_, m8_, (by rw [ha.out]; exact putSel_upk 5 hb_ rfl rfl rfl), Q_HO1378, Q_HO1382, Q_HO1386, Q_HO1392, Q_HO1397, Q_HO1402, Q_HO1409, Q_HO1414, Q_BK1371, Q_BK1372, Q_BK1388, Q_BK1393, Q_BK1398, Q_BK1404, Q_HB, Q_HO1427, Q_HO1431, Q_HO1435, Q_BK1437, Q_GW1437, Q_GE1437, Q_NB1371_1437, Q_NB1437_1371, Q_NB1372_1437, Q_NB1437_1372, Q_NB1388_1437, Q_NB1437_1388, Q_NB1393_1437, Q_NB1437_1393, Q_NB1398_1437, Q_NB1437_1398, Q_NB1404_1437, Q_NB1437_1404, fun h0_ => absurd ((hoff 9 (by kernel_rfl)).symm.trans h0_) (by decide), Q_X1_, Q_X3_, Q_X4_, fun _ => rfl, fun h0_ => absurd ((hoff 6 (by kernel_rfl)).symm.trans h0_) (by decide), Q_X8_⟩
                refine steps_cons ?_ ?_
                ·rintro b a w' ⟨v1426, v1430, v1434, gb1437, m1_, m3_, m4_, m5_, m6_, m8_, ha, Q_HO1378, Q_HO1382, Q_HO1386, Q_HO1392, Q_HO1397, Q_HO1402, Q_HO1409, Q_HO1414, Q_BK1371, Q_BK1372, Q_BK1388, Q_BK1393, Q_BK1398, Q_BK1404, Q_HB, Q_HO1427, Q_HO1431, Q_HO1435, Q_BK1437, Q_GW1437, Q_GE1437, Q_NB1371_1437, Q_NB1437_1371, Q_NB1372_1437, Q_NB1437_1372, Q_NB1388_1437, Q_NB1437_1388, Q_NB1393_1437, Q_NB1437_1393, Q_NB1398_1437, Q_NB1437_1398, Q_NB1404_1437, Q_NB1437_1404, Q_BK1437_e9, Q_X1_, Q_X3_, Q_X4_, Q_X5_, Q_X6_, Q_X8_⟩ hb_ hon hoff
                 refine ⟨_, rfl, fun K hK => ?_⟩
                 have e94 : a.tmps[94]? = some (m5_) := by rw [ha]; exact putSel_on (e := (5, 94, m5_)) 5 rfl rfl (hon 5 (by kernel_rfl)) rfl
                 rw [Q_X5_ (hon 5 (by kernel_rfl))] at e94
                 replace ha := Aside0.mk ha
                 have HO1378 := Aside0.mk Q_HO1378
                 have HO1382 := Aside0.mk Q_HO1382
                 have HO1386 := Aside0.mk Q_HO1386
                 have HO1392 := Aside0.mk Q_HO1392
                 have HO1397 := Aside0.mk Q_HO1397
                 have HO1402 := Aside0.mk Q_HO1402
                 have HO1409 := Aside0.mk Q_HO1409
                 have HO1414 := Aside0.mk Q_HO1414
                 have BK1371 := Aside0.mk Q_BK1371
                 have BK1372 := Aside0.mk Q_BK1372
                 have BK1388 := Aside0.mk Q_BK1388
                 have BK1393 := Aside0.mk Q_BK1393
                 have BK1398 := Aside0.mk Q_BK1398
                 have BK1404 := Aside0.mk Q_BK1404
                 have HB := Aside0.mk Q_HB
                 have HO1427 := Sq.m (Q_HO1427 (hon 1 (by kernel_rfl)))
                 have HO1431 := Sq.m (Q_HO1431 (hon 3 (by kernel_rfl)))
                 have HO1435 := Sq.m (Q_HO1435 (hon 4 (by kernel_rfl)))
                 refine value_ (w1 := w') (v := .agg #[.bool t1432, v1434]) (by rfl) rfl ?_ ?_
                 ·go_simp
                  (try simp only [i64_w])
                  try rfl
                 refine hK.out _ _ ⟨v1426, v1430, v1434, gb1437, m1_, m3_, m4_, m5_, (.agg #[.bool t1432, v1434]), m8_, (by rw [ha.out]; exact putSel_upk 6 hb_ rfl rfl rfl), Q_HO1378, Q_HO1382, Q_HO1386, Q_HO1392, Q_HO1397, Q_HO1402, Q_HO1409, Q_HO1414, Q_BK1371, Q_BK1372, Q_BK1388, Q_BK1393, Q_BK1398, Q_BK1404, Q_HB, Q_HO1427, Q_HO1431, Q_HO1435, Q_BK1437, Q_GW1437, Q_GE1437, Q_NB1371_1437, Q_NB1437_1371, Q_NB1372_1437, Q_NB1437_1372, Q_NB1388_1437, Q_NB1437_1388, Q_NB1393_1437, Q_NB1437_1393, Q_NB1398_1437, Q_NB1437_1398, Q_NB1404_1437, Q_NB1437_1404, fun h0_ => absurd ((hoff 9 (by kernel_rfl)).symm.trans h0_) (by decide), Q_X1_, Q_X3_, Q_X4_, Q_X5_, fun _ => rfl, Q_X8_⟩
                refine steps_cons ?_ ?_
                ·rintro b a w' ⟨v1426, v1430, v1434, gb1437, m1_, m3_, m4_, m5_, m6_, m8_, ha, Q_HO1378, Q_HO1382, Q_HO1386, Q_HO1392, Q_HO1397, Q_HO1402, Q_HO1409, Q_HO1414, Q_BK1371, Q_BK1372, Q_BK1388, Q_BK1393, Q_BK1398, Q_BK1404, Q_HB, Q_HO1427, Q_HO1431, Q_HO1435, Q_BK1437, Q_GW1437, Q_GE1437, Q_NB1371_1437, Q_NB1437_1371, Q_NB1372_1437, Q_NB1437_1372, Q_NB1388_1437, Q_NB1437_1388, Q_NB1393_1437, Q_NB1437_1393, Q_NB1398_1437, Q_NB1437_1398, Q_NB1404_1437, Q_NB1437_1404, Q_BK1437_e9, Q_X1_, Q_X3_, Q_X4_, Q_X5_, Q_X6_, Q_X8_⟩ hb_ hon hoff
                 refine ⟨_, rfl, fun K hK => ?_⟩
                 have e94 : a.tmps[94]? = some (m5_) := by rw [ha]; exact putSel_on (e := (5, 94, m5_)) 5 rfl rfl (hon 5 (by kernel_rfl)) rfl
                 rw [Q_X5_ (hon 5 (by kernel_rfl))] at e94
                 replace ha := Aside0.mk ha
                 have HO1378 := Aside0.mk Q_HO1378
                 have HO1382 := Aside0.mk Q_HO1382
                 have HO1386 := Aside0.mk Q_HO1386
                 have HO1392 := Aside0.mk Q_HO1392
                 have HO1397 := Aside0.mk Q_HO1397
                 have HO1402 := Aside0.mk Q_HO1402
                 have HO1409 := Aside0.mk Q_HO1409
                 have HO1414 := Aside0.mk Q_HO1414
                 have BK1371 := Aside0.mk Q_BK1371
                 have BK1372 := Aside0.mk Q_BK1372
                 have BK1388 := Aside0.mk Q_BK1388
                 have BK1393 := Aside0.mk Q_BK1393
                 have BK1398 := Aside0.mk Q_BK1398
                 have BK1404 := Aside0.mk Q_BK1404
                 have HB := Aside0.mk Q_HB
                 have HO1427 := Sq.m (Q_HO1427 (hon 1 (by kernel_rfl)))
                 have HO1431 := Sq.m (Q_HO1431 (hon 3 (by kernel_rfl)))
                 have HO1435 := Sq.m (Q_HO1435 (hon 4 (by kernel_rfl)))
                 refine value_ (w1 := w') (v := .bool t1436) (by rfl) rfl ?_ ?_
                 ·go_simp
                  (try simp only [i64_w])
                  try rfl
                 refine hK.out _ _ ⟨v1426, v1430, v1434, gb1437, m1_, m3_, m4_, m5_, m6_, m8_, (by rw [ha.out]; exact putSel_upk 7 hb_ rfl rfl rfl), Q_HO1378, Q_HO1382, Q_HO1386, Q_HO1392, Q_HO1397, Q_HO1402, Q_HO1409, Q_HO1414, Q_BK1371, Q_BK1372, Q_BK1388, Q_BK1393, Q_BK1398, Q_BK1404, Q_HB, Q_HO1427, Q_HO1431, Q_HO1435, Q_BK1437, Q_GW1437, Q_GE1437, Q_NB1371_1437, Q_NB1437_1371, Q_NB1372_1437, Q_NB1437_1372, Q_NB1388_1437, Q_NB1437_1388, Q_NB1393_1437, Q_NB1437_1393, Q_NB1398_1437, Q_NB1437_1398, Q_NB1404_1437, Q_NB1437_1404, Q_BK1437_e9, Q_X1_, Q_X3_, Q_X4_, Q_X5_, Q_X6_, Q_X8_⟩
                refine steps_cons ?_ ?_
                ·rintro b a w' ⟨v1426, v1430, v1434, gb1437, m1_, m3_, m4_, m5_, m6_, m8_, ha, Q_HO1378, Q_HO1382, Q_HO1386, Q_HO1392, Q_HO1397, Q_HO1402, Q_HO1409, Q_HO1414, Q_BK1371, Q_BK1372, Q_BK1388, Q_BK1393, Q_BK1398, Q_BK1404, Q_HB, Q_HO1427, Q_HO1431, Q_HO1435, Q_BK1437, Q_GW1437, Q_GE1437, Q_NB1371_1437, Q_NB1437_1371, Q_NB1372_1437, Q_NB1437_1372, Q_NB1388_1437, Q_NB1437_1388, Q_NB1393_1437, Q_NB1437_1393, Q_NB1398_1437, Q_NB1437_1398, Q_NB1404_1437, Q_NB1437_1404, Q_BK1437_e9, Q_X1_, Q_X3_, Q_X4_, Q_X5_, Q_X6_, Q_X8_⟩ hb_ hon hoff
                 refine ⟨_, rfl, fun K hK => ?_⟩
                 replace ha := Aside0.mk ha
                 have HO1378 := Aside0.mk Q_HO1378
                 have HO1382 := Aside0.mk Q_HO1382
                 have HO1386 := Aside0.mk Q_HO1386
                 have HO1392 := Aside0.mk Q_HO1392
                 have HO1397 := Aside0.mk Q_HO1397
                 have HO1402 := Aside0.mk Q_HO1402
                 have HO1409 := Aside0.mk Q_HO1409
                 have HO1414 := Aside0.mk Q_HO1414
                 have BK1371 := Aside0.mk Q_BK1371
                 have BK1372 := Aside0.mk Q_BK1372
                 have BK1388 := Aside0.mk Q_BK1388
                 have BK1393 := Aside0.mk Q_BK1393
                 have BK1398 := Aside0.mk Q_BK1398
                 have BK1404 := Aside0.mk Q_BK1404
                 have HB := Aside0.mk Q_HB
                 refine box_step ?hg (N := 15) ?hd (cs := #[.bool false, .slice none 0 0]) (t := 59) ?hr ?_; (case hd => rfl); (case hg => rfl); (case hr => first | (go_simp; done) | (go_simp; rfl))
                 intro gb1437 hg w122 hbox hb
                 have n0_ := Sq.m (Kd.R_below (by apply Sq.ra; exact HO1378.out) hb)
                 have n1_ := Sq.m (Kd.R_below (by apply Sq.ra; exact HO1382.out) hb)
                 have n2_ := Sq.m (Kd.R_below (by apply Sq.ra; exact HO1386.out) hb)
                 have n3_ := Sq.m (Kd.R_below (by apply Sq.ra; exact HO1392.out) hb)
                 have n4_ := Sq.m (Kd.R_below (by apply Sq.ra; exact HO1397.out) hb)
                 have n5_ := Sq.m (Kd.R_below (by apply Sq.ra; exact HO1402.out) hb)
                 have n6_ := Sq.m (Kd.R_below (by apply Sq.ra; exact HO1409.out) hb)
                 have n7_ := Sq.m (Kd.R_below (by apply Sq.ra; exact HO1414.out) hb)
                 have n8_ := Sq.m (blk_below (g := gb1371) (o := .cells #[.bool a0_0, .slice A0_1 l0_1.length c0_1] 56 (0, 0)) (by apply Sq.rb; exact BK1371.out) hb)
                 have n9_ := Sq.m (blk_below (g := gb1372) (o := .cells #[.bool a1_0, .slice A1_1 l1_1.length c1_1] 56 (0, 0)) (by apply Sq.rb; exact BK1372.out) hb)
                 have n10_ := Sq.m (blk_below (g := gb1388) (o := .cells #[.bool t1383, .slice Ao100 t1384.length co100] 59 (0, 0)) (by apply Sq.rb; exact BK1388.out) hb)
                 have n11_ := Sq.m (blk_below (g := gb1393) (o := .cells #[.bool t1389, .slice Ao78 t1390.length co78] 59 (0, 0)) (by apply Sq.rb; exact BK1393.out) hb)
                 have n12_ := Sq.m (blk_below (g := gb1398) (o := .cells #[.bool t1394, .slice Ao88 t1395.length co88] 59 (0, 0)) (by apply Sq.rb; exact BK1398.out) hb)
                 have n13_ := Sq.m (blk_below (g := gb1404) (o := .cells #[.bool t1399, .slice Ao98 t1400.length co98] 59 (0, 0)) (by apply Sq.rb; exact BK1404.out) hb)
                 have n14_ := Sq.m (below_step (by repeat (first | (with_reducible first | exact HB.out | apply Sq.rc | refine below_set ?_ GE1371.out | refine below_set ?_ GE1372.out | refine below_set ?_ GE1388.out | refine below_set ?_ GE1393.out | refine below_set ?_ GE1398.out | refine below_set ?_ GE1404.out) | exact HB.out)) hb)
                 have n15_ := Sq.m (hbox)
                 have n16_ := Sq.m ((by rw [hg]; exact (below_size (by repeat (first | (with_reducible first | exact HB.out | apply Sq.rc | refine below_set ?_ GE1371.out | refine below_set ?_ GE1372.out | refine below_set ?_ GE1388.out | refine below_set ?_ GE1393.out | refine below_set ?_ GE1398.out | refine below_set ?_ GE1404.out) | exact HB.out))) : w.heap.size ≤ gb1437))
                 have n17_ := Sq.m ((by rw [hg]; exact (below_size (by repeat (first | (with_reducible first | exact HB.out | apply Sq.rc | refine below_set ?_ GE1371.out | refine below_set ?_ GE1372.out | refine below_set ?_ GE1388.out | refine below_set ?_ GE1393.out | refine below_set ?_ GE1398.out | refine below_set ?_ GE1404.out) | exact HB.out))) : w.heap.size ≤ gb1437))
                 have n18_ := Sq.m ((by rw [hg]; exact Nat.ne_of_lt (blk_lt (g := gb1371) (o := .cells #[.bool a0_0, .slice A0_1 l0_1.length c0_1] 56 (0, 0)) (by apply Sq.rb; exact BK1371.out)) : gb1371 ≠ gb1437))
                 have n19_ := Sq.m ((by rw [hg]; exact Nat.ne_of_gt (blk_lt (g := gb1371) (o := .cells #[.bool a0_0, .slice A0_1 l0_1.length c0_1] 56 (0, 0)) (by apply Sq.rb; exact BK1371.out)) : gb1437 ≠ gb1371))
                 have n20_ := Sq.m ((by rw [hg]; exact Nat.ne_of_lt (blk_lt (g := gb1372) (o := .cells #[.bool a1_0, .slice A1_1 l1_1.length c1_1] 56 (0, 0)) (by apply Sq.rb; exact BK1372.out)) : gb1372 ≠ gb1437))
                 have n21_ := Sq.m ((by rw [hg]; exact Nat.ne_of_gt (blk_lt (g := gb1372) (o := .cells #[.bool a1_0, .slice A1_1 l1_1.length c1_1] 56 (0, 0)) (by apply Sq.rb; exact BK1372.out)) : gb1437 ≠ gb1372))
                 have n22_ := Sq.m ((by rw [hg]; exact Nat.ne_of_lt (blk_lt (g := gb1388) (o := .cells #[.bool t1383, .slice Ao100 t1384.length co100] 59 (0, 0)) (by apply Sq.rb; exact BK1388.out)) : gb1388 ≠ gb1437))
                 have n23_ := Sq.m ((by rw [hg]; exact Nat.ne_of_gt (blk_lt (g := gb1388) (o := .cells #[.bool t1383, .slice Ao100 t1384.length co100] 59 (0, 0)) (by apply Sq.rb; exact BK1388.out)) : gb1437 ≠ gb1388))
                 have n24_ := Sq.m ((by rw [hg]; exact Nat.ne_of_lt (blk_lt (g := gb1393) (o := .cells #[.bool t1389, .slice Ao78 t1390.length co78] 59 (0, 0)) (by apply Sq.rb; exact BK1393.out)) : gb1393 ≠ gb1437))
                 have n25_ := Sq.m ((by rw [hg]; exact Nat.ne_of_gt (blk_lt (g := gb1393) (o := .cells #[.bool t1389, .slice Ao78 t1390.length co78] 59 (0, 0)) (by apply Sq.rb; exact BK1393.out)) : gb1437 ≠ gb1393))
                 have n26_ := Sq.m ((by rw [hg]; exact Nat.ne_of_lt (blk_lt (g := gb1398) (o := .cells #[.bool t1394, .slice Ao88 t1395.length co88] 59 (0, 0)) (by apply Sq.rb; exact BK1398.out)) : gb1398 ≠ gb1437))
                 have n27_ := Sq.m ((by rw [hg]; exact Nat.ne_of_gt (blk_lt (g := gb1398) (o := .cells #[.bool t1394, .slice Ao88 t1395.length co88] 59 (0, 0)) (by apply Sq.rb; exact BK1398.out)) : gb1437 ≠ gb1398))
                 have n28_ := Sq.m ((by rw [hg]; exact Nat.ne_of_lt (blk_lt (g := gb1404) (o := .cells #[.bool t1399, .slice Ao98 t1400.length co98] 59 (0, 0)) (by apply Sq.rb; exact BK1404.out)) : gb1404 ≠ gb1437))
                 have n29_ := Sq.m ((by rw [hg]; exact Nat.ne_of_gt (blk_lt (g := gb1404) (o := .cells #[.bool t1399, .slice Ao98 t1400.length co98] 59 (0, 0)) (by apply Sq.rb; exact BK1404.out)) : gb1437 ≠ gb1404))
                 have z_HO1427 := fun (h0_ : b 1 = true) => (show Kd.R (Kd.int .i64) 3 w122 w.heap.size (fun k_ => some k_ ≠ (v1377 : Value).ownBlock ∧ some k_ ≠ (v1381 : Value).ownBlock ∧ some k_ ≠ (.slice Ao100 t1384.length co100 : Value).ownBlock ∧ some k_ ≠ (.slice Ao78 t1390.length co78 : Value).ownBlock ∧ some k_ ≠ (.slice Ao88 t1395.length co88 : Value).ownBlock ∧ some k_ ≠ (.slice Ao98 t1400.length co98 : Value).ownBlock ∧ some k_ ≠ (.slice Ao104 t1407.length co104 : Value).ownBlock ∧ some k_ ≠ (.slice Ao108 t1412.length co108 : Value).ownBlock) v1426 t1425 from by first | exact (Kd.R_below (by apply Sq.ra; exact (Q_HO1427 h0_)) hb) | exact Kd.R_mono (Kd.R_below (by apply Sq.ra; exact (Q_HO1427 h0_)) hb) (fun _ h_ => by first | trivial | exact h_ | exact h_.1))
                 have z_HO1431 := fun (h0_ : b 3 = true) => (show Kd.R (Kd.int .i64) 3 w122 w.heap.size (fun k_ => some k_ ≠ (v1377 : Value).ownBlock ∧ some k_ ≠ (v1381 : Value).ownBlock ∧ some k_ ≠ (.slice Ao100 t1384.length co100 : Value).ownBlock ∧ some k_ ≠ (.slice Ao78 t1390.length co78 : Value).ownBlock ∧ some k_ ≠ (.slice Ao88 t1395.length co88 : Value).ownBlock ∧ some k_ ≠ (.slice Ao98 t1400.length co98 : Value).ownBlock ∧ some k_ ≠ (.slice Ao104 t1407.length co104 : Value).ownBlock ∧ some k_ ≠ (.slice Ao108 t1412.length co108 : Value).ownBlock) v1430 t1429 from by first | exact (Kd.R_below (by apply Sq.ra; exact (Q_HO1431 h0_)) hb) | exact Kd.R_mono (Kd.R_below (by apply Sq.ra; exact (Q_HO1431 h0_)) hb) (fun _ h_ => by first | trivial | exact h_ | exact h_.1))
                 have z_HO1435 := fun (h0_ : b 4 = true) => (show Kd.R (Kd.int .i64) 3 w122 w.heap.size (fun k_ => some k_ ≠ (v1377 : Value).ownBlock ∧ some k_ ≠ (v1381 : Value).ownBlock ∧ some k_ ≠ (.slice Ao100 t1384.length co100 : Value).ownBlock ∧ some k_ ≠ (.slice Ao78 t1390.length co78 : Value).ownBlock ∧ some k_ ≠ (.slice Ao88 t1395.length co88 : Value).ownBlock ∧ some k_ ≠ (.slice Ao98 t1400.length co98 : Value).ownBlock ∧ some k_ ≠ (.slice Ao104 t1407.length co104 : Value).ownBlock ∧ some k_ ≠ (.slice Ao108 t1412.length co108 : Value).ownBlock) v1434 t1433 from by first | exact (Kd.R_below (by apply Sq.ra; exact (Q_HO1435 h0_)) hb) | exact Kd.R_mono (Kd.R_below (by apply Sq.ra; exact (Q_HO1435 h0_)) hb) (fun _ h_ => by first | trivial | exact h_ | exact h_.1))
                 clear HO1378
                 clear HO1382
                 clear HO1386
                 clear HO1392
                 clear HO1397
                 clear HO1402
                 clear HO1409
                 clear HO1414
                 clear BK1371
                 clear BK1372
                 clear BK1388
                 clear BK1393
                 clear BK1398
                 clear BK1404
                 clear HB
                 have HO1378 := n0_
                 have HO1382 := n1_
                 have HO1386 := n2_
                 have HO1392 := n3_
                 have HO1397 := n4_
                 have HO1402 := n5_
                 have HO1409 := n6_
                 have HO1414 := n7_
                 have BK1371 := n8_
                 have BK1372 := n9_
                 have BK1388 := n10_
                 have BK1393 := n11_
                 have BK1398 := n12_
                 have BK1404 := n13_
                 have HB := n14_
                 have BK1437 := n15_
                 have GW1437 := n16_
                 have GE1437 := n17_
                 have NB1371_1437 := n18_
                 have NB1437_1371 := n19_
                 have NB1372_1437 := n20_
                 have NB1437_1372 := n21_
                 have NB1388_1437 := n22_
                 have NB1437_1388 := n23_
                 have NB1393_1437 := n24_
                 have NB1437_1393 := n25_
                 have NB1398_1437 := n26_
                 have NB1437_1398 := n27_
                 have NB1404_1437 := n28_
                 have NB1437_1404 := n29_
                 clear n0_ n1_ n2_ n3_ n4_ n5_ n6_ n7_ n8_ n9_ n10_ n11_ n12_ n13_ n14_ n15_ n16_ n17_ n18_ n19_ n20_ n21_ n22_ n23_ n24_ n25_ n26_ n27_ n28_ n29_
                 clear hb hbox hg
                 refine hK.out _ _ ⟨v1426, v1430, v1434, gb1437, m1_, m3_, m4_, m5_, m6_, (.pointer (some ⟨gb1437, 0, none⟩)), (by rw [ha.out]; exact putSel_upk 8 hb_ rfl rfl rfl), (by apply Sq.ra; exact HO1378.out), (by apply Sq.ra; exact HO1382.out), (by apply Sq.ra; exact HO1386.out), (by apply Sq.ra; exact HO1392.out), (by apply Sq.ra; exact HO1397.out), (by apply Sq.ra; exact HO1402.out), (by apply Sq.ra; exact HO1409.out), (by apply Sq.ra; exact HO1414.out), (by apply Sq.rb; exact BK1371.out), (by apply Sq.rb; exact BK1372.out), (by apply Sq.rb; exact BK1388.out), (by apply Sq.rb; exact BK1393.out), (by apply Sq.rb; exact BK1398.out), (by apply Sq.rb; exact BK1404.out), (by repeat (first | (with_reducible first | exact HB.out | apply Sq.rc | refine below_set ?_ GE1371.out | refine below_set ?_ GE1372.out | refine below_set ?_ GE1388.out | refine below_set ?_ GE1393.out | refine below_set ?_ GE1398.out | refine below_set ?_ GE1404.out | refine below_set ?_ GE1437.out) | exact HB.out)), z_HO1427, z_HO1431, z_HO1435, fun _ _ => (by apply Sq.rb; exact BK1437.out), fun _ => GW1437.out, fun _ => GE1437.out, fun _ => NB1371_1437.out, fun _ => NB1437_1371.out, fun _ => NB1372_1437.out, fun _ => NB1437_1372.out, fun _ => NB1388_1437.out, fun _ => NB1437_1388.out, fun _ => NB1393_1437.out, fun _ => NB1437_1393.out, fun _ => NB1398_1437.out, fun _ => NB1437_1398.out, fun _ => NB1404_1437.out, fun _ => NB1437_1404.out, fun h0_ => absurd ((hoff 9 (by kernel_rfl)).symm.trans h0_) (by decide), Q_X1_, Q_X3_, Q_X4_, Q_X5_, Q_X6_, fun _ => rfl⟩
                refine steps_cons ?_ ?_
                ·rintro b a w' ⟨v1426, v1430, v1434, gb1437, m1_, m3_, m4_, m5_, m6_, m8_, ha, Q_HO1378, Q_HO1382, Q_HO1386, Q_HO1392, Q_HO1397, Q_HO1402, Q_HO1409, Q_HO1414, Q_BK1371, Q_BK1372, Q_BK1388, Q_BK1393, Q_BK1398, Q_BK1404, Q_HB, Q_HO1427, Q_HO1431, Q_HO1435, Q_BK1437, Q_GW1437, Q_GE1437, Q_NB1371_1437, Q_NB1437_1371, Q_NB1372_1437, Q_NB1437_1372, Q_NB1388_1437, Q_NB1437_1388, Q_NB1393_1437, Q_NB1437_1393, Q_NB1398_1437, Q_NB1437_1398, Q_NB1404_1437, Q_NB1437_1404, Q_BK1437_e9, Q_X1_, Q_X3_, Q_X4_, Q_X5_, Q_X6_, Q_X8_⟩ hb_ hon hoff
                 refine ⟨_, rfl, fun K hK => ?_⟩
                 have e15 : a.tmps[15]? = some (m8_) := by rw [ha]; exact putSel_on (e := (8, 15, m8_)) 8 rfl rfl (hon 8 (by kernel_rfl)) rfl
                 rw [Q_X8_ (hon 8 (by kernel_rfl))] at e15
                 have e100 : a.tmps[100]? = some (m6_) := by rw [ha]; exact putSel_on (e := (6, 100, m6_)) 6 rfl rfl (hon 6 (by kernel_rfl)) rfl
                 rw [Q_X6_ (hon 6 (by kernel_rfl))] at e100
                 replace ha := Aside0.mk ha
                 have HO1378 := Aside0.mk Q_HO1378
                 have HO1382 := Aside0.mk Q_HO1382
                 have HO1386 := Aside0.mk Q_HO1386
                 have HO1392 := Aside0.mk Q_HO1392
                 have HO1397 := Aside0.mk Q_HO1397
                 have HO1402 := Aside0.mk Q_HO1402
                 have HO1409 := Aside0.mk Q_HO1409
                 have HO1414 := Aside0.mk Q_HO1414
                 have BK1371 := Aside0.mk Q_BK1371
                 have BK1372 := Aside0.mk Q_BK1372
                 have BK1388 := Aside0.mk Q_BK1388
                 have BK1393 := Aside0.mk Q_BK1393
                 have BK1398 := Aside0.mk Q_BK1398
                 have BK1404 := Aside0.mk Q_BK1404
                 have HB := Aside0.mk Q_HB
                 have HO1427 := Sq.m (Q_HO1427 (hon 1 (by kernel_rfl)))
                 have HO1431 := Sq.m (Q_HO1431 (hon 3 (by kernel_rfl)))
                 have HO1435 := Sq.m (Q_HO1435 (hon 4 (by kernel_rfl)))
                 have BK1437 := Sq.m (Q_BK1437 (hon 8 (by kernel_rfl)) hb_)
                 have GW1437 := Sq.m (Q_GW1437 (hon 8 (by kernel_rfl)))
                 have GE1437 := Sq.m (Q_GE1437 (hon 8 (by kernel_rfl)))
                 have NB1371_1437 := Sq.m (Q_NB1371_1437 (hon 8 (by kernel_rfl)))
                 have NB1437_1371 := Sq.m (Q_NB1437_1371 (hon 8 (by kernel_rfl)))
                 have NB1372_1437 := Sq.m (Q_NB1372_1437 (hon 8 (by kernel_rfl)))
                 have NB1437_1372 := Sq.m (Q_NB1437_1372 (hon 8 (by kernel_rfl)))
                 have NB1388_1437 := Sq.m (Q_NB1388_1437 (hon 8 (by kernel_rfl)))
                 have NB1437_1388 := Sq.m (Q_NB1437_1388 (hon 8 (by kernel_rfl)))
                 have NB1393_1437 := Sq.m (Q_NB1393_1437 (hon 8 (by kernel_rfl)))
                 have NB1437_1393 := Sq.m (Q_NB1437_1393 (hon 8 (by kernel_rfl)))
                 have NB1398_1437 := Sq.m (Q_NB1398_1437 (hon 8 (by kernel_rfl)))
                 have NB1437_1398 := Sq.m (Q_NB1437_1398 (hon 8 (by kernel_rfl)))
                 have NB1404_1437 := Sq.m (Q_NB1404_1437 (hon 8 (by kernel_rfl)))
                 have NB1437_1404 := Sq.m (Q_NB1437_1404 (hon 8 (by kernel_rfl)))
                 obtain ⟨Ao130, co130, eo130⟩ := Kd.R_slice HO1435.out
                 (first | subst eo130 | (injection eo130 with f1_ f2_ f3_; have f4_ := f1_.symm; have f5_ := f3_.symm; clear f1_ f2_ f3_; subst f4_; subst f5_))
                 have hs129 : w'.cell? ⟨gb1437, 0, none⟩ = some (.bool false) := (blk_cell BK1437.out 0).trans rfl
                 have hfs129 := blk_frozen BK1437.out 0
                 have hns129_0 := NB1371_1437.out
                 have hns129_1 := NB1372_1437.out
                 have hns129_2 := NB1388_1437.out
                 have hns129_3 := NB1393_1437.out
                 have hns129_4 := NB1398_1437.out
                 have hns129_5 := NB1404_1437.out
                 have hms129_0 := NB1437_1371.out
                 have hms129_1 := NB1437_1372.out
                 have hms129_2 := NB1437_1388.out
                 have hms129_3 := NB1437_1393.out
                 have hms129_4 := NB1437_1398.out
                 have hms129_5 := NB1437_1404.out
                 have hs131 : w'.cell? ⟨gb1437, 1, none⟩ = some (.slice none 0 0) := (blk_cell BK1437.out 1).trans rfl
                 have hfs131 := blk_frozen BK1437.out 1
                 have hns131_0 := NB1371_1437.out
                 have hns131_1 := NB1372_1437.out
                 have hns131_2 := NB1388_1437.out
                 have hns131_3 := NB1393_1437.out
                 have hns131_4 := NB1398_1437.out
                 have hns131_5 := NB1404_1437.out
                 have hms131_0 := NB1437_1371.out
                 have hms131_1 := NB1437_1372.out
                 have hms131_2 := NB1437_1388.out
                 have hms131_3 := NB1437_1393.out
                 have hms131_4 := NB1437_1398.out
                 have hms131_5 := NB1437_1404.out
                 refine skip_ (w1 := ?_) (by rfl) rfl ?_ ?_
                 rotate_left
                 ·go_simp
                  rfl
                 refine hK.out _ _ ⟨v1426, v1430, .slice Ao130 t1433.length co130, gb1437, m1_, m3_, m4_, m5_, m6_, m8_, (by rw [ha.out]; exact putSel_none (v := undef) rfl), (by apply Sq.ra; exact Kd.R_mono (Kd.R_far (p := ⟨gb1437, 1, none⟩) (Kd.R_far (p := ⟨gb1437, 0, none⟩) (Kd.R_types HO1378.out BK1437.out (by decide)) (fun _ hk => hk.2) (.bool t1432)) (fun _ hk => hk.2) (.slice Ao130 t1433.length co130)) (fun _ hk => ⟨hk.1.1, ⟨hk.1.2.1, ⟨hk.1.2.2.1, ⟨hk.1.2.2.2.1, hk.1.2.2.2.2⟩⟩⟩⟩)), (by apply Sq.ra; exact Kd.R_mono (Kd.R_far (p := ⟨gb1437, 1, none⟩) (Kd.R_far (p := ⟨gb1437, 0, none⟩) (Kd.R_types HO1382.out BK1437.out (by decide)) (fun _ hk => hk.2) (.bool t1432)) (fun _ hk => hk.2) (.slice Ao130 t1433.length co130)) (fun _ hk => ⟨hk.1.1, ⟨hk.1.2.1, ⟨hk.1.2.2.1, ⟨hk.1.2.2.2.1, hk.1.2.2.2.2⟩⟩⟩⟩)), (by apply Sq.ra; exact Kd.R_mono (Kd.R_far (p := ⟨gb1437, 1, none⟩) (Kd.R_far (p := ⟨gb1437, 0, none⟩) (Kd.R_types HO1386.out BK1437.out (by decide)) (fun _ hk => hk.2) (.bool t1432)) (fun _ hk => hk.2) (.slice Ao130 t1433.length co130)) (fun _ hk => ⟨hk.1.1, ⟨hk.1.2.1, ⟨hk.1.2.2.1, ⟨hk.1.2.2.2.1, hk.1.2.2.2.2⟩⟩⟩⟩)), (by apply Sq.ra; exact Kd.R_mono (Kd.R_far (p := ⟨gb1437, 1, none⟩) (Kd.R_far (p := ⟨gb1437, 0, none⟩) (Kd.R_types HO1392.out BK1437.out (by decide)) (fun _ hk => hk.2) (.bool t1432)) (fun _ hk => hk.2) (.slice Ao130 t1433.length co130)) (fun _ hk => ⟨hk.1.1, ⟨hk.1.2.1, ⟨hk.1.2.2.1, ⟨hk.1.2.2.2.1, ⟨hk.1.2.2.2.2.1, ⟨hk.1.2.2.2.2.2.1, hk.1.2.2.2.2.2.2⟩⟩⟩⟩⟩⟩)), (by apply Sq.ra; exact Kd.R_mono (Kd.R_far (p := ⟨gb1437, 1, none⟩) (Kd.R_far (p := ⟨gb1437, 0, none⟩) (Kd.R_types HO1397.out BK1437.out (by decide)) (fun _ hk => hk.2) (.bool t1432)) (fun _ hk => hk.2) (.slice Ao130 t1433.length co130)) (fun _ hk => ⟨hk.1.1, ⟨hk.1.2.1, ⟨hk.1.2.2.1, ⟨hk.1.2.2.2.1, ⟨hk.1.2.2.2.2.1, ⟨hk.1.2.2.2.2.2.1, hk.1.2.2.2.2.2.2⟩⟩⟩⟩⟩⟩)), (by apply Sq.ra; exact Kd.R_mono (Kd.R_far (p := ⟨gb1437, 1, none⟩) (Kd.R_far (p := ⟨gb1437, 0, none⟩) (Kd.R_types HO1402.out BK1437.out (by decide)) (fun _ hk => hk.2) (.bool t1432)) (fun _ hk => hk.2) (.slice Ao130 t1433.length co130)) (fun _ hk => ⟨hk.1.1, ⟨hk.1.2.1, ⟨hk.1.2.2.1, ⟨hk.1.2.2.2.1, ⟨hk.1.2.2.2.2.1, ⟨hk.1.2.2.2.2.2.1, hk.1.2.2.2.2.2.2⟩⟩⟩⟩⟩⟩)), (by apply Sq.ra; exact Kd.R_mono (Kd.R_far (p := ⟨gb1437, 1, none⟩) (Kd.R_far (p := ⟨gb1437, 0, none⟩) (Kd.R_types HO1409.out BK1437.out (by decide)) (fun _ hk => hk.2) (.bool t1432)) (fun _ hk => hk.2) (.slice Ao130 t1433.length co130)) (fun _ hk => ⟨hk.1.1, ⟨hk.1.2.1, ⟨hk.1.2.2.1, ⟨hk.1.2.2.2.1, ⟨hk.1.2.2.2.2.1, ⟨hk.1.2.2.2.2.2.1, hk.1.2.2.2.2.2.2⟩⟩⟩⟩⟩⟩)), (by apply Sq.ra; exact Kd.R_mono (Kd.R_far (p := ⟨gb1437, 1, none⟩) (Kd.R_far (p := ⟨gb1437, 0, none⟩) (Kd.R_types HO1414.out BK1437.out (by decide)) (fun _ hk => hk.2) (.bool t1432)) (fun _ hk => hk.2) (.slice Ao130 t1433.length co130)) (fun _ hk => ⟨hk.1.1, ⟨hk.1.2.1, ⟨hk.1.2.2.1, ⟨hk.1.2.2.2.1, ⟨hk.1.2.2.2.2.1, ⟨hk.1.2.2.2.2.2.1, hk.1.2.2.2.2.2.2⟩⟩⟩⟩⟩⟩)), (by apply Sq.rb; refine blk_far ?_ NB1371_1437.out _; apply Sq.rb; refine blk_far ?_ NB1371_1437.out _; apply Sq.rb; exact BK1371.out), (by apply Sq.rb; refine blk_far ?_ NB1372_1437.out _; apply Sq.rb; refine blk_far ?_ NB1372_1437.out _; apply Sq.rb; exact BK1372.out), (by apply Sq.rb; refine blk_far ?_ NB1388_1437.out _; apply Sq.rb; refine blk_far ?_ NB1388_1437.out _; apply Sq.rb; exact BK1388.out), (by apply Sq.rb; refine blk_far ?_ NB1393_1437.out _; apply Sq.rb; refine blk_far ?_ NB1393_1437.out _; apply Sq.rb; exact BK1393.out), (by apply Sq.rb; refine blk_far ?_ NB1398_1437.out _; apply Sq.rb; refine blk_far ?_ NB1398_1437.out _; apply Sq.rb; exact BK1398.out), (by apply Sq.rb; refine blk_far ?_ NB1404_1437.out _; apply Sq.rb; refine blk_far ?_ NB1404_1437.out _; apply Sq.rb; exact BK1404.out), (by repeat (first | (with_reducible first | exact HB.out | apply Sq.rc | refine below_set ?_ GE1371.out | refine below_set ?_ GE1372.out | refine below_set ?_ GE1388.out | refine below_set ?_ GE1393.out | refine below_set ?_ GE1398.out | refine below_set ?_ GE1404.out | refine below_set ?_ GE1437.out) | exact HB.out)), fun _ => (by apply Sq.ra; exact Kd.R_mono (Kd.R_far (p := ⟨gb1437, 1, none⟩) (Kd.R_far (p := ⟨gb1437, 0, none⟩) (Kd.R_types HO1427.out BK1437.out (by decide)) (fun _ hk => hk.2) (.bool t1432)) (fun _ hk => hk.2) (.slice Ao130 t1433.length co130)) (fun _ hk => ⟨hk.1.1, ⟨hk.1.2.1, ⟨hk.1.2.2.1, ⟨hk.1.2.2.2.1, ⟨hk.1.2.2.2.2.1, ⟨hk.1.2.2.2.2.2.1, ⟨hk.1.2.2.2.2.2.2.1, hk.1.2.2.2.2.2.2.2⟩⟩⟩⟩⟩⟩⟩)), fun _ => (by apply Sq.ra; exact Kd.R_mono (Kd.R_far (p := ⟨gb1437, 1, none⟩) (Kd.R_far (p := ⟨gb1437, 0, none⟩) (Kd.R_types HO1431.out BK1437.out (by decide)) (fun _ hk => hk.2) (.bool t1432)) (fun _ hk => hk.2) (.slice Ao130 t1433.length co130)) (fun _ hk => ⟨hk.1.1, ⟨hk.1.2.1, ⟨hk.1.2.2.1, ⟨hk.1.2.2.2.1, ⟨hk.1.2.2.2.2.1, ⟨hk.1.2.2.2.2.2.1, ⟨hk.1.2.2.2.2.2.2.1, hk.1.2.2.2.2.2.2.2⟩⟩⟩⟩⟩⟩⟩)), fun _ => (by apply Sq.ra; exact Kd.R_mono (Kd.R_far (p := ⟨gb1437, 1, none⟩) (Kd.R_far (p := ⟨gb1437, 0, none⟩) (Kd.R_types HO1435.out BK1437.out (by decide)) (fun _ hk => hk.2) (.bool t1432)) (fun _ hk => hk.2) (.slice Ao130 t1433.length co130)) (fun _ hk => ⟨hk.1.1, ⟨hk.1.2.1, ⟨hk.1.2.2.1, ⟨hk.1.2.2.2.1, ⟨hk.1.2.2.2.2.1, ⟨hk.1.2.2.2.2.2.1, ⟨hk.1.2.2.2.2.2.2.1, hk.1.2.2.2.2.2.2.2⟩⟩⟩⟩⟩⟩⟩)), fun _ h1_ => absurd ((up_self b 9).symm.trans h1_) (by decide), fun _ => GW1437.out, fun _ => GE1437.out, fun _ => NB1371_1437.out, fun _ => NB1437_1371.out, fun _ => NB1372_1437.out, fun _ => NB1437_1372.out, fun _ => NB1388_1437.out, fun _ => NB1437_1388.out, fun _ => NB1393_1437.out, fun _ => NB1437_1393.out, fun _ => NB1398_1437.out, fun _ => NB1437_1398.out, fun _ => NB1404_1437.out, fun _ => NB1437_1404.out, fun _ => (by apply Sq.rb; refine blk_put (cs := #[.bool t1432, .slice none 0 0]) ?_ 1 _ rfl; apply Sq.rb; refine blk_put (cs := #[.bool false, .slice none 0 0]) ?_ 0 _ rfl; apply Sq.rb; exact BK1437.out), Q_X1_, Q_X3_, Q_X4_, Q_X5_, Q_X6_, Q_X8_⟩
                refine steps_cons ?_ ?_
                ·rintro b a w' ⟨v1426, v1430, v1434, gb1437, m1_, m3_, m4_, m5_, m6_, m8_, ha, Q_HO1378, Q_HO1382, Q_HO1386, Q_HO1392, Q_HO1397, Q_HO1402, Q_HO1409, Q_HO1414, Q_BK1371, Q_BK1372, Q_BK1388, Q_BK1393, Q_BK1398, Q_BK1404, Q_HB, Q_HO1427, Q_HO1431, Q_HO1435, Q_BK1437, Q_GW1437, Q_GE1437, Q_NB1371_1437, Q_NB1437_1371, Q_NB1372_1437, Q_NB1437_1372, Q_NB1388_1437, Q_NB1437_1388, Q_NB1393_1437, Q_NB1437_1393, Q_NB1398_1437, Q_NB1437_1398, Q_NB1404_1437, Q_NB1437_1404, Q_BK1437_e9, Q_X1_, Q_X3_, Q_X4_, Q_X5_, Q_X6_, Q_X8_⟩ hb_ hon hoff
                 refine ⟨_, rfl, fun K hK => ?_⟩
                 have e101 : a.tmps[101]? = some (.bool t1436) := by rw [ha]; exact putSel_on (e := (7, 101, .bool t1436)) 7 rfl rfl (hon 7 (by kernel_rfl)) rfl
                 replace ha := Aside0.mk ha
                 have HO1378 := Aside0.mk Q_HO1378
                 have HO1382 := Aside0.mk Q_HO1382
                 have HO1386 := Aside0.mk Q_HO1386
                 have HO1392 := Aside0.mk Q_HO1392
                 have HO1397 := Aside0.mk Q_HO1397
                 have HO1402 := Aside0.mk Q_HO1402
                 have HO1409 := Aside0.mk Q_HO1409
                 have HO1414 := Aside0.mk Q_HO1414
                 have BK1371 := Aside0.mk Q_BK1371
                 have BK1372 := Aside0.mk Q_BK1372
                 have BK1388 := Aside0.mk Q_BK1388
                 have BK1393 := Aside0.mk Q_BK1393
                 have BK1398 := Aside0.mk Q_BK1398
                 have BK1404 := Aside0.mk Q_BK1404
                 have HB := Aside0.mk Q_HB
                 have HO1427 := Sq.m (Q_HO1427 (hon 1 (by kernel_rfl)))
                 have HO1431 := Sq.m (Q_HO1431 (hon 3 (by kernel_rfl)))
                 have HO1435 := Sq.m (Q_HO1435 (hon 4 (by kernel_rfl)))
                 have GW1437 := Sq.m (Q_GW1437 (hon 8 (by kernel_rfl)))
                 have GE1437 := Sq.m (Q_GE1437 (hon 8 (by kernel_rfl)))
                 have NB1371_1437 := Sq.m (Q_NB1371_1437 (hon 8 (by kernel_rfl)))
                 have NB1437_1371 := Sq.m (Q_NB1437_1371 (hon 8 (by kernel_rfl)))
                 have NB1372_1437 := Sq.m (Q_NB1372_1437 (hon 8 (by kernel_rfl)))
                 have NB1437_1372 := Sq.m (Q_NB1437_1372 (hon 8 (by kernel_rfl)))
                 have NB1388_1437 := Sq.m (Q_NB1388_1437 (hon 8 (by kernel_rfl)))
                 have NB1437_1388 := Sq.m (Q_NB1437_1388 (hon 8 (by kernel_rfl)))
                 have NB1393_1437 := Sq.m (Q_NB1393_1437 (hon 8 (by kernel_rfl)))
                 have NB1437_1393 := Sq.m (Q_NB1437_1393 (hon 8 (by kernel_rfl)))
                 have NB1398_1437 := Sq.m (Q_NB1398_1437 (hon 8 (by kernel_rfl)))
                 have NB1437_1398 := Sq.m (Q_NB1437_1398 (hon 8 (by kernel_rfl)))
                 have NB1404_1437 := Sq.m (Q_NB1404_1437 (hon 8 (by kernel_rfl)))
                 have NB1437_1404 := Sq.m (Q_NB1437_1404 (hon 8 (by kernel_rfl)))
                 have BK1437 := Sq.m (Q_BK1437_e9 (hon 9 (by kernel_rfl)))
                 refine value_ (w1 := w') (v := .bool t1436) (by rfl) rfl ?_ ?_
                 ·go_simp
                  (try simp only [i64_w])
                  try rfl
                 refine hK.out _ _ ⟨v1426, v1430, v1434, gb1437, m1_, m3_, m4_, m5_, m6_, m8_, (by rw [ha.out]; exact putSel_upk 9 hb_ rfl rfl rfl), Q_HO1378, Q_HO1382, Q_HO1386, Q_HO1392, Q_HO1397, Q_HO1402, Q_HO1409, Q_HO1414, Q_BK1371, Q_BK1372, Q_BK1388, Q_BK1393, Q_BK1398, Q_BK1404, Q_HB, Q_HO1427, Q_HO1431, Q_HO1435, fun _ h1_ => absurd ((hon 9 (by kernel_rfl)).symm.trans h1_) (by decide), Q_GW1437, Q_GE1437, Q_NB1371_1437, Q_NB1437_1371, Q_NB1372_1437, Q_NB1437_1372, Q_NB1388_1437, Q_NB1437_1388, Q_NB1393_1437, Q_NB1437_1393, Q_NB1398_1437, Q_NB1437_1398, Q_NB1404_1437, Q_NB1437_1404, Q_BK1437_e9, Q_X1_, Q_X3_, Q_X4_, Q_X5_, Q_X6_, Q_X8_⟩
                exact steps_nil
               rintro b a w131 hall ⟨v1426, v1430, v1434, gb1437, m1_, m3_, m4_, m5_, m6_, m8_, ha, Q_HO1378, Q_HO1382, Q_HO1386, Q_HO1392, Q_HO1397, Q_HO1402, Q_HO1409, Q_HO1414, Q_BK1371, Q_BK1372, Q_BK1388, Q_BK1393, Q_BK1398, Q_BK1404, Q_HB, Q_HO1427, Q_HO1431, Q_HO1435, Q_BK1437, Q_GW1437, Q_GE1437, Q_NB1371_1437, Q_NB1437_1371, Q_NB1372_1437, Q_NB1437_1372, Q_NB1388_1437, Q_NB1437_1388, Q_NB1393_1437, Q_NB1437_1393, Q_NB1398_1437, Q_NB1437_1398, Q_NB1404_1437, Q_NB1437_1404, Q_BK1437_e9, Q_X1_, Q_X3_, Q_X4_, Q_X5_, Q_X6_, Q_X8_⟩
               clear BK1371 BK1372 BK1388 BK1393 BK1398 BK1404 HB HO1378 HO1382 HO1386 HO1392 HO1397 HO1402 HO1409 HO1414
               have hb0_ := hall 0 (by kernel_rfl)
               have hb1_ := hall 1 (by kernel_rfl)
               have hb2_ := hall 2 (by kernel_rfl)
               have hb3_ := hall 3 (by kernel_rfl)
               have hb4_ := hall 4 (by kernel_rfl)
               have hb5_ := hall 5 (by kernel_rfl)
               have hb6_ := hall 6 (by kernel_rfl)
               have hb7_ := hall 7 (by kernel_rfl)
               have hb8_ := hall 8 (by kernel_rfl)
               have hb9_ := hall 9 (by kernel_rfl)
               have hb10_ := hall 10 (by kernel_rfl)
               subst ha
               obtain rfl := Q_X1_ hb1_
               obtain rfl := Q_X3_ hb3_
               obtain rfl := Q_X4_ hb4_
               obtain rfl := Q_X5_ hb5_
               obtain rfl := Q_X6_ hb6_
               obtain rfl := Q_X8_ hb8_
               simp only [putSel, hb0_, hb1_, hb2_, hb3_, hb4_, hb5_, hb6_, hb7_, hb8_, hb9_, hb10_, if_true, Act.put, List.setIfInBounds_toArray, List.set_cons_zero, List.set_cons_succ]
               have HO1378 := Aside0.mk Q_HO1378
               clear Q_HO1378
               have HO1382 := Aside0.mk Q_HO1382
               clear Q_HO1382
               have HO1386 := Aside0.mk Q_HO1386
               clear Q_HO1386
               have HO1392 := Aside0.mk Q_HO1392
               clear Q_HO1392
               have HO1397 := Aside0.mk Q_HO1397
               clear Q_HO1397
               have HO1402 := Aside0.mk Q_HO1402
               clear Q_HO1402
               have HO1409 := Aside0.mk Q_HO1409
               clear Q_HO1409
               have HO1414 := Aside0.mk Q_HO1414
               clear Q_HO1414
               have BK1371 := Aside0.mk Q_BK1371
               clear Q_BK1371
               have BK1372 := Aside0.mk Q_BK1372
               clear Q_BK1372
               have BK1388 := Aside0.mk Q_BK1388
               clear Q_BK1388
               have BK1393 := Aside0.mk Q_BK1393
               clear Q_BK1393
               have BK1398 := Aside0.mk Q_BK1398
               clear Q_BK1398
               have BK1404 := Aside0.mk Q_BK1404
               clear Q_BK1404
               have HB := Aside0.mk Q_HB
               clear Q_HB
               have HO1427 := Sq.m (Q_HO1427 hb1_)
               clear Q_HO1427
               have HO1431 := Sq.m (Q_HO1431 hb3_)
               clear Q_HO1431
               have HO1435 := Sq.m (Q_HO1435 hb4_)
               clear Q_HO1435
               clear Q_BK1437
               have GW1437 := Sq.m (Q_GW1437 hb8_)
               clear Q_GW1437
               have GE1437 := Sq.m (Q_GE1437 hb8_)
               clear Q_GE1437
               have NB1371_1437 := Sq.m (Q_NB1371_1437 hb8_)
               clear Q_NB1371_1437
               have NB1437_1371 := Sq.m (Q_NB1437_1371 hb8_)
               clear Q_NB1437_1371
               have NB1372_1437 := Sq.m (Q_NB1372_1437 hb8_)
               clear Q_NB1372_1437
               have NB1437_1372 := Sq.m (Q_NB1437_1372 hb8_)
               clear Q_NB1437_1372
               have NB1388_1437 := Sq.m (Q_NB1388_1437 hb8_)
               clear Q_NB1388_1437
               have NB1437_1388 := Sq.m (Q_NB1437_1388 hb8_)
               clear Q_NB1437_1388
               have NB1393_1437 := Sq.m (Q_NB1393_1437 hb8_)
               clear Q_NB1393_1437
               have NB1437_1393 := Sq.m (Q_NB1437_1393 hb8_)
               clear Q_NB1437_1393
               have NB1398_1437 := Sq.m (Q_NB1398_1437 hb8_)
               clear Q_NB1398_1437
               have NB1437_1398 := Sq.m (Q_NB1437_1398 hb8_)
               clear Q_NB1437_1398
               have NB1404_1437 := Sq.m (Q_NB1404_1437 hb8_)
               clear Q_NB1404_1437
               have NB1437_1404 := Sq.m (Q_NB1437_1404 hb8_)
               clear Q_NB1437_1404
               have BK1437 := Sq.m (Q_BK1437_e9 hb9_)
               clear Q_BK1437_e9
               clear hall hb0_ hb1_ hb2_ hb3_ hb4_ hb5_ hb6_ hb7_ hb8_ hb9_ hb10_
               have hnb132 := NB1437_1371.out
               have hnc132 := NB1371_1437.out
               have hnb133 := NB1437_1372.out
               have hnc133 := NB1372_1437.out
               have hnb134 := NB1437_1388.out
               have hnc134 := NB1388_1437.out
               have hnb135 := NB1437_1393.out
               have hnc135 := NB1393_1437.out
               have hnb136 := NB1437_1398.out
               have hnc136 := NB1398_1437.out
               have hnb137 := NB1437_1404.out
               have hnc137 := NB1404_1437.out
               have hcz138_0 : w131.cell? ⟨gb1437, 0, none⟩ = some (.bool t1432) := (blk_cell BK1437.out 0).trans rfl
               have hcz138_1 : w131.cell? ⟨gb1437, 1, none⟩ = some (v1434) := (blk_cell BK1437.out 1).trans rfl
               have hfz138_0 := blk_frozen BK1437.out 0
               have hfz138_1 := blk_frozen BK1437.out 1
               have hcz139_0 : w131.cell? ⟨gb1388, 0, none⟩ = some (.bool t1383) := (blk_cell BK1388.out 0).trans rfl
               have hcz139_1 : w131.cell? ⟨gb1388, 1, none⟩ = some (.slice Ao100 t1384.length co100) := (blk_cell BK1388.out 1).trans rfl
               have hfz139_0 := blk_frozen BK1388.out 0
               have hfz139_1 := blk_frozen BK1388.out 1
               obtain ⟨Ao140, co140, eo140⟩ := Kd.R_slice HO1435.out
               subst eo140
               try go_wp2_with (first | ((with_reducible refine gate_callee (f := 54) rfl ?_); refine goesL_ (some 104) rfl rfl Try.func54 (by kernel_rfl) rfl #[.agg #[.bool t1432, .slice Ao140 t1433.length co140], .agg #[.bool t1383, .slice Ao100 t1384.length co100]] rfl (by (try simp only [List.map_toArray, List.map_cons, List.map_nil]); first | done | rfl | (simp only [List.length_drop, List.length_take]; rfl) | (simp only [i64_w, u8_w, w64_b]; rfl)) ?_; (with_reducible refine (laws_eqWhole.calls k t1432 _ _ t1433 t1383 _ _ t1384 true _ ?side1 ?side2 ?side3 ?side4 A46.out).mono ?_); (case side1 => repeat (first | exact (Kd.R_reads' HO1435.out).2.2 | (with_reducible refine Kd.C_alloc ?_ _) | (with_reducible refine Kd.C_drewN ?_ _) | (with_reducible refine Kd.C_drew ?_))); (case side2 => exact (Kd.R_reads' HO1435.out).2.1); (case side3 => repeat (first | exact (Kd.R_reads' HO1386.out).2.2 | (with_reducible refine Kd.C_alloc ?_ _) | (with_reducible refine Kd.C_drewN ?_ _) | (with_reducible refine Kd.C_drew ?_))); (case side4 => exact (Kd.R_reads' HO1386.out).2.1); rintro e w141 ⟨rfl, hb⟩; refine ⟨_, rfl, ?_⟩; have n0_ := Sq.m (Kd.R_below (by apply Sq.ra; exact HO1378.out) hb); have n1_ := Sq.m (Kd.R_below (by apply Sq.ra; exact HO1382.out) hb); have n2_ := Sq.m (Kd.R_below (by apply Sq.ra; exact HO1386.out) hb); have n3_ := Sq.m (Kd.R_below (by apply Sq.ra; exact HO1392.out) hb); have n4_ := Sq.m (Kd.R_below (by apply Sq.ra; exact HO1397.out) hb); have n5_ := Sq.m (Kd.R_below (by apply Sq.ra; exact HO1402.out) hb); have n6_ := Sq.m (Kd.R_below (by apply Sq.ra; exact HO1409.out) hb); have n7_ := Sq.m (Kd.R_below (by apply Sq.ra; exact HO1414.out) hb); have n8_ := Sq.m (Kd.R_below (by apply Sq.ra; exact HO1427.out) hb); have n9_ := Sq.m (Kd.R_below (by apply Sq.ra; exact HO1431.out) hb); have n10_ := Sq.m (Kd.R_below (by apply Sq.ra; exact HO1435.out) hb); have n11_ := Sq.m (blk_below (g := gb1371) (o := .cells #[.bool a0_0, .slice A0_1 l0_1.length c0_1] 56 (0, 0)) (by apply Sq.rb; exact BK1371.out) hb); have n12_ := Sq.m (blk_below (g := gb1372) (o := .cells #[.bool a1_0, .slice A1_1 l1_1.length c1_1] 56 (0, 0)) (by apply Sq.rb; exact BK1372.out) hb); have n13_ := Sq.m (blk_below (g := gb1388) (o := .cells #[.bool t1383, .slice Ao100 t1384.length co100] 59 (0, 0)) (by apply Sq.rb; exact BK1388.out) hb); have n14_ := Sq.m (blk_below (g := gb1393) (o := .cells #[.bool t1389, .slice Ao78 t1390.length co78] 59 (0, 0)) (by apply Sq.rb; exact BK1393.out) hb); have n15_ := Sq.m (blk_below (g := gb1398) (o := .cells #[.bool t1394, .slice Ao88 t1395.length co88] 59 (0, 0)) (by apply Sq.rb; exact BK1398.out) hb); have n16_ := Sq.m (blk_below (g := gb1404) (o := .cells #[.bool t1399, .slice Ao98 t1400.length co98] 59 (0, 0)) (by apply Sq.rb; exact BK1404.out) hb); have n17_ := Sq.m (blk_below (g := gb1437) (o := .cells #[.bool t1432, .slice Ao140 t1433.length co140] 59 (0, 0)) (by apply Sq.rb; exact BK1437.out) hb); have n18_ := Sq.m (below_step (by repeat (first | (with_reducible first | exact HB.out | apply Sq.rc | refine below_set ?_ GE1371.out | refine below_set ?_ GE1372.out | refine below_set ?_ GE1388.out | refine below_set ?_ GE1393.out | refine below_set ?_ GE1398.out | refine below_set ?_ GE1404.out | refine below_set ?_ GE1437.out) | exact HB.out)) hb); clear HO1378; clear HO1382; clear HO1386; clear HO1392; clear HO1397; clear HO1402; clear HO1409; clear HO1414; clear HO1427; clear HO1431; clear HO1435; clear BK1371; clear BK1372; clear BK1388; clear BK1393; clear BK1398; clear BK1404; clear BK1437; clear HB; have HO1378 := n0_; have HO1382 := n1_; have HO1386 := n2_; have HO1392 := n3_; have HO1397 := n4_; have HO1402 := n5_; have HO1409 := n6_; have HO1414 := n7_; have HO1427 := n8_; have HO1431 := n9_; have HO1435 := n10_; have BK1371 := n11_; have BK1372 := n12_; have BK1388 := n13_; have BK1393 := n14_; have BK1398 := n15_; have BK1404 := n16_; have BK1437 := n17_; have HB := n18_; clear n0_ n1_ n2_ n3_ n4_ n5_ n6_ n7_ n8_ n9_ n10_ n11_ n12_ n13_ n14_ n15_ n16_ n17_ n18_; (try clear hb); (try clear hb2); (try clear hk); (try clear hi); have hcz142_0 : w141.cell? ⟨gb1404, 0, none⟩ = some (.bool t1399) := (blk_cell BK1404.out 0).trans rfl; have hcz142_1 : w141.cell? ⟨gb1404, 1, none⟩ = some (.slice Ao98 t1400.length co98) := (blk_cell BK1404.out 1).trans rfl; have hfz142_0 := blk_frozen BK1404.out 0; have hfz142_1 := blk_frozen BK1404.out 1) | ((with_reducible refine gate_callee (f := 56) rfl ?_); refine goesL_ (some 113) rfl rfl Try.func56 (by kernel_rfl) rfl #[.agg #[.bool t1399, .slice Ao98 t1422.length co98], .int .i64 1] rfl (by (try simp only [List.map_toArray, List.map_cons, List.map_nil]); first | done | (rw [show t1422.length = t1400.length from (Kd.R_reads' HO1402.out).1.symm] <;> rfl) | rfl | (simp only [List.length_drop, List.length_take]; rfl) | (simp only [i64_w, u8_w, w64_b]; rfl)) ?_; (with_reducible refine (laws_heldWhole.calls k t1399 _ _ t1422 1 t1439 _ ?side1 ?side2 A49.out).mono ?_); (case side1 => repeat (first | exact (Kd.R_reads' HO1402.out).2.2 | (with_reducible refine Kd.C_alloc ?_ _) | (with_reducible refine Kd.C_drewN ?_ _) | (with_reducible refine Kd.C_drew ?_))); (case side2 => rw [show t1422.length = t1400.length from (Kd.R_reads' HO1402.out).1.symm]; exact (Kd.R_reads' HO1402.out).2.1); rintro e w143 ⟨rfl, hb⟩; refine ⟨_, rfl, ?_⟩; have n0_ := Sq.m (Kd.R_below (by apply Sq.ra; exact HO1378.out) hb); have n1_ := Sq.m (Kd.R_below (by apply Sq.ra; exact HO1382.out) hb); have n2_ := Sq.m (Kd.R_below (by apply Sq.ra; exact HO1386.out) hb); have n3_ := Sq.m (Kd.R_below (by apply Sq.ra; exact HO1392.out) hb); have n4_ := Sq.m (Kd.R_below (by apply Sq.ra; exact HO1397.out) hb); have n5_ := Sq.m (Kd.R_below (by apply Sq.ra; exact HO1402.out) hb); have n6_ := Sq.m (Kd.R_below (by apply Sq.ra; exact HO1409.out) hb); have n7_ := Sq.m (Kd.R_below (by apply Sq.ra; exact HO1414.out) hb); have n8_ := Sq.m (Kd.R_below (by apply Sq.ra; exact HO1427.out) hb); have n9_ := Sq.m (Kd.R_below (by apply Sq.ra; exact HO1431.out) hb); have n10_ := Sq.m (Kd.R_below (by apply Sq.ra; exact HO1435.out) hb); have n11_ := Sq.m (blk_below (g := gb1371) (o := .cells #[.bool a0_0, .slice A0_1 l0_1.length c0_1] 56 (0, 0)) (by apply Sq.rb; exact BK1371.out) hb); have n12_ := Sq.m (blk_below (g := gb1372) (o := .cells #[.bool a1_0, .slice A1_1 l1_1.length c1_1] 56 (0, 0)) (by apply Sq.rb; exact BK1372.out) hb); have n13_ := Sq.m (blk_below (g := gb1388) (o := .cells #[.bool t1383, .slice Ao100 t1384.length co100] 59 (0, 0)) (by apply Sq.rb; exact BK1388.out) hb); have n14_ := Sq.m (blk_below (g := gb1393) (o := .cells #[.bool t1389, .slice Ao78 t1390.length co78] 59 (0, 0)) (by apply Sq.rb; exact BK1393.out) hb); have n15_ := Sq.m (blk_below (g := gb1398) (o := .cells #[.bool t1394, .slice Ao88 t1395.length co88] 59 (0, 0)) (by apply Sq.rb; exact BK1398.out) hb); have n16_ := Sq.m (blk_below (g := gb1404) (o := .cells #[.bool t1399, .slice Ao98 t1400.length co98] 59 (0, 0)) (by apply Sq.rb; exact BK1404.out) hb); have n17_ := Sq.m (blk_below (g := gb1437) (o := .cells #[.bool t1432, .slice Ao140 t1433.length co140] 59 (0, 0)) (by apply Sq.rb; exact BK1437.out) hb); have n18_ := Sq.m (below_step (by repeat (first | (with_reducible first | exact HB.out | apply Sq.rc | refine below_set ?_ GE1371.out | refine below_set ?_ GE1372.out | refine below_set ?_ GE1388.out | refine below_set ?_ GE1393.out | refine below_set ?_ GE1398.out | refine below_set ?_ GE1404.out | refine below_set ?_ GE1437.out) | exact HB.out)) hb); clear HO1378; clear HO1382; clear HO1386; clear HO1392; clear HO1397; clear HO1402; clear HO1409; clear HO1414; clear HO1427; clear HO1431; clear HO1435; clear BK1371; clear BK1372; clear BK1388; clear BK1393; clear BK1398; clear BK1404; clear BK1437; clear HB; have HO1378 := n0_; have HO1382 := n1_; have HO1386 := n2_; have HO1392 := n3_; have HO1397 := n4_; have HO1402 := n5_; have HO1409 := n6_; have HO1414 := n7_; have HO1427 := n8_; have HO1431 := n9_; have HO1435 := n10_; have BK1371 := n11_; have BK1372 := n12_; have BK1388 := n13_; have BK1393 := n14_; have BK1398 := n15_; have BK1404 := n16_; have BK1437 := n17_; have HB := n18_; clear n0_ n1_ n2_ n3_ n4_ n5_ n6_ n7_ n8_ n9_ n10_ n11_ n12_ n13_ n14_ n15_ n16_ n17_ n18_; (try clear hb); (try clear hb2); (try clear hk); (try clear hi)))
               go_ret
               exact ⟨by first | rfl | (simp [errW_none, errW_some] <;> rfl) | (simp [*, errW_none, errW_some] <;> rfl), by repeat (first | (with_reducible first | exact HB.out | apply Sq.rc | refine below_set ?_ GE1371.out | refine below_set ?_ GE1372.out | refine below_set ?_ GE1388.out | refine below_set ?_ GE1393.out | refine below_set ?_ GE1398.out | refine below_set ?_ GE1404.out | refine below_set ?_ GE1437.out) | exact HB.out)⟩
              ·rw [if_neg c51] at H
               exact absurd H (by simp)
           ·replace c47 := Bool.eq_false_iff.mpr c47
            subst c47
            have H1 : (none) = some r := by rw [if_neg (show ¬ (false = true) by decide)] at H; exact H
            clear H
            have H := H1
            clear H1
            exact absurd H (by simp)
          ·rw [if_neg c42] at H
           exact absurd H (by simp)
        ·replace c38 := Bool.eq_false_iff.mpr c38
         subst c38
         have H1 : (none) = some r := by rw [if_neg (show ¬ (false = true) by decide)] at H; exact H
         clear H
         have H := H1
         clear H1
         exact absurd H (by simp)
      ·replace c33 := Bool.eq_false_iff.mpr c33
       subst c33
       have H1 : (none) = some r := by rw [if_neg (show ¬ (false = true) by decide)] at H; exact H
       clear H
       have H := H1
       clear H1
       exact absurd H (by simp)
     ·replace c30 := Bool.eq_false_iff.mpr c30
      subst c30
      have H1 : (none) = some r := by rw [if_neg (show ¬ (false = true) by decide)] at H; exact H
      clear H
      have H := H1
      clear H1
      exact absurd H (by simp)
   ·replace c26 := Bool.eq_false_iff.mpr c26
    subst c26
    have H1 : (none) = some r := by rw [if_neg (show ¬ (false = true) by decide)] at H; exact H
    clear H
    have H := H1
    clear H1
    exact absurd H (by simp)

end Go.Proofs.Ytjepgnfgalnjhaa.Q
