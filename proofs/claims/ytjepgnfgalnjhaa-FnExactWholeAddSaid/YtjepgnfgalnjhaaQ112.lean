/- The machine side of Go functions, written by a program of this session over the print of the translation. No conditions. -/
import Derived.Test.YtjepgnfgalnjhaaSq
import Derived.Test.YtjepgnfgalnjhaaQ0
import Derived.Test.YtjepgnfgalnjhaaQ97
import Derived.Test.YtjepgnfgalnjhaaQ102
import Derived.Test.YtjepgnfgalnjhaaQ103
import Derived.Test.YtjepgnfgalnjhaaQ108
import Derived.Test.YtjepgnfgalnjhaaQ109
import Derived.Test.YtjepgnfgalnjhaaQ110
import Derived.Test.YtjepgnfgalnjhaaQ111
namespace Go.Proofs.Ytjepgnfgalnjhaa.Q
open Go.RowKit Go.Proofs.YtjepgnfgalnjhaaW.PrintWords Go.Proofs.YtjepgnfgalnjhaaW.PrintLast Go.Proofs.YtjepgnfgalnjhaaW.PrintMore
attribute [local go_sem] max2_int min2_int max_two min_two max_three min_three max_four min_four   -- for this text's walks alone
set_option linter.unusedVariables false
set_option linter.unusedSimpArgs false

/-! ### laws_FnExactWholeAdd: function 12 -/
def laws_FnExactWholeAdd.f (k : Nat) (a0_0 : Bool) (l0_1 : List Int) (a1_0 : Bool) (l1_1 : List Int) : Option (Bool) := (laws_szWhole.f a0_0 l0_1 1048576).bind fun t1267 => (if t1267 < 0 then (some true) else ((laws_szWhole.f a1_0 l1_1 t1267).bind fun t1268 => (if t1268 < 0 then (some true) else ((laws_toWhole.f k a0_0 l0_1).bind fun bt1269 => ((laws_toWhole.f k a1_0 l1_1).bind fun bt1273 => ((spec_WholeAdd.f k bt1269.1 bt1269.2 bt1273.1 bt1273.2).bind fun bt1277 => ((laws_toWhole.f k a0_0 l0_1).bind fun bt1283 => ((laws_toWhole.f k a1_0 l1_1).bind fun bt1288 => ((impl_WholeAdd.f k bt1283.1 bt1283.2 bt1288.1 bt1288.2).bind fun bt1293 => ((laws_eqWhole.f k bt1293.1 bt1293.2.1 bt1277.1 bt1277.2.1).bind fun t1299 => (if t1299 = true then (if (bt1293.2.2 != bt1277.2.2) = true then (none) else ((laws_toWhole.f k a0_0 l0_1).bind fun bt1300 => ((laws_eqWhole.f k bt1283.1 bt1283.2 bt1300.1 bt1300.2).bind fun t1304 => (if t1304 = true then ((laws_toWhole.f k a1_0 l1_1).bind fun bt1305 => ((laws_eqWhole.f k bt1288.1 bt1288.2 bt1305.1 bt1305.2).bind fun t1309 => (if t1309 = true then ((laws_markWhole.f k bt1283.1 bt1283.2 1).bind fun bt1310 => ((laws_markWhole.f k bt1288.1 bt1288.2 bt1310.1).bind fun bt1312 => (if bt1312.1 < 0 then (none) else ((laws_eqWhole.f k bt1293.1 bt1293.2.1 bt1277.1 bt1277.2.1).bind fun t1314 => (if t1314 = true then ((laws_markWhole.f k bt1293.1 bt1293.2.1 1).bind fun bt1315 => ((laws_heldWhole.f k bt1293.1 bt1315.2 1).bind fun t1317 => (if t1317 < 0 then (none) else (if t1317 = bt1315.1 then ((laws_toWhole.f k a0_0 l0_1).bind fun bt1318 => ((laws_toWhole.f k a1_0 l1_1).bind fun bt1322 => ((impl_WholeAdd.f k bt1318.1 bt1318.2 bt1322.1 bt1322.2).bind fun bt1326 => ((laws_eqWhole.f k bt1326.1 bt1326.2.1 bt1277.1 bt1277.2.1).bind fun t1332 => (if t1332 = true then (if (bt1326.2.2 != bt1277.2.2) = true then (none) else ((laws_heldWhole.f k bt1293.1 bt1315.2 1).bind fun t1333 => (if t1333 < 0 then (none) else (if t1333 = bt1315.1 then (some true) else (none))))) else (none)))))) else (none))))) else (none)))))) else (none)))) else (none))))) else (none))))))))))))
def laws_FnExactWholeAdd.T8 : Bool × List (List Nat × List Nat) := (true, [([], []), ([0], [0]), ([], []), ([2, 1], [2]), ([1, 3, 3], [1, 3]), ([4], [4]), ([5], [5]), ([5], [5]), ([], []), ([8, 6, 4, 0, 1, 2, 3, 4, 5, 6, 8], [6, 8]), ([7, 9, 0, 1, 2, 3, 4, 5, 6, 7, 8, 9], [7])])
def laws_FnExactWholeAdd.B8 : List Nat := [0, 1, 0, 7, 15, 31, 63, 63, 0, 383, 1023]
theorem laws_FnExactWholeAdd.tab8 : rtab .any (opsOf Try.f12 8) = laws_FnExactWholeAdd.T8 := by kernel_rfl
theorem laws_FnExactWholeAdd.bits8 : waitsOk laws_FnExactWholeAdd.T8.2 laws_FnExactWholeAdd.B8 = true := by kernel_rfl
def laws_FnExactWholeAdd.T31 : Bool × List (List Nat × List Nat) := (true, [([], []), ([0], [0]), ([], []), ([2, 1], [2]), ([1, 3, 3], [1, 3]), ([4], [4]), ([5], [5]), ([5], [5]), ([], []), ([8, 6, 4, 0, 1, 2, 3, 4, 5, 6, 8], [6, 8]), ([7, 9, 0, 1, 2, 3, 4, 5, 6, 7, 8, 9], [7])])
def laws_FnExactWholeAdd.B31 : List Nat := [0, 1, 0, 7, 15, 31, 63, 63, 0, 383, 1023]
theorem laws_FnExactWholeAdd.tab31 : rtab .any (opsOf Try.f12 31) = laws_FnExactWholeAdd.T31 := by kernel_rfl
theorem laws_FnExactWholeAdd.bits31 : waitsOk laws_FnExactWholeAdd.T31.2 laws_FnExactWholeAdd.B31 = true := by kernel_rfl
set_option maxHeartbeats 8000000 in
set_option maxRecDepth 100000 in
theorem laws_FnExactWholeAdd.calls (k : Nat) (a0_0 : Bool) (A0_1 : Option Addr) (c0_1 : Nat) (l0_1 : List Int) (a1_0 : Bool) (A1_1 : Option Addr) (c1_1 : Nat) (l1_1 : List Int) (r : Bool) (w : World) (hr0_1 : Kd.C (Kd.int .i64) w A0_1 l0_1.length l0_1) (hc0_1 : l0_1.length ≤ c0_1) (hr1_1 : Kd.C (Kd.int .i64) w A1_1 l1_1.length l1_1) (hc1_1 : l1_1.length ≤ c1_1) (h : laws_FnExactWholeAdd.f k a0_0 l0_1 a1_0 l1_1 = some r) :
  Calls Try.prog 12 #[.agg #[.bool a0_0, .slice A0_1 l0_1.length c0_1], .agg #[.bool a1_0, .slice A1_1 l1_1.length c1_1]] w fun e w' => e = .returned (.bool r) ∧ Below w.heap.size w w' := by
 have hu56 := Try.underlying56
 have hu59 := Try.underlying59
 have HR0_1 := Aside0.mk hr0_1
 have HC0_1 := Aside0.mk hc0_1
 clear hr0_1 hc0_1
 have HR1_1 := Aside0.mk hr1_1
 have HC1_1 := Aside0.mk hc1_1
 clear hr1_1 hc1_1
 have HB := Sq.m (Below.refl w.heap.size w)
 have H : ((laws_szWhole.f a0_0 l0_1 1048576).bind fun t1267 => (if t1267 < 0 then (some true) else ((laws_szWhole.f a1_0 l1_1 t1267).bind fun t1268 => (if t1268 < 0 then (some true) else ((laws_toWhole.f k a0_0 l0_1).bind fun bt1269 => ((laws_toWhole.f k a1_0 l1_1).bind fun bt1273 => ((spec_WholeAdd.f k bt1269.1 bt1269.2 bt1273.1 bt1273.2).bind fun bt1277 => ((laws_toWhole.f k a0_0 l0_1).bind fun bt1283 => ((laws_toWhole.f k a1_0 l1_1).bind fun bt1288 => ((impl_WholeAdd.f k bt1283.1 bt1283.2 bt1288.1 bt1288.2).bind fun bt1293 => ((laws_eqWhole.f k bt1293.1 bt1293.2.1 bt1277.1 bt1277.2.1).bind fun t1299 => (if t1299 = true then (if (bt1293.2.2 != bt1277.2.2) = true then (none) else ((laws_toWhole.f k a0_0 l0_1).bind fun bt1300 => ((laws_eqWhole.f k bt1283.1 bt1283.2 bt1300.1 bt1300.2).bind fun t1304 => (if t1304 = true then ((laws_toWhole.f k a1_0 l1_1).bind fun bt1305 => ((laws_eqWhole.f k bt1288.1 bt1288.2 bt1305.1 bt1305.2).bind fun t1309 => (if t1309 = true then ((laws_markWhole.f k bt1283.1 bt1283.2 1).bind fun bt1310 => ((laws_markWhole.f k bt1288.1 bt1288.2 bt1310.1).bind fun bt1312 => (if bt1312.1 < 0 then (none) else ((laws_eqWhole.f k bt1293.1 bt1293.2.1 bt1277.1 bt1277.2.1).bind fun t1314 => (if t1314 = true then ((laws_markWhole.f k bt1293.1 bt1293.2.1 1).bind fun bt1315 => ((laws_heldWhole.f k bt1293.1 bt1315.2 1).bind fun t1317 => (if t1317 < 0 then (none) else (if t1317 = bt1315.1 then ((laws_toWhole.f k a0_0 l0_1).bind fun bt1318 => ((laws_toWhole.f k a1_0 l1_1).bind fun bt1322 => ((impl_WholeAdd.f k bt1318.1 bt1318.2 bt1322.1 bt1322.2).bind fun bt1326 => ((laws_eqWhole.f k bt1326.1 bt1326.2.1 bt1277.1 bt1277.2.1).bind fun t1332 => (if t1332 = true then (if (bt1326.2.2 != bt1277.2.2) = true then (none) else ((laws_heldWhole.f k bt1293.1 bt1315.2 1).bind fun t1333 => (if t1333 < 0 then (none) else (if t1333 = bt1315.1 then (some true) else (none))))) else (none)))))) else (none))))) else (none)))))) else (none)))) else (none))))) else (none))))))))))))) = some r := h
 clear h
 replace H := Option.bind_eq_some_iff.mp H
 obtain ⟨t1267, A30, H⟩ := H
 try dsimp only at H
 have A3 := Aside0.mk A30
 clear A30
 by_cases c4 : t1267 < 0
 ·rw [if_pos c4] at H
  have c4b0 : decide (t1267 < 0) = true := decide_eq_true c4
  clear c4
  obtain rfl := Option.some.inj H
  go_enter Try.func12, Try.ntmps12
  go_wp2_with (first | ((with_reducible refine gate_dst (N := 2) rfl ?_); refine box_event ?hg (N := 2) ?hd (cs := #[.bool a0_0, .slice A0_1 l0_1.length c0_1]) (t := 56) ?hr ?_; (case hd => rfl); (case hg => rfl); (case hr => first | (go_simp; done) | (go_simp; rfl)); intro gb1265 hg w5 hbox hb; have n0_ := Sq.m (below_step (by repeat (first | (with_reducible first | exact HB.out | apply Sq.rc) | exact HB.out)) hb); have n1_ := Sq.m (hbox); have n2_ := Sq.m ((by rw [hg]; exact (below_size (by repeat (first | (with_reducible first | exact HB.out | apply Sq.rc) | exact HB.out))) : w.heap.size ≤ gb1265)); have n3_ := Sq.m ((by rw [hg]; exact (below_size (by repeat (first | (with_reducible first | exact HB.out | apply Sq.rc) | exact HB.out))) : w.heap.size ≤ gb1265)); clear HB; have HB := n0_; have BK1265 := n1_; have GW1265 := n2_; have GE1265 := n3_; clear n0_ n1_ n2_ n3_; clear hb hbox hg) | ((with_reducible refine gate_dst (N := 3) rfl ?_); refine box_event ?hg (N := 3) ?hd (cs := #[.bool a1_0, .slice A1_1 l1_1.length c1_1]) (t := 56) ?hr ?_; (case hd => rfl); (case hg => rfl); (case hr => first | (go_simp; done) | (go_simp; rfl)); intro gb1266 hg w6 hbox hb; have n0_ := Sq.m (blk_below (g := gb1265) (o := .cells #[.bool a0_0, .slice A0_1 l0_1.length c0_1] 56 (0, 0)) (by apply Sq.rb; exact BK1265.out) hb); have n1_ := Sq.m (below_step (by repeat (first | (with_reducible first | exact HB.out | apply Sq.rc | refine below_set ?_ GE1265.out) | exact HB.out)) hb); have n2_ := Sq.m (hbox); have n3_ := Sq.m ((by rw [hg]; exact (below_size (by repeat (first | (with_reducible first | exact HB.out | apply Sq.rc | refine below_set ?_ GE1265.out) | exact HB.out))) : w.heap.size ≤ gb1266)); have n4_ := Sq.m ((by rw [hg]; exact (below_size (by repeat (first | (with_reducible first | exact HB.out | apply Sq.rc | refine below_set ?_ GE1265.out) | exact HB.out))) : w.heap.size ≤ gb1266)); have n5_ := Sq.m ((by rw [hg]; exact Nat.ne_of_lt (blk_lt (g := gb1265) (o := .cells #[.bool a0_0, .slice A0_1 l0_1.length c0_1] 56 (0, 0)) (by apply Sq.rb; exact BK1265.out)) : gb1265 ≠ gb1266)); have n6_ := Sq.m ((by rw [hg]; exact Nat.ne_of_gt (blk_lt (g := gb1265) (o := .cells #[.bool a0_0, .slice A0_1 l0_1.length c0_1] 56 (0, 0)) (by apply Sq.rb; exact BK1265.out)) : gb1266 ≠ gb1265)); clear BK1265; clear HB; have BK1265 := n0_; have HB := n1_; have BK1266 := n2_; have GW1266 := n3_; have GE1266 := n4_; have NB1265_1266 := n5_; have NB1266_1265 := n6_; clear n0_ n1_ n2_ n3_ n4_ n5_ n6_; clear hb hbox hg; have hnb7 := NB1265_1266.out; have hnc7 := NB1266_1265.out; have hcz8_0 : w6.cell? ⟨gb1265, 0, none⟩ = some (.bool a0_0) := (blk_cell BK1265.out 0).trans rfl; have hcz8_1 : w6.cell? ⟨gb1265, 1, none⟩ = some (.slice A0_1 l0_1.length c0_1) := (blk_cell BK1265.out 1).trans rfl; have hfz8_0 := blk_frozen BK1265.out 0; have hfz8_1 := blk_frozen BK1265.out 1) | ((with_reducible refine gate_callee (f := 50) rfl ?_); refine goesL_ (some 19) rfl rfl Try.func50 (by kernel_rfl) rfl #[.agg #[.bool a0_0, .slice A0_1 l0_1.length c0_1], .int .i64 1048576] rfl (by (try simp only [List.map_toArray, List.map_cons, List.map_nil]); first | done | rfl | (simp only [List.length_drop, List.length_take]; rfl) | (simp only [i64_w, u8_w, w64_b]; rfl)) ?_; (with_reducible refine (laws_szWhole.calls a0_0 _ _ l0_1 1048576 t1267 _ ?side1 ?side2 A3.out).mono ?_); (case side1 => repeat (first | exact (Kd.C_below HR0_1.out HB.out) | (with_reducible refine Kd.C_alloc ?_ _) | (with_reducible refine Kd.C_drewN ?_ _) | (with_reducible refine Kd.C_drew ?_))); (case side2 => exact HC0_1.out); rintro e w9 ⟨rfl, hb⟩; refine ⟨_, rfl, ?_⟩; have n0_ := Sq.m (blk_below (g := gb1265) (o := .cells #[.bool a0_0, .slice A0_1 l0_1.length c0_1] 56 (0, 0)) (by apply Sq.rb; exact BK1265.out) hb); have n1_ := Sq.m (blk_below (g := gb1266) (o := .cells #[.bool a1_0, .slice A1_1 l1_1.length c1_1] 56 (0, 0)) (by apply Sq.rb; exact BK1266.out) hb); have n2_ := Sq.m (below_step (by repeat (first | (with_reducible first | exact HB.out | apply Sq.rc | refine below_set ?_ GE1265.out | refine below_set ?_ GE1266.out) | exact HB.out)) hb); clear BK1265; clear BK1266; clear HB; have BK1265 := n0_; have BK1266 := n1_; have HB := n2_; clear n0_ n1_ n2_; (try clear hb); (try clear hb2); (try clear hk); (try clear hi)))
  go_ret
  exact ⟨by first | rfl | (simp [errW_none, errW_some] <;> rfl) | (simp [*, errW_none, errW_some] <;> rfl), by repeat (first | (with_reducible first | exact HB.out | apply Sq.rc | refine below_set ?_ GE1265.out | refine below_set ?_ GE1266.out) | exact HB.out)⟩
 ·rw [if_neg c4] at H
  have c4b0 : decide (t1267 < 0) = false := decide_eq_false c4
  clear c4
  replace H := Option.bind_eq_some_iff.mp H
  obtain ⟨t1268, A100, H⟩ := H
  try dsimp only at H
  have A10 := Aside0.mk A100
  clear A100
  by_cases c11 : t1268 < 0
  ·rw [if_pos c11] at H
   have c11b0 : decide (t1268 < 0) = true := decide_eq_true c11
   clear c11
   obtain rfl := Option.some.inj H
   go_enter Try.func12, Try.ntmps12
   go_wp2_with (first | ((with_reducible refine gate_dst (N := 2) rfl ?_); refine box_event ?hg (N := 2) ?hd (cs := #[.bool a0_0, .slice A0_1 l0_1.length c0_1]) (t := 56) ?hr ?_; (case hd => rfl); (case hg => rfl); (case hr => first | (go_simp; done) | (go_simp; rfl)); intro gb1265 hg w12 hbox hb; have n0_ := Sq.m (below_step (by repeat (first | (with_reducible first | exact HB.out | apply Sq.rc) | exact HB.out)) hb); have n1_ := Sq.m (hbox); have n2_ := Sq.m ((by rw [hg]; exact (below_size (by repeat (first | (with_reducible first | exact HB.out | apply Sq.rc) | exact HB.out))) : w.heap.size ≤ gb1265)); have n3_ := Sq.m ((by rw [hg]; exact (below_size (by repeat (first | (with_reducible first | exact HB.out | apply Sq.rc) | exact HB.out))) : w.heap.size ≤ gb1265)); clear HB; have HB := n0_; have BK1265 := n1_; have GW1265 := n2_; have GE1265 := n3_; clear n0_ n1_ n2_ n3_; clear hb hbox hg) | ((with_reducible refine gate_dst (N := 3) rfl ?_); refine box_event ?hg (N := 3) ?hd (cs := #[.bool a1_0, .slice A1_1 l1_1.length c1_1]) (t := 56) ?hr ?_; (case hd => rfl); (case hg => rfl); (case hr => first | (go_simp; done) | (go_simp; rfl)); intro gb1266 hg w13 hbox hb; have n0_ := Sq.m (blk_below (g := gb1265) (o := .cells #[.bool a0_0, .slice A0_1 l0_1.length c0_1] 56 (0, 0)) (by apply Sq.rb; exact BK1265.out) hb); have n1_ := Sq.m (below_step (by repeat (first | (with_reducible first | exact HB.out | apply Sq.rc | refine below_set ?_ GE1265.out) | exact HB.out)) hb); have n2_ := Sq.m (hbox); have n3_ := Sq.m ((by rw [hg]; exact (below_size (by repeat (first | (with_reducible first | exact HB.out | apply Sq.rc | refine below_set ?_ GE1265.out) | exact HB.out))) : w.heap.size ≤ gb1266)); have n4_ := Sq.m ((by rw [hg]; exact (below_size (by repeat (first | (with_reducible first | exact HB.out | apply Sq.rc | refine below_set ?_ GE1265.out) | exact HB.out))) : w.heap.size ≤ gb1266)); have n5_ := Sq.m ((by rw [hg]; exact Nat.ne_of_lt (blk_lt (g := gb1265) (o := .cells #[.bool a0_0, .slice A0_1 l0_1.length c0_1] 56 (0, 0)) (by apply Sq.rb; exact BK1265.out)) : gb1265 ≠ gb1266)); have n6_ := Sq.m ((by rw [hg]; exact Nat.ne_of_gt (blk_lt (g := gb1265) (o := .cells #[.bool a0_0, .slice A0_1 l0_1.length c0_1] 56 (0, 0)) (by apply Sq.rb; exact BK1265.out)) : gb1266 ≠ gb1265)); clear BK1265; clear HB; have BK1265 := n0_; have HB := n1_; have BK1266 := n2_; have GW1266 := n3_; have GE1266 := n4_; have NB1265_1266 := n5_; have NB1266_1265 := n6_; clear n0_ n1_ n2_ n3_ n4_ n5_ n6_; clear hb hbox hg; have hnb14 := NB1265_1266.out; have hnc14 := NB1266_1265.out; have hcz15_0 : w13.cell? ⟨gb1265, 0, none⟩ = some (.bool a0_0) := (blk_cell BK1265.out 0).trans rfl; have hcz15_1 : w13.cell? ⟨gb1265, 1, none⟩ = some (.slice A0_1 l0_1.length c0_1) := (blk_cell BK1265.out 1).trans rfl; have hfz15_0 := blk_frozen BK1265.out 0; have hfz15_1 := blk_frozen BK1265.out 1) | ((with_reducible refine gate_callee (f := 50) rfl ?_); refine goesL_ (some 19) rfl rfl Try.func50 (by kernel_rfl) rfl #[.agg #[.bool a0_0, .slice A0_1 l0_1.length c0_1], .int .i64 1048576] rfl (by (try simp only [List.map_toArray, List.map_cons, List.map_nil]); first | done | rfl | (simp only [List.length_drop, List.length_take]; rfl) | (simp only [i64_w, u8_w, w64_b]; rfl)) ?_; (with_reducible refine (laws_szWhole.calls a0_0 _ _ l0_1 1048576 t1267 _ ?side1 ?side2 A3.out).mono ?_); (case side1 => repeat (first | exact (Kd.C_below HR0_1.out HB.out) | (with_reducible refine Kd.C_alloc ?_ _) | (with_reducible refine Kd.C_drewN ?_ _) | (with_reducible refine Kd.C_drew ?_))); (case side2 => exact HC0_1.out); rintro e w16 ⟨rfl, hb⟩; refine ⟨_, rfl, ?_⟩; have n0_ := Sq.m (blk_below (g := gb1265) (o := .cells #[.bool a0_0, .slice A0_1 l0_1.length c0_1] 56 (0, 0)) (by apply Sq.rb; exact BK1265.out) hb); have n1_ := Sq.m (blk_below (g := gb1266) (o := .cells #[.bool a1_0, .slice A1_1 l1_1.length c1_1] 56 (0, 0)) (by apply Sq.rb; exact BK1266.out) hb); have n2_ := Sq.m (below_step (by repeat (first | (with_reducible first | exact HB.out | apply Sq.rc | refine below_set ?_ GE1265.out | refine below_set ?_ GE1266.out) | exact HB.out)) hb); clear BK1265; clear BK1266; clear HB; have BK1265 := n0_; have BK1266 := n1_; have HB := n2_; clear n0_ n1_ n2_; (try clear hb); (try clear hb2); (try clear hk); (try clear hi); have hcz17_0 : w16.cell? ⟨gb1266, 0, none⟩ = some (.bool a1_0) := (blk_cell BK1266.out 0).trans rfl; have hcz17_1 : w16.cell? ⟨gb1266, 1, none⟩ = some (.slice A1_1 l1_1.length c1_1) := (blk_cell BK1266.out 1).trans rfl; have hfz17_0 := blk_frozen BK1266.out 0; have hfz17_1 := blk_frozen BK1266.out 1) | ((with_reducible refine gate_callee (f := 50) rfl ?_); refine goesL_ (some 24) rfl rfl Try.func50 (by kernel_rfl) rfl #[.agg #[.bool a1_0, .slice A1_1 l1_1.length c1_1], .int .i64 t1267] rfl (by (try simp only [List.map_toArray, List.map_cons, List.map_nil]); first | done | rfl | (simp only [List.length_drop, List.length_take]; rfl) | (simp only [i64_w, u8_w, w64_b]; rfl)) ?_; (with_reducible refine (laws_szWhole.calls a1_0 _ _ l1_1 t1267 t1268 _ ?side1 ?side2 A10.out).mono ?_); (case side1 => repeat (first | exact (Kd.C_below HR1_1.out HB.out) | (with_reducible refine Kd.C_alloc ?_ _) | (with_reducible refine Kd.C_drewN ?_ _) | (with_reducible refine Kd.C_drew ?_))); (case side2 => exact HC1_1.out); rintro e w18 ⟨rfl, hb⟩; refine ⟨_, rfl, ?_⟩; have n0_ := Sq.m (blk_below (g := gb1265) (o := .cells #[.bool a0_0, .slice A0_1 l0_1.length c0_1] 56 (0, 0)) (by apply Sq.rb; exact BK1265.out) hb); have n1_ := Sq.m (blk_below (g := gb1266) (o := .cells #[.bool a1_0, .slice A1_1 l1_1.length c1_1] 56 (0, 0)) (by apply Sq.rb; exact BK1266.out) hb); have n2_ := Sq.m (below_step (by repeat (first | (with_reducible first | exact HB.out | apply Sq.rc | refine below_set ?_ GE1265.out | refine below_set ?_ GE1266.out) | exact HB.out)) hb); clear BK1265; clear BK1266; clear HB; have BK1265 := n0_; have BK1266 := n1_; have HB := n2_; clear n0_ n1_ n2_; (try clear hb); (try clear hb2); (try clear hk); (try clear hi)))
   go_ret
   exact ⟨by first | rfl | (simp [errW_none, errW_some] <;> rfl) | (simp [*, errW_none, errW_some] <;> rfl), by repeat (first | (with_reducible first | exact HB.out | apply Sq.rc | refine below_set ?_ GE1265.out | refine below_set ?_ GE1266.out) | exact HB.out)⟩
  ·rw [if_neg c11] at H
   have c11b0 : decide (t1268 < 0) = false := decide_eq_false c11
   clear c11
   replace H := Option.bind_eq_some_iff.mp H
   obtain ⟨⟨t1269, t1270⟩, A190, H⟩ := H
   try dsimp only at H
   have A19 := Aside0.mk A190
   clear A190
   replace H := Option.bind_eq_some_iff.mp H
   obtain ⟨⟨t1273, t1274⟩, A200, H⟩ := H
   try dsimp only at H
   have A20 := Aside0.mk A200
   clear A200
   replace H := Option.bind_eq_some_iff.mp H
   obtain ⟨⟨t1277, t1278, t1281⟩, A210, H⟩ := H
   try dsimp only at H
   have A21 := Aside0.mk A210
   clear A210
   replace H := Option.bind_eq_some_iff.mp H
   obtain ⟨⟨t1283, t1284⟩, A220, H⟩ := H
   try dsimp only at H
   have A22 := Aside0.mk A220
   clear A220
   replace H := Option.bind_eq_some_iff.mp H
   obtain ⟨⟨t1288, t1289⟩, A230, H⟩ := H
   try dsimp only at H
   have A23 := Aside0.mk A230
   clear A230
   replace H := Option.bind_eq_some_iff.mp H
   obtain ⟨⟨t1293, t1294, t1297⟩, A240, H⟩ := H
   try dsimp only at H
   have A24 := Aside0.mk A240
   clear A240
   replace H := Option.bind_eq_some_iff.mp H
   obtain ⟨t1299, A250, H⟩ := H
   try dsimp only at H
   have A25 := Aside0.mk A250
   clear A250
   by_cases c26 : t1299 = true
   ·subst c26
    have H1 : (if (t1297 != t1281) = true then (none) else ((laws_toWhole.f k a0_0 l0_1).bind fun bt1300 => ((laws_eqWhole.f k t1283 t1284 bt1300.1 bt1300.2).bind fun t1304 => (if t1304 = true then ((laws_toWhole.f k a1_0 l1_1).bind fun bt1305 => ((laws_eqWhole.f k t1288 t1289 bt1305.1 bt1305.2).bind fun t1309 => (if t1309 = true then ((laws_markWhole.f k t1283 t1284 1).bind fun bt1310 => ((laws_markWhole.f k t1288 t1289 bt1310.1).bind fun bt1312 => (if bt1312.1 < 0 then (none) else ((laws_eqWhole.f k t1293 t1294 t1277 t1278).bind fun t1314 => (if t1314 = true then ((laws_markWhole.f k t1293 t1294 1).bind fun bt1315 => ((laws_heldWhole.f k t1293 bt1315.2 1).bind fun t1317 => (if t1317 < 0 then (none) else (if t1317 = bt1315.1 then ((laws_toWhole.f k a0_0 l0_1).bind fun bt1318 => ((laws_toWhole.f k a1_0 l1_1).bind fun bt1322 => ((impl_WholeAdd.f k bt1318.1 bt1318.2 bt1322.1 bt1322.2).bind fun bt1326 => ((laws_eqWhole.f k bt1326.1 bt1326.2.1 t1277 t1278).bind fun t1332 => (if t1332 = true then (if (bt1326.2.2 != t1281) = true then (none) else ((laws_heldWhole.f k t1293 bt1315.2 1).bind fun t1333 => (if t1333 < 0 then (none) else (if t1333 = bt1315.1 then (some true) else (none))))) else (none)))))) else (none))))) else (none)))))) else (none)))) else (none))))) = some r := by rw [if_pos rfl] at H; exact H
    clear H
    have H := H1
    clear H1
    by_cases c27 : (t1297 != t1281) = true
    ·rw [if_pos c27] at H
     exact absurd H (by simp)
    ·rw [if_neg c27] at H
     have c27b0 : (t1297 != t1281) = false := by simpa using c27
     (try (have c27b1 : decide (t1297 = t1281) = true := by simpa using c27))
     (try (have c27b2 : (t1297 == t1281) = true := by simpa using c27))
     clear c27
     replace H := Option.bind_eq_some_iff.mp H
     obtain ⟨⟨t1300, t1301⟩, A280, H⟩ := H
     try dsimp only at H
     have A28 := Aside0.mk A280
     clear A280
     replace H := Option.bind_eq_some_iff.mp H
     obtain ⟨t1304, A290, H⟩ := H
     try dsimp only at H
     have A29 := Aside0.mk A290
     clear A290
     by_cases c30 : t1304 = true
     ·subst c30
      have H1 : ((laws_toWhole.f k a1_0 l1_1).bind fun bt1305 => ((laws_eqWhole.f k t1288 t1289 bt1305.1 bt1305.2).bind fun t1309 => (if t1309 = true then ((laws_markWhole.f k t1283 t1284 1).bind fun bt1310 => ((laws_markWhole.f k t1288 t1289 bt1310.1).bind fun bt1312 => (if bt1312.1 < 0 then (none) else ((laws_eqWhole.f k t1293 t1294 t1277 t1278).bind fun t1314 => (if t1314 = true then ((laws_markWhole.f k t1293 t1294 1).bind fun bt1315 => ((laws_heldWhole.f k t1293 bt1315.2 1).bind fun t1317 => (if t1317 < 0 then (none) else (if t1317 = bt1315.1 then ((laws_toWhole.f k a0_0 l0_1).bind fun bt1318 => ((laws_toWhole.f k a1_0 l1_1).bind fun bt1322 => ((impl_WholeAdd.f k bt1318.1 bt1318.2 bt1322.1 bt1322.2).bind fun bt1326 => ((laws_eqWhole.f k bt1326.1 bt1326.2.1 t1277 t1278).bind fun t1332 => (if t1332 = true then (if (bt1326.2.2 != t1281) = true then (none) else ((laws_heldWhole.f k t1293 bt1315.2 1).bind fun t1333 => (if t1333 < 0 then (none) else (if t1333 = bt1315.1 then (some true) else (none))))) else (none)))))) else (none))))) else (none)))))) else (none)))) = some r := by rw [if_pos rfl] at H; exact H
      clear H
      have H := H1
      clear H1
      replace H := Option.bind_eq_some_iff.mp H
      obtain ⟨⟨t1305, t1306⟩, A310, H⟩ := H
      try dsimp only at H
      have A31 := Aside0.mk A310
      clear A310
      replace H := Option.bind_eq_some_iff.mp H
      obtain ⟨t1309, A320, H⟩ := H
      try dsimp only at H
      have A32 := Aside0.mk A320
      clear A320
      by_cases c33 : t1309 = true
      ·subst c33
       have H1 : ((laws_markWhole.f k t1283 t1284 1).bind fun bt1310 => ((laws_markWhole.f k t1288 t1289 bt1310.1).bind fun bt1312 => (if bt1312.1 < 0 then (none) else ((laws_eqWhole.f k t1293 t1294 t1277 t1278).bind fun t1314 => (if t1314 = true then ((laws_markWhole.f k t1293 t1294 1).bind fun bt1315 => ((laws_heldWhole.f k t1293 bt1315.2 1).bind fun t1317 => (if t1317 < 0 then (none) else (if t1317 = bt1315.1 then ((laws_toWhole.f k a0_0 l0_1).bind fun bt1318 => ((laws_toWhole.f k a1_0 l1_1).bind fun bt1322 => ((impl_WholeAdd.f k bt1318.1 bt1318.2 bt1322.1 bt1322.2).bind fun bt1326 => ((laws_eqWhole.f k bt1326.1 bt1326.2.1 t1277 t1278).bind fun t1332 => (if t1332 = true then (if (bt1326.2.2 != t1281) = true then (none) else ((laws_heldWhole.f k t1293 bt1315.2 1).bind fun t1333 => (if t1333 < 0 then (none) else (if t1333 = bt1315.1 then (some true) else (none))))) else (none)))))) else (none))))) else (none)))))) = some r := by rw [if_pos rfl] at H; exact H
       clear H
       have H := H1
       clear H1
       replace H := Option.bind_eq_some_iff.mp H
       obtain ⟨⟨t1310, t1311⟩, A340, H⟩ := H
       try dsimp only at H
       have A34 := Aside0.mk A340
       clear A340
       replace H := Option.bind_eq_some_iff.mp H
       obtain ⟨⟨t1312, t1313⟩, A350, H⟩ := H
       try dsimp only at H
       have A35 := Aside0.mk A350
       clear A350
       by_cases c36 : t1312 < 0
       ·rw [if_pos c36] at H
        exact absurd H (by simp)
       ·rw [if_neg c36] at H
        have c36b0 : decide (t1312 < 0) = false := decide_eq_false c36
        clear c36
        replace H := Option.bind_eq_some_iff.mp H
        obtain ⟨t1314, A370, H⟩ := H
        try dsimp only at H
        have A37 := Aside0.mk A370
        clear A370
        by_cases c38 : t1314 = true
        ·subst c38
         have H1 : ((laws_markWhole.f k t1293 t1294 1).bind fun bt1315 => ((laws_heldWhole.f k t1293 bt1315.2 1).bind fun t1317 => (if t1317 < 0 then (none) else (if t1317 = bt1315.1 then ((laws_toWhole.f k a0_0 l0_1).bind fun bt1318 => ((laws_toWhole.f k a1_0 l1_1).bind fun bt1322 => ((impl_WholeAdd.f k bt1318.1 bt1318.2 bt1322.1 bt1322.2).bind fun bt1326 => ((laws_eqWhole.f k bt1326.1 bt1326.2.1 t1277 t1278).bind fun t1332 => (if t1332 = true then (if (bt1326.2.2 != t1281) = true then (none) else ((laws_heldWhole.f k t1293 bt1315.2 1).bind fun t1333 => (if t1333 < 0 then (none) else (if t1333 = bt1315.1 then (some true) else (none))))) else (none)))))) else (none))))) = some r := by rw [if_pos rfl] at H; exact H
         clear H
         have H := H1
         clear H1
         replace H := Option.bind_eq_some_iff.mp H
         obtain ⟨⟨t1315, t1316⟩, A390, H⟩ := H
         try dsimp only at H
         have A39 := Aside0.mk A390
         clear A390
         replace H := Option.bind_eq_some_iff.mp H
         obtain ⟨t1317, A400, H⟩ := H
         try dsimp only at H
         have A40 := Aside0.mk A400
         clear A400
         by_cases c41 : t1317 < 0
         ·rw [if_pos c41] at H
          exact absurd H (by simp)
         ·rw [if_neg c41] at H
          have c41b0 : decide (t1317 < 0) = false := decide_eq_false c41
          clear c41
          by_cases c42 : t1317 = t1315
          ·rw [if_pos c42] at H
           have c42b0 : (t1317 == t1315) = true := beq_iff_eq.mpr c42
           have c42b1 : (t1317 != t1315) = false := bne_eq_false_iff_eq.mpr c42
           clear c42
           replace H := Option.bind_eq_some_iff.mp H
           obtain ⟨⟨t1318, t1319⟩, A430, H⟩ := H
           try dsimp only at H
           have A43 := Aside0.mk A430
           clear A430
           replace H := Option.bind_eq_some_iff.mp H
           obtain ⟨⟨t1322, t1323⟩, A440, H⟩ := H
           try dsimp only at H
           have A44 := Aside0.mk A440
           clear A440
           replace H := Option.bind_eq_some_iff.mp H
           obtain ⟨⟨t1326, t1327, t1330⟩, A450, H⟩ := H
           try dsimp only at H
           have A45 := Aside0.mk A450
           clear A450
           replace H := Option.bind_eq_some_iff.mp H
           obtain ⟨t1332, A460, H⟩ := H
           try dsimp only at H
           have A46 := Aside0.mk A460
           clear A460
           by_cases c47 : t1332 = true
           ·subst c47
            have H1 : (if (t1330 != t1281) = true then (none) else ((laws_heldWhole.f k t1293 t1316 1).bind fun t1333 => (if t1333 < 0 then (none) else (if t1333 = t1315 then (some true) else (none))))) = some r := by rw [if_pos rfl] at H; exact H
            clear H
            have H := H1
            clear H1
            by_cases c48 : (t1330 != t1281) = true
            ·rw [if_pos c48] at H
             exact absurd H (by simp)
            ·rw [if_neg c48] at H
             have c48b0 : (t1330 != t1281) = false := by simpa using c48
             (try (have c48b1 : decide (t1330 = t1281) = true := by simpa using c48))
             (try (have c48b2 : (t1330 == t1281) = true := by simpa using c48))
             clear c48
             replace H := Option.bind_eq_some_iff.mp H
             obtain ⟨t1333, A490, H⟩ := H
             try dsimp only at H
             have A49 := Aside0.mk A490
             clear A490
             by_cases c50 : t1333 < 0
             ·rw [if_pos c50] at H
              exact absurd H (by simp)
             ·rw [if_neg c50] at H
              have c50b0 : decide (t1333 < 0) = false := decide_eq_false c50
              clear c50
              by_cases c51 : t1333 = t1315
              ·rw [if_pos c51] at H
               have c51b0 : (t1333 == t1315) = true := beq_iff_eq.mpr c51
               have c51b1 : (t1333 != t1315) = false := bne_eq_false_iff_eq.mpr c51
               clear c51
               obtain rfl := Option.some.inj H
               go_enter Try.func12, Try.ntmps12
               try go_wp2_with (first | ((with_reducible refine gate_dst (N := 2) rfl ?_); refine box_event ?hg (N := 2) ?hd (cs := #[.bool a0_0, .slice A0_1 l0_1.length c0_1]) (t := 56) ?hr ?_; (case hd => rfl); (case hg => rfl); (case hr => first | (go_simp; done) | (go_simp; rfl)); intro gb1265 hg w52 hbox hb; have n0_ := Sq.m (below_step (by repeat (first | (with_reducible first | exact HB.out | apply Sq.rc) | exact HB.out)) hb); have n1_ := Sq.m (hbox); have n2_ := Sq.m ((by rw [hg]; exact (below_size (by repeat (first | (with_reducible first | exact HB.out | apply Sq.rc) | exact HB.out))) : w.heap.size ≤ gb1265)); have n3_ := Sq.m ((by rw [hg]; exact (below_size (by repeat (first | (with_reducible first | exact HB.out | apply Sq.rc) | exact HB.out))) : w.heap.size ≤ gb1265)); clear HB; have HB := n0_; have BK1265 := n1_; have GW1265 := n2_; have GE1265 := n3_; clear n0_ n1_ n2_ n3_; clear hb hbox hg) | ((with_reducible refine gate_dst (N := 3) rfl ?_); refine box_event ?hg (N := 3) ?hd (cs := #[.bool a1_0, .slice A1_1 l1_1.length c1_1]) (t := 56) ?hr ?_; (case hd => rfl); (case hg => rfl); (case hr => first | (go_simp; done) | (go_simp; rfl)); intro gb1266 hg w53 hbox hb; have n0_ := Sq.m (blk_below (g := gb1265) (o := .cells #[.bool a0_0, .slice A0_1 l0_1.length c0_1] 56 (0, 0)) (by apply Sq.rb; exact BK1265.out) hb); have n1_ := Sq.m (below_step (by repeat (first | (with_reducible first | exact HB.out | apply Sq.rc | refine below_set ?_ GE1265.out) | exact HB.out)) hb); have n2_ := Sq.m (hbox); have n3_ := Sq.m ((by rw [hg]; exact (below_size (by repeat (first | (with_reducible first | exact HB.out | apply Sq.rc | refine below_set ?_ GE1265.out) | exact HB.out))) : w.heap.size ≤ gb1266)); have n4_ := Sq.m ((by rw [hg]; exact (below_size (by repeat (first | (with_reducible first | exact HB.out | apply Sq.rc | refine below_set ?_ GE1265.out) | exact HB.out))) : w.heap.size ≤ gb1266)); have n5_ := Sq.m ((by rw [hg]; exact Nat.ne_of_lt (blk_lt (g := gb1265) (o := .cells #[.bool a0_0, .slice A0_1 l0_1.length c0_1] 56 (0, 0)) (by apply Sq.rb; exact BK1265.out)) : gb1265 ≠ gb1266)); have n6_ := Sq.m ((by rw [hg]; exact Nat.ne_of_gt (blk_lt (g := gb1265) (o := .cells #[.bool a0_0, .slice A0_1 l0_1.length c0_1] 56 (0, 0)) (by apply Sq.rb; exact BK1265.out)) : gb1266 ≠ gb1265)); clear BK1265; clear HB; have BK1265 := n0_; have HB := n1_; have BK1266 := n2_; have GW1266 := n3_; have GE1266 := n4_; have NB1265_1266 := n5_; have NB1266_1265 := n6_; clear n0_ n1_ n2_ n3_ n4_ n5_ n6_; clear hb hbox hg; have hnb54 := NB1265_1266.out; have hnc54 := NB1266_1265.out; have hcz55_0 : w53.cell? ⟨gb1265, 0, none⟩ = some (.bool a0_0) := (blk_cell BK1265.out 0).trans rfl; have hcz55_1 : w53.cell? ⟨gb1265, 1, none⟩ = some (.slice A0_1 l0_1.length c0_1) := (blk_cell BK1265.out 1).trans rfl; have hfz55_0 := blk_frozen BK1265.out 0; have hfz55_1 := blk_frozen BK1265.out 1) | ((with_reducible refine gate_callee (f := 50) rfl ?_); refine goesL_ (some 19) rfl rfl Try.func50 (by kernel_rfl) rfl #[.agg #[.bool a0_0, .slice A0_1 l0_1.length c0_1], .int .i64 1048576] rfl (by (try simp only [List.map_toArray, List.map_cons, List.map_nil]); first | done | rfl | (simp only [List.length_drop, List.length_take]; rfl) | (simp only [i64_w, u8_w, w64_b]; rfl)) ?_; (with_reducible refine (laws_szWhole.calls a0_0 _ _ l0_1 1048576 t1267 _ ?side1 ?side2 A3.out).mono ?_); (case side1 => repeat (first | exact (Kd.C_below HR0_1.out HB.out) | (with_reducible refine Kd.C_alloc ?_ _) | (with_reducible refine Kd.C_drewN ?_ _) | (with_reducible refine Kd.C_drew ?_))); (case side2 => exact HC0_1.out); rintro e w56 ⟨rfl, hb⟩; refine ⟨_, rfl, ?_⟩; have n0_ := Sq.m (blk_below (g := gb1265) (o := .cells #[.bool a0_0, .slice A0_1 l0_1.length c0_1] 56 (0, 0)) (by apply Sq.rb; exact BK1265.out) hb); have n1_ := Sq.m (blk_below (g := gb1266) (o := .cells #[.bool a1_0, .slice A1_1 l1_1.length c1_1] 56 (0, 0)) (by apply Sq.rb; exact BK1266.out) hb); have n2_ := Sq.m (below_step (by repeat (first | (with_reducible first | exact HB.out | apply Sq.rc | refine below_set ?_ GE1265.out | refine below_set ?_ GE1266.out) | exact HB.out)) hb); clear BK1265; clear BK1266; clear HB; have BK1265 := n0_; have BK1266 := n1_; have HB := n2_; clear n0_ n1_ n2_; (try clear hb); (try clear hb2); (try clear hk); (try clear hi); have hcz57_0 : w56.cell? ⟨gb1266, 0, none⟩ = some (.bool a1_0) := (blk_cell BK1266.out 0).trans rfl; have hcz57_1 : w56.cell? ⟨gb1266, 1, none⟩ = some (.slice A1_1 l1_1.length c1_1) := (blk_cell BK1266.out 1).trans rfl; have hfz57_0 := blk_frozen BK1266.out 0; have hfz57_1 := blk_frozen BK1266.out 1) | ((with_reducible refine gate_callee (f := 50) rfl ?_); refine goesL_ (some 24) rfl rfl Try.func50 (by kernel_rfl) rfl #[.agg #[.bool a1_0, .slice A1_1 l1_1.length c1_1], .int .i64 t1267] rfl (by (try simp only [List.map_toArray, List.map_cons, List.map_nil]); first | done | rfl | (simp only [List.length_drop, List.length_take]; rfl) | (simp only [i64_w, u8_w, w64_b]; rfl)) ?_; (with_reducible refine (laws_szWhole.calls a1_0 _ _ l1_1 t1267 t1268 _ ?side1 ?side2 A10.out).mono ?_); (case side1 => repeat (first | exact (Kd.C_below HR1_1.out HB.out) | (with_reducible refine Kd.C_alloc ?_ _) | (with_reducible refine Kd.C_drewN ?_ _) | (with_reducible refine Kd.C_drew ?_))); (case side2 => exact HC1_1.out); rintro e w58 ⟨rfl, hb⟩; refine ⟨_, rfl, ?_⟩; have n0_ := Sq.m (blk_below (g := gb1265) (o := .cells #[.bool a0_0, .slice A0_1 l0_1.length c0_1] 56 (0, 0)) (by apply Sq.rb; exact BK1265.out) hb); have n1_ := Sq.m (blk_below (g := gb1266) (o := .cells #[.bool a1_0, .slice A1_1 l1_1.length c1_1] 56 (0, 0)) (by apply Sq.rb; exact BK1266.out) hb); have n2_ := Sq.m (below_step (by repeat (first | (with_reducible first | exact HB.out | apply Sq.rc | refine below_set ?_ GE1265.out | refine below_set ?_ GE1266.out) | exact HB.out)) hb); clear BK1265; clear BK1266; clear HB; have BK1265 := n0_; have BK1266 := n1_; have HB := n2_; clear n0_ n1_ n2_; (try clear hb); (try clear hb2); (try clear hk); (try clear hi)))
               have n0_ := Sq.m (blk_drew BK1265.out)
               have n1_ := Sq.m (blk_drew BK1266.out)
               have n2_ := Sq.m (below_drew1 HB.out)
               clear BK1265
               clear BK1266
               clear HB
               have BK1265 := n0_
               have BK1266 := n1_
               have HB := n2_
               clear n0_ n1_ n2_
               refine start_ (n := 11) (S := fun w' => True) (ds := []) #[false, false, false, false, false, false, false, false, false, false, false] (by kernel_rfl) rfl rfl trivial (fun hHeld => ?_); refine with_tabW laws_FnExactWholeAdd.tab8 laws_FnExactWholeAdd.bits8 (fun HT_ HW_ => ?_)
               generalize w58.drew = w59 at BK1265 BK1266 HB hHeld ⊢
               refine inv_at [0, 1, 2, 3, 4, 5, 6, 7, 8, 9, 10] (fun a0_ b a w' => ∃ (v1271 : Value) (v1275 : Value) (v1279 : Value) (gb1282 : Nat) (m1_ : Value) (m3_ : Value) (m4_ : Value) (m5_ : Value) (m6_ : Value) (m8_ : Value), a = putSel a0_ b [(0, 28, .agg #[.bool a0_0, .slice A0_1 l0_1.length c0_1]), (1, 29, m1_), (2, 30, .agg #[.bool a1_0, .slice A1_1 l1_1.length c1_1]), (3, 31, m3_), (4, 32, m4_), (5, 27, m5_), (6, 33, m6_), (7, 34, .bool t1281), (8, 6, m8_), (10, 7, .bool t1281)] ∧ (w'.heap[gb1265]? = some (.cells #[.bool a0_0, .slice A0_1 l0_1.length c0_1] 56 (0, 0))) ∧ (w'.heap[gb1266]? = some (.cells #[.bool a1_0, .slice A1_1 l1_1.length c1_1] 56 (0, 0))) ∧ (Below w.heap.size w w') ∧ (b 1 = true → Kd.R (Kd.int .i64) 3 w' w.heap.size (fun _ => True) v1271 t1270) ∧ (b 3 = true → Kd.R (Kd.int .i64) 3 w' w.heap.size (fun _ => True) v1275 t1274) ∧ (b 4 = true → Kd.R (Kd.int .i64) 3 w' w.heap.size (fun _ => True) v1279 t1278) ∧ (b 8 = true → b 9 = false → w'.heap[gb1282]? = some (.cells #[.bool false, .slice none 0 0] 59 (0, 0))) ∧ (b 8 = true → w.heap.size ≤ gb1282) ∧ (b 8 = true → w.heap.size ≤ gb1282) ∧ (b 8 = true → gb1265 ≠ gb1282) ∧ (b 8 = true → gb1282 ≠ gb1265) ∧ (b 8 = true → gb1266 ≠ gb1282) ∧ (b 8 = true → gb1282 ≠ gb1266) ∧ (b 9 = true → w'.heap[gb1282]? = some (.cells #[.bool t1277, v1279] 59 (0, 0))) ∧ (b 1 = true → (m1_ : Value) = .agg #[.bool t1269, v1271]) ∧ (b 3 = true → (m3_ : Value) = .agg #[.bool t1273, v1275]) ∧ (b 4 = true → (m4_ : Value) = .tuple #[.agg #[.bool t1277, v1279], .bool t1281]) ∧ (b 5 = true → (m5_ : Value) = .tuple #[.agg #[.bool t1277, v1279], .bool t1281]) ∧ (b 6 = true → (m6_ : Value) = .agg #[.bool t1277, v1279]) ∧ (b 8 = true → (m8_ : Value) = .pointer (some ⟨gb1282, 0, none⟩))) HT_.out HW_.out (by kernel_rfl) (by kernel_rfl) ?_ ?_ ?_
               ·exact ⟨.bool false, .bool false, .bool false, 0, .bool false, .bool false, .bool false, .bool false, .bool false, .bool false, by simp only [putSel, Bool.false_eq_true, if_false], BK1265.out, BK1266.out, HB.out, fun h_ => absurd h_ (by decide), fun h_ => absurd h_ (by decide), fun h_ => absurd h_ (by decide), fun h_ => absurd h_ (by decide), fun h_ => absurd h_ (by decide), fun h_ => absurd h_ (by decide), fun h_ => absurd h_ (by decide), fun h_ => absurd h_ (by decide), fun h_ => absurd h_ (by decide), fun h_ => absurd h_ (by decide), fun h_ => absurd h_ (by decide), fun h_ => absurd h_ (by decide), fun h_ => absurd h_ (by decide), fun h_ => absurd h_ (by decide), fun h_ => absurd h_ (by decide), fun h_ => absurd h_ (by decide), fun h_ => absurd h_ (by decide)⟩
               ·skip
                clear BK1265 BK1266 HB
                refine steps_cons ?_ ?_
                ·rintro b a w' ⟨v1271, v1275, v1279, gb1282, m1_, m3_, m4_, m5_, m6_, m8_, ha, Q_BK1265, Q_BK1266, Q_HB, Q_HO1272, Q_HO1276, Q_HO1280, Q_BK1282, Q_GW1282, Q_GE1282, Q_NB1265_1282, Q_NB1282_1265, Q_NB1266_1282, Q_NB1282_1266, Q_BK1282_e9, Q_X1_, Q_X3_, Q_X4_, Q_X5_, Q_X6_, Q_X8_⟩ hb_ hon hoff
                 refine ⟨_, rfl, fun K hK => ?_⟩
                 have e2 : a.tmps[2]? = some (.pointer (some ⟨gb1265, 0, none⟩)) := by rw [ha]; exact (putSel_off rfl).trans rfl
                 replace ha := Aside0.mk ha
                 have BK1265 := Aside0.mk Q_BK1265
                 have BK1266 := Aside0.mk Q_BK1266
                 have HB := Aside0.mk Q_HB
                 have hc0_ : w'.cell? ⟨gb1265, 0, none⟩ = some (.bool a0_0) := (blk_cell BK1265.out 0).trans rfl
                 have hc1_ : w'.cell? ⟨gb1265, 1, none⟩ = some (.slice A0_1 l0_1.length c0_1) := (blk_cell BK1265.out 1).trans rfl
                 refine value_ (w1 := w') (v := .agg #[.bool a0_0, .slice A0_1 l0_1.length c0_1]) (by rfl) rfl ?_ ?_
                 ·go_simp
                  (try simp only [i64_w])
                  try rfl
                 refine hK.out _ _ ⟨v1271, v1275, v1279, gb1282, m1_, m3_, m4_, m5_, m6_, m8_, (by rw [ha.out]; exact putSel_upk 0 hb_ rfl rfl rfl), Q_BK1265, Q_BK1266, Q_HB, fun h0_ => absurd ((hoff 1 (by kernel_rfl)).symm.trans h0_) (by decide), fun h0_ => absurd ((hoff 3 (by kernel_rfl)).symm.trans h0_) (by decide), fun h0_ => absurd ((hoff 4 (by kernel_rfl)).symm.trans h0_) (by decide), Q_BK1282, Q_GW1282, Q_GE1282, Q_NB1265_1282, Q_NB1282_1265, Q_NB1266_1282, Q_NB1282_1266, fun h0_ => absurd ((hoff 9 (by kernel_rfl)).symm.trans h0_) (by decide), fun h0_ => absurd ((hoff 1 (by kernel_rfl)).symm.trans h0_) (by decide), fun h0_ => absurd ((hoff 3 (by kernel_rfl)).symm.trans h0_) (by decide), fun h0_ => absurd ((hoff 4 (by kernel_rfl)).symm.trans h0_) (by decide), fun h0_ => absurd ((hoff 5 (by kernel_rfl)).symm.trans h0_) (by decide), fun h0_ => absurd ((hoff 6 (by kernel_rfl)).symm.trans h0_) (by decide), Q_X8_⟩
                refine steps_cons ?_ ?_
                ·rintro b a w' ⟨v1271, v1275, v1279, gb1282, m1_, m3_, m4_, m5_, m6_, m8_, ha, Q_BK1265, Q_BK1266, Q_HB, Q_HO1272, Q_HO1276, Q_HO1280, Q_BK1282, Q_GW1282, Q_GE1282, Q_NB1265_1282, Q_NB1282_1265, Q_NB1266_1282, Q_NB1282_1266, Q_BK1282_e9, Q_X1_, Q_X3_, Q_X4_, Q_X5_, Q_X6_, Q_X8_⟩ hb_ hon hoff
                 refine ⟨_, rfl, fun K hK => ?_⟩
                 have e28 : a.tmps[28]? = some (.agg #[.bool a0_0, .slice A0_1 l0_1.length c0_1]) := by rw [ha]; exact putSel_on (e := (0, 28, .agg #[.bool a0_0, .slice A0_1 l0_1.length c0_1])) 0 rfl rfl (hon 0 (by kernel_rfl)) rfl
                 replace ha := Aside0.mk ha
                 have BK1265 := Aside0.mk Q_BK1265
                 have BK1266 := Aside0.mk Q_BK1266
                 have HB := Aside0.mk Q_HB
                 refine goes_ Try.func52 (by kernel_rfl) rfl #[.agg #[.bool a0_0, .slice A0_1 l0_1.length c0_1]] (by rfl) rfl rfl (by first | (simp only [List.map_toArray, List.map_cons, List.map_nil, Act.eval, Array.getD_eq_getD_getElem?, Option.getD_some, e28]; done) | (simp only [List.map_toArray, List.map_cons, List.map_nil, Act.eval, Array.getD_eq_getD_getElem?, Option.getD_some, e28]; rfl)) ?_
                 with_reducible refine (laws_toWhole.calls k a0_0 _ _ l0_1 t1269 t1270 _ ?side1 ?side2 A19.out).mono ?_
                 (case side1 => repeat (first | exact (Kd.C_below HR0_1.out HB.out) | (with_reducible refine Kd.C_alloc ?_ _) | (with_reducible refine Kd.C_drewN ?_ _) | (with_reducible refine Kd.C_drew ?_)))
                 (case side2 => exact HC0_1.out)
                 rintro e w60 ⟨v1271, rfl, ho0, hb⟩
                 refine ⟨_, rfl, ?_⟩
                 have n0_ := Sq.m (Kd.R_lower ho0 (below_size (by repeat (first | (with_reducible first | exact HB.out | apply Sq.rc | refine below_set ?_ GE1265.out | refine below_set ?_ GE1266.out) | exact HB.out))))
                 have n1_ := Sq.m (blk_below (g := gb1265) (o := .cells #[.bool a0_0, .slice A0_1 l0_1.length c0_1] 56 (0, 0)) (by apply Sq.rb; exact BK1265.out) hb)
                 have n2_ := Sq.m (blk_below (g := gb1266) (o := .cells #[.bool a1_0, .slice A1_1 l1_1.length c1_1] 56 (0, 0)) (by apply Sq.rb; exact BK1266.out) hb)
                 have n3_ := Sq.m (below_step (by repeat (first | (with_reducible first | exact HB.out | apply Sq.rc | refine below_set ?_ GE1265.out | refine below_set ?_ GE1266.out) | exact HB.out)) hb)
                 have z_BK1282 := fun (h0_ : b 8 = true) (h1_ : b 9 = false) => (show w60.heap[gb1282]? = some (.cells #[.bool false, .slice none 0 0] 59 (0, 0)) from by first | exact (blk_below (g := gb1282) (o := .cells #[.bool false, .slice none 0 0] 59 (0, 0)) (by apply Sq.rb; exact (Q_BK1282 h0_ h1_)) hb))
                 clear BK1265
                 clear BK1266
                 clear HB
                 have HO1272 := n0_
                 have BK1265 := n1_
                 have BK1266 := n2_
                 have HB := n3_
                 clear n0_ n1_ n2_ n3_
                 (try clear hb)
                 (try clear hb2)
                 (try clear hk)
                 (try clear hi)
                 (try clear ho0)
                 refine hK.out _ _ ⟨v1271, v1275, v1279, gb1282, (.agg #[.bool t1269, v1271]), m3_, m4_, m5_, m6_, m8_, (by rw [ha.out]; exact putSel_upk 1 hb_ rfl rfl rfl), (by apply Sq.rb; exact BK1265.out), (by apply Sq.rb; exact BK1266.out), (by repeat (first | (with_reducible first | exact HB.out | apply Sq.rc | refine below_set ?_ GE1265.out | refine below_set ?_ GE1266.out) | exact HB.out)), fun _ => (by apply Sq.ra; exact HO1272.out), fun h0_ => absurd ((hoff 3 (by kernel_rfl)).symm.trans h0_) (by decide), fun h0_ => absurd ((hoff 4 (by kernel_rfl)).symm.trans h0_) (by decide), z_BK1282, Q_GW1282, Q_GE1282, Q_NB1265_1282, Q_NB1282_1265, Q_NB1266_1282, Q_NB1282_1266, fun h0_ => absurd ((hoff 9 (by kernel_rfl)).symm.trans h0_) (by decide), fun _ => rfl, fun h0_ => absurd ((hoff 3 (by kernel_rfl)).symm.trans h0_) (by decide), fun h0_ => absurd ((hoff 4 (by kernel_rfl)).symm.trans h0_) (by decide), fun h0_ => absurd ((hoff 5 (by kernel_rfl)).symm.trans h0_) (by decide), fun h0_ => absurd ((hoff 6 (by kernel_rfl)).symm.trans h0_) (by decide), Q_X8_⟩
                refine steps_cons ?_ ?_
                ·rintro b a w' ⟨v1271, v1275, v1279, gb1282, m1_, m3_, m4_, m5_, m6_, m8_, ha, Q_BK1265, Q_BK1266, Q_HB, Q_HO1272, Q_HO1276, Q_HO1280, Q_BK1282, Q_GW1282, Q_GE1282, Q_NB1265_1282, Q_NB1282_1265, Q_NB1266_1282, Q_NB1282_1266, Q_BK1282_e9, Q_X1_, Q_X3_, Q_X4_, Q_X5_, Q_X6_, Q_X8_⟩ hb_ hon hoff
                 refine ⟨_, rfl, fun K hK => ?_⟩
                 have e3 : a.tmps[3]? = some (.pointer (some ⟨gb1266, 0, none⟩)) := by rw [ha]; exact (putSel_off rfl).trans rfl
                 replace ha := Aside0.mk ha
                 have BK1265 := Aside0.mk Q_BK1265
                 have BK1266 := Aside0.mk Q_BK1266
                 have HB := Aside0.mk Q_HB
                 have hc0_ : w'.cell? ⟨gb1266, 0, none⟩ = some (.bool a1_0) := (blk_cell BK1266.out 0).trans rfl
                 have hc1_ : w'.cell? ⟨gb1266, 1, none⟩ = some (.slice A1_1 l1_1.length c1_1) := (blk_cell BK1266.out 1).trans rfl
                 refine value_ (w1 := w') (v := .agg #[.bool a1_0, .slice A1_1 l1_1.length c1_1]) (by rfl) rfl ?_ ?_
                 ·go_simp
                  (try simp only [i64_w])
                  try rfl
                 refine hK.out _ _ ⟨v1271, v1275, v1279, gb1282, m1_, m3_, m4_, m5_, m6_, m8_, (by rw [ha.out]; exact putSel_upk 2 hb_ rfl rfl rfl), Q_BK1265, Q_BK1266, Q_HB, Q_HO1272, fun h0_ => absurd ((hoff 3 (by kernel_rfl)).symm.trans h0_) (by decide), fun h0_ => absurd ((hoff 4 (by kernel_rfl)).symm.trans h0_) (by decide), Q_BK1282, Q_GW1282, Q_GE1282, Q_NB1265_1282, Q_NB1282_1265, Q_NB1266_1282, Q_NB1282_1266, fun h0_ => absurd ((hoff 9 (by kernel_rfl)).symm.trans h0_) (by decide), Q_X1_, fun h0_ => absurd ((hoff 3 (by kernel_rfl)).symm.trans h0_) (by decide), fun h0_ => absurd ((hoff 4 (by kernel_rfl)).symm.trans h0_) (by decide), fun h0_ => absurd ((hoff 5 (by kernel_rfl)).symm.trans h0_) (by decide), fun h0_ => absurd ((hoff 6 (by kernel_rfl)).symm.trans h0_) (by decide), Q_X8_⟩
                refine steps_cons ?_ ?_
                ·rintro b a w' ⟨v1271, v1275, v1279, gb1282, m1_, m3_, m4_, m5_, m6_, m8_, ha, Q_BK1265, Q_BK1266, Q_HB, Q_HO1272, Q_HO1276, Q_HO1280, Q_BK1282, Q_GW1282, Q_GE1282, Q_NB1265_1282, Q_NB1282_1265, Q_NB1266_1282, Q_NB1282_1266, Q_BK1282_e9, Q_X1_, Q_X3_, Q_X4_, Q_X5_, Q_X6_, Q_X8_⟩ hb_ hon hoff
                 refine ⟨_, rfl, fun K hK => ?_⟩
                 have e30 : a.tmps[30]? = some (.agg #[.bool a1_0, .slice A1_1 l1_1.length c1_1]) := by rw [ha]; exact putSel_on (e := (2, 30, .agg #[.bool a1_0, .slice A1_1 l1_1.length c1_1])) 2 rfl rfl (hon 2 (by kernel_rfl)) rfl
                 replace ha := Aside0.mk ha
                 have BK1265 := Aside0.mk Q_BK1265
                 have BK1266 := Aside0.mk Q_BK1266
                 have HB := Aside0.mk Q_HB
                 have HO1272 := Sq.m (Q_HO1272 (hon 1 (by kernel_rfl)))
                 refine goes_ Try.func52 (by kernel_rfl) rfl #[.agg #[.bool a1_0, .slice A1_1 l1_1.length c1_1]] (by rfl) rfl rfl (by first | (simp only [List.map_toArray, List.map_cons, List.map_nil, Act.eval, Array.getD_eq_getD_getElem?, Option.getD_some, e30]; done) | (simp only [List.map_toArray, List.map_cons, List.map_nil, Act.eval, Array.getD_eq_getD_getElem?, Option.getD_some, e30]; rfl)) ?_
                 with_reducible refine (laws_toWhole.calls k a1_0 _ _ l1_1 t1273 t1274 _ ?side1 ?side2 A20.out).mono ?_
                 (case side1 => repeat (first | exact (Kd.C_below HR1_1.out HB.out) | (with_reducible refine Kd.C_alloc ?_ _) | (with_reducible refine Kd.C_drewN ?_ _) | (with_reducible refine Kd.C_drew ?_)))
                 (case side2 => exact HC1_1.out)
                 rintro e w62 ⟨v1275, rfl, ho0, hb⟩
                 refine ⟨_, rfl, ?_⟩
                 have n0_ := Sq.m (Kd.R_elder' (by apply Sq.ra; exact HO1272.out) (Kd.R_base ho0) hb)
                 have n1_ := Sq.m (Kd.R_lower (Kd.R_new' ho0 (Kd.R_lt (by apply Sq.ra; exact HO1272.out))) (below_size (by repeat (first | (with_reducible first | exact HB.out | apply Sq.rc | refine below_set ?_ GE1265.out | refine below_set ?_ GE1266.out) | exact HB.out))))
                 have n2_ := Sq.m (blk_below (g := gb1265) (o := .cells #[.bool a0_0, .slice A0_1 l0_1.length c0_1] 56 (0, 0)) (by apply Sq.rb; exact BK1265.out) hb)
                 have n3_ := Sq.m (blk_below (g := gb1266) (o := .cells #[.bool a1_0, .slice A1_1 l1_1.length c1_1] 56 (0, 0)) (by apply Sq.rb; exact BK1266.out) hb)
                 have n4_ := Sq.m (below_step (by repeat (first | (with_reducible first | exact HB.out | apply Sq.rc | refine below_set ?_ GE1265.out | refine below_set ?_ GE1266.out) | exact HB.out)) hb)
                 have z_BK1282 := fun (h0_ : b 8 = true) (h1_ : b 9 = false) => (show w62.heap[gb1282]? = some (.cells #[.bool false, .slice none 0 0] 59 (0, 0)) from by first | exact (blk_below (g := gb1282) (o := .cells #[.bool false, .slice none 0 0] 59 (0, 0)) (by apply Sq.rb; exact (Q_BK1282 h0_ h1_)) hb))
                 clear HO1272
                 clear BK1265
                 clear BK1266
                 clear HB
                 have HO1272 := n0_
                 have HO1276 := n1_
                 have BK1265 := n2_
                 have BK1266 := n3_
                 have HB := n4_
                 clear n0_ n1_ n2_ n3_ n4_
                 (try clear hb)
                 (try clear hb2)
                 (try clear hk)
                 (try clear hi)
                 (try clear ho0)
                 refine hK.out _ _ ⟨v1271, v1275, v1279, gb1282, m1_, (.agg #[.bool t1273, v1275]), m4_, m5_, m6_, m8_, (by rw [ha.out]; exact putSel_upk 3 hb_ rfl rfl rfl), (by apply Sq.rb; exact BK1265.out), (by apply Sq.rb; exact BK1266.out), (by repeat (first | (with_reducible first | exact HB.out | apply Sq.rc | refine below_set ?_ GE1265.out | refine below_set ?_ GE1266.out) | exact HB.out)), fun _ => (by apply Sq.ra; exact Kd.R_mono HO1272.out (fun _ hk => by first | exact True.intro | exact hk.1 | exact hk | exact hk.2 | simp only [hk, ne_eq, not_false_eq_true, and_self, and_true, true_and])), fun _ => (by apply Sq.ra; exact Kd.R_mono HO1276.out (fun _ hk => by first | exact True.intro | exact hk.1 | exact hk | exact hk.2 | simp only [hk, ne_eq, not_false_eq_true, and_self, and_true, true_and])), fun h0_ => absurd ((hoff 4 (by kernel_rfl)).symm.trans h0_) (by decide), z_BK1282, Q_GW1282, Q_GE1282, Q_NB1265_1282, Q_NB1282_1265, Q_NB1266_1282, Q_NB1282_1266, fun h0_ => absurd ((hoff 9 (by kernel_rfl)).symm.trans h0_) (by decide), Q_X1_, fun _ => rfl, fun h0_ => absurd ((hoff 4 (by kernel_rfl)).symm.trans h0_) (by decide), fun h0_ => absurd ((hoff 5 (by kernel_rfl)).symm.trans h0_) (by decide), fun h0_ => absurd ((hoff 6 (by kernel_rfl)).symm.trans h0_) (by decide), Q_X8_⟩
                refine steps_cons ?_ ?_
                ·rintro b a w' ⟨v1271, v1275, v1279, gb1282, m1_, m3_, m4_, m5_, m6_, m8_, ha, Q_BK1265, Q_BK1266, Q_HB, Q_HO1272, Q_HO1276, Q_HO1280, Q_BK1282, Q_GW1282, Q_GE1282, Q_NB1265_1282, Q_NB1282_1265, Q_NB1266_1282, Q_NB1282_1266, Q_BK1282_e9, Q_X1_, Q_X3_, Q_X4_, Q_X5_, Q_X6_, Q_X8_⟩ hb_ hon hoff
                 refine ⟨_, rfl, fun K hK => ?_⟩
                 have e29 : a.tmps[29]? = some (m1_) := by rw [ha]; exact putSel_on (e := (1, 29, m1_)) 1 rfl rfl (hon 1 (by kernel_rfl)) rfl
                 rw [Q_X1_ (hon 1 (by kernel_rfl))] at e29
                 have e31 : a.tmps[31]? = some (m3_) := by rw [ha]; exact putSel_on (e := (3, 31, m3_)) 3 rfl rfl (hon 3 (by kernel_rfl)) rfl
                 rw [Q_X3_ (hon 3 (by kernel_rfl))] at e31
                 replace ha := Aside0.mk ha
                 have BK1265 := Aside0.mk Q_BK1265
                 have BK1266 := Aside0.mk Q_BK1266
                 have HB := Aside0.mk Q_HB
                 have HO1272 := Sq.m (Q_HO1272 (hon 1 (by kernel_rfl)))
                 have HO1276 := Sq.m (Q_HO1276 (hon 3 (by kernel_rfl)))
                 obtain ⟨Ao63, co63, eo63⟩ := Kd.R_slice HO1272.out
                 (first | subst eo63 | (injection eo63 with f1_ f2_ f3_; have f4_ := f1_.symm; have f5_ := f3_.symm; clear f1_ f2_ f3_; subst f4_; subst f5_))
                 obtain ⟨Ao64, co64, eo64⟩ := Kd.R_slice HO1276.out
                 (first | subst eo64 | (injection eo64 with f1_ f2_ f3_; have f4_ := f1_.symm; have f5_ := f3_.symm; clear f1_ f2_ f3_; subst f4_; subst f5_))
                 refine goes_ Try.func51 (by kernel_rfl) rfl #[.agg #[.bool t1269, .slice Ao63 t1270.length co63], .agg #[.bool t1273, .slice Ao64 t1274.length co64]] (by rfl) rfl rfl (by first | (simp only [List.map_toArray, List.map_cons, List.map_nil, Act.eval, Array.getD_eq_getD_getElem?, Option.getD_some, e29, e31]; done) | (simp only [List.map_toArray, List.map_cons, List.map_nil, Act.eval, Array.getD_eq_getD_getElem?, Option.getD_some, e29, e31]; rfl)) ?_
                 with_reducible refine (spec_WholeAdd.calls k t1269 _ _ t1270 t1273 _ _ t1274 t1277 t1278 t1281 _ ?side1 ?side2 ?side3 ?side4 A21.out).mono ?_
                 (case side1 => repeat (first | exact (Kd.R_reads' HO1272.out).2.2 | (with_reducible refine Kd.C_alloc ?_ _) | (with_reducible refine Kd.C_drewN ?_ _) | (with_reducible refine Kd.C_drew ?_)))
                 (case side2 => exact (Kd.R_reads' HO1272.out).2.1)
                 (case side3 => repeat (first | exact (Kd.R_reads' HO1276.out).2.2 | (with_reducible refine Kd.C_alloc ?_ _) | (with_reducible refine Kd.C_drewN ?_ _) | (with_reducible refine Kd.C_drew ?_)))
                 (case side4 => exact (Kd.R_reads' HO1276.out).2.1)
                 rintro e w65 ⟨v1279, rfl, ho0, hb⟩
                 refine ⟨_, rfl, ?_⟩
                 have n0_ := Sq.m (Kd.R_elder' (by apply Sq.ra; exact HO1272.out) (Kd.R_base ho0) hb)
                 have n1_ := Sq.m (Kd.R_elder' (by apply Sq.ra; exact HO1276.out) (Kd.R_base ho0) hb)
                 have n2_ := Sq.m (Kd.R_lower (Kd.R_new' (Kd.R_new' ho0 (Kd.R_lt (by apply Sq.ra; exact HO1272.out))) (Kd.R_lt (by apply Sq.ra; exact HO1276.out))) (below_size (by repeat (first | (with_reducible first | exact HB.out | apply Sq.rc | refine below_set ?_ GE1265.out | refine below_set ?_ GE1266.out) | exact HB.out))))
                 have n3_ := Sq.m (blk_below (g := gb1265) (o := .cells #[.bool a0_0, .slice A0_1 l0_1.length c0_1] 56 (0, 0)) (by apply Sq.rb; exact BK1265.out) hb)
                 have n4_ := Sq.m (blk_below (g := gb1266) (o := .cells #[.bool a1_0, .slice A1_1 l1_1.length c1_1] 56 (0, 0)) (by apply Sq.rb; exact BK1266.out) hb)
                 have n5_ := Sq.m (below_step (by repeat (first | (with_reducible first | exact HB.out | apply Sq.rc | refine below_set ?_ GE1265.out | refine below_set ?_ GE1266.out) | exact HB.out)) hb)
                 have z_BK1282 := fun (h0_ : b 8 = true) (h1_ : b 9 = false) => (show w65.heap[gb1282]? = some (.cells #[.bool false, .slice none 0 0] 59 (0, 0)) from by first | exact (blk_below (g := gb1282) (o := .cells #[.bool false, .slice none 0 0] 59 (0, 0)) (by apply Sq.rb; exact (Q_BK1282 h0_ h1_)) hb))
                 clear HO1272
                 clear HO1276
                 clear BK1265
                 clear BK1266
                 clear HB
                 have HO1272 := n0_
                 have HO1276 := n1_
                 have HO1280 := n2_
                 have BK1265 := n3_
                 have BK1266 := n4_
                 have HB := n5_
                 clear n0_ n1_ n2_ n3_ n4_ n5_
                 (try clear hb)
                 (try clear hb2)
                 (try clear hk)
                 (try clear hi)
                 (try clear ho0)
                 refine hK.out _ _ ⟨.slice Ao63 t1270.length co63, .slice Ao64 t1274.length co64, v1279, gb1282, m1_, m3_, (.tuple #[.agg #[.bool t1277, v1279], .bool t1281]), m5_, m6_, m8_, (by rw [ha.out]; exact putSel_upk 4 hb_ rfl rfl rfl), (by apply Sq.rb; exact BK1265.out), (by apply Sq.rb; exact BK1266.out), (by repeat (first | (with_reducible first | exact HB.out | apply Sq.rc | refine below_set ?_ GE1265.out | refine below_set ?_ GE1266.out) | exact HB.out)), fun _ => (by apply Sq.ra; exact Kd.R_mono HO1272.out (fun _ hk => by first | exact True.intro | exact hk.1 | exact hk | exact hk.2 | simp only [hk, ne_eq, not_false_eq_true, and_self, and_true, true_and])), fun _ => (by apply Sq.ra; exact Kd.R_mono HO1276.out (fun _ hk => by first | exact True.intro | exact hk.1 | exact hk | exact hk.2 | simp only [hk, ne_eq, not_false_eq_true, and_self, and_true, true_and])), fun _ => (by apply Sq.ra; exact Kd.R_mono HO1280.out (fun _ hk => by first | exact True.intro | exact hk.1 | exact hk | exact ⟨hk.1.2, hk.2⟩ | simp only [hk, ne_eq, not_false_eq_true, and_self, and_true, true_and])), z_BK1282, Q_GW1282, Q_GE1282, Q_NB1265_1282, Q_NB1282_1265, Q_NB1266_1282, Q_NB1282_1266, fun h0_ => absurd ((hoff 9 (by kernel_rfl)).symm.trans h0_) (by decide), Q_X1_, Q_X3_, fun _ => rfl, fun h0_ => absurd ((hoff 5 (by kernel_rfl)).symm.trans h0_) (by decide), fun h0_ => absurd ((hoff 6 (by kernel_rfl)).symm.trans h0_) (by decide), Q_X8_⟩
                refine steps_cons ?_ ?_
                ·rintro b a w' ⟨v1271, v1275, v1279, gb1282, m1_, m3_, m4_, m5_, m6_, m8_, ha, Q_BK1265, Q_BK1266, Q_HB, Q_HO1272, Q_HO1276, Q_HO1280, Q_BK1282, Q_GW1282, Q_GE1282, Q_NB1265_1282, Q_NB1282_1265, Q_NB1266_1282, Q_NB1282_1266, Q_BK1282_e9, Q_X1_, Q_X3_, Q_X4_, Q_X5_, Q_X6_, Q_X8_⟩ hb_ hon hoff
                 refine ⟨_, rfl, fun K hK => ?_⟩
                 have e32 : a.tmps[32]? = some (m4_) := by rw [ha]; exact putSel_on (e := (4, 32, m4_)) 4 rfl rfl (hon 4 (by kernel_rfl)) rfl
                 rw [Q_X4_ (hon 4 (by kernel_rfl))] at e32
                 replace ha := Aside0.mk ha
                 have BK1265 := Aside0.mk Q_BK1265
                 have BK1266 := Aside0.mk Q_BK1266
                 have HB := Aside0.mk Q_HB
                 have HO1272 := Sq.m (Q_HO1272 (hon 1 (by kernel_rfl)))
                 have HO1276 := Sq.m (Q_HO1276 (hon 3 (by kernel_rfl)))
                 have HO1280 := Sq.m (Q_HO1280 (hon 4 (by kernel_rfl)))
                 refine value_ (w1 := w') (v := .tuple #[.agg #[.bool t1277, v1279], .bool t1281]) (by rfl) rfl ?_ ?_
                 ·go_simp
                  (try simp only [i64_w])
                  try rfl
                 refine hK.out _ _ ⟨v1271, v1275, v1279, gb1282, m1_, m3_, m4_, (.tuple #[.agg #[.bool t1277, v1279], .bool t1281]), m6_, m8_, (by rw [ha.out]; exact putSel_upk 5 hb_ rfl rfl rfl), Q_BK1265, Q_BK1266, Q_HB, Q_HO1272, Q_HO1276, Q_HO1280, Q_BK1282, Q_GW1282, Q_GE1282, Q_NB1265_1282, Q_NB1282_1265, Q_NB1266_1282, Q_NB1282_1266, fun h0_ => absurd ((hoff 9 (by kernel_rfl)).symm.trans h0_) (by decide), Q_X1_, Q_X3_, Q_X4_, fun _ => rfl, fun h0_ => absurd ((hoff 6 (by kernel_rfl)).symm.trans h0_) (by decide), Q_X8_⟩
                refine steps_cons ?_ ?_
                ·rintro b a w' ⟨v1271, v1275, v1279, gb1282, m1_, m3_, m4_, m5_, m6_, m8_, ha, Q_BK1265, Q_BK1266, Q_HB, Q_HO1272, Q_HO1276, Q_HO1280, Q_BK1282, Q_GW1282, Q_GE1282, Q_NB1265_1282, Q_NB1282_1265, Q_NB1266_1282, Q_NB1282_1266, Q_BK1282_e9, Q_X1_, Q_X3_, Q_X4_, Q_X5_, Q_X6_, Q_X8_⟩ hb_ hon hoff
                 refine ⟨_, rfl, fun K hK => ?_⟩
                 have e27 : a.tmps[27]? = some (m5_) := by rw [ha]; exact putSel_on (e := (5, 27, m5_)) 5 rfl rfl (hon 5 (by kernel_rfl)) rfl
                 rw [Q_X5_ (hon 5 (by kernel_rfl))] at e27
                 replace ha := Aside0.mk ha
                 have BK1265 := Aside0.mk Q_BK1265
                 have BK1266 := Aside0.mk Q_BK1266
                 have HB := Aside0.mk Q_HB
                 have HO1272 := Sq.m (Q_HO1272 (hon 1 (by kernel_rfl)))
                 have HO1276 := Sq.m (Q_HO1276 (hon 3 (by kernel_rfl)))
                 have HO1280 := Sq.m (Q_HO1280 (hon 4 (by kernel_rfl)))
                 refine value_ (w1 := w') (v := .agg #[.bool t1277, v1279]) (by rfl) rfl ?_ ?_
                 ·go_simp
                  (try simp only [i64_w])
                  try rfl
                 refine hK.out _ _ ⟨v1271, v1275, v1279, gb1282, m1_, m3_, m4_, m5_, (.agg #[.bool t1277, v1279]), m8_, (by rw [ha.out]; exact putSel_upk 6 hb_ rfl rfl rfl), Q_BK1265, Q_BK1266, Q_HB, Q_HO1272, Q_HO1276, Q_HO1280, Q_BK1282, Q_GW1282, Q_GE1282, Q_NB1265_1282, Q_NB1282_1265, Q_NB1266_1282, Q_NB1282_1266, fun h0_ => absurd ((hoff 9 (by kernel_rfl)).symm.trans h0_) (by decide), Q_X1_, Q_X3_, Q_X4_, Q_X5_, fun _ => rfl, Q_X8_⟩
                refine steps_cons ?_ ?_
                ·rintro b a w' ⟨v1271, v1275, v1279, gb1282, m1_, m3_, m4_, m5_, m6_, m8_, ha, Q_BK1265, Q_BK1266, Q_HB, Q_HO1272, Q_HO1276, Q_HO1280, Q_BK1282, Q_GW1282, Q_GE1282, Q_NB1265_1282, Q_NB1282_1265, Q_NB1266_1282, Q_NB1282_1266, Q_BK1282_e9, Q_X1_, Q_X3_, Q_X4_, Q_X5_, Q_X6_, Q_X8_⟩ hb_ hon hoff
                 refine ⟨_, rfl, fun K hK => ?_⟩
                 have e27 : a.tmps[27]? = some (m5_) := by rw [ha]; exact putSel_on (e := (5, 27, m5_)) 5 rfl rfl (hon 5 (by kernel_rfl)) rfl
                 rw [Q_X5_ (hon 5 (by kernel_rfl))] at e27
                 replace ha := Aside0.mk ha
                 have BK1265 := Aside0.mk Q_BK1265
                 have BK1266 := Aside0.mk Q_BK1266
                 have HB := Aside0.mk Q_HB
                 have HO1272 := Sq.m (Q_HO1272 (hon 1 (by kernel_rfl)))
                 have HO1276 := Sq.m (Q_HO1276 (hon 3 (by kernel_rfl)))
                 have HO1280 := Sq.m (Q_HO1280 (hon 4 (by kernel_rfl)))
                 refine value_ (w1 := w') (v := .bool t1281) (by rfl) rfl ?_ ?_
                 ·go_simp
                  (try simp only [i64_w])
                  try rfl
                 refine hK.out _ _ ⟨v1271, v1275, v1279, gb1282, m1_, m3_, m4_, m5_, m6_, m8_, (by rw [ha.out]; exact putSel_upk 7 hb_ rfl rfl rfl), Q_BK1265, Q_BK1266, Q_HB, Q_HO1272, Q_HO1276, Q_HO1280, Q_BK1282, Q_GW1282, Q_GE1282, Q_NB1265_1282, Q_NB1282_1265, Q_NB1266_1282, Q_NB1282_1266, Q_BK1282_e9, Q_X1_, Q_X3_, Q_X4_, Q_X5_, Q_X6_, Q_X8_⟩
                refine steps_cons ?_ ?_
                ·rintro b a w' ⟨v1271, v1275, v1279, gb1282, m1_, m3_, m4_, m5_, m6_, m8_, ha, Q_BK1265, Q_BK1266, Q_HB, Q_HO1272, Q_HO1276, Q_HO1280, Q_BK1282, Q_GW1282, Q_GE1282, Q_NB1265_1282, Q_NB1282_1265, Q_NB1266_1282, Q_NB1282_1266, Q_BK1282_e9, Q_X1_, Q_X3_, Q_X4_, Q_X5_, Q_X6_, Q_X8_⟩ hb_ hon hoff
                 refine ⟨_, rfl, fun K hK => ?_⟩
                 replace ha := Aside0.mk ha
                 have BK1265 := Aside0.mk Q_BK1265
                 have BK1266 := Aside0.mk Q_BK1266
                 have HB := Aside0.mk Q_HB
                 refine box_step ?hg (N := 6) ?hd (cs := #[.bool false, .slice none 0 0]) (t := 59) ?hr ?_; (case hd => rfl); (case hg => rfl); (case hr => first | (go_simp; done) | (go_simp; rfl))
                 intro gb1282 hg w60 hbox hb
                 have n0_ := Sq.m (blk_below (g := gb1265) (o := .cells #[.bool a0_0, .slice A0_1 l0_1.length c0_1] 56 (0, 0)) (by apply Sq.rb; exact BK1265.out) hb)
                 have n1_ := Sq.m (blk_below (g := gb1266) (o := .cells #[.bool a1_0, .slice A1_1 l1_1.length c1_1] 56 (0, 0)) (by apply Sq.rb; exact BK1266.out) hb)
                 have n2_ := Sq.m (below_step (by repeat (first | (with_reducible first | exact HB.out | apply Sq.rc | refine below_set ?_ GE1265.out | refine below_set ?_ GE1266.out) | exact HB.out)) hb)
                 have n3_ := Sq.m (hbox)
                 have n4_ := Sq.m ((by rw [hg]; exact (below_size (by repeat (first | (with_reducible first | exact HB.out | apply Sq.rc | refine below_set ?_ GE1265.out | refine below_set ?_ GE1266.out) | exact HB.out))) : w.heap.size ≤ gb1282))
                 have n5_ := Sq.m ((by rw [hg]; exact (below_size (by repeat (first | (with_reducible first | exact HB.out | apply Sq.rc | refine below_set ?_ GE1265.out | refine below_set ?_ GE1266.out) | exact HB.out))) : w.heap.size ≤ gb1282))
                 have n6_ := Sq.m ((by rw [hg]; exact Nat.ne_of_lt (blk_lt (g := gb1265) (o := .cells #[.bool a0_0, .slice A0_1 l0_1.length c0_1] 56 (0, 0)) (by apply Sq.rb; exact BK1265.out)) : gb1265 ≠ gb1282))
                 have n7_ := Sq.m ((by rw [hg]; exact Nat.ne_of_gt (blk_lt (g := gb1265) (o := .cells #[.bool a0_0, .slice A0_1 l0_1.length c0_1] 56 (0, 0)) (by apply Sq.rb; exact BK1265.out)) : gb1282 ≠ gb1265))
                 have n8_ := Sq.m ((by rw [hg]; exact Nat.ne_of_lt (blk_lt (g := gb1266) (o := .cells #[.bool a1_0, .slice A1_1 l1_1.length c1_1] 56 (0, 0)) (by apply Sq.rb; exact BK1266.out)) : gb1266 ≠ gb1282))
                 have n9_ := Sq.m ((by rw [hg]; exact Nat.ne_of_gt (blk_lt (g := gb1266) (o := .cells #[.bool a1_0, .slice A1_1 l1_1.length c1_1] 56 (0, 0)) (by apply Sq.rb; exact BK1266.out)) : gb1282 ≠ gb1266))
                 have z_HO1272 := fun (h0_ : b 1 = true) => (show Kd.R (Kd.int .i64) 3 w60 w.heap.size (fun _ => True) v1271 t1270 from by first | exact (Kd.R_below (by apply Sq.ra; exact (Q_HO1272 h0_)) hb) | exact Kd.R_mono (Kd.R_below (by apply Sq.ra; exact (Q_HO1272 h0_)) hb) (fun _ h_ => by first | trivial | exact h_ | exact h_.1))
                 have z_HO1276 := fun (h0_ : b 3 = true) => (show Kd.R (Kd.int .i64) 3 w60 w.heap.size (fun _ => True) v1275 t1274 from by first | exact (Kd.R_below (by apply Sq.ra; exact (Q_HO1276 h0_)) hb) | exact Kd.R_mono (Kd.R_below (by apply Sq.ra; exact (Q_HO1276 h0_)) hb) (fun _ h_ => by first | trivial | exact h_ | exact h_.1))
                 have z_HO1280 := fun (h0_ : b 4 = true) => (show Kd.R (Kd.int .i64) 3 w60 w.heap.size (fun _ => True) v1279 t1278 from by first | exact (Kd.R_below (by apply Sq.ra; exact (Q_HO1280 h0_)) hb) | exact Kd.R_mono (Kd.R_below (by apply Sq.ra; exact (Q_HO1280 h0_)) hb) (fun _ h_ => by first | trivial | exact h_ | exact h_.1))
                 clear BK1265
                 clear BK1266
                 clear HB
                 have BK1265 := n0_
                 have BK1266 := n1_
                 have HB := n2_
                 have BK1282 := n3_
                 have GW1282 := n4_
                 have GE1282 := n5_
                 have NB1265_1282 := n6_
                 have NB1282_1265 := n7_
                 have NB1266_1282 := n8_
                 have NB1282_1266 := n9_
                 clear n0_ n1_ n2_ n3_ n4_ n5_ n6_ n7_ n8_ n9_
                 clear hb hbox hg
                 refine hK.out _ _ ⟨v1271, v1275, v1279, gb1282, m1_, m3_, m4_, m5_, m6_, (.pointer (some ⟨gb1282, 0, none⟩)), (by rw [ha.out]; exact putSel_upk 8 hb_ rfl rfl rfl), (by apply Sq.rb; exact BK1265.out), (by apply Sq.rb; exact BK1266.out), (by repeat (first | (with_reducible first | exact HB.out | apply Sq.rc | refine below_set ?_ GE1265.out | refine below_set ?_ GE1266.out | refine below_set ?_ GE1282.out) | exact HB.out)), z_HO1272, z_HO1276, z_HO1280, fun _ _ => (by apply Sq.rb; exact BK1282.out), fun _ => GW1282.out, fun _ => GE1282.out, fun _ => NB1265_1282.out, fun _ => NB1282_1265.out, fun _ => NB1266_1282.out, fun _ => NB1282_1266.out, fun h0_ => absurd ((hoff 9 (by kernel_rfl)).symm.trans h0_) (by decide), Q_X1_, Q_X3_, Q_X4_, Q_X5_, Q_X6_, fun _ => rfl⟩
                refine steps_cons ?_ ?_
                ·rintro b a w' ⟨v1271, v1275, v1279, gb1282, m1_, m3_, m4_, m5_, m6_, m8_, ha, Q_BK1265, Q_BK1266, Q_HB, Q_HO1272, Q_HO1276, Q_HO1280, Q_BK1282, Q_GW1282, Q_GE1282, Q_NB1265_1282, Q_NB1282_1265, Q_NB1266_1282, Q_NB1282_1266, Q_BK1282_e9, Q_X1_, Q_X3_, Q_X4_, Q_X5_, Q_X6_, Q_X8_⟩ hb_ hon hoff
                 refine ⟨_, rfl, fun K hK => ?_⟩
                 have e6 : a.tmps[6]? = some (m8_) := by rw [ha]; exact putSel_on (e := (8, 6, m8_)) 8 rfl rfl (hon 8 (by kernel_rfl)) rfl
                 rw [Q_X8_ (hon 8 (by kernel_rfl))] at e6
                 have e33 : a.tmps[33]? = some (m6_) := by rw [ha]; exact putSel_on (e := (6, 33, m6_)) 6 rfl rfl (hon 6 (by kernel_rfl)) rfl
                 rw [Q_X6_ (hon 6 (by kernel_rfl))] at e33
                 replace ha := Aside0.mk ha
                 have BK1265 := Aside0.mk Q_BK1265
                 have BK1266 := Aside0.mk Q_BK1266
                 have HB := Aside0.mk Q_HB
                 have HO1272 := Sq.m (Q_HO1272 (hon 1 (by kernel_rfl)))
                 have HO1276 := Sq.m (Q_HO1276 (hon 3 (by kernel_rfl)))
                 have HO1280 := Sq.m (Q_HO1280 (hon 4 (by kernel_rfl)))
                 have BK1282 := Sq.m (Q_BK1282 (hon 8 (by kernel_rfl)) hb_)
                 have GW1282 := Sq.m (Q_GW1282 (hon 8 (by kernel_rfl)))
                 have GE1282 := Sq.m (Q_GE1282 (hon 8 (by kernel_rfl)))
                 have NB1265_1282 := Sq.m (Q_NB1265_1282 (hon 8 (by kernel_rfl)))
                 have NB1282_1265 := Sq.m (Q_NB1282_1265 (hon 8 (by kernel_rfl)))
                 have NB1266_1282 := Sq.m (Q_NB1266_1282 (hon 8 (by kernel_rfl)))
                 have NB1282_1266 := Sq.m (Q_NB1282_1266 (hon 8 (by kernel_rfl)))
                 obtain ⟨Ao68, co68, eo68⟩ := Kd.R_slice HO1280.out
                 (first | subst eo68 | (injection eo68 with f1_ f2_ f3_; have f4_ := f1_.symm; have f5_ := f3_.symm; clear f1_ f2_ f3_; subst f4_; subst f5_))
                 have hs67 : w'.cell? ⟨gb1282, 0, none⟩ = some (.bool false) := (blk_cell BK1282.out 0).trans rfl
                 have hfs67 := blk_frozen BK1282.out 0
                 have hns67_0 := NB1265_1282.out
                 have hns67_1 := NB1266_1282.out
                 have hms67_0 := NB1282_1265.out
                 have hms67_1 := NB1282_1266.out
                 have hs69 : w'.cell? ⟨gb1282, 1, none⟩ = some (.slice none 0 0) := (blk_cell BK1282.out 1).trans rfl
                 have hfs69 := blk_frozen BK1282.out 1
                 have hns69_0 := NB1265_1282.out
                 have hns69_1 := NB1266_1282.out
                 have hms69_0 := NB1282_1265.out
                 have hms69_1 := NB1282_1266.out
                 refine skip_ (w1 := ?_) (by rfl) rfl ?_ ?_
                 rotate_left
                 ·go_simp
                  rfl
                 refine hK.out _ _ ⟨v1271, v1275, .slice Ao68 t1278.length co68, gb1282, m1_, m3_, m4_, m5_, m6_, m8_, (by rw [ha.out]; exact putSel_none (v := undef) rfl), (by apply Sq.rb; refine blk_far ?_ NB1265_1282.out _; apply Sq.rb; refine blk_far ?_ NB1265_1282.out _; apply Sq.rb; exact BK1265.out), (by apply Sq.rb; refine blk_far ?_ NB1266_1282.out _; apply Sq.rb; refine blk_far ?_ NB1266_1282.out _; apply Sq.rb; exact BK1266.out), (by repeat (first | (with_reducible first | exact HB.out | apply Sq.rc | refine below_set ?_ GE1265.out | refine below_set ?_ GE1266.out | refine below_set ?_ GE1282.out) | exact HB.out)), fun _ => (by apply Sq.ra; exact Kd.R_mono (Kd.R_far (p := ⟨gb1282, 1, none⟩) (Kd.R_far (p := ⟨gb1282, 0, none⟩) (Kd.R_types HO1272.out BK1282.out (by decide)) (fun _ hk => hk.2) (.bool t1277)) (fun _ hk => hk.2) (.slice Ao68 t1278.length co68)) (fun _ hk => trivial)), fun _ => (by apply Sq.ra; exact Kd.R_mono (Kd.R_far (p := ⟨gb1282, 1, none⟩) (Kd.R_far (p := ⟨gb1282, 0, none⟩) (Kd.R_types HO1276.out BK1282.out (by decide)) (fun _ hk => hk.2) (.bool t1277)) (fun _ hk => hk.2) (.slice Ao68 t1278.length co68)) (fun _ hk => trivial)), fun _ => (by apply Sq.ra; exact Kd.R_mono (Kd.R_far (p := ⟨gb1282, 1, none⟩) (Kd.R_far (p := ⟨gb1282, 0, none⟩) (Kd.R_types HO1280.out BK1282.out (by decide)) (fun _ hk => hk.2) (.bool t1277)) (fun _ hk => hk.2) (.slice Ao68 t1278.length co68)) (fun _ hk => trivial)), fun _ h1_ => absurd ((up_self b 9).symm.trans h1_) (by decide), fun _ => GW1282.out, fun _ => GE1282.out, fun _ => NB1265_1282.out, fun _ => NB1282_1265.out, fun _ => NB1266_1282.out, fun _ => NB1282_1266.out, fun _ => (by apply Sq.rb; refine blk_put (cs := #[.bool t1277, .slice none 0 0]) ?_ 1 _ rfl; apply Sq.rb; refine blk_put (cs := #[.bool false, .slice none 0 0]) ?_ 0 _ rfl; apply Sq.rb; exact BK1282.out), Q_X1_, Q_X3_, Q_X4_, Q_X5_, Q_X6_, Q_X8_⟩
                refine steps_cons ?_ ?_
                ·rintro b a w' ⟨v1271, v1275, v1279, gb1282, m1_, m3_, m4_, m5_, m6_, m8_, ha, Q_BK1265, Q_BK1266, Q_HB, Q_HO1272, Q_HO1276, Q_HO1280, Q_BK1282, Q_GW1282, Q_GE1282, Q_NB1265_1282, Q_NB1282_1265, Q_NB1266_1282, Q_NB1282_1266, Q_BK1282_e9, Q_X1_, Q_X3_, Q_X4_, Q_X5_, Q_X6_, Q_X8_⟩ hb_ hon hoff
                 refine ⟨_, rfl, fun K hK => ?_⟩
                 have e34 : a.tmps[34]? = some (.bool t1281) := by rw [ha]; exact putSel_on (e := (7, 34, .bool t1281)) 7 rfl rfl (hon 7 (by kernel_rfl)) rfl
                 replace ha := Aside0.mk ha
                 have BK1265 := Aside0.mk Q_BK1265
                 have BK1266 := Aside0.mk Q_BK1266
                 have HB := Aside0.mk Q_HB
                 have HO1272 := Sq.m (Q_HO1272 (hon 1 (by kernel_rfl)))
                 have HO1276 := Sq.m (Q_HO1276 (hon 3 (by kernel_rfl)))
                 have HO1280 := Sq.m (Q_HO1280 (hon 4 (by kernel_rfl)))
                 have GW1282 := Sq.m (Q_GW1282 (hon 8 (by kernel_rfl)))
                 have GE1282 := Sq.m (Q_GE1282 (hon 8 (by kernel_rfl)))
                 have NB1265_1282 := Sq.m (Q_NB1265_1282 (hon 8 (by kernel_rfl)))
                 have NB1282_1265 := Sq.m (Q_NB1282_1265 (hon 8 (by kernel_rfl)))
                 have NB1266_1282 := Sq.m (Q_NB1266_1282 (hon 8 (by kernel_rfl)))
                 have NB1282_1266 := Sq.m (Q_NB1282_1266 (hon 8 (by kernel_rfl)))
                 have BK1282 := Sq.m (Q_BK1282_e9 (hon 9 (by kernel_rfl)))
                 refine value_ (w1 := w') (v := .bool t1281) (by rfl) rfl ?_ ?_
                 ·go_simp
                  (try simp only [i64_w])
                  try rfl
                 refine hK.out _ _ ⟨v1271, v1275, v1279, gb1282, m1_, m3_, m4_, m5_, m6_, m8_, (by rw [ha.out]; exact putSel_upk 9 hb_ rfl rfl rfl), Q_BK1265, Q_BK1266, Q_HB, Q_HO1272, Q_HO1276, Q_HO1280, fun _ h1_ => absurd ((hon 9 (by kernel_rfl)).symm.trans h1_) (by decide), Q_GW1282, Q_GE1282, Q_NB1265_1282, Q_NB1282_1265, Q_NB1266_1282, Q_NB1282_1266, Q_BK1282_e9, Q_X1_, Q_X3_, Q_X4_, Q_X5_, Q_X6_, Q_X8_⟩
                exact steps_nil
               rintro b a w69 hall ⟨v1271, v1275, v1279, gb1282, m1_, m3_, m4_, m5_, m6_, m8_, ha, Q_BK1265, Q_BK1266, Q_HB, Q_HO1272, Q_HO1276, Q_HO1280, Q_BK1282, Q_GW1282, Q_GE1282, Q_NB1265_1282, Q_NB1282_1265, Q_NB1266_1282, Q_NB1282_1266, Q_BK1282_e9, Q_X1_, Q_X3_, Q_X4_, Q_X5_, Q_X6_, Q_X8_⟩
               clear BK1265 BK1266 HB
               have hb0_ := hall 0 (by kernel_rfl)
               have hb1_ := hall 1 (by kernel_rfl)
               have hb2_ := hall 2 (by kernel_rfl)
               have hb3_ := hall 3 (by kernel_rfl)
               have hb4_ := hall 4 (by kernel_rfl)
               have hb5_ := hall 5 (by kernel_rfl)
               have hb6_ := hall 6 (by kernel_rfl)
               have hb7_ := hall 7 (by kernel_rfl)
               have hb8_ := hall 8 (by kernel_rfl)
               have hb9_ := hall 9 (by kernel_rfl)
               have hb10_ := hall 10 (by kernel_rfl)
               subst ha
               obtain rfl := Q_X1_ hb1_
               obtain rfl := Q_X3_ hb3_
               obtain rfl := Q_X4_ hb4_
               obtain rfl := Q_X5_ hb5_
               obtain rfl := Q_X6_ hb6_
               obtain rfl := Q_X8_ hb8_
               simp only [putSel, hb0_, hb1_, hb2_, hb3_, hb4_, hb5_, hb6_, hb7_, hb8_, hb9_, hb10_, if_true, Act.put, List.setIfInBounds_toArray, List.set_cons_zero, List.set_cons_succ]
               have BK1265 := Aside0.mk Q_BK1265
               clear Q_BK1265
               have BK1266 := Aside0.mk Q_BK1266
               clear Q_BK1266
               have HB := Aside0.mk Q_HB
               clear Q_HB
               have HO1272 := Sq.m (Q_HO1272 hb1_)
               clear Q_HO1272
               have HO1276 := Sq.m (Q_HO1276 hb3_)
               clear Q_HO1276
               have HO1280 := Sq.m (Q_HO1280 hb4_)
               clear Q_HO1280
               clear Q_BK1282
               have GW1282 := Sq.m (Q_GW1282 hb8_)
               clear Q_GW1282
               have GE1282 := Sq.m (Q_GE1282 hb8_)
               clear Q_GE1282
               have NB1265_1282 := Sq.m (Q_NB1265_1282 hb8_)
               clear Q_NB1265_1282
               have NB1282_1265 := Sq.m (Q_NB1282_1265 hb8_)
               clear Q_NB1282_1265
               have NB1266_1282 := Sq.m (Q_NB1266_1282 hb8_)
               clear Q_NB1266_1282
               have NB1282_1266 := Sq.m (Q_NB1282_1266 hb8_)
               clear Q_NB1282_1266
               have BK1282 := Sq.m (Q_BK1282_e9 hb9_)
               clear Q_BK1282_e9
               clear hall hb0_ hb1_ hb2_ hb3_ hb4_ hb5_ hb6_ hb7_ hb8_ hb9_ hb10_
               have hnb70 := NB1265_1282.out
               have hnc70 := NB1282_1265.out
               have hcz71_0 : w69.cell? ⟨gb1265, 0, none⟩ = some (.bool a0_0) := (blk_cell BK1265.out 0).trans rfl
               have hcz71_1 : w69.cell? ⟨gb1265, 1, none⟩ = some (.slice A0_1 l0_1.length c0_1) := (blk_cell BK1265.out 1).trans rfl
               have hfz71_0 := blk_frozen BK1265.out 0
               have hfz71_1 := blk_frozen BK1265.out 1
               try go_wp2_with (first | ((with_reducible refine gate_callee (f := 52) rfl ?_); refine goesL_ (some 36) rfl rfl Try.func52 (by kernel_rfl) rfl #[.agg #[.bool a0_0, .slice A0_1 l0_1.length c0_1]] rfl (by (try simp only [List.map_toArray, List.map_cons, List.map_nil]); first | done | rfl | (simp only [List.length_drop, List.length_take]; rfl) | (simp only [i64_w, u8_w, w64_b]; rfl)) ?_; (with_reducible refine (laws_toWhole.calls k a0_0 _ _ l0_1 t1283 t1284 _ ?side1 ?side2 A22.out).mono ?_); (case side1 => repeat (first | exact (Kd.C_below HR0_1.out HB.out) | (with_reducible refine Kd.C_alloc ?_ _) | (with_reducible refine Kd.C_drewN ?_ _) | (with_reducible refine Kd.C_drew ?_))); (case side2 => exact HC0_1.out); rintro e w72 ⟨v1285, rfl, ho0, hb⟩; refine ⟨_, rfl, ?_⟩; have n0_ := Sq.m (Kd.R_elder' (by apply Sq.ra; exact HO1272.out) (Kd.R_base ho0) hb); have n1_ := Sq.m (Kd.R_elder' (by apply Sq.ra; exact HO1276.out) (Kd.R_base ho0) hb); have n2_ := Sq.m (Kd.R_elder' (by apply Sq.ra; exact HO1280.out) (Kd.R_base ho0) hb); have n3_ := Sq.m (Kd.R_lower (Kd.R_new' (Kd.R_new' (Kd.R_new' ho0 (Kd.R_lt (by apply Sq.ra; exact HO1272.out))) (Kd.R_lt (by apply Sq.ra; exact HO1276.out))) (Kd.R_lt (by apply Sq.ra; exact HO1280.out))) (below_size (by repeat (first | (with_reducible first | exact HB.out | apply Sq.rc | refine below_set ?_ GE1265.out | refine below_set ?_ GE1266.out | refine below_set ?_ GE1282.out) | exact HB.out)))); have n4_ := Sq.m (blk_below (g := gb1265) (o := .cells #[.bool a0_0, .slice A0_1 l0_1.length c0_1] 56 (0, 0)) (by apply Sq.rb; exact BK1265.out) hb); have n5_ := Sq.m (blk_below (g := gb1266) (o := .cells #[.bool a1_0, .slice A1_1 l1_1.length c1_1] 56 (0, 0)) (by apply Sq.rb; exact BK1266.out) hb); have n6_ := Sq.m (blk_below (g := gb1282) (o := .cells #[.bool t1277, v1279] 59 (0, 0)) (by apply Sq.rb; exact BK1282.out) hb); have n7_ := Sq.m (below_step (by repeat (first | (with_reducible first | exact HB.out | apply Sq.rc | refine below_set ?_ GE1265.out | refine below_set ?_ GE1266.out | refine below_set ?_ GE1282.out) | exact HB.out)) hb); clear HO1272; clear HO1276; clear HO1280; clear BK1265; clear BK1266; clear BK1282; clear HB; have HO1272 := n0_; have HO1276 := n1_; have HO1280 := n2_; have HO1286 := n3_; have BK1265 := n4_; have BK1266 := n5_; have BK1282 := n6_; have HB := n7_; clear n0_ n1_ n2_ n3_ n4_ n5_ n6_ n7_; (try clear hb); (try clear hb2); (try clear hk); (try clear hi); (try clear ho0)) | ((with_reducible refine gate_dst (N := 8) rfl ?_); refine box_event ?hg (N := 8) ?hd (cs := #[.bool false, .slice none 0 0]) (t := 59) ?hr ?_; (case hd => rfl); (case hg => rfl); (case hr => first | (go_simp; done) | (go_simp; rfl)); intro gb1287 hg w73 hbox hb; have n0_ := Sq.m (Kd.R_below (by apply Sq.ra; exact HO1272.out) hb); have n1_ := Sq.m (Kd.R_below (by apply Sq.ra; exact HO1276.out) hb); have n2_ := Sq.m (Kd.R_below (by apply Sq.ra; exact HO1280.out) hb); have n3_ := Sq.m (Kd.R_below (by apply Sq.ra; exact HO1286.out) hb); have n4_ := Sq.m (blk_below (g := gb1265) (o := .cells #[.bool a0_0, .slice A0_1 l0_1.length c0_1] 56 (0, 0)) (by apply Sq.rb; exact BK1265.out) hb); have n5_ := Sq.m (blk_below (g := gb1266) (o := .cells #[.bool a1_0, .slice A1_1 l1_1.length c1_1] 56 (0, 0)) (by apply Sq.rb; exact BK1266.out) hb); have n6_ := Sq.m (blk_below (g := gb1282) (o := .cells #[.bool t1277, v1279] 59 (0, 0)) (by apply Sq.rb; exact BK1282.out) hb); have n7_ := Sq.m (below_step (by repeat (first | (with_reducible first | exact HB.out | apply Sq.rc | refine below_set ?_ GE1265.out | refine below_set ?_ GE1266.out | refine below_set ?_ GE1282.out) | exact HB.out)) hb); have n8_ := Sq.m (hbox); have n9_ := Sq.m ((by rw [hg]; exact (below_size (by repeat (first | (with_reducible first | exact HB.out | apply Sq.rc | refine below_set ?_ GE1265.out | refine below_set ?_ GE1266.out | refine below_set ?_ GE1282.out) | exact HB.out))) : w.heap.size ≤ gb1287)); have n10_ := Sq.m ((by rw [hg]; exact (below_size (by repeat (first | (with_reducible first | exact HB.out | apply Sq.rc | refine below_set ?_ GE1265.out | refine below_set ?_ GE1266.out | refine below_set ?_ GE1282.out) | exact HB.out))) : w.heap.size ≤ gb1287)); have n11_ := Sq.m ((by rw [hg]; exact Nat.ne_of_lt (blk_lt (g := gb1265) (o := .cells #[.bool a0_0, .slice A0_1 l0_1.length c0_1] 56 (0, 0)) (by apply Sq.rb; exact BK1265.out)) : gb1265 ≠ gb1287)); have n12_ := Sq.m ((by rw [hg]; exact Nat.ne_of_gt (blk_lt (g := gb1265) (o := .cells #[.bool a0_0, .slice A0_1 l0_1.length c0_1] 56 (0, 0)) (by apply Sq.rb; exact BK1265.out)) : gb1287 ≠ gb1265)); have n13_ := Sq.m ((by rw [hg]; exact Nat.ne_of_lt (blk_lt (g := gb1266) (o := .cells #[.bool a1_0, .slice A1_1 l1_1.length c1_1] 56 (0, 0)) (by apply Sq.rb; exact BK1266.out)) : gb1266 ≠ gb1287)); have n14_ := Sq.m ((by rw [hg]; exact Nat.ne_of_gt (blk_lt (g := gb1266) (o := .cells #[.bool a1_0, .slice A1_1 l1_1.length c1_1] 56 (0, 0)) (by apply Sq.rb; exact BK1266.out)) : gb1287 ≠ gb1266)); have n15_ := Sq.m ((by rw [hg]; exact Nat.ne_of_lt (blk_lt (g := gb1282) (o := .cells #[.bool t1277, v1279] 59 (0, 0)) (by apply Sq.rb; exact BK1282.out)) : gb1282 ≠ gb1287)); have n16_ := Sq.m ((by rw [hg]; exact Nat.ne_of_gt (blk_lt (g := gb1282) (o := .cells #[.bool t1277, v1279] 59 (0, 0)) (by apply Sq.rb; exact BK1282.out)) : gb1287 ≠ gb1282)); clear HO1272; clear HO1276; clear HO1280; clear HO1286; clear BK1265; clear BK1266; clear BK1282; clear HB; have HO1272 := n0_; have HO1276 := n1_; have HO1280 := n2_; have HO1286 := n3_; have BK1265 := n4_; have BK1266 := n5_; have BK1282 := n6_; have HB := n7_; have BK1287 := n8_; have GW1287 := n9_; have GE1287 := n10_; have NB1265_1287 := n11_; have NB1287_1265 := n12_; have NB1266_1287 := n13_; have NB1287_1266 := n14_; have NB1282_1287 := n15_; have NB1287_1282 := n16_; clear n0_ n1_ n2_ n3_ n4_ n5_ n6_ n7_ n8_ n9_ n10_ n11_ n12_ n13_ n14_ n15_ n16_; clear hb hbox hg; have hnb74 := NB1287_1265.out; have hnc74 := NB1265_1287.out; have hnb75 := NB1287_1266.out; have hnc75 := NB1266_1287.out; have hnb76 := NB1287_1282.out; have hnc76 := NB1282_1287.out; have hcz77_0 : w73.cell? ⟨gb1287, 0, none⟩ = some (.bool false) := (blk_cell BK1287.out 0).trans rfl; have hcz77_1 : w73.cell? ⟨gb1287, 1, none⟩ = some (.slice none 0 0) := (blk_cell BK1287.out 1).trans rfl; have hfz77_0 := blk_frozen BK1287.out 0; have hfz77_1 := blk_frozen BK1287.out 1; obtain ⟨Ao78, co78, eo78⟩ := Kd.R_slice HO1286.out; subst eo78; have hnb79 := NB1266_1282.out; have hnc79 := NB1282_1266.out; have hcz80_0 : w73.cell? ⟨gb1266, 0, none⟩ = some (.bool a1_0) := (blk_cell BK1266.out 0).trans rfl; have hcz80_1 : w73.cell? ⟨gb1266, 1, none⟩ = some (.slice A1_1 l1_1.length c1_1) := (blk_cell BK1266.out 1).trans rfl; have hfz80_0 := blk_frozen BK1266.out 0; have hfz80_1 := blk_frozen BK1266.out 1) | ((with_reducible refine gate_callee (f := 52) rfl ?_); refine goesL_ (some 38) rfl rfl Try.func52 (by kernel_rfl) rfl #[.agg #[.bool a1_0, .slice A1_1 l1_1.length c1_1]] rfl (by (try simp only [List.map_toArray, List.map_cons, List.map_nil]); first | done | rfl | (simp only [List.length_drop, List.length_take]; rfl) | (simp only [i64_w, u8_w, w64_b]; rfl)) ?_; (with_reducible refine (laws_toWhole.calls k a1_0 _ _ l1_1 t1288 t1289 _ ?side1 ?side2 A23.out).mono ?_); (case side1 => exact Kd.C_below HR1_1.out (by repeat (first | (with_reducible first | exact HB.out | apply Sq.rc | refine below_set ?_ GE1265.out | refine below_set ?_ GE1266.out | refine below_set ?_ GE1282.out | refine below_set ?_ GE1287.out) | exact HB.out))); (case side2 => exact HC1_1.out); rintro e w81 ⟨v1290, rfl, ho0, hb⟩; refine ⟨_, rfl, ?_⟩; have n0_ := Sq.m (Kd.R_elder' (by apply Sq.ra; exact (Kd.R_mono (Kd.R_far (p := ⟨gb1287, 1, none⟩) (Kd.R_far (p := ⟨gb1287, 0, none⟩) (Kd.R_types HO1272.out BK1287.out (by decide)) (fun _ hk => hk.2) (.bool t1283)) (fun _ hk => hk.2) (.slice Ao78 t1284.length co78)) (fun _ h_ => h_.1))) (Kd.R_base ho0) hb); have n1_ := Sq.m (Kd.R_elder' (by apply Sq.ra; exact (Kd.R_mono (Kd.R_far (p := ⟨gb1287, 1, none⟩) (Kd.R_far (p := ⟨gb1287, 0, none⟩) (Kd.R_types HO1276.out BK1287.out (by decide)) (fun _ hk => hk.2) (.bool t1283)) (fun _ hk => hk.2) (.slice Ao78 t1284.length co78)) (fun _ h_ => h_.1))) (Kd.R_base ho0) hb); have n2_ := Sq.m (Kd.R_elder' (by apply Sq.ra; exact (Kd.R_mono (Kd.R_far (p := ⟨gb1287, 1, none⟩) (Kd.R_far (p := ⟨gb1287, 0, none⟩) (Kd.R_types HO1280.out BK1287.out (by decide)) (fun _ hk => hk.2) (.bool t1283)) (fun _ hk => hk.2) (.slice Ao78 t1284.length co78)) (fun _ h_ => h_.1))) (Kd.R_base ho0) hb); have n3_ := Sq.m (Kd.R_elder' (by apply Sq.ra; exact (Kd.R_mono (Kd.R_far (p := ⟨gb1287, 1, none⟩) (Kd.R_far (p := ⟨gb1287, 0, none⟩) (Kd.R_types HO1286.out BK1287.out (by decide)) (fun _ hk => hk.2) (.bool t1283)) (fun _ hk => hk.2) (.slice Ao78 t1284.length co78)) (fun _ h_ => h_.1))) (Kd.R_base ho0) hb); have n4_ := Sq.m (Kd.R_lower (Kd.R_new' (Kd.R_new' (Kd.R_new' (Kd.R_new' ho0 (Kd.R_lt (by apply Sq.ra; exact (Kd.R_mono (Kd.R_far (p := ⟨gb1287, 1, none⟩) (Kd.R_far (p := ⟨gb1287, 0, none⟩) (Kd.R_types HO1272.out BK1287.out (by decide)) (fun _ hk => hk.2) (.bool t1283)) (fun _ hk => hk.2) (.slice Ao78 t1284.length co78)) (fun _ h_ => h_.1))))) (Kd.R_lt (by apply Sq.ra; exact (Kd.R_mono (Kd.R_far (p := ⟨gb1287, 1, none⟩) (Kd.R_far (p := ⟨gb1287, 0, none⟩) (Kd.R_types HO1276.out BK1287.out (by decide)) (fun _ hk => hk.2) (.bool t1283)) (fun _ hk => hk.2) (.slice Ao78 t1284.length co78)) (fun _ h_ => h_.1))))) (Kd.R_lt (by apply Sq.ra; exact (Kd.R_mono (Kd.R_far (p := ⟨gb1287, 1, none⟩) (Kd.R_far (p := ⟨gb1287, 0, none⟩) (Kd.R_types HO1280.out BK1287.out (by decide)) (fun _ hk => hk.2) (.bool t1283)) (fun _ hk => hk.2) (.slice Ao78 t1284.length co78)) (fun _ h_ => h_.1))))) (Kd.R_lt (by apply Sq.ra; exact (Kd.R_mono (Kd.R_far (p := ⟨gb1287, 1, none⟩) (Kd.R_far (p := ⟨gb1287, 0, none⟩) (Kd.R_types HO1286.out BK1287.out (by decide)) (fun _ hk => hk.2) (.bool t1283)) (fun _ hk => hk.2) (.slice Ao78 t1284.length co78)) (fun _ h_ => h_.1))))) (below_size (by repeat (first | (with_reducible first | exact HB.out | apply Sq.rc | refine below_set ?_ GE1265.out | refine below_set ?_ GE1266.out | refine below_set ?_ GE1282.out | refine below_set ?_ GE1287.out) | exact HB.out)))); have n5_ := Sq.m (blk_below (g := gb1265) (o := .cells #[.bool a0_0, .slice A0_1 l0_1.length c0_1] 56 (0, 0)) (by apply Sq.rb; refine blk_far ?_ NB1265_1287.out _; apply Sq.rb; refine blk_far ?_ NB1265_1287.out _; apply Sq.rb; exact BK1265.out) hb); have n6_ := Sq.m (blk_below (g := gb1266) (o := .cells #[.bool a1_0, .slice A1_1 l1_1.length c1_1] 56 (0, 0)) (by apply Sq.rb; refine blk_far ?_ NB1266_1287.out _; apply Sq.rb; refine blk_far ?_ NB1266_1287.out _; apply Sq.rb; exact BK1266.out) hb); have n7_ := Sq.m (blk_below (g := gb1282) (o := .cells #[.bool t1277, v1279] 59 (0, 0)) (by apply Sq.rb; refine blk_far ?_ NB1282_1287.out _; apply Sq.rb; refine blk_far ?_ NB1282_1287.out _; apply Sq.rb; exact BK1282.out) hb); have n8_ := Sq.m (blk_below (g := gb1287) (o := .cells #[.bool t1283, .slice Ao78 t1284.length co78] 59 (0, 0)) (by apply Sq.rb; refine blk_put (cs := #[.bool t1283, .slice none 0 0]) ?_ 1 _ rfl; apply Sq.rb; refine blk_put (cs := #[.bool false, .slice none 0 0]) ?_ 0 _ rfl; apply Sq.rb; exact BK1287.out) hb); have n9_ := Sq.m (below_step (by repeat (first | (with_reducible first | exact HB.out | apply Sq.rc | refine below_set ?_ GE1265.out | refine below_set ?_ GE1266.out | refine below_set ?_ GE1282.out | refine below_set ?_ GE1287.out) | exact HB.out)) hb); clear HO1272; clear HO1276; clear HO1280; clear HO1286; clear BK1265; clear BK1266; clear BK1282; clear BK1287; clear HB; have HO1272 := n0_; have HO1276 := n1_; have HO1280 := n2_; have HO1286 := n3_; have HO1291 := n4_; have BK1265 := n5_; have BK1266 := n6_; have BK1282 := n7_; have BK1287 := n8_; have HB := n9_; clear n0_ n1_ n2_ n3_ n4_ n5_ n6_ n7_ n8_ n9_; (try clear hb); (try clear hb2); (try clear hk); (try clear hi); (try clear ho0)) | ((with_reducible refine gate_dst (N := 9) rfl ?_); refine box_event ?hg (N := 9) ?hd (cs := #[.bool false, .slice none 0 0]) (t := 59) ?hr ?_; (case hd => rfl); (case hg => rfl); (case hr => first | (go_simp; done) | (go_simp; rfl)); intro gb1292 hg w82 hbox hb; have n0_ := Sq.m (Kd.R_below (by apply Sq.ra; exact HO1272.out) hb); have n1_ := Sq.m (Kd.R_below (by apply Sq.ra; exact HO1276.out) hb); have n2_ := Sq.m (Kd.R_below (by apply Sq.ra; exact HO1280.out) hb); have n3_ := Sq.m (Kd.R_below (by apply Sq.ra; exact HO1286.out) hb); have n4_ := Sq.m (Kd.R_below (by apply Sq.ra; exact HO1291.out) hb); have n5_ := Sq.m (blk_below (g := gb1265) (o := .cells #[.bool a0_0, .slice A0_1 l0_1.length c0_1] 56 (0, 0)) (by apply Sq.rb; exact BK1265.out) hb); have n6_ := Sq.m (blk_below (g := gb1266) (o := .cells #[.bool a1_0, .slice A1_1 l1_1.length c1_1] 56 (0, 0)) (by apply Sq.rb; exact BK1266.out) hb); have n7_ := Sq.m (blk_below (g := gb1282) (o := .cells #[.bool t1277, v1279] 59 (0, 0)) (by apply Sq.rb; exact BK1282.out) hb); have n8_ := Sq.m (blk_below (g := gb1287) (o := .cells #[.bool t1283, .slice Ao78 t1284.length co78] 59 (0, 0)) (by apply Sq.rb; exact BK1287.out) hb); have n9_ := Sq.m (below_step (by repeat (first | (with_reducible first | exact HB.out | apply Sq.rc | refine below_set ?_ GE1265.out | refine below_set ?_ GE1266.out | refine below_set ?_ GE1282.out | refine below_set ?_ GE1287.out) | exact HB.out)) hb); have n10_ := Sq.m (hbox); have n11_ := Sq.m ((by rw [hg]; exact (below_size (by repeat (first | (with_reducible first | exact HB.out | apply Sq.rc | refine below_set ?_ GE1265.out | refine below_set ?_ GE1266.out | refine below_set ?_ GE1282.out | refine below_set ?_ GE1287.out) | exact HB.out))) : w.heap.size ≤ gb1292)); have n12_ := Sq.m ((by rw [hg]; exact (below_size (by repeat (first | (with_reducible first | exact HB.out | apply Sq.rc | refine below_set ?_ GE1265.out | refine below_set ?_ GE1266.out | refine below_set ?_ GE1282.out | refine below_set ?_ GE1287.out) | exact HB.out))) : w.heap.size ≤ gb1292)); have n13_ := Sq.m ((by rw [hg]; exact Nat.ne_of_lt (blk_lt (g := gb1265) (o := .cells #[.bool a0_0, .slice A0_1 l0_1.length c0_1] 56 (0, 0)) (by apply Sq.rb; exact BK1265.out)) : gb1265 ≠ gb1292)); have n14_ := Sq.m ((by rw [hg]; exact Nat.ne_of_gt (blk_lt (g := gb1265) (o := .cells #[.bool a0_0, .slice A0_1 l0_1.length c0_1] 56 (0, 0)) (by apply Sq.rb; exact BK1265.out)) : gb1292 ≠ gb1265)); have n15_ := Sq.m ((by rw [hg]; exact Nat.ne_of_lt (blk_lt (g := gb1266) (o := .cells #[.bool a1_0, .slice A1_1 l1_1.length c1_1] 56 (0, 0)) (by apply Sq.rb; exact BK1266.out)) : gb1266 ≠ gb1292)); have n16_ := Sq.m ((by rw [hg]; exact Nat.ne_of_gt (blk_lt (g := gb1266) (o := .cells #[.bool a1_0, .slice A1_1 l1_1.length c1_1] 56 (0, 0)) (by apply Sq.rb; exact BK1266.out)) : gb1292 ≠ gb1266)); have n17_ := Sq.m ((by rw [hg]; exact Nat.ne_of_lt (blk_lt (g := gb1282) (o := .cells #[.bool t1277, v1279] 59 (0, 0)) (by apply Sq.rb; exact BK1282.out)) : gb1282 ≠ gb1292)); have n18_ := Sq.m ((by rw [hg]; exact Nat.ne_of_gt (blk_lt (g := gb1282) (o := .cells #[.bool t1277, v1279] 59 (0, 0)) (by apply Sq.rb; exact BK1282.out)) : gb1292 ≠ gb1282)); have n19_ := Sq.m ((by rw [hg]; exact Nat.ne_of_lt (blk_lt (g := gb1287) (o := .cells #[.bool t1283, .slice Ao78 t1284.length co78] 59 (0, 0)) (by apply Sq.rb; exact BK1287.out)) : gb1287 ≠ gb1292)); have n20_ := Sq.m ((by rw [hg]; exact Nat.ne_of_gt (blk_lt (g := gb1287) (o := .cells #[.bool t1283, .slice Ao78 t1284.length co78] 59 (0, 0)) (by apply Sq.rb; exact BK1287.out)) : gb1292 ≠ gb1287)); clear HO1272; clear HO1276; clear HO1280; clear HO1286; clear HO1291; clear BK1265; clear BK1266; clear BK1282; clear BK1287; clear HB; have HO1272 := n0_; have HO1276 := n1_; have HO1280 := n2_; have HO1286 := n3_; have HO1291 := n4_; have BK1265 := n5_; have BK1266 := n6_; have BK1282 := n7_; have BK1287 := n8_; have HB := n9_; have BK1292 := n10_; have GW1292 := n11_; have GE1292 := n12_; have NB1265_1292 := n13_; have NB1292_1265 := n14_; have NB1266_1292 := n15_; have NB1292_1266 := n16_; have NB1282_1292 := n17_; have NB1292_1282 := n18_; have NB1287_1292 := n19_; have NB1292_1287 := n20_; clear n0_ n1_ n2_ n3_ n4_ n5_ n6_ n7_ n8_ n9_ n10_ n11_ n12_ n13_ n14_ n15_ n16_ n17_ n18_ n19_ n20_; clear hb hbox hg; have hnb83 := NB1292_1265.out; have hnc83 := NB1265_1292.out; have hnb84 := NB1292_1266.out; have hnc84 := NB1266_1292.out; have hnb85 := NB1292_1282.out; have hnc85 := NB1282_1292.out; have hnb86 := NB1292_1287.out; have hnc86 := NB1287_1292.out; have hcz87_0 : w82.cell? ⟨gb1292, 0, none⟩ = some (.bool false) := (blk_cell BK1292.out 0).trans rfl; have hcz87_1 : w82.cell? ⟨gb1292, 1, none⟩ = some (.slice none 0 0) := (blk_cell BK1292.out 1).trans rfl; have hfz87_0 := blk_frozen BK1292.out 0; have hfz87_1 := blk_frozen BK1292.out 1; obtain ⟨Ao88, co88, eo88⟩ := Kd.R_slice HO1291.out; subst eo88; have hcz89_0 : w82.cell? ⟨gb1287, 0, none⟩ = some (.bool t1283) := (blk_cell BK1287.out 0).trans rfl; have hcz89_1 : w82.cell? ⟨gb1287, 1, none⟩ = some (.slice Ao78 t1284.length co78) := (blk_cell BK1287.out 1).trans rfl; have hfz89_0 := blk_frozen BK1287.out 0; have hfz89_1 := blk_frozen BK1287.out 1) | ((with_reducible refine gate_callee (f := 53) rfl ?_); refine goesL_ (some 42) rfl rfl Try.func53 (by kernel_rfl) rfl #[.agg #[.bool t1283, .slice Ao78 t1284.length co78], .agg #[.bool t1288, .slice Ao88 t1289.length co88]] rfl (by (try simp only [List.map_toArray, List.map_cons, List.map_nil]); first | done | rfl | (simp only [List.length_drop, List.length_take]; rfl) | (simp only [i64_w, u8_w, w64_b]; rfl)) ?_; (with_reducible refine (impl_WholeAdd.calls k t1283 _ _ t1284 t1288 _ _ t1289 t1293 t1294 t1297 _ ?side1 ?side2 ?side3 ?side4 A24.out).mono ?_); (case side1 => refine (Kd.R_reads' (e := 3) (base := w.heap.size) (ok := fun k_ => ((((True ∧ some k_ ≠ (v1271 : Value).ownBlock) ∧ some k_ ≠ (v1275 : Value).ownBlock) ∧ some k_ ≠ (v1279 : Value).ownBlock) ∧ some k_ ≠ (.slice Ao88 t1289.length co88 : Value).ownBlock)) (n := t1284.length) (c := co78) ?_).2.2; exact (by apply Sq.ra; exact (Kd.R_mono (Kd.R_far (p := ⟨gb1292, 1, none⟩) (Kd.R_far (p := ⟨gb1292, 0, none⟩) (Kd.R_types HO1286.out BK1292.out (by decide)) (fun _ hk => hk.2) (.bool t1288)) (fun _ hk => hk.2) (.slice Ao88 t1289.length co88)) (fun _ h_ => h_.1)))); (case side2 => exact (Kd.R_reads' HO1286.out).2.1); (case side3 => refine (Kd.R_reads' (e := 3) (base := w.heap.size) (ok := fun k_ => ((((True ∧ some k_ ≠ (v1271 : Value).ownBlock) ∧ some k_ ≠ (v1275 : Value).ownBlock) ∧ some k_ ≠ (v1279 : Value).ownBlock) ∧ some k_ ≠ (.slice Ao78 t1284.length co78 : Value).ownBlock)) (n := t1289.length) (c := co88) ?_).2.2; exact (by apply Sq.ra; exact (Kd.R_mono (Kd.R_far (p := ⟨gb1292, 1, none⟩) (Kd.R_far (p := ⟨gb1292, 0, none⟩) (Kd.R_types HO1291.out BK1292.out (by decide)) (fun _ hk => hk.2) (.bool t1288)) (fun _ hk => hk.2) (.slice Ao88 t1289.length co88)) (fun _ h_ => h_.1)))); (case side4 => exact (Kd.R_reads' HO1291.out).2.1); rintro e w90 ⟨v1295, rfl, ho0, hb⟩; refine ⟨_, rfl, ?_⟩; have n0_ := Sq.m (Kd.R_elder' (by apply Sq.ra; exact (Kd.R_mono (Kd.R_far (p := ⟨gb1292, 1, none⟩) (Kd.R_far (p := ⟨gb1292, 0, none⟩) (Kd.R_types HO1272.out BK1292.out (by decide)) (fun _ hk => hk.2) (.bool t1288)) (fun _ hk => hk.2) (.slice Ao88 t1289.length co88)) (fun _ h_ => h_.1))) (Kd.R_base ho0) hb); have n1_ := Sq.m (Kd.R_elder' (by apply Sq.ra; exact (Kd.R_mono (Kd.R_far (p := ⟨gb1292, 1, none⟩) (Kd.R_far (p := ⟨gb1292, 0, none⟩) (Kd.R_types HO1276.out BK1292.out (by decide)) (fun _ hk => hk.2) (.bool t1288)) (fun _ hk => hk.2) (.slice Ao88 t1289.length co88)) (fun _ h_ => h_.1))) (Kd.R_base ho0) hb); have n2_ := Sq.m (Kd.R_elder' (by apply Sq.ra; exact (Kd.R_mono (Kd.R_far (p := ⟨gb1292, 1, none⟩) (Kd.R_far (p := ⟨gb1292, 0, none⟩) (Kd.R_types HO1280.out BK1292.out (by decide)) (fun _ hk => hk.2) (.bool t1288)) (fun _ hk => hk.2) (.slice Ao88 t1289.length co88)) (fun _ h_ => h_.1))) (Kd.R_base ho0) hb); have n3_ := Sq.m (Kd.R_elder' (by apply Sq.ra; exact (Kd.R_mono (Kd.R_far (p := ⟨gb1292, 1, none⟩) (Kd.R_far (p := ⟨gb1292, 0, none⟩) (Kd.R_types HO1286.out BK1292.out (by decide)) (fun _ hk => hk.2) (.bool t1288)) (fun _ hk => hk.2) (.slice Ao88 t1289.length co88)) (fun _ h_ => h_.1))) (Kd.R_base ho0) hb); have n4_ := Sq.m (Kd.R_elder' (by apply Sq.ra; exact (Kd.R_mono (Kd.R_far (p := ⟨gb1292, 1, none⟩) (Kd.R_far (p := ⟨gb1292, 0, none⟩) (Kd.R_types HO1291.out BK1292.out (by decide)) (fun _ hk => hk.2) (.bool t1288)) (fun _ hk => hk.2) (.slice Ao88 t1289.length co88)) (fun _ h_ => h_.1))) (Kd.R_base ho0) hb); have n5_ := Sq.m (Kd.R_lower (Kd.R_new' (Kd.R_new' (Kd.R_new' (Kd.R_new' (Kd.R_new' ho0 (Kd.R_lt (by apply Sq.ra; exact (Kd.R_mono (Kd.R_far (p := ⟨gb1292, 1, none⟩) (Kd.R_far (p := ⟨gb1292, 0, none⟩) (Kd.R_types HO1272.out BK1292.out (by decide)) (fun _ hk => hk.2) (.bool t1288)) (fun _ hk => hk.2) (.slice Ao88 t1289.length co88)) (fun _ h_ => h_.1))))) (Kd.R_lt (by apply Sq.ra; exact (Kd.R_mono (Kd.R_far (p := ⟨gb1292, 1, none⟩) (Kd.R_far (p := ⟨gb1292, 0, none⟩) (Kd.R_types HO1276.out BK1292.out (by decide)) (fun _ hk => hk.2) (.bool t1288)) (fun _ hk => hk.2) (.slice Ao88 t1289.length co88)) (fun _ h_ => h_.1))))) (Kd.R_lt (by apply Sq.ra; exact (Kd.R_mono (Kd.R_far (p := ⟨gb1292, 1, none⟩) (Kd.R_far (p := ⟨gb1292, 0, none⟩) (Kd.R_types HO1280.out BK1292.out (by decide)) (fun _ hk => hk.2) (.bool t1288)) (fun _ hk => hk.2) (.slice Ao88 t1289.length co88)) (fun _ h_ => h_.1))))) (Kd.R_lt (by apply Sq.ra; exact (Kd.R_mono (Kd.R_far (p := ⟨gb1292, 1, none⟩) (Kd.R_far (p := ⟨gb1292, 0, none⟩) (Kd.R_types HO1286.out BK1292.out (by decide)) (fun _ hk => hk.2) (.bool t1288)) (fun _ hk => hk.2) (.slice Ao88 t1289.length co88)) (fun _ h_ => h_.1))))) (Kd.R_lt (by apply Sq.ra; exact (Kd.R_mono (Kd.R_far (p := ⟨gb1292, 1, none⟩) (Kd.R_far (p := ⟨gb1292, 0, none⟩) (Kd.R_types HO1291.out BK1292.out (by decide)) (fun _ hk => hk.2) (.bool t1288)) (fun _ hk => hk.2) (.slice Ao88 t1289.length co88)) (fun _ h_ => h_.1))))) (below_size (by repeat (first | (with_reducible first | exact HB.out | apply Sq.rc | refine below_set ?_ GE1265.out | refine below_set ?_ GE1266.out | refine below_set ?_ GE1282.out | refine below_set ?_ GE1287.out | refine below_set ?_ GE1292.out) | exact HB.out)))); have n6_ := Sq.m (blk_below (g := gb1265) (o := .cells #[.bool a0_0, .slice A0_1 l0_1.length c0_1] 56 (0, 0)) (by apply Sq.rb; refine blk_far ?_ NB1265_1292.out _; apply Sq.rb; refine blk_far ?_ NB1265_1292.out _; apply Sq.rb; exact BK1265.out) hb); have n7_ := Sq.m (blk_below (g := gb1266) (o := .cells #[.bool a1_0, .slice A1_1 l1_1.length c1_1] 56 (0, 0)) (by apply Sq.rb; refine blk_far ?_ NB1266_1292.out _; apply Sq.rb; refine blk_far ?_ NB1266_1292.out _; apply Sq.rb; exact BK1266.out) hb); have n8_ := Sq.m (blk_below (g := gb1282) (o := .cells #[.bool t1277, v1279] 59 (0, 0)) (by apply Sq.rb; refine blk_far ?_ NB1282_1292.out _; apply Sq.rb; refine blk_far ?_ NB1282_1292.out _; apply Sq.rb; exact BK1282.out) hb); have n9_ := Sq.m (blk_below (g := gb1287) (o := .cells #[.bool t1283, .slice Ao78 t1284.length co78] 59 (0, 0)) (by apply Sq.rb; refine blk_far ?_ NB1287_1292.out _; apply Sq.rb; refine blk_far ?_ NB1287_1292.out _; apply Sq.rb; exact BK1287.out) hb); have n10_ := Sq.m (blk_below (g := gb1292) (o := .cells #[.bool t1288, .slice Ao88 t1289.length co88] 59 (0, 0)) (by apply Sq.rb; refine blk_put (cs := #[.bool t1288, .slice none 0 0]) ?_ 1 _ rfl; apply Sq.rb; refine blk_put (cs := #[.bool false, .slice none 0 0]) ?_ 0 _ rfl; apply Sq.rb; exact BK1292.out) hb); have n11_ := Sq.m (below_step (by repeat (first | (with_reducible first | exact HB.out | apply Sq.rc | refine below_set ?_ GE1265.out | refine below_set ?_ GE1266.out | refine below_set ?_ GE1282.out | refine below_set ?_ GE1287.out | refine below_set ?_ GE1292.out) | exact HB.out)) hb); clear HO1272; clear HO1276; clear HO1280; clear HO1286; clear HO1291; clear BK1265; clear BK1266; clear BK1282; clear BK1287; clear BK1292; clear HB; have HO1272 := n0_; have HO1276 := n1_; have HO1280 := n2_; have HO1286 := n3_; have HO1291 := n4_; have HO1296 := n5_; have BK1265 := n6_; have BK1266 := n7_; have BK1282 := n8_; have BK1287 := n9_; have BK1292 := n10_; have HB := n11_; clear n0_ n1_ n2_ n3_ n4_ n5_ n6_ n7_ n8_ n9_ n10_ n11_; (try clear hb); (try clear hb2); (try clear hk); (try clear hi); (try clear ho0)) | ((with_reducible refine gate_dst (N := 10) rfl ?_); refine box_event ?hg (N := 10) ?hd (cs := #[.bool false, .slice none 0 0]) (t := 59) ?hr ?_; (case hd => rfl); (case hg => rfl); (case hr => first | (go_simp; done) | (go_simp; rfl)); intro gb1298 hg w91 hbox hb; have n0_ := Sq.m (Kd.R_below (by apply Sq.ra; exact HO1272.out) hb); have n1_ := Sq.m (Kd.R_below (by apply Sq.ra; exact HO1276.out) hb); have n2_ := Sq.m (Kd.R_below (by apply Sq.ra; exact HO1280.out) hb); have n3_ := Sq.m (Kd.R_below (by apply Sq.ra; exact HO1286.out) hb); have n4_ := Sq.m (Kd.R_below (by apply Sq.ra; exact HO1291.out) hb); have n5_ := Sq.m (Kd.R_below (by apply Sq.ra; exact HO1296.out) hb); have n6_ := Sq.m (blk_below (g := gb1265) (o := .cells #[.bool a0_0, .slice A0_1 l0_1.length c0_1] 56 (0, 0)) (by apply Sq.rb; exact BK1265.out) hb); have n7_ := Sq.m (blk_below (g := gb1266) (o := .cells #[.bool a1_0, .slice A1_1 l1_1.length c1_1] 56 (0, 0)) (by apply Sq.rb; exact BK1266.out) hb); have n8_ := Sq.m (blk_below (g := gb1282) (o := .cells #[.bool t1277, v1279] 59 (0, 0)) (by apply Sq.rb; exact BK1282.out) hb); have n9_ := Sq.m (blk_below (g := gb1287) (o := .cells #[.bool t1283, .slice Ao78 t1284.length co78] 59 (0, 0)) (by apply Sq.rb; exact BK1287.out) hb); have n10_ := Sq.m (blk_below (g := gb1292) (o := .cells #[.bool t1288, .slice Ao88 t1289.length co88] 59 (0, 0)) (by apply Sq.rb; exact BK1292.out) hb); have n11_ := Sq.m (below_step (by repeat (first | (with_reducible first | exact HB.out | apply Sq.rc | refine below_set ?_ GE1265.out | refine below_set ?_ GE1266.out | refine below_set ?_ GE1282.out | refine below_set ?_ GE1287.out | refine below_set ?_ GE1292.out) | exact HB.out)) hb); have n12_ := Sq.m (hbox); have n13_ := Sq.m ((by rw [hg]; exact (below_size (by repeat (first | (with_reducible first | exact HB.out | apply Sq.rc | refine below_set ?_ GE1265.out | refine below_set ?_ GE1266.out | refine below_set ?_ GE1282.out | refine below_set ?_ GE1287.out | refine below_set ?_ GE1292.out) | exact HB.out))) : w.heap.size ≤ gb1298)); have n14_ := Sq.m ((by rw [hg]; exact (below_size (by repeat (first | (with_reducible first | exact HB.out | apply Sq.rc | refine below_set ?_ GE1265.out | refine below_set ?_ GE1266.out | refine below_set ?_ GE1282.out | refine below_set ?_ GE1287.out | refine below_set ?_ GE1292.out) | exact HB.out))) : w.heap.size ≤ gb1298)); have n15_ := Sq.m ((by rw [hg]; exact Nat.ne_of_lt (blk_lt (g := gb1265) (o := .cells #[.bool a0_0, .slice A0_1 l0_1.length c0_1] 56 (0, 0)) (by apply Sq.rb; exact BK1265.out)) : gb1265 ≠ gb1298)); have n16_ := Sq.m ((by rw [hg]; exact Nat.ne_of_gt (blk_lt (g := gb1265) (o := .cells #[.bool a0_0, .slice A0_1 l0_1.length c0_1] 56 (0, 0)) (by apply Sq.rb; exact BK1265.out)) : gb1298 ≠ gb1265)); have n17_ := Sq.m ((by rw [hg]; exact Nat.ne_of_lt (blk_lt (g := gb1266) (o := .cells #[.bool a1_0, .slice A1_1 l1_1.length c1_1] 56 (0, 0)) (by apply Sq.rb; exact BK1266.out)) : gb1266 ≠ gb1298)); have n18_ := Sq.m ((by rw [hg]; exact Nat.ne_of_gt (blk_lt (g := gb1266) (o := .cells #[.bool a1_0, .slice A1_1 l1_1.length c1_1] 56 (0, 0)) (by apply Sq.rb; exact BK1266.out)) : gb1298 ≠ gb1266)); have n19_ := Sq.m ((by rw [hg]; exact Nat.ne_of_lt (blk_lt (g := gb1282) (o := .cells #[.bool t1277, v1279] 59 (0, 0)) (by apply Sq.rb; exact BK1282.out)) : gb1282 ≠ gb1298)); have n20_ := Sq.m ((by rw [hg]; exact Nat.ne_of_gt (blk_lt (g := gb1282) (o := .cells #[.bool t1277, v1279] 59 (0, 0)) (by apply Sq.rb; exact BK1282.out)) : gb1298 ≠ gb1282)); have n21_ := Sq.m ((by rw [hg]; exact Nat.ne_of_lt (blk_lt (g := gb1287) (o := .cells #[.bool t1283, .slice Ao78 t1284.length co78] 59 (0, 0)) (by apply Sq.rb; exact BK1287.out)) : gb1287 ≠ gb1298)); have n22_ := Sq.m ((by rw [hg]; exact Nat.ne_of_gt (blk_lt (g := gb1287) (o := .cells #[.bool t1283, .slice Ao78 t1284.length co78] 59 (0, 0)) (by apply Sq.rb; exact BK1287.out)) : gb1298 ≠ gb1287)); have n23_ := Sq.m ((by rw [hg]; exact Nat.ne_of_lt (blk_lt (g := gb1292) (o := .cells #[.bool t1288, .slice Ao88 t1289.length co88] 59 (0, 0)) (by apply Sq.rb; exact BK1292.out)) : gb1292 ≠ gb1298)); have n24_ := Sq.m ((by rw [hg]; exact Nat.ne_of_gt (blk_lt (g := gb1292) (o := .cells #[.bool t1288, .slice Ao88 t1289.length co88] 59 (0, 0)) (by apply Sq.rb; exact BK1292.out)) : gb1298 ≠ gb1292)); clear HO1272; clear HO1276; clear HO1280; clear HO1286; clear HO1291; clear HO1296; clear BK1265; clear BK1266; clear BK1282; clear BK1287; clear BK1292; clear HB; have HO1272 := n0_; have HO1276 := n1_; have HO1280 := n2_; have HO1286 := n3_; have HO1291 := n4_; have HO1296 := n5_; have BK1265 := n6_; have BK1266 := n7_; have BK1282 := n8_; have BK1287 := n9_; have BK1292 := n10_; have HB := n11_; have BK1298 := n12_; have GW1298 := n13_; have GE1298 := n14_; have NB1265_1298 := n15_; have NB1298_1265 := n16_; have NB1266_1298 := n17_; have NB1298_1266 := n18_; have NB1282_1298 := n19_; have NB1298_1282 := n20_; have NB1287_1298 := n21_; have NB1298_1287 := n22_; have NB1292_1298 := n23_; have NB1298_1292 := n24_; clear n0_ n1_ n2_ n3_ n4_ n5_ n6_ n7_ n8_ n9_ n10_ n11_ n12_ n13_ n14_ n15_ n16_ n17_ n18_ n19_ n20_ n21_ n22_ n23_ n24_; clear hb hbox hg; have hnb92 := NB1298_1265.out; have hnc92 := NB1265_1298.out; have hnb93 := NB1298_1266.out; have hnc93 := NB1266_1298.out; have hnb94 := NB1298_1282.out; have hnc94 := NB1282_1298.out; have hnb95 := NB1298_1287.out; have hnc95 := NB1287_1298.out; have hnb96 := NB1298_1292.out; have hnc96 := NB1292_1298.out; have hcz97_0 : w91.cell? ⟨gb1298, 0, none⟩ = some (.bool false) := (blk_cell BK1298.out 0).trans rfl; have hcz97_1 : w91.cell? ⟨gb1298, 1, none⟩ = some (.slice none 0 0) := (blk_cell BK1298.out 1).trans rfl; have hfz97_0 := blk_frozen BK1298.out 0; have hfz97_1 := blk_frozen BK1298.out 1; obtain ⟨Ao98, co98, eo98⟩ := Kd.R_slice HO1296.out; subst eo98; have hcz99_0 : w91.cell? ⟨gb1282, 0, none⟩ = some (.bool t1277) := (blk_cell BK1282.out 0).trans rfl; have hcz99_1 : w91.cell? ⟨gb1282, 1, none⟩ = some (v1279) := (blk_cell BK1282.out 1).trans rfl; have hfz99_0 := blk_frozen BK1282.out 0; have hfz99_1 := blk_frozen BK1282.out 1; obtain ⟨Ao100, co100, eo100⟩ := Kd.R_slice HO1280.out; subst eo100) | ((with_reducible refine gate_callee (f := 54) rfl ?_); refine goesL_ (some 47) rfl rfl Try.func54 (by kernel_rfl) rfl #[.agg #[.bool t1293, .slice Ao98 t1294.length co98], .agg #[.bool t1277, .slice Ao100 t1278.length co100]] rfl (by (try simp only [List.map_toArray, List.map_cons, List.map_nil]); first | done | rfl | (simp only [List.length_drop, List.length_take]; rfl) | (simp only [i64_w, u8_w, w64_b]; rfl)) ?_; (with_reducible refine (laws_eqWhole.calls k t1293 _ _ t1294 t1277 _ _ t1278 true _ ?side1 ?side2 ?side3 ?side4 A25.out).mono ?_); (case side1 => refine (Kd.R_reads' (e := 3) (base := w.heap.size) (ok := fun k_ => (((((True ∧ some k_ ≠ (v1271 : Value).ownBlock) ∧ some k_ ≠ (v1275 : Value).ownBlock) ∧ some k_ ≠ (.slice Ao100 t1278.length co100 : Value).ownBlock) ∧ some k_ ≠ (.slice Ao78 t1284.length co78 : Value).ownBlock) ∧ some k_ ≠ (.slice Ao88 t1289.length co88 : Value).ownBlock)) (n := t1294.length) (c := co98) ?_).2.2; exact (by apply Sq.ra; exact (Kd.R_mono (Kd.R_far (p := ⟨gb1298, 1, none⟩) (Kd.R_far (p := ⟨gb1298, 0, none⟩) (Kd.R_types HO1296.out BK1298.out (by decide)) (fun _ hk => hk.2) (.bool t1293)) (fun _ hk => hk.2) (.slice Ao98 t1294.length co98)) (fun _ h_ => h_.1)))); (case side2 => exact (Kd.R_reads' HO1296.out).2.1); (case side3 => refine (Kd.R_reads' (e := 3) (base := w.heap.size) (ok := fun k_ => (((True ∧ some k_ ≠ (.slice Ao78 t1284.length co78 : Value).ownBlock) ∧ some k_ ≠ (.slice Ao88 t1289.length co88 : Value).ownBlock) ∧ some k_ ≠ (.slice Ao98 t1294.length co98 : Value).ownBlock)) (n := t1278.length) (c := co100) ?_).2.2; exact (by apply Sq.ra; exact (Kd.R_mono (Kd.R_far (p := ⟨gb1298, 1, none⟩) (Kd.R_far (p := ⟨gb1298, 0, none⟩) (Kd.R_types HO1280.out BK1298.out (by decide)) (fun _ hk => hk.2) (.bool t1293)) (fun _ hk => hk.2) (.slice Ao98 t1294.length co98)) (fun _ h_ => h_.1)))); (case side4 => exact (Kd.R_reads' HO1280.out).2.1); rintro e w101 ⟨rfl, hb⟩; refine ⟨_, rfl, ?_⟩; have n0_ := Sq.m (Kd.R_below (by apply Sq.ra; exact (Kd.R_mono (Kd.R_far (p := ⟨gb1298, 1, none⟩) (Kd.R_far (p := ⟨gb1298, 0, none⟩) (Kd.R_types HO1272.out BK1298.out (by decide)) (fun _ hk => hk.2) (.bool t1293)) (fun _ hk => hk.2) (.slice Ao98 t1294.length co98)) (fun _ h_ => h_.1))) hb); have n1_ := Sq.m (Kd.R_below (by apply Sq.ra; exact (Kd.R_mono (Kd.R_far (p := ⟨gb1298, 1, none⟩) (Kd.R_far (p := ⟨gb1298, 0, none⟩) (Kd.R_types HO1276.out BK1298.out (by decide)) (fun _ hk => hk.2) (.bool t1293)) (fun _ hk => hk.2) (.slice Ao98 t1294.length co98)) (fun _ h_ => h_.1))) hb); have n2_ := Sq.m (Kd.R_below (by apply Sq.ra; exact (Kd.R_mono (Kd.R_far (p := ⟨gb1298, 1, none⟩) (Kd.R_far (p := ⟨gb1298, 0, none⟩) (Kd.R_types HO1280.out BK1298.out (by decide)) (fun _ hk => hk.2) (.bool t1293)) (fun _ hk => hk.2) (.slice Ao98 t1294.length co98)) (fun _ h_ => h_.1))) hb); have n3_ := Sq.m (Kd.R_below (by apply Sq.ra; exact (Kd.R_mono (Kd.R_far (p := ⟨gb1298, 1, none⟩) (Kd.R_far (p := ⟨gb1298, 0, none⟩) (Kd.R_types HO1286.out BK1298.out (by decide)) (fun _ hk => hk.2) (.bool t1293)) (fun _ hk => hk.2) (.slice Ao98 t1294.length co98)) (fun _ h_ => h_.1))) hb); have n4_ := Sq.m (Kd.R_below (by apply Sq.ra; exact (Kd.R_mono (Kd.R_far (p := ⟨gb1298, 1, none⟩) (Kd.R_far (p := ⟨gb1298, 0, none⟩) (Kd.R_types HO1291.out BK1298.out (by decide)) (fun _ hk => hk.2) (.bool t1293)) (fun _ hk => hk.2) (.slice Ao98 t1294.length co98)) (fun _ h_ => h_.1))) hb); have n5_ := Sq.m (Kd.R_below (by apply Sq.ra; exact (Kd.R_mono (Kd.R_far (p := ⟨gb1298, 1, none⟩) (Kd.R_far (p := ⟨gb1298, 0, none⟩) (Kd.R_types HO1296.out BK1298.out (by decide)) (fun _ hk => hk.2) (.bool t1293)) (fun _ hk => hk.2) (.slice Ao98 t1294.length co98)) (fun _ h_ => h_.1))) hb); have n6_ := Sq.m (blk_below (g := gb1265) (o := .cells #[.bool a0_0, .slice A0_1 l0_1.length c0_1] 56 (0, 0)) (by apply Sq.rb; refine blk_far ?_ NB1265_1298.out _; apply Sq.rb; refine blk_far ?_ NB1265_1298.out _; apply Sq.rb; exact BK1265.out) hb); have n7_ := Sq.m (blk_below (g := gb1266) (o := .cells #[.bool a1_0, .slice A1_1 l1_1.length c1_1] 56 (0, 0)) (by apply Sq.rb; refine blk_far ?_ NB1266_1298.out _; apply Sq.rb; refine blk_far ?_ NB1266_1298.out _; apply Sq.rb; exact BK1266.out) hb); have n8_ := Sq.m (blk_below (g := gb1282) (o := .cells #[.bool t1277, .slice Ao100 t1278.length co100] 59 (0, 0)) (by apply Sq.rb; refine blk_far ?_ NB1282_1298.out _; apply Sq.rb; refine blk_far ?_ NB1282_1298.out _; apply Sq.rb; exact BK1282.out) hb); have n9_ := Sq.m (blk_below (g := gb1287) (o := .cells #[.bool t1283, .slice Ao78 t1284.length co78] 59 (0, 0)) (by apply Sq.rb; refine blk_far ?_ NB1287_1298.out _; apply Sq.rb; refine blk_far ?_ NB1287_1298.out _; apply Sq.rb; exact BK1287.out) hb); have n10_ := Sq.m (blk_below (g := gb1292) (o := .cells #[.bool t1288, .slice Ao88 t1289.length co88] 59 (0, 0)) (by apply Sq.rb; refine blk_far ?_ NB1292_1298.out _; apply Sq.rb; refine blk_far ?_ NB1292_1298.out _; apply Sq.rb; exact BK1292.out) hb); have n11_ := Sq.m (blk_below (g := gb1298) (o := .cells #[.bool t1293, .slice Ao98 t1294.length co98] 59 (0, 0)) (by apply Sq.rb; refine blk_put (cs := #[.bool t1293, .slice none 0 0]) ?_ 1 _ rfl; apply Sq.rb; refine blk_put (cs := #[.bool false, .slice none 0 0]) ?_ 0 _ rfl; apply Sq.rb; exact BK1298.out) hb); have n12_ := Sq.m (below_step (by repeat (first | (with_reducible first | exact HB.out | apply Sq.rc | refine below_set ?_ GE1265.out | refine below_set ?_ GE1266.out | refine below_set ?_ GE1282.out | refine below_set ?_ GE1287.out | refine below_set ?_ GE1292.out | refine below_set ?_ GE1298.out) | exact HB.out)) hb); clear HO1272; clear HO1276; clear HO1280; clear HO1286; clear HO1291; clear HO1296; clear BK1265; clear BK1266; clear BK1282; clear BK1287; clear BK1292; clear BK1298; clear HB; have HO1272 := n0_; have HO1276 := n1_; have HO1280 := n2_; have HO1286 := n3_; have HO1291 := n4_; have HO1296 := n5_; have BK1265 := n6_; have BK1266 := n7_; have BK1282 := n8_; have BK1287 := n9_; have BK1292 := n10_; have BK1298 := n11_; have HB := n12_; clear n0_ n1_ n2_ n3_ n4_ n5_ n6_ n7_ n8_ n9_ n10_ n11_ n12_; (try clear hb); (try clear hb2); (try clear hk); (try clear hi)))
               have n0_ := Sq.m (Kd.R_drew HO1272.out)
               have n1_ := Sq.m (Kd.R_drew HO1276.out)
               have n2_ := Sq.m (Kd.R_drew HO1280.out)
               have n3_ := Sq.m (Kd.R_drew HO1286.out)
               have n4_ := Sq.m (Kd.R_drew HO1291.out)
               have n5_ := Sq.m (Kd.R_drew HO1296.out)
               have n6_ := Sq.m (blk_drew BK1265.out)
               have n7_ := Sq.m (blk_drew BK1266.out)
               have n8_ := Sq.m (blk_drew BK1282.out)
               have n9_ := Sq.m (blk_drew BK1287.out)
               have n10_ := Sq.m (blk_drew BK1292.out)
               have n11_ := Sq.m (blk_drew BK1298.out)
               have n12_ := Sq.m (below_drew1 HB.out)
               clear HO1272
               clear HO1276
               clear HO1280
               clear HO1286
               clear HO1291
               clear HO1296
               clear BK1265
               clear BK1266
               clear BK1282
               clear BK1287
               clear BK1292
               clear BK1298
               clear HB
               have HO1272 := n0_
               have HO1276 := n1_
               have HO1280 := n2_
               have HO1286 := n3_
               have HO1291 := n4_
               have HO1296 := n5_
               have BK1265 := n6_
               have BK1266 := n7_
               have BK1282 := n8_
               have BK1287 := n9_
               have BK1292 := n10_
               have BK1298 := n11_
               have HB := n12_
               clear n0_ n1_ n2_ n3_ n4_ n5_ n6_ n7_ n8_ n9_ n10_ n11_ n12_
               refine start_ (n := 5) (S := fun w' => w'.cell? ⟨gb1287, 0, none⟩ = some (.bool t1283) ∧ w'.cell? ⟨gb1287, 1, none⟩ = some (.slice Ao78 t1284.length co78) ∧ w'.cell? ⟨gb1265, 0, none⟩ = some (.bool a0_0) ∧ w'.cell? ⟨gb1265, 1, none⟩ = some (.slice A0_1 l0_1.length c0_1)) (ds := []) #[false, false, false, false, false] (by kernel_rfl) rfl rfl ⟨(blk_cell BK1287.out 0).trans rfl, (blk_cell BK1287.out 1).trans rfl, (blk_cell BK1265.out 0).trans rfl, (blk_cell BK1265.out 1).trans rfl⟩ (fun hHeld => ?_)
               generalize w101.drew = w102 at HO1272 HO1276 HO1280 HO1286 HO1291 HO1296 BK1265 BK1266 BK1282 BK1287 BK1292 BK1298 HB hHeld ⊢
               refine take_ (i := 0) (N := some 54) (v := ?_) (a' := ?_) #[true, false, false, false, false] rfl rfl (by kernel_rfl) (fun _ _ _ h => h) (Or.inl ⟨by rfl, ?_⟩) hHeld ?_ ?_
               rotate_left
               ·rintro w' ⟨s0, s1, s2, s3⟩
                go_simp
                with_reducible rfl
               rotate_left
               ·simp only [Act.put, List.setIfInBounds_toArray, List.set_cons_zero, List.set_cons_succ, i64_w, i32_w, u8_w, w64_b]
                rfl
               refine take_ (i := 1) (N := some 55) (v := ?_) (a' := ?_) #[true, true, false, false, false] rfl rfl (by kernel_rfl) (fun _ _ _ h => h) (Or.inl ⟨by rfl, ?_⟩) hHeld ?_ ?_
               rotate_left
               ·rintro w' ⟨s0, s1, s2, s3⟩
                go_simp
                with_reducible rfl
               rotate_left
               ·simp only [Act.put, List.setIfInBounds_toArray, List.set_cons_zero, List.set_cons_succ, i64_w, i32_w, u8_w, w64_b]
                rfl
               refine one_ (i := 2) (N := some 56) #[true, true, true, false, false] rfl rfl (by kernel_rfl) (by decide) (fun K hK => ?_)
               refine goes_ Try.func52 (by kernel_rfl) rfl #[.agg #[.bool a0_0, .slice A0_1 l0_1.length c0_1]] (by rfl) rfl rfl (by (try simp only [List.map_toArray, List.map_cons, List.map_nil]); first | done | rfl | (simp only [List.length_drop, List.length_take]; rfl) | (simp only [i64_w, u8_w, w64_b]; rfl)) ?_
               with_reducible refine (laws_toWhole.calls k a0_0 _ _ l0_1 t1300 t1301 _ ?side1 ?side2 A28.out).mono ?_
               (case side1 => repeat (first | exact (Kd.C_below HR0_1.out HB.out) | (with_reducible refine Kd.C_alloc ?_ _) | (with_reducible refine Kd.C_drewN ?_ _) | (with_reducible refine Kd.C_drew ?_)))
               (case side2 => exact HC0_1.out)
               rintro e w103 ⟨v1302, rfl, ho0, hb⟩
               refine ⟨_, rfl, ?_⟩
               have n0_ := Sq.m (Kd.R_elder' (by apply Sq.ra; exact HO1272.out) (Kd.R_base ho0) hb)
               have n1_ := Sq.m (Kd.R_elder' (by apply Sq.ra; exact HO1276.out) (Kd.R_base ho0) hb)
               have n2_ := Sq.m (Kd.R_elder' (by apply Sq.ra; exact HO1280.out) (Kd.R_base ho0) hb)
               have n3_ := Sq.m (Kd.R_elder' (by apply Sq.ra; exact HO1286.out) (Kd.R_base ho0) hb)
               have n4_ := Sq.m (Kd.R_elder' (by apply Sq.ra; exact HO1291.out) (Kd.R_base ho0) hb)
               have n5_ := Sq.m (Kd.R_elder' (by apply Sq.ra; exact HO1296.out) (Kd.R_base ho0) hb)
               have n6_ := Sq.m (Kd.R_lower (Kd.R_new' (Kd.R_new' (Kd.R_new' (Kd.R_new' (Kd.R_new' (Kd.R_new' ho0 (Kd.R_lt (by apply Sq.ra; exact HO1272.out))) (Kd.R_lt (by apply Sq.ra; exact HO1276.out))) (Kd.R_lt (by apply Sq.ra; exact HO1280.out))) (Kd.R_lt (by apply Sq.ra; exact HO1286.out))) (Kd.R_lt (by apply Sq.ra; exact HO1291.out))) (Kd.R_lt (by apply Sq.ra; exact HO1296.out))) (below_size (by repeat (first | (with_reducible first | exact HB.out | apply Sq.rc | refine below_set ?_ GE1265.out | refine below_set ?_ GE1266.out | refine below_set ?_ GE1282.out | refine below_set ?_ GE1287.out | refine below_set ?_ GE1292.out | refine below_set ?_ GE1298.out) | exact HB.out))))
               have n7_ := Sq.m (blk_below (g := gb1265) (o := .cells #[.bool a0_0, .slice A0_1 l0_1.length c0_1] 56 (0, 0)) (by apply Sq.rb; exact BK1265.out) hb)
               have n8_ := Sq.m (blk_below (g := gb1266) (o := .cells #[.bool a1_0, .slice A1_1 l1_1.length c1_1] 56 (0, 0)) (by apply Sq.rb; exact BK1266.out) hb)
               have n9_ := Sq.m (blk_below (g := gb1282) (o := .cells #[.bool t1277, .slice Ao100 t1278.length co100] 59 (0, 0)) (by apply Sq.rb; exact BK1282.out) hb)
               have n10_ := Sq.m (blk_below (g := gb1287) (o := .cells #[.bool t1283, .slice Ao78 t1284.length co78] 59 (0, 0)) (by apply Sq.rb; exact BK1287.out) hb)
               have n11_ := Sq.m (blk_below (g := gb1292) (o := .cells #[.bool t1288, .slice Ao88 t1289.length co88] 59 (0, 0)) (by apply Sq.rb; exact BK1292.out) hb)
               have n12_ := Sq.m (blk_below (g := gb1298) (o := .cells #[.bool t1293, .slice Ao98 t1294.length co98] 59 (0, 0)) (by apply Sq.rb; exact BK1298.out) hb)
               have n13_ := Sq.m (below_step (by repeat (first | (with_reducible first | exact HB.out | apply Sq.rc | refine below_set ?_ GE1265.out | refine below_set ?_ GE1266.out | refine below_set ?_ GE1282.out | refine below_set ?_ GE1287.out | refine below_set ?_ GE1292.out | refine below_set ?_ GE1298.out) | exact HB.out)) hb)
               clear HO1272
               clear HO1276
               clear HO1280
               clear HO1286
               clear HO1291
               clear HO1296
               clear BK1265
               clear BK1266
               clear BK1282
               clear BK1287
               clear BK1292
               clear BK1298
               clear HB
               have HO1272 := n0_
               have HO1276 := n1_
               have HO1280 := n2_
               have HO1286 := n3_
               have HO1291 := n4_
               have HO1296 := n5_
               have HO1303 := n6_
               have BK1265 := n7_
               have BK1266 := n8_
               have BK1282 := n9_
               have BK1287 := n10_
               have BK1292 := n11_
               have BK1298 := n12_
               have HB := n13_
               clear n0_ n1_ n2_ n3_ n4_ n5_ n6_ n7_ n8_ n9_ n10_ n11_ n12_ n13_
               (try clear hb)
               (try clear hb2)
               (try clear hk)
               (try clear hi)
               (try clear ho0)
               obtain ⟨Ao104, co104, eo104⟩ := Kd.R_slice HO1303.out
               (first | subst eo104 | (injection eo104 with f1_ f2_ f3_; have f4_ := f1_.symm; have f5_ := f3_.symm; clear f1_ f2_ f3_; subst f4_; subst f5_))
               refine hK.out _ _ ⟨(blk_cell BK1287.out 0).trans rfl, (blk_cell BK1287.out 1).trans rfl, (blk_cell BK1265.out 0).trans rfl, (blk_cell BK1265.out 1).trans rfl⟩ (fun hHeld => ?_)
               clear hK K
               refine norm_ (a' := ?_) ?_ ?_
               rotate_left
               ·show Act.put _ (some 56) _ = _
                simp only [Act.put, List.setIfInBounds_toArray, List.set_cons_zero, List.set_cons_succ, i64_w, i32_w, u8_w, w64_b]
                rfl
               refine one_ (i := 3) (N := some 57) #[true, true, true, true, false] rfl rfl (by kernel_rfl) (by decide) (fun K hK => ?_)
               refine goes_ Try.func54 (by kernel_rfl) rfl #[.agg #[.bool t1283, .slice Ao78 t1284.length co78], .agg #[.bool t1300, .slice Ao104 t1301.length co104]] (by rfl) rfl rfl (by (try simp only [List.map_toArray, List.map_cons, List.map_nil]); first | done | rfl | (simp only [List.length_drop, List.length_take]; rfl) | (simp only [i64_w, u8_w, w64_b]; rfl)) ?_
               with_reducible refine (laws_eqWhole.calls k t1283 _ _ t1284 t1300 _ _ t1301 true _ ?side1 ?side2 ?side3 ?side4 A29.out).mono ?_
               (case side1 => repeat (first | exact (Kd.R_reads' HO1286.out).2.2 | (with_reducible refine Kd.C_alloc ?_ _) | (with_reducible refine Kd.C_drewN ?_ _) | (with_reducible refine Kd.C_drew ?_)))
               (case side2 => exact (Kd.R_reads' HO1286.out).2.1)
               (case side3 => repeat (first | exact (Kd.R_reads' HO1303.out).2.2 | (with_reducible refine Kd.C_alloc ?_ _) | (with_reducible refine Kd.C_drewN ?_ _) | (with_reducible refine Kd.C_drew ?_)))
               (case side4 => exact (Kd.R_reads' HO1303.out).2.1)
               rintro e w105 ⟨rfl, hb⟩
               refine ⟨_, rfl, ?_⟩
               have n0_ := Sq.m (Kd.R_below (by apply Sq.ra; exact HO1272.out) hb)
               have n1_ := Sq.m (Kd.R_below (by apply Sq.ra; exact HO1276.out) hb)
               have n2_ := Sq.m (Kd.R_below (by apply Sq.ra; exact HO1280.out) hb)
               have n3_ := Sq.m (Kd.R_below (by apply Sq.ra; exact HO1286.out) hb)
               have n4_ := Sq.m (Kd.R_below (by apply Sq.ra; exact HO1291.out) hb)
               have n5_ := Sq.m (Kd.R_below (by apply Sq.ra; exact HO1296.out) hb)
               have n6_ := Sq.m (Kd.R_below (by apply Sq.ra; exact HO1303.out) hb)
               have n7_ := Sq.m (blk_below (g := gb1265) (o := .cells #[.bool a0_0, .slice A0_1 l0_1.length c0_1] 56 (0, 0)) (by apply Sq.rb; exact BK1265.out) hb)
               have n8_ := Sq.m (blk_below (g := gb1266) (o := .cells #[.bool a1_0, .slice A1_1 l1_1.length c1_1] 56 (0, 0)) (by apply Sq.rb; exact BK1266.out) hb)
               have n9_ := Sq.m (blk_below (g := gb1282) (o := .cells #[.bool t1277, .slice Ao100 t1278.length co100] 59 (0, 0)) (by apply Sq.rb; exact BK1282.out) hb)
               have n10_ := Sq.m (blk_below (g := gb1287) (o := .cells #[.bool t1283, .slice Ao78 t1284.length co78] 59 (0, 0)) (by apply Sq.rb; exact BK1287.out) hb)
               have n11_ := Sq.m (blk_below (g := gb1292) (o := .cells #[.bool t1288, .slice Ao88 t1289.length co88] 59 (0, 0)) (by apply Sq.rb; exact BK1292.out) hb)
               have n12_ := Sq.m (blk_below (g := gb1298) (o := .cells #[.bool t1293, .slice Ao98 t1294.length co98] 59 (0, 0)) (by apply Sq.rb; exact BK1298.out) hb)
               have n13_ := Sq.m (below_step (by repeat (first | (with_reducible first | exact HB.out | apply Sq.rc | refine below_set ?_ GE1265.out | refine below_set ?_ GE1266.out | refine below_set ?_ GE1282.out | refine below_set ?_ GE1287.out | refine below_set ?_ GE1292.out | refine below_set ?_ GE1298.out) | exact HB.out)) hb)
               clear HO1272
               clear HO1276
               clear HO1280
               clear HO1286
               clear HO1291
               clear HO1296
               clear HO1303
               clear BK1265
               clear BK1266
               clear BK1282
               clear BK1287
               clear BK1292
               clear BK1298
               clear HB
               have HO1272 := n0_
               have HO1276 := n1_
               have HO1280 := n2_
               have HO1286 := n3_
               have HO1291 := n4_
               have HO1296 := n5_
               have HO1303 := n6_
               have BK1265 := n7_
               have BK1266 := n8_
               have BK1282 := n9_
               have BK1287 := n10_
               have BK1292 := n11_
               have BK1298 := n12_
               have HB := n13_
               clear n0_ n1_ n2_ n3_ n4_ n5_ n6_ n7_ n8_ n9_ n10_ n11_ n12_ n13_
               (try clear hb)
               (try clear hb2)
               (try clear hk)
               (try clear hi)
               refine hK.out _ _ ⟨(blk_cell BK1287.out 0).trans rfl, (blk_cell BK1287.out 1).trans rfl, (blk_cell BK1265.out 0).trans rfl, (blk_cell BK1265.out 1).trans rfl⟩ (fun hHeld => ?_)
               clear hK K
               refine norm_ (a' := ?_) ?_ ?_
               rotate_left
               ·show Act.put _ (some 57) _ = _
                simp only [Act.put, List.setIfInBounds_toArray, List.set_cons_zero, List.set_cons_succ, i64_w, i32_w, u8_w, w64_b]
                rfl
               refine pure_ (i := 4) (N := some 58) (v := ?_) (a' := ?_) #[true, true, true, true, true] rfl rfl (by kernel_rfl) (fun _ _ _ h => h) (Or.inl ⟨by rfl, ?_⟩) ?_ ?_
               rotate_left
               ·intro w'
                go_simp
                with_reducible rfl
               rotate_left
               ·simp only [Act.put, List.setIfInBounds_toArray, List.set_cons_zero, List.set_cons_succ, i64_w, i32_w, u8_w, w64_b]
                rfl
               refine done_ (by kernel_rfl) ?_
               try go_wp2
               have n0_ := Sq.m (Kd.R_drew HO1272.out)
               have n1_ := Sq.m (Kd.R_drew HO1276.out)
               have n2_ := Sq.m (Kd.R_drew HO1280.out)
               have n3_ := Sq.m (Kd.R_drew HO1286.out)
               have n4_ := Sq.m (Kd.R_drew HO1291.out)
               have n5_ := Sq.m (Kd.R_drew HO1296.out)
               have n6_ := Sq.m (Kd.R_drew HO1303.out)
               have n7_ := Sq.m (blk_drew BK1265.out)
               have n8_ := Sq.m (blk_drew BK1266.out)
               have n9_ := Sq.m (blk_drew BK1282.out)
               have n10_ := Sq.m (blk_drew BK1287.out)
               have n11_ := Sq.m (blk_drew BK1292.out)
               have n12_ := Sq.m (blk_drew BK1298.out)
               have n13_ := Sq.m (below_drew1 HB.out)
               clear HO1272
               clear HO1276
               clear HO1280
               clear HO1286
               clear HO1291
               clear HO1296
               clear HO1303
               clear BK1265
               clear BK1266
               clear BK1282
               clear BK1287
               clear BK1292
               clear BK1298
               clear HB
               have HO1272 := n0_
               have HO1276 := n1_
               have HO1280 := n2_
               have HO1286 := n3_
               have HO1291 := n4_
               have HO1296 := n5_
               have HO1303 := n6_
               have BK1265 := n7_
               have BK1266 := n8_
               have BK1282 := n9_
               have BK1287 := n10_
               have BK1292 := n11_
               have BK1298 := n12_
               have HB := n13_
               clear n0_ n1_ n2_ n3_ n4_ n5_ n6_ n7_ n8_ n9_ n10_ n11_ n12_ n13_
               refine start_ (n := 5) (S := fun w' => w'.cell? ⟨gb1292, 0, none⟩ = some (.bool t1288) ∧ w'.cell? ⟨gb1292, 1, none⟩ = some (.slice Ao88 t1289.length co88) ∧ w'.cell? ⟨gb1266, 0, none⟩ = some (.bool a1_0) ∧ w'.cell? ⟨gb1266, 1, none⟩ = some (.slice A1_1 l1_1.length c1_1)) (ds := []) #[false, false, false, false, false] (by kernel_rfl) rfl rfl ⟨(blk_cell BK1292.out 0).trans rfl, (blk_cell BK1292.out 1).trans rfl, (blk_cell BK1266.out 0).trans rfl, (blk_cell BK1266.out 1).trans rfl⟩ (fun hHeld => ?_)
               generalize w105.drew = w106 at HO1272 HO1276 HO1280 HO1286 HO1291 HO1296 HO1303 BK1265 BK1266 BK1282 BK1287 BK1292 BK1298 HB hHeld ⊢
               refine take_ (i := 0) (N := some 59) (v := ?_) (a' := ?_) #[true, false, false, false, false] rfl rfl (by kernel_rfl) (fun _ _ _ h => h) (Or.inl ⟨by rfl, ?_⟩) hHeld ?_ ?_
               rotate_left
               ·rintro w' ⟨s0, s1, s2, s3⟩
                go_simp
                with_reducible rfl
               rotate_left
               ·simp only [Act.put, List.setIfInBounds_toArray, List.set_cons_zero, List.set_cons_succ, i64_w, i32_w, u8_w, w64_b]
                rfl
               refine take_ (i := 1) (N := some 60) (v := ?_) (a' := ?_) #[true, true, false, false, false] rfl rfl (by kernel_rfl) (fun _ _ _ h => h) (Or.inl ⟨by rfl, ?_⟩) hHeld ?_ ?_
               rotate_left
               ·rintro w' ⟨s0, s1, s2, s3⟩
                go_simp
                with_reducible rfl
               rotate_left
               ·simp only [Act.put, List.setIfInBounds_toArray, List.set_cons_zero, List.set_cons_succ, i64_w, i32_w, u8_w, w64_b]
                rfl
               refine one_ (i := 2) (N := some 61) #[true, true, true, false, false] rfl rfl (by kernel_rfl) (by decide) (fun K hK => ?_)
               refine goes_ Try.func52 (by kernel_rfl) rfl #[.agg #[.bool a1_0, .slice A1_1 l1_1.length c1_1]] (by rfl) rfl rfl (by (try simp only [List.map_toArray, List.map_cons, List.map_nil]); first | done | rfl | (simp only [List.length_drop, List.length_take]; rfl) | (simp only [i64_w, u8_w, w64_b]; rfl)) ?_
               with_reducible refine (laws_toWhole.calls k a1_0 _ _ l1_1 t1305 t1306 _ ?side1 ?side2 A31.out).mono ?_
               (case side1 => repeat (first | exact (Kd.C_below HR1_1.out HB.out) | (with_reducible refine Kd.C_alloc ?_ _) | (with_reducible refine Kd.C_drewN ?_ _) | (with_reducible refine Kd.C_drew ?_)))
               (case side2 => exact HC1_1.out)
               rintro e w107 ⟨v1307, rfl, ho0, hb⟩
               refine ⟨_, rfl, ?_⟩
               have n0_ := Sq.m (Kd.R_elder' (by apply Sq.ra; exact HO1272.out) (Kd.R_base ho0) hb)
               have n1_ := Sq.m (Kd.R_elder' (by apply Sq.ra; exact HO1276.out) (Kd.R_base ho0) hb)
               have n2_ := Sq.m (Kd.R_elder' (by apply Sq.ra; exact HO1280.out) (Kd.R_base ho0) hb)
               have n3_ := Sq.m (Kd.R_elder' (by apply Sq.ra; exact HO1286.out) (Kd.R_base ho0) hb)
               have n4_ := Sq.m (Kd.R_elder' (by apply Sq.ra; exact HO1291.out) (Kd.R_base ho0) hb)
               have n5_ := Sq.m (Kd.R_elder' (by apply Sq.ra; exact HO1296.out) (Kd.R_base ho0) hb)
               have n6_ := Sq.m (Kd.R_elder' (by apply Sq.ra; exact HO1303.out) (Kd.R_base ho0) hb)
               have n7_ := Sq.m (Kd.R_lower (Kd.R_new' (Kd.R_new' (Kd.R_new' (Kd.R_new' (Kd.R_new' (Kd.R_new' (Kd.R_new' ho0 (Kd.R_lt (by apply Sq.ra; exact HO1272.out))) (Kd.R_lt (by apply Sq.ra; exact HO1276.out))) (Kd.R_lt (by apply Sq.ra; exact HO1280.out))) (Kd.R_lt (by apply Sq.ra; exact HO1286.out))) (Kd.R_lt (by apply Sq.ra; exact HO1291.out))) (Kd.R_lt (by apply Sq.ra; exact HO1296.out))) (Kd.R_lt (by apply Sq.ra; exact HO1303.out))) (below_size (by repeat (first | (with_reducible first | exact HB.out | apply Sq.rc | refine below_set ?_ GE1265.out | refine below_set ?_ GE1266.out | refine below_set ?_ GE1282.out | refine below_set ?_ GE1287.out | refine below_set ?_ GE1292.out | refine below_set ?_ GE1298.out) | exact HB.out))))
               have n8_ := Sq.m (blk_below (g := gb1265) (o := .cells #[.bool a0_0, .slice A0_1 l0_1.length c0_1] 56 (0, 0)) (by apply Sq.rb; exact BK1265.out) hb)
               have n9_ := Sq.m (blk_below (g := gb1266) (o := .cells #[.bool a1_0, .slice A1_1 l1_1.length c1_1] 56 (0, 0)) (by apply Sq.rb; exact BK1266.out) hb)
               have n10_ := Sq.m (blk_below (g := gb1282) (o := .cells #[.bool t1277, .slice Ao100 t1278.length co100] 59 (0, 0)) (by apply Sq.rb; exact BK1282.out) hb)
               have n11_ := Sq.m (blk_below (g := gb1287) (o := .cells #[.bool t1283, .slice Ao78 t1284.length co78] 59 (0, 0)) (by apply Sq.rb; exact BK1287.out) hb)
               have n12_ := Sq.m (blk_below (g := gb1292) (o := .cells #[.bool t1288, .slice Ao88 t1289.length co88] 59 (0, 0)) (by apply Sq.rb; exact BK1292.out) hb)
               have n13_ := Sq.m (blk_below (g := gb1298) (o := .cells #[.bool t1293, .slice Ao98 t1294.length co98] 59 (0, 0)) (by apply Sq.rb; exact BK1298.out) hb)
               have n14_ := Sq.m (below_step (by repeat (first | (with_reducible first | exact HB.out | apply Sq.rc | refine below_set ?_ GE1265.out | refine below_set ?_ GE1266.out | refine below_set ?_ GE1282.out | refine below_set ?_ GE1287.out | refine below_set ?_ GE1292.out | refine below_set ?_ GE1298.out) | exact HB.out)) hb)
               clear HO1272
               clear HO1276
               clear HO1280
               clear HO1286
               clear HO1291
               clear HO1296
               clear HO1303
               clear BK1265
               clear BK1266
               clear BK1282
               clear BK1287
               clear BK1292
               clear BK1298
               clear HB
               have HO1272 := n0_
               have HO1276 := n1_
               have HO1280 := n2_
               have HO1286 := n3_
               have HO1291 := n4_
               have HO1296 := n5_
               have HO1303 := n6_
               have HO1308 := n7_
               have BK1265 := n8_
               have BK1266 := n9_
               have BK1282 := n10_
               have BK1287 := n11_
               have BK1292 := n12_
               have BK1298 := n13_
               have HB := n14_
               clear n0_ n1_ n2_ n3_ n4_ n5_ n6_ n7_ n8_ n9_ n10_ n11_ n12_ n13_ n14_
               (try clear hb)
               (try clear hb2)
               (try clear hk)
               (try clear hi)
               (try clear ho0)
               obtain ⟨Ao108, co108, eo108⟩ := Kd.R_slice HO1308.out
               (first | subst eo108 | (injection eo108 with f1_ f2_ f3_; have f4_ := f1_.symm; have f5_ := f3_.symm; clear f1_ f2_ f3_; subst f4_; subst f5_))
               refine hK.out _ _ ⟨(blk_cell BK1292.out 0).trans rfl, (blk_cell BK1292.out 1).trans rfl, (blk_cell BK1266.out 0).trans rfl, (blk_cell BK1266.out 1).trans rfl⟩ (fun hHeld => ?_)
               clear hK K
               refine norm_ (a' := ?_) ?_ ?_
               rotate_left
               ·show Act.put _ (some 61) _ = _
                simp only [Act.put, List.setIfInBounds_toArray, List.set_cons_zero, List.set_cons_succ, i64_w, i32_w, u8_w, w64_b]
                rfl
               refine one_ (i := 3) (N := some 62) #[true, true, true, true, false] rfl rfl (by kernel_rfl) (by decide) (fun K hK => ?_)
               refine goes_ Try.func54 (by kernel_rfl) rfl #[.agg #[.bool t1288, .slice Ao88 t1289.length co88], .agg #[.bool t1305, .slice Ao108 t1306.length co108]] (by rfl) rfl rfl (by (try simp only [List.map_toArray, List.map_cons, List.map_nil]); first | done | rfl | (simp only [List.length_drop, List.length_take]; rfl) | (simp only [i64_w, u8_w, w64_b]; rfl)) ?_
               with_reducible refine (laws_eqWhole.calls k t1288 _ _ t1289 t1305 _ _ t1306 true _ ?side1 ?side2 ?side3 ?side4 A32.out).mono ?_
               (case side1 => repeat (first | exact (Kd.R_reads' HO1291.out).2.2 | (with_reducible refine Kd.C_alloc ?_ _) | (with_reducible refine Kd.C_drewN ?_ _) | (with_reducible refine Kd.C_drew ?_)))
               (case side2 => exact (Kd.R_reads' HO1291.out).2.1)
               (case side3 => repeat (first | exact (Kd.R_reads' HO1308.out).2.2 | (with_reducible refine Kd.C_alloc ?_ _) | (with_reducible refine Kd.C_drewN ?_ _) | (with_reducible refine Kd.C_drew ?_)))
               (case side4 => exact (Kd.R_reads' HO1308.out).2.1)
               rintro e w109 ⟨rfl, hb⟩
               refine ⟨_, rfl, ?_⟩
               have n0_ := Sq.m (Kd.R_below (by apply Sq.ra; exact HO1272.out) hb)
               have n1_ := Sq.m (Kd.R_below (by apply Sq.ra; exact HO1276.out) hb)
               have n2_ := Sq.m (Kd.R_below (by apply Sq.ra; exact HO1280.out) hb)
               have n3_ := Sq.m (Kd.R_below (by apply Sq.ra; exact HO1286.out) hb)
               have n4_ := Sq.m (Kd.R_below (by apply Sq.ra; exact HO1291.out) hb)
               have n5_ := Sq.m (Kd.R_below (by apply Sq.ra; exact HO1296.out) hb)
               have n6_ := Sq.m (Kd.R_below (by apply Sq.ra; exact HO1303.out) hb)
               have n7_ := Sq.m (Kd.R_below (by apply Sq.ra; exact HO1308.out) hb)
               have n8_ := Sq.m (blk_below (g := gb1265) (o := .cells #[.bool a0_0, .slice A0_1 l0_1.length c0_1] 56 (0, 0)) (by apply Sq.rb; exact BK1265.out) hb)
               have n9_ := Sq.m (blk_below (g := gb1266) (o := .cells #[.bool a1_0, .slice A1_1 l1_1.length c1_1] 56 (0, 0)) (by apply Sq.rb; exact BK1266.out) hb)
               have n10_ := Sq.m (blk_below (g := gb1282) (o := .cells #[.bool t1277, .slice Ao100 t1278.length co100] 59 (0, 0)) (by apply Sq.rb; exact BK1282.out) hb)
               have n11_ := Sq.m (blk_below (g := gb1287) (o := .cells #[.bool t1283, .slice Ao78 t1284.length co78] 59 (0, 0)) (by apply Sq.rb; exact BK1287.out) hb)
               have n12_ := Sq.m (blk_below (g := gb1292) (o := .cells #[.bool t1288, .slice Ao88 t1289.length co88] 59 (0, 0)) (by apply Sq.rb; exact BK1292.out) hb)
               have n13_ := Sq.m (blk_below (g := gb1298) (o := .cells #[.bool t1293, .slice Ao98 t1294.length co98] 59 (0, 0)) (by apply Sq.rb; exact BK1298.out) hb)
               have n14_ := Sq.m (below_step (by repeat (first | (with_reducible first | exact HB.out | apply Sq.rc | refine below_set ?_ GE1265.out | refine below_set ?_ GE1266.out | refine below_set ?_ GE1282.out | refine below_set ?_ GE1287.out | refine below_set ?_ GE1292.out | refine below_set ?_ GE1298.out) | exact HB.out)) hb)
               clear HO1272
               clear HO1276
               clear HO1280
               clear HO1286
               clear HO1291
               clear HO1296
               clear HO1303
               clear HO1308
               clear BK1265
               clear BK1266
               clear BK1282
               clear BK1287
               clear BK1292
               clear BK1298
               clear HB
               have HO1272 := n0_
               have HO1276 := n1_
               have HO1280 := n2_
               have HO1286 := n3_
               have HO1291 := n4_
               have HO1296 := n5_
               have HO1303 := n6_
               have HO1308 := n7_
               have BK1265 := n8_
               have BK1266 := n9_
               have BK1282 := n10_
               have BK1287 := n11_
               have BK1292 := n12_
               have BK1298 := n13_
               have HB := n14_
               clear n0_ n1_ n2_ n3_ n4_ n5_ n6_ n7_ n8_ n9_ n10_ n11_ n12_ n13_ n14_
               (try clear hb)
               (try clear hb2)
               (try clear hk)
               (try clear hi)
               refine hK.out _ _ ⟨(blk_cell BK1292.out 0).trans rfl, (blk_cell BK1292.out 1).trans rfl, (blk_cell BK1266.out 0).trans rfl, (blk_cell BK1266.out 1).trans rfl⟩ (fun hHeld => ?_)
               clear hK K
               refine norm_ (a' := ?_) ?_ ?_
               rotate_left
               ·show Act.put _ (some 62) _ = _
                simp only [Act.put, List.setIfInBounds_toArray, List.set_cons_zero, List.set_cons_succ, i64_w, i32_w, u8_w, w64_b]
                rfl
               refine pure_ (i := 4) (N := some 63) (v := ?_) (a' := ?_) #[true, true, true, true, true] rfl rfl (by kernel_rfl) (fun _ _ _ h => h) (Or.inl ⟨by rfl, ?_⟩) ?_ ?_
               rotate_left
               ·intro w'
                go_simp
                with_reducible rfl
               rotate_left
               ·simp only [Act.put, List.setIfInBounds_toArray, List.set_cons_zero, List.set_cons_succ, i64_w, i32_w, u8_w, w64_b]
                rfl
               refine done_ (by kernel_rfl) ?_
               have hcz110_0 : w109.cell? ⟨gb1287, 0, none⟩ = some (.bool t1283) := (blk_cell BK1287.out 0).trans rfl
               have hcz110_1 : w109.cell? ⟨gb1287, 1, none⟩ = some (.slice Ao78 t1284.length co78) := (blk_cell BK1287.out 1).trans rfl
               have hfz110_0 := blk_frozen BK1287.out 0
               have hfz110_1 := blk_frozen BK1287.out 1
               try go_wp2_with (first | ((with_reducible refine gate_callee (f := 55) rfl ?_); refine goesL_ (some 66) rfl rfl Try.func55 (by kernel_rfl) rfl #[.agg #[.bool t1283, .slice Ao78 t1284.length co78], .int .i64 1] rfl (by (try simp only [List.map_toArray, List.map_cons, List.map_nil]); first | done | rfl | (simp only [List.length_drop, List.length_take]; rfl) | (simp only [i64_w, u8_w, w64_b]; rfl)) ?_; (with_reducible refine (laws_markWhole.calls k t1283 (fun k_ => some k_ = (.slice Ao78 t1284.length co78 : Value).ownBlock) (.slice Ao78 t1284.length co78) t1284 1 t1310 t1311 w _ ?side1 ?side2 A34.out).mono ?_); (case side1 => repeat (first | (with_reducible first | exact HB.out | apply Sq.rc | refine below_set ?_ GE1265.out | refine below_set ?_ GE1266.out | refine below_set ?_ GE1282.out | refine below_set ?_ GE1287.out | refine below_set ?_ GE1292.out | refine below_set ?_ GE1298.out) | exact HB.out)); (case side2 => exact Kd.R_tight rfl HO1286.out); rintro e w111 ⟨rfl, hy0, hb, hkp⟩; refine ⟨_, rfl, ?_⟩; have n0_ := Sq.m (blk_kept (by apply Sq.rb; exact BK1265.out) hkp (fun hs_ => (fun e_ => (Kd.R_ne HO1286.out BK1265.out (by decide)) e_) hs_)); have n1_ := Sq.m (blk_kept (by apply Sq.rb; exact BK1266.out) hkp (fun hs_ => (fun e_ => (Kd.R_ne HO1286.out BK1266.out (by decide)) e_) hs_)); have n2_ := Sq.m (Kd.R_mono (ok' := fun k_ => some k_ ≠ (.slice Ao78 t1284.length co78 : Value).ownBlock ∧ some k_ ≠ (.slice Ao88 t1289.length co88 : Value).ownBlock ∧ some k_ ≠ (.slice Ao98 t1294.length co98 : Value).ownBlock ∧ some k_ ≠ (.slice Ao104 t1301.length co104 : Value).ownBlock ∧ some k_ ≠ (.slice Ao108 t1306.length co108 : Value).ownBlock) (Kd.R_keptB (HO1272.out) hkp (fun k_ hk_ hs_ => (hk_.1.1.1.1.2) hs_)) (fun k_ hk_ => ⟨hk_.1.1.1.1.1.2, hk_.1.1.1.1.2, hk_.1.1.1.2, hk_.1.1.2, hk_.1.2⟩)); have n3_ := Sq.m (Kd.R_mono (ok' := fun k_ => some k_ ≠ (.slice Ao78 t1284.length co78 : Value).ownBlock ∧ some k_ ≠ (.slice Ao88 t1289.length co88 : Value).ownBlock ∧ some k_ ≠ (.slice Ao98 t1294.length co98 : Value).ownBlock ∧ some k_ ≠ (.slice Ao104 t1301.length co104 : Value).ownBlock ∧ some k_ ≠ (.slice Ao108 t1306.length co108 : Value).ownBlock) (Kd.R_keptB (HO1276.out) hkp (fun k_ hk_ hs_ => (hk_.1.1.1.1.2) hs_)) (fun k_ hk_ => ⟨hk_.1.1.1.1.1.2, hk_.1.1.1.1.2, hk_.1.1.1.2, hk_.1.1.2, hk_.1.2⟩)); have n4_ := Sq.m (Kd.R_mono (ok' := fun k_ => some k_ ≠ (.slice Ao78 t1284.length co78 : Value).ownBlock ∧ some k_ ≠ (.slice Ao88 t1289.length co88 : Value).ownBlock ∧ some k_ ≠ (.slice Ao98 t1294.length co98 : Value).ownBlock ∧ some k_ ≠ (.slice Ao104 t1301.length co104 : Value).ownBlock ∧ some k_ ≠ (.slice Ao108 t1306.length co108 : Value).ownBlock) (Kd.R_keptB (HO1280.out) hkp (fun k_ hk_ hs_ => (hk_.1.1.1.1.2) hs_)) (fun k_ hk_ => ⟨hk_.1.1.1.1.1.2, hk_.1.1.1.1.2, hk_.1.1.1.2, hk_.1.1.2, hk_.1.2⟩)); have n5_ := Sq.m (blk_kept (by apply Sq.rb; exact BK1282.out) hkp (fun hs_ => (fun e_ => (Kd.R_ne HO1286.out BK1282.out (by decide)) e_) hs_)); have n6_ := Sq.m (Kd.R_reok rfl hy0 (fun k_ e_ => HO1286.out.1 k_ e_)); have n7_ := Sq.m (blk_kept (by apply Sq.rb; exact BK1287.out) hkp (fun hs_ => (fun e_ => (Kd.R_ne HO1286.out BK1287.out (by decide)) e_) hs_)); have n8_ := Sq.m (Kd.R_mono (ok' := fun k_ => some k_ ≠ (v1271 : Value).ownBlock ∧ some k_ ≠ (v1275 : Value).ownBlock ∧ some k_ ≠ (.slice Ao100 t1278.length co100 : Value).ownBlock ∧ some k_ ≠ (.slice Ao78 t1284.length co78 : Value).ownBlock ∧ some k_ ≠ (.slice Ao98 t1294.length co98 : Value).ownBlock ∧ some k_ ≠ (.slice Ao104 t1301.length co104 : Value).ownBlock ∧ some k_ ≠ (.slice Ao108 t1306.length co108 : Value).ownBlock) (Kd.R_keptB (HO1291.out) hkp (fun k_ hk_ hs_ => (hk_.1.1.1.2) hs_)) (fun k_ hk_ => ⟨hk_.1.1.1.1.1.1.1.2, hk_.1.1.1.1.1.1.2, hk_.1.1.1.1.1.2, hk_.1.1.1.1.2, hk_.1.1.1.2, hk_.1.1.2, hk_.1.2⟩)); have n9_ := Sq.m (blk_kept (by apply Sq.rb; exact BK1292.out) hkp (fun hs_ => (fun e_ => (Kd.R_ne HO1286.out BK1292.out (by decide)) e_) hs_)); have n10_ := Sq.m (Kd.R_mono (ok' := fun k_ => some k_ ≠ (v1271 : Value).ownBlock ∧ some k_ ≠ (v1275 : Value).ownBlock ∧ some k_ ≠ (.slice Ao100 t1278.length co100 : Value).ownBlock ∧ some k_ ≠ (.slice Ao78 t1284.length co78 : Value).ownBlock ∧ some k_ ≠ (.slice Ao88 t1289.length co88 : Value).ownBlock ∧ some k_ ≠ (.slice Ao104 t1301.length co104 : Value).ownBlock ∧ some k_ ≠ (.slice Ao108 t1306.length co108 : Value).ownBlock) (Kd.R_keptB (HO1296.out) hkp (fun k_ hk_ hs_ => (hk_.1.1.1.2) hs_)) (fun k_ hk_ => ⟨hk_.1.1.1.1.1.1.1.2, hk_.1.1.1.1.1.1.2, hk_.1.1.1.1.1.2, hk_.1.1.1.1.2, hk_.1.1.1.2, hk_.1.1.2, hk_.1.2⟩)); have n11_ := Sq.m (blk_kept (by apply Sq.rb; exact BK1298.out) hkp (fun hs_ => (fun e_ => (Kd.R_ne HO1286.out BK1298.out (by decide)) e_) hs_)); have n12_ := Sq.m (Kd.R_mono (ok' := fun k_ => some k_ ≠ (v1271 : Value).ownBlock ∧ some k_ ≠ (v1275 : Value).ownBlock ∧ some k_ ≠ (.slice Ao100 t1278.length co100 : Value).ownBlock ∧ some k_ ≠ (.slice Ao78 t1284.length co78 : Value).ownBlock ∧ some k_ ≠ (.slice Ao88 t1289.length co88 : Value).ownBlock ∧ some k_ ≠ (.slice Ao98 t1294.length co98 : Value).ownBlock ∧ some k_ ≠ (.slice Ao108 t1306.length co108 : Value).ownBlock) (Kd.R_keptB (HO1303.out) hkp (fun k_ hk_ hs_ => (hk_.1.1.1.2) hs_)) (fun k_ hk_ => ⟨hk_.1.1.1.1.1.1.1.2, hk_.1.1.1.1.1.1.2, hk_.1.1.1.1.1.2, hk_.1.1.1.1.2, hk_.1.1.1.2, hk_.1.1.2, hk_.1.2⟩)); have n13_ := Sq.m (Kd.R_mono (ok' := fun k_ => some k_ ≠ (v1271 : Value).ownBlock ∧ some k_ ≠ (v1275 : Value).ownBlock ∧ some k_ ≠ (.slice Ao100 t1278.length co100 : Value).ownBlock ∧ some k_ ≠ (.slice Ao78 t1284.length co78 : Value).ownBlock ∧ some k_ ≠ (.slice Ao88 t1289.length co88 : Value).ownBlock ∧ some k_ ≠ (.slice Ao98 t1294.length co98 : Value).ownBlock ∧ some k_ ≠ (.slice Ao104 t1301.length co104 : Value).ownBlock) (Kd.R_keptB (HO1308.out) hkp (fun k_ hk_ hs_ => (hk_.1.1.1.2) hs_)) (fun k_ hk_ => ⟨hk_.1.1.1.1.1.1.1.2, hk_.1.1.1.1.1.1.2, hk_.1.1.1.1.1.2, hk_.1.1.1.1.2, hk_.1.1.1.2, hk_.1.1.2, hk_.1.2⟩)); have n14_ := Sq.m (hb); clear BK1265; clear BK1266; clear HO1272; clear HO1276; clear HO1280; clear BK1282; clear HO1286; clear BK1287; clear HO1291; clear BK1292; clear HO1296; clear BK1298; clear HO1303; clear HO1308; clear HB; have BK1265 := n0_; have BK1266 := n1_; have HO1272 := n2_; have HO1276 := n3_; have HO1280 := n4_; have BK1282 := n5_; have HO1286 := n6_; have BK1287 := n7_; have HO1291 := n8_; have BK1292 := n9_; have HO1296 := n10_; have BK1298 := n11_; have HO1303 := n12_; have HO1308 := n13_; have HB := n14_; clear n0_ n1_ n2_ n3_ n4_ n5_ n6_ n7_ n8_ n9_ n10_ n11_ n12_ n13_ n14_; (try clear hb); (try clear hkp); (try clear hy0); have hcz112_0 : w111.cell? ⟨gb1292, 0, none⟩ = some (.bool t1288) := (blk_cell BK1292.out 0).trans rfl; have hcz112_1 : w111.cell? ⟨gb1292, 1, none⟩ = some (.slice Ao88 t1289.length co88) := (blk_cell BK1292.out 1).trans rfl; have hfz112_0 := blk_frozen BK1292.out 0; have hfz112_1 := blk_frozen BK1292.out 1) | ((with_reducible refine gate_callee (f := 55) rfl ?_); refine goesL_ (some 69) rfl rfl Try.func55 (by kernel_rfl) rfl #[.agg #[.bool t1288, .slice Ao88 t1289.length co88], .int .i64 t1310] rfl (by (try simp only [List.map_toArray, List.map_cons, List.map_nil]); first | done | rfl | (simp only [List.length_drop, List.length_take]; rfl) | (simp only [i64_w, u8_w, w64_b]; rfl)) ?_; (with_reducible refine (laws_markWhole.calls k t1288 (fun k_ => some k_ = (.slice Ao88 t1289.length co88 : Value).ownBlock) (.slice Ao88 t1289.length co88) t1289 t1310 t1312 t1313 w _ ?side1 ?side2 A35.out).mono ?_); (case side1 => repeat (first | (with_reducible first | exact HB.out | apply Sq.rc | refine below_set ?_ GE1265.out | refine below_set ?_ GE1266.out | refine below_set ?_ GE1282.out | refine below_set ?_ GE1287.out | refine below_set ?_ GE1292.out | refine below_set ?_ GE1298.out) | exact HB.out)); (case side2 => exact Kd.R_tight rfl HO1291.out); rintro e w113 ⟨rfl, hy0, hb, hkp⟩; refine ⟨_, rfl, ?_⟩; have n0_ := Sq.m (blk_kept (by apply Sq.rb; exact BK1265.out) hkp (fun hs_ => (fun e_ => (Kd.R_ne HO1291.out BK1265.out (by decide)) e_) hs_)); have n1_ := Sq.m (blk_kept (by apply Sq.rb; exact BK1266.out) hkp (fun hs_ => (fun e_ => (Kd.R_ne HO1291.out BK1266.out (by decide)) e_) hs_)); have n2_ := Sq.m (Kd.R_mono (ok' := fun k_ => some k_ ≠ (.slice Ao78 t1284.length co78 : Value).ownBlock ∧ some k_ ≠ (.slice Ao88 t1289.length co88 : Value).ownBlock ∧ some k_ ≠ (.slice Ao98 t1294.length co98 : Value).ownBlock ∧ some k_ ≠ (.slice Ao104 t1301.length co104 : Value).ownBlock ∧ some k_ ≠ (.slice Ao108 t1306.length co108 : Value).ownBlock) (Kd.R_keptB (HO1272.out) hkp (fun k_ hk_ hs_ => (hk_.2.1) hs_)) (fun k_ hk_ => ⟨hk_.1.1, hk_.1.2.1, hk_.1.2.2.1, hk_.1.2.2.2.1, hk_.1.2.2.2.2⟩)); have n3_ := Sq.m (Kd.R_mono (ok' := fun k_ => some k_ ≠ (.slice Ao78 t1284.length co78 : Value).ownBlock ∧ some k_ ≠ (.slice Ao88 t1289.length co88 : Value).ownBlock ∧ some k_ ≠ (.slice Ao98 t1294.length co98 : Value).ownBlock ∧ some k_ ≠ (.slice Ao104 t1301.length co104 : Value).ownBlock ∧ some k_ ≠ (.slice Ao108 t1306.length co108 : Value).ownBlock) (Kd.R_keptB (HO1276.out) hkp (fun k_ hk_ hs_ => (hk_.2.1) hs_)) (fun k_ hk_ => ⟨hk_.1.1, hk_.1.2.1, hk_.1.2.2.1, hk_.1.2.2.2.1, hk_.1.2.2.2.2⟩)); have n4_ := Sq.m (Kd.R_mono (ok' := fun k_ => some k_ ≠ (.slice Ao78 t1284.length co78 : Value).ownBlock ∧ some k_ ≠ (.slice Ao88 t1289.length co88 : Value).ownBlock ∧ some k_ ≠ (.slice Ao98 t1294.length co98 : Value).ownBlock ∧ some k_ ≠ (.slice Ao104 t1301.length co104 : Value).ownBlock ∧ some k_ ≠ (.slice Ao108 t1306.length co108 : Value).ownBlock) (Kd.R_keptB (HO1280.out) hkp (fun k_ hk_ hs_ => (hk_.2.1) hs_)) (fun k_ hk_ => ⟨hk_.1.1, hk_.1.2.1, hk_.1.2.2.1, hk_.1.2.2.2.1, hk_.1.2.2.2.2⟩)); have n5_ := Sq.m (blk_kept (by apply Sq.rb; exact BK1282.out) hkp (fun hs_ => (fun e_ => (Kd.R_ne HO1291.out BK1282.out (by decide)) e_) hs_)); have n6_ := Sq.m (Kd.R_mono (ok' := fun k_ => some k_ ≠ (v1271 : Value).ownBlock ∧ some k_ ≠ (v1275 : Value).ownBlock ∧ some k_ ≠ (.slice Ao100 t1278.length co100 : Value).ownBlock ∧ some k_ ≠ (.slice Ao88 t1289.length co88 : Value).ownBlock ∧ some k_ ≠ (.slice Ao98 t1294.length co98 : Value).ownBlock ∧ some k_ ≠ (.slice Ao104 t1301.length co104 : Value).ownBlock ∧ some k_ ≠ (.slice Ao108 t1306.length co108 : Value).ownBlock) (Kd.R_keptB (HO1286.out) hkp (fun k_ hk_ hs_ => (hk_.1.1.1.2) hs_)) (fun k_ hk_ => ⟨hk_.1.1.1.1.1.1.1.2, hk_.1.1.1.1.1.1.2, hk_.1.1.1.1.1.2, hk_.1.1.1.1.2, hk_.1.1.1.2, hk_.1.1.2, hk_.1.2⟩)); have n7_ := Sq.m (blk_kept (by apply Sq.rb; exact BK1287.out) hkp (fun hs_ => (fun e_ => (Kd.R_ne HO1291.out BK1287.out (by decide)) e_) hs_)); have n8_ := Sq.m (Kd.R_reok rfl hy0 (fun k_ e_ => HO1291.out.1 k_ e_)); have n9_ := Sq.m (blk_kept (by apply Sq.rb; exact BK1292.out) hkp (fun hs_ => (fun e_ => (Kd.R_ne HO1291.out BK1292.out (by decide)) e_) hs_)); have n10_ := Sq.m (Kd.R_mono (ok' := fun k_ => some k_ ≠ (v1271 : Value).ownBlock ∧ some k_ ≠ (v1275 : Value).ownBlock ∧ some k_ ≠ (.slice Ao100 t1278.length co100 : Value).ownBlock ∧ some k_ ≠ (.slice Ao78 t1284.length co78 : Value).ownBlock ∧ some k_ ≠ (.slice Ao88 t1289.length co88 : Value).ownBlock ∧ some k_ ≠ (.slice Ao104 t1301.length co104 : Value).ownBlock ∧ some k_ ≠ (.slice Ao108 t1306.length co108 : Value).ownBlock) (Kd.R_keptB (HO1296.out) hkp (fun k_ hk_ hs_ => (hk_.2.2.2.2.1) hs_)) (fun k_ hk_ => ⟨hk_.1.1, hk_.1.2.1, hk_.1.2.2.1, hk_.1.2.2.2.1, hk_.1.2.2.2.2.1, hk_.1.2.2.2.2.2.1, hk_.1.2.2.2.2.2.2⟩)); have n11_ := Sq.m (blk_kept (by apply Sq.rb; exact BK1298.out) hkp (fun hs_ => (fun e_ => (Kd.R_ne HO1291.out BK1298.out (by decide)) e_) hs_)); have n12_ := Sq.m (Kd.R_mono (ok' := fun k_ => some k_ ≠ (v1271 : Value).ownBlock ∧ some k_ ≠ (v1275 : Value).ownBlock ∧ some k_ ≠ (.slice Ao100 t1278.length co100 : Value).ownBlock ∧ some k_ ≠ (.slice Ao78 t1284.length co78 : Value).ownBlock ∧ some k_ ≠ (.slice Ao88 t1289.length co88 : Value).ownBlock ∧ some k_ ≠ (.slice Ao98 t1294.length co98 : Value).ownBlock ∧ some k_ ≠ (.slice Ao108 t1306.length co108 : Value).ownBlock) (Kd.R_keptB (HO1303.out) hkp (fun k_ hk_ hs_ => (hk_.2.2.2.2.1) hs_)) (fun k_ hk_ => ⟨hk_.1.1, hk_.1.2.1, hk_.1.2.2.1, hk_.1.2.2.2.1, hk_.1.2.2.2.2.1, hk_.1.2.2.2.2.2.1, hk_.1.2.2.2.2.2.2⟩)); have n13_ := Sq.m (Kd.R_mono (ok' := fun k_ => some k_ ≠ (v1271 : Value).ownBlock ∧ some k_ ≠ (v1275 : Value).ownBlock ∧ some k_ ≠ (.slice Ao100 t1278.length co100 : Value).ownBlock ∧ some k_ ≠ (.slice Ao78 t1284.length co78 : Value).ownBlock ∧ some k_ ≠ (.slice Ao88 t1289.length co88 : Value).ownBlock ∧ some k_ ≠ (.slice Ao98 t1294.length co98 : Value).ownBlock ∧ some k_ ≠ (.slice Ao104 t1301.length co104 : Value).ownBlock) (Kd.R_keptB (HO1308.out) hkp (fun k_ hk_ hs_ => (hk_.2.2.2.2.1) hs_)) (fun k_ hk_ => ⟨hk_.1.1, hk_.1.2.1, hk_.1.2.2.1, hk_.1.2.2.2.1, hk_.1.2.2.2.2.1, hk_.1.2.2.2.2.2.1, hk_.1.2.2.2.2.2.2⟩)); have n14_ := Sq.m (hb); clear BK1265; clear BK1266; clear HO1272; clear HO1276; clear HO1280; clear BK1282; clear HO1286; clear BK1287; clear HO1291; clear BK1292; clear HO1296; clear BK1298; clear HO1303; clear HO1308; clear HB; have BK1265 := n0_; have BK1266 := n1_; have HO1272 := n2_; have HO1276 := n3_; have HO1280 := n4_; have BK1282 := n5_; have HO1286 := n6_; have BK1287 := n7_; have HO1291 := n8_; have BK1292 := n9_; have HO1296 := n10_; have BK1298 := n11_; have HO1303 := n12_; have HO1308 := n13_; have HB := n14_; clear n0_ n1_ n2_ n3_ n4_ n5_ n6_ n7_ n8_ n9_ n10_ n11_ n12_ n13_ n14_; (try clear hb); (try clear hkp); (try clear hy0); have hcz114_0 : w113.cell? ⟨gb1298, 0, none⟩ = some (.bool t1293) := (blk_cell BK1298.out 0).trans rfl; have hcz114_1 : w113.cell? ⟨gb1298, 1, none⟩ = some (.slice Ao98 t1294.length co98) := (blk_cell BK1298.out 1).trans rfl; have hfz114_0 := blk_frozen BK1298.out 0; have hfz114_1 := blk_frozen BK1298.out 1; have hcz115_0 : w113.cell? ⟨gb1282, 0, none⟩ = some (.bool t1277) := (blk_cell BK1282.out 0).trans rfl; have hcz115_1 : w113.cell? ⟨gb1282, 1, none⟩ = some (.slice Ao100 t1278.length co100) := (blk_cell BK1282.out 1).trans rfl; have hfz115_0 := blk_frozen BK1282.out 0; have hfz115_1 := blk_frozen BK1282.out 1) | (go_at_call 54; (with_reducible refine (laws_eqWhole.calls k t1293 _ _ t1294 t1277 _ _ t1278 true _ ?side1 ?side2 ?side3 ?side4 A37.out).mono ?_); (case side1 => repeat (first | exact (Kd.R_reads' HO1296.out).2.2 | (with_reducible refine Kd.C_alloc ?_ _) | (with_reducible refine Kd.C_drewN ?_ _) | (with_reducible refine Kd.C_drew ?_))); (case side2 => exact (Kd.R_reads' HO1296.out).2.1); (case side3 => repeat (first | exact (Kd.R_reads' HO1280.out).2.2 | (with_reducible refine Kd.C_alloc ?_ _) | (with_reducible refine Kd.C_drewN ?_ _) | (with_reducible refine Kd.C_drew ?_))); (case side4 => exact (Kd.R_reads' HO1280.out).2.1); rintro e w116 ⟨rfl, hb⟩; have n0_ := Sq.m (Kd.R_below (by apply Sq.ra; exact HO1272.out) hb); have n1_ := Sq.m (Kd.R_below (by apply Sq.ra; exact HO1276.out) hb); have n2_ := Sq.m (Kd.R_below (by apply Sq.ra; exact HO1280.out) hb); have n3_ := Sq.m (Kd.R_below (by apply Sq.ra; exact HO1286.out) hb); have n4_ := Sq.m (Kd.R_below (by apply Sq.ra; exact HO1291.out) hb); have n5_ := Sq.m (Kd.R_below (by apply Sq.ra; exact HO1296.out) hb); have n6_ := Sq.m (Kd.R_below (by apply Sq.ra; exact HO1303.out) hb); have n7_ := Sq.m (Kd.R_below (by apply Sq.ra; exact HO1308.out) hb); have n8_ := Sq.m (blk_below (g := gb1265) (o := .cells #[.bool a0_0, .slice A0_1 l0_1.length c0_1] 56 (0, 0)) (by apply Sq.rb; exact BK1265.out) hb); have n9_ := Sq.m (blk_below (g := gb1266) (o := .cells #[.bool a1_0, .slice A1_1 l1_1.length c1_1] 56 (0, 0)) (by apply Sq.rb; exact BK1266.out) hb); have n10_ := Sq.m (blk_below (g := gb1282) (o := .cells #[.bool t1277, .slice Ao100 t1278.length co100] 59 (0, 0)) (by apply Sq.rb; exact BK1282.out) hb); have n11_ := Sq.m (blk_below (g := gb1287) (o := .cells #[.bool t1283, .slice Ao78 t1284.length co78] 59 (0, 0)) (by apply Sq.rb; exact BK1287.out) hb); have n12_ := Sq.m (blk_below (g := gb1292) (o := .cells #[.bool t1288, .slice Ao88 t1289.length co88] 59 (0, 0)) (by apply Sq.rb; exact BK1292.out) hb); have n13_ := Sq.m (blk_below (g := gb1298) (o := .cells #[.bool t1293, .slice Ao98 t1294.length co98] 59 (0, 0)) (by apply Sq.rb; exact BK1298.out) hb); have n14_ := Sq.m (below_step (by repeat (first | (with_reducible first | exact HB.out | apply Sq.rc | refine below_set ?_ GE1265.out | refine below_set ?_ GE1266.out | refine below_set ?_ GE1282.out | refine below_set ?_ GE1287.out | refine below_set ?_ GE1292.out | refine below_set ?_ GE1298.out) | exact HB.out)) hb); clear HO1272; clear HO1276; clear HO1280; clear HO1286; clear HO1291; clear HO1296; clear HO1303; clear HO1308; clear BK1265; clear BK1266; clear BK1282; clear BK1287; clear BK1292; clear BK1298; clear HB; have HO1272 := n0_; have HO1276 := n1_; have HO1280 := n2_; have HO1286 := n3_; have HO1291 := n4_; have HO1296 := n5_; have HO1303 := n6_; have HO1308 := n7_; have BK1265 := n8_; have BK1266 := n9_; have BK1282 := n10_; have BK1287 := n11_; have BK1292 := n12_; have BK1298 := n13_; have HB := n14_; clear n0_ n1_ n2_ n3_ n4_ n5_ n6_ n7_ n8_ n9_ n10_ n11_ n12_ n13_ n14_; (try clear hb); (try clear hb2); (try clear hk); (try clear hi); have hcz117_0 : w116.cell? ⟨gb1298, 0, none⟩ = some (.bool t1293) := (blk_cell BK1298.out 0).trans rfl; have hcz117_1 : w116.cell? ⟨gb1298, 1, none⟩ = some (.slice Ao98 t1294.length co98) := (blk_cell BK1298.out 1).trans rfl; have hfz117_0 := blk_frozen BK1298.out 0; have hfz117_1 := blk_frozen BK1298.out 1) | ((with_reducible refine gate_callee (f := 55) rfl ?_); refine goesL_ (some 85) rfl rfl Try.func55 (by kernel_rfl) rfl #[.agg #[.bool t1293, .slice Ao98 t1294.length co98], .int .i64 1] rfl (by (try simp only [List.map_toArray, List.map_cons, List.map_nil]); first | done | rfl | (simp only [List.length_drop, List.length_take]; rfl) | (simp only [i64_w, u8_w, w64_b]; rfl)) ?_; (with_reducible refine (laws_markWhole.calls k t1293 (fun k_ => some k_ = (.slice Ao98 t1294.length co98 : Value).ownBlock) (.slice Ao98 t1294.length co98) t1294 1 t1315 t1316 w _ ?side1 ?side2 A39.out).mono ?_); (case side1 => repeat (first | (with_reducible first | exact HB.out | apply Sq.rc | refine below_set ?_ GE1265.out | refine below_set ?_ GE1266.out | refine below_set ?_ GE1282.out | refine below_set ?_ GE1287.out | refine below_set ?_ GE1292.out | refine below_set ?_ GE1298.out) | exact HB.out)); (case side2 => exact Kd.R_tight rfl HO1296.out); rintro e w118 ⟨rfl, hy0, hb, hkp⟩; refine ⟨_, rfl, ?_⟩; have n0_ := Sq.m (blk_kept (by apply Sq.rb; exact BK1265.out) hkp (fun hs_ => (fun e_ => (Kd.R_ne HO1296.out BK1265.out (by decide)) e_) hs_)); have n1_ := Sq.m (blk_kept (by apply Sq.rb; exact BK1266.out) hkp (fun hs_ => (fun e_ => (Kd.R_ne HO1296.out BK1266.out (by decide)) e_) hs_)); have n2_ := Sq.m (Kd.R_mono (ok' := fun k_ => some k_ ≠ (.slice Ao78 t1284.length co78 : Value).ownBlock ∧ some k_ ≠ (.slice Ao88 t1289.length co88 : Value).ownBlock ∧ some k_ ≠ (.slice Ao98 t1294.length co98 : Value).ownBlock ∧ some k_ ≠ (.slice Ao104 t1301.length co104 : Value).ownBlock ∧ some k_ ≠ (.slice Ao108 t1306.length co108 : Value).ownBlock) (Kd.R_keptB (HO1272.out) hkp (fun k_ hk_ hs_ => (hk_.2.2.1) hs_)) (fun k_ hk_ => ⟨hk_.1.1, hk_.1.2.1, hk_.1.2.2.1, hk_.1.2.2.2.1, hk_.1.2.2.2.2⟩)); have n3_ := Sq.m (Kd.R_mono (ok' := fun k_ => some k_ ≠ (.slice Ao78 t1284.length co78 : Value).ownBlock ∧ some k_ ≠ (.slice Ao88 t1289.length co88 : Value).ownBlock ∧ some k_ ≠ (.slice Ao98 t1294.length co98 : Value).ownBlock ∧ some k_ ≠ (.slice Ao104 t1301.length co104 : Value).ownBlock ∧ some k_ ≠ (.slice Ao108 t1306.length co108 : Value).ownBlock) (Kd.R_keptB (HO1276.out) hkp (fun k_ hk_ hs_ => (hk_.2.2.1) hs_)) (fun k_ hk_ => ⟨hk_.1.1, hk_.1.2.1, hk_.1.2.2.1, hk_.1.2.2.2.1, hk_.1.2.2.2.2⟩)); have n4_ := Sq.m (Kd.R_mono (ok' := fun k_ => some k_ ≠ (.slice Ao78 t1284.length co78 : Value).ownBlock ∧ some k_ ≠ (.slice Ao88 t1289.length co88 : Value).ownBlock ∧ some k_ ≠ (.slice Ao98 t1294.length co98 : Value).ownBlock ∧ some k_ ≠ (.slice Ao104 t1301.length co104 : Value).ownBlock ∧ some k_ ≠ (.slice Ao108 t1306.length co108 : Value).ownBlock) (Kd.R_keptB (HO1280.out) hkp (fun k_ hk_ hs_ => (hk_.2.2.1) hs_)) (fun k_ hk_ => ⟨hk_.1.1, hk_.1.2.1, hk_.1.2.2.1, hk_.1.2.2.2.1, hk_.1.2.2.2.2⟩)); have n5_ := Sq.m (blk_kept (by apply Sq.rb; exact BK1282.out) hkp (fun hs_ => (fun e_ => (Kd.R_ne HO1296.out BK1282.out (by decide)) e_) hs_)); have n6_ := Sq.m (Kd.R_mono (ok' := fun k_ => some k_ ≠ (v1271 : Value).ownBlock ∧ some k_ ≠ (v1275 : Value).ownBlock ∧ some k_ ≠ (.slice Ao100 t1278.length co100 : Value).ownBlock ∧ some k_ ≠ (.slice Ao88 t1289.length co88 : Value).ownBlock ∧ some k_ ≠ (.slice Ao98 t1294.length co98 : Value).ownBlock ∧ some k_ ≠ (.slice Ao104 t1301.length co104 : Value).ownBlock ∧ some k_ ≠ (.slice Ao108 t1306.length co108 : Value).ownBlock) (Kd.R_keptB (HO1286.out) hkp (fun k_ hk_ hs_ => (hk_.2.2.2.2.1) hs_)) (fun k_ hk_ => ⟨hk_.1.1, hk_.1.2.1, hk_.1.2.2.1, hk_.1.2.2.2.1, hk_.1.2.2.2.2.1, hk_.1.2.2.2.2.2.1, hk_.1.2.2.2.2.2.2⟩)); have n7_ := Sq.m (blk_kept (by apply Sq.rb; exact BK1287.out) hkp (fun hs_ => (fun e_ => (Kd.R_ne HO1296.out BK1287.out (by decide)) e_) hs_)); have n8_ := Sq.m (Kd.R_mono (ok' := fun k_ => some k_ ≠ (v1271 : Value).ownBlock ∧ some k_ ≠ (v1275 : Value).ownBlock ∧ some k_ ≠ (.slice Ao100 t1278.length co100 : Value).ownBlock ∧ some k_ ≠ (.slice Ao78 t1284.length co78 : Value).ownBlock ∧ some k_ ≠ (.slice Ao98 t1294.length co98 : Value).ownBlock ∧ some k_ ≠ (.slice Ao104 t1301.length co104 : Value).ownBlock ∧ some k_ ≠ (.slice Ao108 t1306.length co108 : Value).ownBlock) (Kd.R_keptB (HO1291.out) hkp (fun k_ hk_ hs_ => (hk_.2.2.2.2.1) hs_)) (fun k_ hk_ => ⟨hk_.1.1, hk_.1.2.1, hk_.1.2.2.1, hk_.1.2.2.2.1, hk_.1.2.2.2.2.1, hk_.1.2.2.2.2.2.1, hk_.1.2.2.2.2.2.2⟩)); have n9_ := Sq.m (blk_kept (by apply Sq.rb; exact BK1292.out) hkp (fun hs_ => (fun e_ => (Kd.R_ne HO1296.out BK1292.out (by decide)) e_) hs_)); have n10_ := Sq.m (Kd.R_reok rfl hy0 (fun k_ e_ => HO1296.out.1 k_ e_)); have n11_ := Sq.m (blk_kept (by apply Sq.rb; exact BK1298.out) hkp (fun hs_ => (fun e_ => (Kd.R_ne HO1296.out BK1298.out (by decide)) e_) hs_)); have n12_ := Sq.m (Kd.R_mono (ok' := fun k_ => some k_ ≠ (v1271 : Value).ownBlock ∧ some k_ ≠ (v1275 : Value).ownBlock ∧ some k_ ≠ (.slice Ao100 t1278.length co100 : Value).ownBlock ∧ some k_ ≠ (.slice Ao78 t1284.length co78 : Value).ownBlock ∧ some k_ ≠ (.slice Ao88 t1289.length co88 : Value).ownBlock ∧ some k_ ≠ (.slice Ao98 t1294.length co98 : Value).ownBlock ∧ some k_ ≠ (.slice Ao108 t1306.length co108 : Value).ownBlock) (Kd.R_keptB (HO1303.out) hkp (fun k_ hk_ hs_ => (hk_.2.2.2.2.2.1) hs_)) (fun k_ hk_ => ⟨hk_.1.1, hk_.1.2.1, hk_.1.2.2.1, hk_.1.2.2.2.1, hk_.1.2.2.2.2.1, hk_.1.2.2.2.2.2.1, hk_.1.2.2.2.2.2.2⟩)); have n13_ := Sq.m (Kd.R_mono (ok' := fun k_ => some k_ ≠ (v1271 : Value).ownBlock ∧ some k_ ≠ (v1275 : Value).ownBlock ∧ some k_ ≠ (.slice Ao100 t1278.length co100 : Value).ownBlock ∧ some k_ ≠ (.slice Ao78 t1284.length co78 : Value).ownBlock ∧ some k_ ≠ (.slice Ao88 t1289.length co88 : Value).ownBlock ∧ some k_ ≠ (.slice Ao98 t1294.length co98 : Value).ownBlock ∧ some k_ ≠ (.slice Ao104 t1301.length co104 : Value).ownBlock) (Kd.R_keptB (HO1308.out) hkp (fun k_ hk_ hs_ => (hk_.2.2.2.2.2.1) hs_)) (fun k_ hk_ => ⟨hk_.1.1, hk_.1.2.1, hk_.1.2.2.1, hk_.1.2.2.2.1, hk_.1.2.2.2.2.1, hk_.1.2.2.2.2.2.1, hk_.1.2.2.2.2.2.2⟩)); have n14_ := Sq.m (hb); clear BK1265; clear BK1266; clear HO1272; clear HO1276; clear HO1280; clear BK1282; clear HO1286; clear BK1287; clear HO1291; clear BK1292; clear HO1296; clear BK1298; clear HO1303; clear HO1308; clear HB; have BK1265 := n0_; have BK1266 := n1_; have HO1272 := n2_; have HO1276 := n3_; have HO1280 := n4_; have BK1282 := n5_; have HO1286 := n6_; have BK1287 := n7_; have HO1291 := n8_; have BK1292 := n9_; have HO1296 := n10_; have BK1298 := n11_; have HO1303 := n12_; have HO1308 := n13_; have HB := n14_; clear n0_ n1_ n2_ n3_ n4_ n5_ n6_ n7_ n8_ n9_ n10_ n11_ n12_ n13_ n14_; (try clear hb); (try clear hkp); (try clear hy0); have hcz119_0 : w118.cell? ⟨gb1298, 0, none⟩ = some (.bool t1293) := (blk_cell BK1298.out 0).trans rfl; have hcz119_1 : w118.cell? ⟨gb1298, 1, none⟩ = some (.slice Ao98 t1294.length co98) := (blk_cell BK1298.out 1).trans rfl; have hfz119_0 := blk_frozen BK1298.out 0; have hfz119_1 := blk_frozen BK1298.out 1) | ((with_reducible refine gate_callee (f := 56) rfl ?_); refine goesL_ (some 88) rfl rfl Try.func56 (by kernel_rfl) rfl #[.agg #[.bool t1293, .slice Ao98 t1316.length co98], .int .i64 1] rfl (by (try simp only [List.map_toArray, List.map_cons, List.map_nil]); first | done | (rw [show t1316.length = t1294.length from (Kd.R_reads' HO1296.out).1.symm] <;> rfl) | rfl | (simp only [List.length_drop, List.length_take]; rfl) | (simp only [i64_w, u8_w, w64_b]; rfl)) ?_; (with_reducible refine (laws_heldWhole.calls k t1293 _ _ t1316 1 t1317 _ ?side1 ?side2 A40.out).mono ?_); (case side1 => repeat (first | exact (Kd.R_reads' HO1296.out).2.2 | (with_reducible refine Kd.C_alloc ?_ _) | (with_reducible refine Kd.C_drewN ?_ _) | (with_reducible refine Kd.C_drew ?_))); (case side2 => rw [show t1316.length = t1294.length from (Kd.R_reads' HO1296.out).1.symm]; exact (Kd.R_reads' HO1296.out).2.1); rintro e w120 ⟨rfl, hb⟩; refine ⟨_, rfl, ?_⟩; have n0_ := Sq.m (Kd.R_below (by apply Sq.ra; exact HO1272.out) hb); have n1_ := Sq.m (Kd.R_below (by apply Sq.ra; exact HO1276.out) hb); have n2_ := Sq.m (Kd.R_below (by apply Sq.ra; exact HO1280.out) hb); have n3_ := Sq.m (Kd.R_below (by apply Sq.ra; exact HO1286.out) hb); have n4_ := Sq.m (Kd.R_below (by apply Sq.ra; exact HO1291.out) hb); have n5_ := Sq.m (Kd.R_below (by apply Sq.ra; exact HO1296.out) hb); have n6_ := Sq.m (Kd.R_below (by apply Sq.ra; exact HO1303.out) hb); have n7_ := Sq.m (Kd.R_below (by apply Sq.ra; exact HO1308.out) hb); have n8_ := Sq.m (blk_below (g := gb1265) (o := .cells #[.bool a0_0, .slice A0_1 l0_1.length c0_1] 56 (0, 0)) (by apply Sq.rb; exact BK1265.out) hb); have n9_ := Sq.m (blk_below (g := gb1266) (o := .cells #[.bool a1_0, .slice A1_1 l1_1.length c1_1] 56 (0, 0)) (by apply Sq.rb; exact BK1266.out) hb); have n10_ := Sq.m (blk_below (g := gb1282) (o := .cells #[.bool t1277, .slice Ao100 t1278.length co100] 59 (0, 0)) (by apply Sq.rb; exact BK1282.out) hb); have n11_ := Sq.m (blk_below (g := gb1287) (o := .cells #[.bool t1283, .slice Ao78 t1284.length co78] 59 (0, 0)) (by apply Sq.rb; exact BK1287.out) hb); have n12_ := Sq.m (blk_below (g := gb1292) (o := .cells #[.bool t1288, .slice Ao88 t1289.length co88] 59 (0, 0)) (by apply Sq.rb; exact BK1292.out) hb); have n13_ := Sq.m (blk_below (g := gb1298) (o := .cells #[.bool t1293, .slice Ao98 t1294.length co98] 59 (0, 0)) (by apply Sq.rb; exact BK1298.out) hb); have n14_ := Sq.m (below_step (by repeat (first | (with_reducible first | exact HB.out | apply Sq.rc | refine below_set ?_ GE1265.out | refine below_set ?_ GE1266.out | refine below_set ?_ GE1282.out | refine below_set ?_ GE1287.out | refine below_set ?_ GE1292.out | refine below_set ?_ GE1298.out) | exact HB.out)) hb); clear HO1272; clear HO1276; clear HO1280; clear HO1286; clear HO1291; clear HO1296; clear HO1303; clear HO1308; clear BK1265; clear BK1266; clear BK1282; clear BK1287; clear BK1292; clear BK1298; clear HB; have HO1272 := n0_; have HO1276 := n1_; have HO1280 := n2_; have HO1286 := n3_; have HO1291 := n4_; have HO1296 := n5_; have HO1303 := n6_; have HO1308 := n7_; have BK1265 := n8_; have BK1266 := n9_; have BK1282 := n10_; have BK1287 := n11_; have BK1292 := n12_; have BK1298 := n13_; have HB := n14_; clear n0_ n1_ n2_ n3_ n4_ n5_ n6_ n7_ n8_ n9_ n10_ n11_ n12_ n13_ n14_; (try clear hb); (try clear hb2); (try clear hk); (try clear hi)))
               have n0_ := Sq.m (Kd.R_drew HO1272.out)
               have n1_ := Sq.m (Kd.R_drew HO1276.out)
               have n2_ := Sq.m (Kd.R_drew HO1280.out)
               have n3_ := Sq.m (Kd.R_drew HO1286.out)
               have n4_ := Sq.m (Kd.R_drew HO1291.out)
               have n5_ := Sq.m (Kd.R_drew HO1296.out)
               have n6_ := Sq.m (Kd.R_drew HO1303.out)
               have n7_ := Sq.m (Kd.R_drew HO1308.out)
               have n8_ := Sq.m (blk_drew BK1265.out)
               have n9_ := Sq.m (blk_drew BK1266.out)
               have n10_ := Sq.m (blk_drew BK1282.out)
               have n11_ := Sq.m (blk_drew BK1287.out)
               have n12_ := Sq.m (blk_drew BK1292.out)
               have n13_ := Sq.m (blk_drew BK1298.out)
               have n14_ := Sq.m (below_drew1 HB.out)
               clear HO1272
               clear HO1276
               clear HO1280
               clear HO1286
               clear HO1291
               clear HO1296
               clear HO1303
               clear HO1308
               clear BK1265
               clear BK1266
               clear BK1282
               clear BK1287
               clear BK1292
               clear BK1298
               clear HB
               have HO1272 := n0_
               have HO1276 := n1_
               have HO1280 := n2_
               have HO1286 := n3_
               have HO1291 := n4_
               have HO1296 := n5_
               have HO1303 := n6_
               have HO1308 := n7_
               have BK1265 := n8_
               have BK1266 := n9_
               have BK1282 := n10_
               have BK1287 := n11_
               have BK1292 := n12_
               have BK1298 := n13_
               have HB := n14_
               clear n0_ n1_ n2_ n3_ n4_ n5_ n6_ n7_ n8_ n9_ n10_ n11_ n12_ n13_ n14_
               refine start_ (n := 11) (S := fun w' => True) (ds := []) #[false, false, false, false, false, false, false, false, false, false, false] (by kernel_rfl) rfl rfl trivial (fun hHeld => ?_); refine with_tabW laws_FnExactWholeAdd.tab31 laws_FnExactWholeAdd.bits31 (fun HT_ HW_ => ?_)
               generalize w120.drew = w121 at HO1272 HO1276 HO1280 HO1286 HO1291 HO1296 HO1303 HO1308 BK1265 BK1266 BK1282 BK1287 BK1292 BK1298 HB hHeld ⊢
               refine inv_at [0, 1, 2, 3, 4, 5, 6, 7, 8, 9, 10] (fun a0_ b a w' => ∃ (v1320 : Value) (v1324 : Value) (v1328 : Value) (gb1331 : Nat) (m1_ : Value) (m3_ : Value) (m4_ : Value) (m5_ : Value) (m6_ : Value) (m8_ : Value), a = putSel a0_ b [(0, 95, .agg #[.bool a0_0, .slice A0_1 l0_1.length c0_1]), (1, 96, m1_), (2, 97, .agg #[.bool a1_0, .slice A1_1 l1_1.length c1_1]), (3, 98, m3_), (4, 99, m4_), (5, 94, m5_), (6, 100, m6_), (7, 101, .bool t1330), (8, 15, m8_), (10, 16, .bool t1330)] ∧ (Kd.R (Kd.int .i64) 3 w' w.heap.size (fun k_ => some k_ ≠ (.slice Ao78 t1284.length co78 : Value).ownBlock ∧ some k_ ≠ (.slice Ao88 t1289.length co88 : Value).ownBlock ∧ some k_ ≠ (.slice Ao98 t1294.length co98 : Value).ownBlock ∧ some k_ ≠ (.slice Ao104 t1301.length co104 : Value).ownBlock ∧ some k_ ≠ (.slice Ao108 t1306.length co108 : Value).ownBlock) v1271 t1270) ∧ (Kd.R (Kd.int .i64) 3 w' w.heap.size (fun k_ => some k_ ≠ (.slice Ao78 t1284.length co78 : Value).ownBlock ∧ some k_ ≠ (.slice Ao88 t1289.length co88 : Value).ownBlock ∧ some k_ ≠ (.slice Ao98 t1294.length co98 : Value).ownBlock ∧ some k_ ≠ (.slice Ao104 t1301.length co104 : Value).ownBlock ∧ some k_ ≠ (.slice Ao108 t1306.length co108 : Value).ownBlock) v1275 t1274) ∧ (Kd.R (Kd.int .i64) 3 w' w.heap.size (fun k_ => some k_ ≠ (.slice Ao78 t1284.length co78 : Value).ownBlock ∧ some k_ ≠ (.slice Ao88 t1289.length co88 : Value).ownBlock ∧ some k_ ≠ (.slice Ao98 t1294.length co98 : Value).ownBlock ∧ some k_ ≠ (.slice Ao104 t1301.length co104 : Value).ownBlock ∧ some k_ ≠ (.slice Ao108 t1306.length co108 : Value).ownBlock) (.slice Ao100 t1278.length co100) t1278) ∧ (Kd.R (Kd.int .i64) 3 w' w.heap.size (fun k_ => some k_ ≠ (v1271 : Value).ownBlock ∧ some k_ ≠ (v1275 : Value).ownBlock ∧ some k_ ≠ (.slice Ao100 t1278.length co100 : Value).ownBlock ∧ some k_ ≠ (.slice Ao88 t1289.length co88 : Value).ownBlock ∧ some k_ ≠ (.slice Ao98 t1294.length co98 : Value).ownBlock ∧ some k_ ≠ (.slice Ao104 t1301.length co104 : Value).ownBlock ∧ some k_ ≠ (.slice Ao108 t1306.length co108 : Value).ownBlock) (.slice Ao78 t1284.length co78) t1311) ∧ (Kd.R (Kd.int .i64) 3 w' w.heap.size (fun k_ => some k_ ≠ (v1271 : Value).ownBlock ∧ some k_ ≠ (v1275 : Value).ownBlock ∧ some k_ ≠ (.slice Ao100 t1278.length co100 : Value).ownBlock ∧ some k_ ≠ (.slice Ao78 t1284.length co78 : Value).ownBlock ∧ some k_ ≠ (.slice Ao98 t1294.length co98 : Value).ownBlock ∧ some k_ ≠ (.slice Ao104 t1301.length co104 : Value).ownBlock ∧ some k_ ≠ (.slice Ao108 t1306.length co108 : Value).ownBlock) (.slice Ao88 t1289.length co88) t1313) ∧ (Kd.R (Kd.int .i64) 3 w' w.heap.size (fun k_ => some k_ ≠ (v1271 : Value).ownBlock ∧ some k_ ≠ (v1275 : Value).ownBlock ∧ some k_ ≠ (.slice Ao100 t1278.length co100 : Value).ownBlock ∧ some k_ ≠ (.slice Ao78 t1284.length co78 : Value).ownBlock ∧ some k_ ≠ (.slice Ao88 t1289.length co88 : Value).ownBlock ∧ some k_ ≠ (.slice Ao104 t1301.length co104 : Value).ownBlock ∧ some k_ ≠ (.slice Ao108 t1306.length co108 : Value).ownBlock) (.slice Ao98 t1294.length co98) t1316) ∧ (Kd.R (Kd.int .i64) 3 w' w.heap.size (fun k_ => some k_ ≠ (v1271 : Value).ownBlock ∧ some k_ ≠ (v1275 : Value).ownBlock ∧ some k_ ≠ (.slice Ao100 t1278.length co100 : Value).ownBlock ∧ some k_ ≠ (.slice Ao78 t1284.length co78 : Value).ownBlock ∧ some k_ ≠ (.slice Ao88 t1289.length co88 : Value).ownBlock ∧ some k_ ≠ (.slice Ao98 t1294.length co98 : Value).ownBlock ∧ some k_ ≠ (.slice Ao108 t1306.length co108 : Value).ownBlock) (.slice Ao104 t1301.length co104) t1301) ∧ (Kd.R (Kd.int .i64) 3 w' w.heap.size (fun k_ => some k_ ≠ (v1271 : Value).ownBlock ∧ some k_ ≠ (v1275 : Value).ownBlock ∧ some k_ ≠ (.slice Ao100 t1278.length co100 : Value).ownBlock ∧ some k_ ≠ (.slice Ao78 t1284.length co78 : Value).ownBlock ∧ some k_ ≠ (.slice Ao88 t1289.length co88 : Value).ownBlock ∧ some k_ ≠ (.slice Ao98 t1294.length co98 : Value).ownBlock ∧ some k_ ≠ (.slice Ao104 t1301.length co104 : Value).ownBlock) (.slice Ao108 t1306.length co108) t1306) ∧ (w'.heap[gb1265]? = some (.cells #[.bool a0_0, .slice A0_1 l0_1.length c0_1] 56 (0, 0))) ∧ (w'.heap[gb1266]? = some (.cells #[.bool a1_0, .slice A1_1 l1_1.length c1_1] 56 (0, 0))) ∧ (w'.heap[gb1282]? = some (.cells #[.bool t1277, .slice Ao100 t1278.length co100] 59 (0, 0))) ∧ (w'.heap[gb1287]? = some (.cells #[.bool t1283, .slice Ao78 t1284.length co78] 59 (0, 0))) ∧ (w'.heap[gb1292]? = some (.cells #[.bool t1288, .slice Ao88 t1289.length co88] 59 (0, 0))) ∧ (w'.heap[gb1298]? = some (.cells #[.bool t1293, .slice Ao98 t1294.length co98] 59 (0, 0))) ∧ (Below w.heap.size w w') ∧ (b 1 = true → Kd.R (Kd.int .i64) 3 w' w.heap.size (fun k_ => some k_ ≠ (v1271 : Value).ownBlock ∧ some k_ ≠ (v1275 : Value).ownBlock ∧ some k_ ≠ (.slice Ao100 t1278.length co100 : Value).ownBlock ∧ some k_ ≠ (.slice Ao78 t1284.length co78 : Value).ownBlock ∧ some k_ ≠ (.slice Ao88 t1289.length co88 : Value).ownBlock ∧ some k_ ≠ (.slice Ao98 t1294.length co98 : Value).ownBlock ∧ some k_ ≠ (.slice Ao104 t1301.length co104 : Value).ownBlock ∧ some k_ ≠ (.slice Ao108 t1306.length co108 : Value).ownBlock) v1320 t1319) ∧ (b 3 = true → Kd.R (Kd.int .i64) 3 w' w.heap.size (fun k_ => some k_ ≠ (v1271 : Value).ownBlock ∧ some k_ ≠ (v1275 : Value).ownBlock ∧ some k_ ≠ (.slice Ao100 t1278.length co100 : Value).ownBlock ∧ some k_ ≠ (.slice Ao78 t1284.length co78 : Value).ownBlock ∧ some k_ ≠ (.slice Ao88 t1289.length co88 : Value).ownBlock ∧ some k_ ≠ (.slice Ao98 t1294.length co98 : Value).ownBlock ∧ some k_ ≠ (.slice Ao104 t1301.length co104 : Value).ownBlock ∧ some k_ ≠ (.slice Ao108 t1306.length co108 : Value).ownBlock) v1324 t1323) ∧ (b 4 = true → Kd.R (Kd.int .i64) 3 w' w.heap.size (fun k_ => some k_ ≠ (v1271 : Value).ownBlock ∧ some k_ ≠ (v1275 : Value).ownBlock ∧ some k_ ≠ (.slice Ao100 t1278.length co100 : Value).ownBlock ∧ some k_ ≠ (.slice Ao78 t1284.length co78 : Value).ownBlock ∧ some k_ ≠ (.slice Ao88 t1289.length co88 : Value).ownBlock ∧ some k_ ≠ (.slice Ao98 t1294.length co98 : Value).ownBlock ∧ some k_ ≠ (.slice Ao104 t1301.length co104 : Value).ownBlock ∧ some k_ ≠ (.slice Ao108 t1306.length co108 : Value).ownBlock) v1328 t1327) ∧ (b 8 = true → b 9 = false → w'.heap[gb1331]? = some (.cells #[.bool false, .slice none 0 0] 59 (0, 0))) ∧ (b 8 = true → w.heap.size ≤ gb1331) ∧ (b 8 = true → w.heap.size ≤ gb1331) ∧ (b 8 = true → gb1265 ≠ gb1331) ∧ (b 8 = true → gb1331 ≠ gb1265) ∧ (b 8 = true → gb1266 ≠ gb1331) ∧ (b 8 = true → gb1331 ≠ gb1266) ∧ (b 8 = true → gb1282 ≠ gb1331) ∧ (b 8 = true → gb1331 ≠ gb1282) ∧ (b 8 = true → gb1287 ≠ gb1331) ∧ (b 8 = true → gb1331 ≠ gb1287) ∧ (b 8 = true → gb1292 ≠ gb1331) ∧ (b 8 = true → gb1331 ≠ gb1292) ∧ (b 8 = true → gb1298 ≠ gb1331) ∧ (b 8 = true → gb1331 ≠ gb1298) ∧ (b 9 = true → w'.heap[gb1331]? = some (.cells #[.bool t1326, v1328] 59 (0, 0))) ∧ (b 1 = true → (m1_ : Value) = .agg #[.bool t1318, v1320]) ∧ (b 3 = true → (m3_ : Value) = .agg #[.bool t1322, v1324]) ∧ (b 4 = true → (m4_ : Value) = .tuple #[.agg #[.bool t1326, v1328], .bool t1330]) ∧ (b 5 = true → (m5_ : Value) = .tuple #[.agg #[.bool t1326, v1328], .bool t1330]) ∧ (b 6 = true → (m6_ : Value) = .agg #[.bool t1326, v1328]) ∧ (b 8 = true → (m8_ : Value) = .pointer (some ⟨gb1331, 0, none⟩))) HT_.out HW_.out (by kernel_rfl) (by kernel_rfl) ?_ ?_ ?_
               ·exact ⟨.bool false, .bool false, .bool false, 0, .bool false, .bool false, .bool false, .bool false, .bool false, .bool false, by simp only [putSel, Bool.false_eq_true, if_false], HO1272.out, HO1276.out, HO1280.out, HO1286.out, HO1291.out, HO1296.out, HO1303.out, HO1308.out, BK1265.out, BK1266.out, BK1282.out, BK1287.out, BK1292.out, BK1298.out, HB.out, fun h_ => absurd h_ (by decide), fun h_ => absurd h_ (by decide), fun h_ => absurd h_ (by decide), fun h_ => absurd h_ (by decide), fun h_ => absurd h_ (by decide), fun h_ => absurd h_ (by decide), fun h_ => absurd h_ (by decide), fun h_ => absurd h_ (by decide), fun h_ => absurd h_ (by decide), fun h_ => absurd h_ (by decide), fun h_ => absurd h_ (by decide), fun h_ => absurd h_ (by decide), fun h_ => absurd h_ (by decide), fun h_ => absurd h_ (by decide), fun h_ => absurd h_ (by decide), fun h_ => absurd h_ (by decide), fun h_ => absurd h_ (by decide), fun h_ => absurd h_ (by decide), fun h_ => absurd h_ (by decide), fun h_ => absurd h_ (by decide), fun h_ => absurd h_ (by decide), fun h_ => absurd h_ (by decide), fun h_ => absurd h_ (by decide), fun h_ => absurd h_ (by decide), fun h_ => absurd h_ (by decide)⟩
               ·skip
                clear BK1265 BK1266 BK1282 BK1287 BK1292 BK1298 HB HO1272 HO1276 HO1280 HO1286 HO1291 HO1296 HO1303 HO1308
                refine steps_cons ?_ ?_
                ·rintro b a w' ⟨v1320, v1324, v1328, gb1331, m1_, m3_, m4_, m5_, m6_, m8_, ha, Q_HO1272, Q_HO1276, Q_HO1280, Q_HO1286, Q_HO1291, Q_HO1296, Q_HO1303, Q_HO1308, Q_BK1265, Q_BK1266, Q_BK1282, Q_BK1287, Q_BK1292, Q_BK1298, Q_HB, Q_HO1321, Q_HO1325, Q_HO1329, Q_BK1331, Q_GW1331, Q_GE1331, Q_NB1265_1331, Q_NB1331_1265, Q_NB1266_1331, Q_NB1331_1266, Q_NB1282_1331, Q_NB1331_1282, Q_NB1287_1331, Q_NB1331_1287, Q_NB1292_1331, Q_NB1331_1292, Q_NB1298_1331, Q_NB1331_1298, Q_BK1331_e9, Q_X1_, Q_X3_, Q_X4_, Q_X5_, Q_X6_, Q_X8_⟩ hb_ hon hoff
                 refine ⟨_, rfl, fun K hK => ?_⟩
                 have e2 : a.tmps[2]? = some (.pointer (some ⟨gb1265, 0, none⟩)) := by rw [ha]; exact (putSel_off rfl).trans rfl
                 replace ha := Aside0.mk ha
                 have HO1272 := Aside0.mk Q_HO1272
                 have HO1276 := Aside0.mk Q_HO1276
                 have HO1280 := Aside0.mk Q_HO1280
                 have HO1286 := Aside0.mk Q_HO1286
                 have HO1291 := Aside0.mk Q_HO1291
                 have HO1296 := Aside0.mk Q_HO1296
                 have HO1303 := Aside0.mk Q_HO1303
                 have HO1308 := Aside0.mk Q_HO1308
                 have BK1265 := Aside0.mk Q_BK1265
                 have BK1266 := Aside0.mk Q_BK1266
                 have BK1282 := Aside0.mk Q_BK1282
                 have BK1287 := Aside0.mk Q_BK1287
                 have BK1292 := Aside0.mk Q_BK1292
                 have BK1298 := Aside0.mk Q_BK1298
                 have HB := Aside0.mk Q_HB
                 have hc0_ : w'.cell? ⟨gb1265, 0, none⟩ = some (.bool a0_0) := (blk_cell BK1265.out 0).trans rfl
                 have hc1_ : w'.cell? ⟨gb1265, 1, none⟩ = some (.slice A0_1 l0_1.length c0_1) := (blk_cell BK1265.out 1).trans rfl
                 refine value_ (w1 := w') (v := .agg #[.bool a0_0, .slice A0_1 l0_1.length c0_1]) (by rfl) rfl ?_ ?_
                 ·go_simp
                  (try simp only [i64_w])
                  try rfl
                 refine hK.out _ _ ⟨v1320, v1324, v1328, gb1331, m1_, m3_, m4_, m5_, m6_, m8_, (by rw [ha.out]; exact putSel_upk 0 hb_ rfl rfl rfl), Q_HO1272, Q_HO1276, Q_HO1280, Q_HO1286, Q_HO1291, Q_HO1296, Q_HO1303, Q_HO1308, Q_BK1265, Q_BK1266, Q_BK1282, Q_BK1287, Q_BK1292, Q_BK1298, Q_HB, fun h0_ => absurd ((hoff 1 (by kernel_rfl)).symm.trans h0_) (by decide), fun h0_ => absurd ((hoff 3 (by kernel_rfl)).symm.trans h0_) (by decide), fun h0_ => absurd ((hoff 4 (by kernel_rfl)).symm.trans h0_) (by decide), Q_BK1331, Q_GW1331, Q_GE1331, Q_NB1265_1331, Q_NB1331_1265, Q_NB1266_1331, Q_NB1331_1266, Q_NB1282_1331, Q_NB1331_1282, Q_NB1287_1331, Q_NB1331_1287, Q_NB1292_1331, Q_NB1331_1292, Q_NB1298_1331, Q_NB1331_1298, fun h0_ => absurd ((hoff 9 (by kernel_rfl)).symm.trans h0_) (by decide), fun h0_ => absurd ((hoff 1 (by kernel_rfl)).symm.trans h0_) (by decide), fun h0_ => absurd ((hoff 3 (by kernel_rfl)).symm.trans h0_) (by decide), fun h0_ => absurd ((hoff 4 (by kernel_rfl)).symm.trans h0_) (by decide), fun h0_ => absurd ((hoff 5 (by kernel_rfl)).symm.trans h0_) (by decide), fun h0_ => absurd ((hoff 6 (by kernel_rfl)).symm.trans h0_) (by decide), Q_X8_⟩
                refine steps_cons ?_ ?_
                ·rintro b a w' ⟨v1320, v1324, v1328, gb1331, m1_, m3_, m4_, m5_, m6_, m8_, ha, Q_HO1272, Q_HO1276, Q_HO1280, Q_HO1286, Q_HO1291, Q_HO1296, Q_HO1303, Q_HO1308, Q_BK1265, Q_BK1266, Q_BK1282, Q_BK1287, Q_BK1292, Q_BK1298, Q_HB, Q_HO1321, Q_HO1325, Q_HO1329, Q_BK1331, Q_GW1331, Q_GE1331, Q_NB1265_1331, Q_NB1331_1265, Q_NB1266_1331, Q_NB1331_1266, Q_NB1282_1331, Q_NB1331_1282, Q_NB1287_1331, Q_NB1331_1287, Q_NB1292_1331, Q_NB1331_1292, Q_NB1298_1331, Q_NB1331_1298, Q_BK1331_e9, Q_X1_, Q_X3_, Q_X4_, Q_X5_, Q_X6_, Q_X8_⟩ hb_ hon hoff
                 refine ⟨_, rfl, fun K hK => ?_⟩
                 have e95 : a.tmps[95]? = some (.agg #[.bool a0_0, .slice A0_1 l0_1.length c0_1]) := by rw [ha]; exact putSel_on (e := (0, 95, .agg #[.bool a0_0, .slice A0_1 l0_1.length c0_1])) 0 rfl rfl (hon 0 (by kernel_rfl)) rfl
                 replace ha := Aside0.mk ha
                 have HO1272 := Aside0.mk Q_HO1272
                 have HO1276 := Aside0.mk Q_HO1276
                 have HO1280 := Aside0.mk Q_HO1280
                 have HO1286 := Aside0.mk Q_HO1286
                 have HO1291 := Aside0.mk Q_HO1291
                 have HO1296 := Aside0.mk Q_HO1296
                 have HO1303 := Aside0.mk Q_HO1303
                 have HO1308 := Aside0.mk Q_HO1308
                 have BK1265 := Aside0.mk Q_BK1265
                 have BK1266 := Aside0.mk Q_BK1266
                 have BK1282 := Aside0.mk Q_BK1282
                 have BK1287 := Aside0.mk Q_BK1287
                 have BK1292 := Aside0.mk Q_BK1292
                 have BK1298 := Aside0.mk Q_BK1298
                 have HB := Aside0.mk Q_HB
                 refine goes_ Try.func52 (by kernel_rfl) rfl #[.agg #[.bool a0_0, .slice A0_1 l0_1.length c0_1]] (by rfl) rfl rfl (by first | (simp only [List.map_toArray, List.map_cons, List.map_nil, Act.eval, Array.getD_eq_getD_getElem?, Option.getD_some, e95]; done) | (simp only [List.map_toArray, List.map_cons, List.map_nil, Act.eval, Array.getD_eq_getD_getElem?, Option.getD_some, e95]; rfl)) ?_
                 with_reducible refine (laws_toWhole.calls k a0_0 _ _ l0_1 t1318 t1319 _ ?side1 ?side2 A43.out).mono ?_
                 (case side1 => repeat (first | exact (Kd.C_below HR0_1.out HB.out) | (with_reducible refine Kd.C_alloc ?_ _) | (with_reducible refine Kd.C_drewN ?_ _) | (with_reducible refine Kd.C_drew ?_)))
                 (case side2 => exact HC0_1.out)
                 rintro e w122 ⟨v1320, rfl, ho0, hb⟩
                 refine ⟨_, rfl, ?_⟩
                 have n0_ := Sq.m (Kd.R_elder' (by apply Sq.ra; exact HO1272.out) (Kd.R_base ho0) hb)
                 have n1_ := Sq.m (Kd.R_elder' (by apply Sq.ra; exact HO1276.out) (Kd.R_base ho0) hb)
                 have n2_ := Sq.m (Kd.R_elder' (by apply Sq.ra; exact HO1280.out) (Kd.R_base ho0) hb)
                 have n3_ := Sq.m (Kd.R_elder' (by apply Sq.ra; exact HO1286.out) (Kd.R_base ho0) hb)
                 have n4_ := Sq.m (Kd.R_elder' (by apply Sq.ra; exact HO1291.out) (Kd.R_base ho0) hb)
                 have n5_ := Sq.m (Kd.R_elder' (by apply Sq.ra; exact HO1296.out) (Kd.R_base ho0) hb)
                 have n6_ := Sq.m (Kd.R_elder' (by apply Sq.ra; exact HO1303.out) (Kd.R_base ho0) hb)
                 have n7_ := Sq.m (Kd.R_elder' (by apply Sq.ra; exact HO1308.out) (Kd.R_base ho0) hb)
                 have n8_ := Sq.m (Kd.R_lower (Kd.R_new' (Kd.R_new' (Kd.R_new' (Kd.R_new' (Kd.R_new' (Kd.R_new' (Kd.R_new' (Kd.R_new' ho0 (Kd.R_lt (by apply Sq.ra; exact HO1272.out))) (Kd.R_lt (by apply Sq.ra; exact HO1276.out))) (Kd.R_lt (by apply Sq.ra; exact HO1280.out))) (Kd.R_lt (by apply Sq.ra; exact HO1286.out))) (Kd.R_lt (by apply Sq.ra; exact HO1291.out))) (Kd.R_lt (by apply Sq.ra; exact HO1296.out))) (Kd.R_lt (by apply Sq.ra; exact HO1303.out))) (Kd.R_lt (by apply Sq.ra; exact HO1308.out))) (below_size (by repeat (first | (with_reducible first | exact HB.out | apply Sq.rc | refine below_set ?_ GE1265.out | refine below_set ?_ GE1266.out | refine below_set ?_ GE1282.out | refine below_set ?_ GE1287.out | refine below_set ?_ GE1292.out | refine below_set ?_ GE1298.out) | exact HB.out))))
                 have n9_ := Sq.m (blk_below (g := gb1265) (o := .cells #[.bool a0_0, .slice A0_1 l0_1.length c0_1] 56 (0, 0)) (by apply Sq.rb; exact BK1265.out) hb)
                 have n10_ := Sq.m (blk_below (g := gb1266) (o := .cells #[.bool a1_0, .slice A1_1 l1_1.length c1_1] 56 (0, 0)) (by apply Sq.rb; exact BK1266.out) hb)
                 have n11_ := Sq.m (blk_below (g := gb1282) (o := .cells #[.bool t1277, .slice Ao100 t1278.length co100] 59 (0, 0)) (by apply Sq.rb; exact BK1282.out) hb)
                 have n12_ := Sq.m (blk_below (g := gb1287) (o := .cells #[.bool t1283, .slice Ao78 t1284.length co78] 59 (0, 0)) (by apply Sq.rb; exact BK1287.out) hb)
                 have n13_ := Sq.m (blk_below (g := gb1292) (o := .cells #[.bool t1288, .slice Ao88 t1289.length co88] 59 (0, 0)) (by apply Sq.rb; exact BK1292.out) hb)
                 have n14_ := Sq.m (blk_below (g := gb1298) (o := .cells #[.bool t1293, .slice Ao98 t1294.length co98] 59 (0, 0)) (by apply Sq.rb; exact BK1298.out) hb)
                 have n15_ := Sq.m (below_step (by repeat (first | (with_reducible first | exact HB.out | apply Sq.rc | refine below_set ?_ GE1265.out | refine below_set ?_ GE1266.out | refine below_set ?_ GE1282.out | refine below_set ?_ GE1287.out | refine below_set ?_ GE1292.out | refine below_set ?_ GE1298.out) | exact HB.out)) hb)
                 have z_BK1331 := fun (h0_ : b 8 = true) (h1_ : b 9 = false) => (show w122.heap[gb1331]? = some (.cells #[.bool false, .slice none 0 0] 59 (0, 0)) from by first | exact (blk_below (g := gb1331) (o := .cells #[.bool false, .slice none 0 0] 59 (0, 0)) (by apply Sq.rb; exact (Q_BK1331 h0_ h1_)) hb))
                 clear HO1272
                 clear HO1276
                 clear HO1280
                 clear HO1286
                 clear HO1291
                 clear HO1296
                 clear HO1303
                 clear HO1308
                 clear BK1265
                 clear BK1266
                 clear BK1282
                 clear BK1287
                 clear BK1292
                 clear BK1298
                 clear HB
                 have HO1272 := n0_
                 have HO1276 := n1_
                 have HO1280 := n2_
                 have HO1286 := n3_
                 have HO1291 := n4_
                 have HO1296 := n5_
                 have HO1303 := n6_
                 have HO1308 := n7_
                 have HO1321 := n8_
                 have BK1265 := n9_
                 have BK1266 := n10_
                 have BK1282 := n11_
                 have BK1287 := n12_
                 have BK1292 := n13_
                 have BK1298 := n14_
                 have HB := n15_
                 clear n0_ n1_ n2_ n3_ n4_ n5_ n6_ n7_ n8_ n9_ n10_ n11_ n12_ n13_ n14_ n15_
                 (try clear hb)
                 (try clear hb2)
                 (try clear hk)
                 (try clear hi)
                 (try clear ho0)
                 refine hK.out _ _ ⟨v1320, v1324, v1328, gb1331, (.agg #[.bool t1318, v1320]), m3_, m4_, m5_, m6_, m8_, (by rw [ha.out]; exact putSel_upk 1 hb_ rfl rfl rfl), (by apply Sq.ra; exact Kd.R_mono HO1272.out (fun _ hk => by first | exact True.intro | exact hk.1 | exact hk | exact ⟨hk.1.1, ⟨hk.1.2.1, ⟨hk.1.2.2.1, ⟨hk.1.2.2.2.1, ⟨hk.1.2.2.2.2, hk.2⟩⟩⟩⟩⟩ | simp only [hk, ne_eq, not_false_eq_true, and_self, and_true, true_and])), (by apply Sq.ra; exact Kd.R_mono HO1276.out (fun _ hk => by first | exact True.intro | exact hk.1 | exact hk | exact ⟨hk.1.1, ⟨hk.1.2.1, ⟨hk.1.2.2.1, ⟨hk.1.2.2.2.1, ⟨hk.1.2.2.2.2, hk.2⟩⟩⟩⟩⟩ | simp only [hk, ne_eq, not_false_eq_true, and_self, and_true, true_and])), (by apply Sq.ra; exact Kd.R_mono HO1280.out (fun _ hk => by first | exact True.intro | exact hk.1 | exact hk | exact ⟨hk.1.1, ⟨hk.1.2.1, ⟨hk.1.2.2.1, ⟨hk.1.2.2.2.1, ⟨hk.1.2.2.2.2, hk.2⟩⟩⟩⟩⟩ | simp only [hk, ne_eq, not_false_eq_true, and_self, and_true, true_and])), (by apply Sq.ra; exact Kd.R_mono HO1286.out (fun _ hk => by first | exact True.intro | exact hk.1 | exact hk | exact ⟨hk.1.1, ⟨hk.1.2.1, ⟨hk.1.2.2.1, ⟨hk.1.2.2.2.1, ⟨hk.1.2.2.2.2.1, ⟨hk.1.2.2.2.2.2.1, ⟨hk.1.2.2.2.2.2.2, hk.2⟩⟩⟩⟩⟩⟩⟩ | simp only [hk, ne_eq, not_false_eq_true, and_self, and_true, true_and])), (by apply Sq.ra; exact Kd.R_mono HO1291.out (fun _ hk => by first | exact True.intro | exact hk.1 | exact hk | exact ⟨hk.1.1, ⟨hk.1.2.1, ⟨hk.1.2.2.1, ⟨hk.1.2.2.2.1, ⟨hk.1.2.2.2.2.1, ⟨hk.1.2.2.2.2.2.1, ⟨hk.1.2.2.2.2.2.2, hk.2⟩⟩⟩⟩⟩⟩⟩ | simp only [hk, ne_eq, not_false_eq_true, and_self, and_true, true_and])), (by apply Sq.ra; exact Kd.R_mono HO1296.out (fun _ hk => by first | exact True.intro | exact hk.1 | exact hk | exact ⟨hk.1.1, ⟨hk.1.2.1, ⟨hk.1.2.2.1, ⟨hk.1.2.2.2.1, ⟨hk.1.2.2.2.2.1, ⟨hk.1.2.2.2.2.2.1, ⟨hk.1.2.2.2.2.2.2, hk.2⟩⟩⟩⟩⟩⟩⟩ | simp only [hk, ne_eq, not_false_eq_true, and_self, and_true, true_and])), (by apply Sq.ra; exact Kd.R_mono HO1303.out (fun _ hk => by first | exact True.intro | exact hk.1 | exact hk | exact ⟨hk.1.1, ⟨hk.1.2.1, ⟨hk.1.2.2.1, ⟨hk.1.2.2.2.1, ⟨hk.1.2.2.2.2.1, ⟨hk.1.2.2.2.2.2.1, ⟨hk.1.2.2.2.2.2.2, hk.2⟩⟩⟩⟩⟩⟩⟩ | simp only [hk, ne_eq, not_false_eq_true, and_self, and_true, true_and])), (by apply Sq.ra; exact Kd.R_mono HO1308.out (fun _ hk => by first | exact True.intro | exact hk.1 | exact hk | exact ⟨hk.1.1, ⟨hk.1.2.1, ⟨hk.1.2.2.1, ⟨hk.1.2.2.2.1, ⟨hk.1.2.2.2.2.1, ⟨hk.1.2.2.2.2.2.1, ⟨hk.1.2.2.2.2.2.2, hk.2⟩⟩⟩⟩⟩⟩⟩ | simp only [hk, ne_eq, not_false_eq_true, and_self, and_true, true_and])), (by apply Sq.rb; exact BK1265.out), (by apply Sq.rb; exact BK1266.out), (by apply Sq.rb; exact BK1282.out), (by apply Sq.rb; exact BK1287.out), (by apply Sq.rb; exact BK1292.out), (by apply Sq.rb; exact BK1298.out), (by repeat (first | (with_reducible first | exact HB.out | apply Sq.rc | refine below_set ?_ GE1265.out | refine below_set ?_ GE1266.out | refine below_set ?_ GE1282.out | refine below_set ?_ GE1287.out | refine below_set ?_ GE1292.out | refine below_set ?_ GE1298.out) | exact HB.out)), fun _ => (by apply Sq.ra; exact Kd.R_mono HO1321.out (fun _ hk => ⟨hk.1.1.1.1.1.1.1.2, ⟨hk.1.1.1.1.1.1.2, ⟨hk.1.1.1.1.1.2, ⟨hk.1.1.1.1.2, ⟨hk.1.1.1.2, ⟨hk.1.1.2, ⟨hk.1.2, hk.2⟩⟩⟩⟩⟩⟩⟩)), fun h0_ => absurd ((hoff 3 (by kernel_rfl)).symm.trans h0_) (by decide), fun h0_ => absurd ((hoff 4 (by kernel_rfl)).symm.trans h0_) (by decide), z_BK1331, Q_GW1331, Q_GE1331, Q_NB1265_1331, Q_NB1331_1265, Q_NB1266_1331, Q_NB1331_1266, Q_NB1282_1331, Q_NB1331_1282, Q_NB1287_1331, Q_NB1331_1287, Q_NB1292_1331, Q_NB1331_1292, Q_NB1298_1331, Q_NB1331_1298, fun h0_ => absurd ((hoff 9 (by kernel_rfl)).symm.trans h0_) (by decide), fun _ => rfl, fun h0_ => absurd ((hoff 3 (by kernel_rfl)).symm.trans h0_) (by decide), fun h0_ => absurd ((hoff 4 (by kernel_rfl)).symm.trans h0_) (by decide), fun h0_ => absurd ((hoff 5 (by kernel_rfl)).symm.trans h0_) (by decide), fun h0_ => absurd ((hoff 6 (by kernel_rfl)).symm.trans h0_) (by decide), Q_X8_⟩
                refine steps_cons ?_ ?_
                ·rintro b a w' ⟨v1320, v1324, v1328, gb1331, m1_, m3_, m4_, m5_, m6_, m8_, ha, Q_HO1272, Q_HO1276, Q_HO1280, Q_HO1286, Q_HO1291, Q_HO1296, Q_HO1303, Q_HO1308, Q_BK1265, Q_BK1266, Q_BK1282, Q_BK1287, Q_BK1292, Q_BK1298, Q_HB, Q_HO1321, Q_HO1325, Q_HO1329, Q_BK1331, Q_GW1331, Q_GE1331, Q_NB1265_1331, Q_NB1331_1265, Q_NB1266_1331, Q_NB1331_1266, Q_NB1282_1331, Q_NB1331_1282, Q_NB1287_1331, Q_NB1331_1287, Q_NB1292_1331, Q_NB1331_1292, Q_NB1298_1331, Q_NB1331_1298, Q_BK1331_e9, Q_X1_, Q_X3_, Q_X4_, Q_X5_, Q_X6_, Q_X8_⟩ hb_ hon hoff
                 refine ⟨_, rfl, fun K hK => ?_⟩
                 have e3 : a.tmps[3]? = some (.pointer (some ⟨gb1266, 0, none⟩)) := by rw [ha]; exact (putSel_off rfl).trans rfl
                 replace ha := Aside0.mk ha
                 have HO1272 := Aside0.mk Q_HO1272
                 have HO1276 := Aside0.mk Q_HO1276
                 have HO1280 := Aside0.mk Q_HO1280
                 have HO1286 := Aside0.mk Q_HO1286
                 have HO1291 := Aside0.mk Q_HO1291
                 have HO1296 := Aside0.mk Q_HO1296
                 have HO1303 := Aside0.mk Q_HO1303
                 have HO1308 := Aside0.mk Q_HO1308
                 have BK1265 := Aside0.mk Q_BK1265
                 have BK1266 := Aside0.mk Q_BK1266
                 have BK1282 := Aside0.mk Q_BK1282
                 have BK1287 := Aside0.mk Q_BK1287
                 have BK1292 := Aside0.mk Q_BK1292
                 have BK1298 := Aside0.mk Q_BK1298
                 have HB := Aside0.mk Q_HB
                 have hc0_ : w'.cell? ⟨gb1266, 0, none⟩ = some (.bool a1_0) := (blk_cell BK1266.out 0).trans rfl
                 have hc1_ : w'.cell? ⟨gb1266, 1, none⟩ = some (.slice A1_1 l1_1.length c1_1) := (blk_cell BK1266.out 1).trans rfl
                 refine value_ (w1 := w') (v := .agg #[.bool a1_0, .slice A1_1 l1_1.length c1_1]) (by rfl) rfl ?_ ?_
                 ·go_simp
                  (try simp only [i64_w])
                  try rfl
                 refine hK.out _ _ ⟨v1320, v1324, v1328, gb1331, m1_, m3_, m4_, m5_, m6_, m8_, (by rw [ha.out]; exact putSel_upk 2 hb_ rfl rfl rfl), Q_HO1272, Q_HO1276, Q_HO1280, Q_HO1286, Q_HO1291, Q_HO1296, Q_HO1303, Q_HO1308, Q_BK1265, Q_BK1266, Q_BK1282, Q_BK1287, Q_BK1292, Q_BK1298, Q_HB, Q_HO1321, fun h0_ => absurd ((hoff 3 (by kernel_rfl)).symm.trans h0_) (by decide), fun h0_ => absurd ((hoff 4 (by kernel_rfl)).symm.trans h0_) (by decide), Q_BK1331, Q_GW1331, Q_GE1331, Q_NB1265_1331, Q_NB1331_1265, Q_NB1266_1331, Q_NB1331_1266, Q_NB1282_1331, Q_NB1331_1282, Q_NB1287_1331, Q_NB1331_1287, Q_NB1292_1331, Q_NB1331_1292, Q_NB1298_1331, Q_NB1331_1298, fun h0_ => absurd ((hoff 9 (by kernel_rfl)).symm.trans h0_) (by decide), Q_X1_, fun h0_ => absurd ((hoff 3 (by kernel_rfl)).symm.trans h0_) (by decide), fun h0_ => absurd ((hoff 4 (by kernel_rfl)).symm.trans h0_) (by decide), fun h0_ => absurd ((hoff 5 (by kernel_rfl)).symm.trans h0_) (by decide), fun h0_ => absurd ((hoff 6 (by kernel_rfl)).symm.trans h0_) (by decide), Q_X8_⟩
                refine steps_cons ?_ ?_
                ·rintro b a w' ⟨v1320, v1324, v1328, gb1331, m1_, m3_, m4_, m5_, m6_, m8_, ha, Q_HO1272, Q_HO1276, Q_HO1280, Q_HO1286, Q_HO1291, Q_HO1296, Q_HO1303, Q_HO1308, Q_BK1265, Q_BK1266, Q_BK1282, Q_BK1287, Q_BK1292, Q_BK1298, Q_HB, Q_HO1321, Q_HO1325, Q_HO1329, Q_BK1331, Q_GW1331, Q_GE1331, Q_NB1265_1331, Q_NB1331_1265, Q_NB1266_1331, Q_NB1331_1266, Q_NB1282_1331, Q_NB1331_1282, Q_NB1287_1331, Q_NB1331_1287, Q_NB1292_1331, Q_NB1331_1292, Q_NB1298_1331, Q_NB1331_1298, Q_BK1331_e9, Q_X1_, Q_X3_, Q_X4_, Q_X5_, Q_X6_, Q_X8_⟩ hb_ hon hoff
                 refine ⟨_, rfl, fun K hK => ?_⟩
                 have e97 : a.tmps[97]? = some (.agg #[.bool a1_0, .slice A1_1 l1_1.length c1_1]) := by rw [ha]; exact putSel_on (e := (2, 97, .agg #[.bool a1_0, .slice A1_1 l1_1.length c1_1])) 2 rfl rfl (hon 2 (by kernel_rfl)) rfl
                 replace ha := Aside0.mk ha
                 have HO1272 := Aside0.mk Q_HO1272
                 have HO1276 := Aside0.mk Q_HO1276
                 have HO1280 := Aside0.mk Q_HO1280
                 have HO1286 := Aside0.mk Q_HO1286
                 have HO1291 := Aside0.mk Q_HO1291
                 have HO1296 := Aside0.mk Q_HO1296
                 have HO1303 := Aside0.mk Q_HO1303
                 have HO1308 := Aside0.mk Q_HO1308
                 have BK1265 := Aside0.mk Q_BK1265
                 have BK1266 := Aside0.mk Q_BK1266
                 have BK1282 := Aside0.mk Q_BK1282
                 have BK1287 := Aside0.mk Q_BK1287
                 have BK1292 := Aside0.mk Q_BK1292
                 have BK1298 := Aside0.mk Q_BK1298
                 have HB := Aside0.mk Q_HB
                 have HO1321 := Sq.m (Q_HO1321 (hon 1 (by kernel_rfl)))
                 refine goes_ Try.func52 (by kernel_rfl) rfl #[.agg #[.bool a1_0, .slice A1_1 l1_1.length c1_1]] (by rfl) rfl rfl (by first | (simp only [List.map_toArray, List.map_cons, List.map_nil, Act.eval, Array.getD_eq_getD_getElem?, Option.getD_some, e97]; done) | (simp only [List.map_toArray, List.map_cons, List.map_nil, Act.eval, Array.getD_eq_getD_getElem?, Option.getD_some, e97]; rfl)) ?_
                 with_reducible refine (laws_toWhole.calls k a1_0 _ _ l1_1 t1322 t1323 _ ?side1 ?side2 A44.out).mono ?_
                 (case side1 => repeat (first | exact (Kd.C_below HR1_1.out HB.out) | (with_reducible refine Kd.C_alloc ?_ _) | (with_reducible refine Kd.C_drewN ?_ _) | (with_reducible refine Kd.C_drew ?_)))
                 (case side2 => exact HC1_1.out)
                 rintro e w124 ⟨v1324, rfl, ho0, hb⟩
                 refine ⟨_, rfl, ?_⟩
                 have n0_ := Sq.m (Kd.R_elder' (by apply Sq.ra; exact HO1272.out) (Kd.R_base ho0) hb)
                 have n1_ := Sq.m (Kd.R_elder' (by apply Sq.ra; exact HO1276.out) (Kd.R_base ho0) hb)
                 have n2_ := Sq.m (Kd.R_elder' (by apply Sq.ra; exact HO1280.out) (Kd.R_base ho0) hb)
                 have n3_ := Sq.m (Kd.R_elder' (by apply Sq.ra; exact HO1286.out) (Kd.R_base ho0) hb)
                 have n4_ := Sq.m (Kd.R_elder' (by apply Sq.ra; exact HO1291.out) (Kd.R_base ho0) hb)
                 have n5_ := Sq.m (Kd.R_elder' (by apply Sq.ra; exact HO1296.out) (Kd.R_base ho0) hb)
                 have n6_ := Sq.m (Kd.R_elder' (by apply Sq.ra; exact HO1303.out) (Kd.R_base ho0) hb)
                 have n7_ := Sq.m (Kd.R_elder' (by apply Sq.ra; exact HO1308.out) (Kd.R_base ho0) hb)
                 have n8_ := Sq.m (Kd.R_elder' (by apply Sq.ra; exact HO1321.out) (Kd.R_base ho0) hb)
                 have n9_ := Sq.m (Kd.R_lower (Kd.R_new' (Kd.R_new' (Kd.R_new' (Kd.R_new' (Kd.R_new' (Kd.R_new' (Kd.R_new' (Kd.R_new' (Kd.R_new' ho0 (Kd.R_lt (by apply Sq.ra; exact HO1272.out))) (Kd.R_lt (by apply Sq.ra; exact HO1276.out))) (Kd.R_lt (by apply Sq.ra; exact HO1280.out))) (Kd.R_lt (by apply Sq.ra; exact HO1286.out))) (Kd.R_lt (by apply Sq.ra; exact HO1291.out))) (Kd.R_lt (by apply Sq.ra; exact HO1296.out))) (Kd.R_lt (by apply Sq.ra; exact HO1303.out))) (Kd.R_lt (by apply Sq.ra; exact HO1308.out))) (Kd.R_lt (by apply Sq.ra; exact HO1321.out))) (below_size (by repeat (first | (with_reducible first | exact HB.out | apply Sq.rc | refine below_set ?_ GE1265.out | refine below_set ?_ GE1266.out | refine below_set ?_ GE1282.out | refine below_set ?_ GE1287.out | refine below_set ?_ GE1292.out | refine below_set ?_ GE1298.out) | exact HB.out))))
                 have n10_ := Sq.m (blk_below (g := gb1265) (o := .cells #[.bool a0_0, .slice A0_1 l0_1.length c0_1] 56 (0, 0)) (by apply Sq.rb; exact BK1265.out) hb)
                 have n11_ := Sq.m (blk_below (g := gb1266) (o := .cells #[.bool a1_0, .slice A1_1 l1_1.length c1_1] 56 (0, 0)) (by apply Sq.rb; exact BK1266.out) hb)
                 have n12_ := Sq.m (blk_below (g := gb1282) (o := .cells #[.bool t1277, .slice Ao100 t1278.length co100] 59 (0, 0)) (by apply Sq.rb; exact BK1282.out) hb)
                 have n13_ := Sq.m (blk_below (g := gb1287) (o := .cells #[.bool t1283, .slice Ao78 t1284.length co78] 59 (0, 0)) (by apply Sq.rb; exact BK1287.out) hb)
                 have n14_ := Sq.m (blk_below (g := gb1292) (o := .cells #[.bool t1288, .slice Ao88 t1289.length co88] 59 (0, 0)) (by apply Sq.rb; exact BK1292.out) hb)
                 have n15_ := Sq.m (blk_below (g := gb1298) (o := .cells #[.bool t1293, .slice Ao98 t1294.length co98] 59 (0, 0)) (by apply Sq.rb; exact BK1298.out) hb)
                 have n16_ := Sq.m (below_step (by repeat (first | (with_reducible first | exact HB.out | apply Sq.rc | refine below_set ?_ GE1265.out | refine below_set ?_ GE1266.out | refine below_set ?_ GE1282.out | refine below_set ?_ GE1287.out | refine below_set ?_ GE1292.out | refine below_set ?_ GE1298.out) | exact HB.out)) hb)
                 have z_BK1331 := fun (h0_ : b 8 = true) (h1_ : b 9 = false) => (show w124.heap[gb1331]? = some (.cells #[.bool false, .slice none 0 0] 59 (0, 0)) from by first | exact (blk_below (g := gb1331) (o := .cells #[.bool false, .slice none 0 0] 59 (0, 0)) (by apply Sq.rb; exact (Q_BK1331 h0_ h1_)) hb))
                 clear HO1272
                 clear HO1276
                 clear HO1280
                 clear HO1286
                 clear HO1291
                 clear HO1296
                 clear HO1303
                 clear HO1308
                 clear HO1321
                 clear BK1265
                 clear BK1266
                 clear BK1282
                 clear BK1287
                 clear BK1292
                 clear BK1298
                 clear HB
                 have HO1272 := n0_
                 have HO1276 := n1_
                 have HO1280 := n2_
                 have HO1286 := n3_
                 have HO1291 := n4_
                 have HO1296 := n5_
                 have HO1303 := n6_
                 have HO1308 := n7_
                 have HO1321 := n8_
                 have HO1325 := n9_
                 have BK1265 := n10_
                 have BK1266 := n11_
                 have BK1282 := n12_
                 have BK1287 := n13_
                 have BK1292 := n14_
                 have BK1298 := n15_
                 have HB := n16_
                 clear n0_ n1_ n2_ n3_ n4_ n5_ n6_ n7_ n8_ n9_ n10_ n11_ n12_ n13_ n14_ n15_ n16_
                 (try clear hb)
                 (try clear hb2)
                 (try clear hk)
                 (try clear hi)
                 (try clear ho0)
                 refine hK.out _ _ ⟨v1320, v1324, v1328, gb1331, m1_, (.agg #[.bool t1322, v1324]), m4_, m5_, m6_, m8_, (by rw [ha.out]; exact putSel_upk 3 hb_ rfl rfl rfl), (by apply Sq.ra; exact Kd.R_mono HO1272.out (fun _ hk => by first | exact True.intro | exact hk.1 | exact hk | exact ⟨hk.1.1, ⟨hk.1.2.1, ⟨hk.1.2.2.1, ⟨hk.1.2.2.2.1, ⟨hk.1.2.2.2.2, hk.2⟩⟩⟩⟩⟩ | simp only [hk, ne_eq, not_false_eq_true, and_self, and_true, true_and])), (by apply Sq.ra; exact Kd.R_mono HO1276.out (fun _ hk => by first | exact True.intro | exact hk.1 | exact hk | exact ⟨hk.1.1, ⟨hk.1.2.1, ⟨hk.1.2.2.1, ⟨hk.1.2.2.2.1, ⟨hk.1.2.2.2.2, hk.2⟩⟩⟩⟩⟩ | simp only [hk, ne_eq, not_false_eq_true, and_self, and_true, true_and])), (by apply Sq.ra; exact Kd.R_mono HO1280.out (fun _ hk => by first | exact True.intro | exact hk.1 | exact hk | exact ⟨hk.1.1, ⟨hk.1.2.1, ⟨hk.1.2.2.1, ⟨hk.1.2.2.2.1, ⟨hk.1.2.2.2.2, hk.2⟩⟩⟩⟩⟩ | simp only [hk, ne_eq, not_false_eq_true, and_self, and_true, true_and])), (by apply Sq.ra; exact Kd.R_mono HO1286.out (fun _ hk => by first | exact True.intro | exact hk.1 | exact hk | exact ⟨hk.1.1, ⟨hk.1.2.1, ⟨hk.1.2.2.1, ⟨hk.1.2.2.2.1, ⟨hk.1.2.2.2.2.1, ⟨hk.1.2.2.2.2.2.1, ⟨hk.1.2.2.2.2.2.2, hk.2⟩⟩⟩⟩⟩⟩⟩ | simp only [hk, ne_eq, not_false_eq_true, and_self, and_true, true_and])), (by apply Sq.ra; exact Kd.R_mono HO1291.out (fun _ hk => by first | exact True.intro | exact hk.1 | exact hk | exact ⟨hk.1.1, ⟨hk.1.2.1, ⟨hk.1.2.2.1, ⟨hk.1.2.2.2.1, ⟨hk.1.2.2.2.2.1, ⟨hk.1.2.2.2.2.2.1, ⟨hk.1.2.2.2.2.2.2, hk.2⟩⟩⟩⟩⟩⟩⟩ | simp only [hk, ne_eq, not_false_eq_true, and_self, and_true, true_and])), (by apply Sq.ra; exact Kd.R_mono HO1296.out (fun _ hk => by first | exact True.intro | exact hk.1 | exact hk | exact ⟨hk.1.1, ⟨hk.1.2.1, ⟨hk.1.2.2.1, ⟨hk.1.2.2.2.1, ⟨hk.1.2.2.2.2.1, ⟨hk.1.2.2.2.2.2.1, ⟨hk.1.2.2.2.2.2.2, hk.2⟩⟩⟩⟩⟩⟩⟩ | simp only [hk, ne_eq, not_false_eq_true, and_self, and_true, true_and])), (by apply Sq.ra; exact Kd.R_mono HO1303.out (fun _ hk => by first | exact True.intro | exact hk.1 | exact hk | exact ⟨hk.1.1, ⟨hk.1.2.1, ⟨hk.1.2.2.1, ⟨hk.1.2.2.2.1, ⟨hk.1.2.2.2.2.1, ⟨hk.1.2.2.2.2.2.1, ⟨hk.1.2.2.2.2.2.2, hk.2⟩⟩⟩⟩⟩⟩⟩ | simp only [hk, ne_eq, not_false_eq_true, and_self, and_true, true_and])), (by apply Sq.ra; exact Kd.R_mono HO1308.out (fun _ hk => by first | exact True.intro | exact hk.1 | exact hk | exact ⟨hk.1.1, ⟨hk.1.2.1, ⟨hk.1.2.2.1, ⟨hk.1.2.2.2.1, ⟨hk.1.2.2.2.2.1, ⟨hk.1.2.2.2.2.2.1, ⟨hk.1.2.2.2.2.2.2, hk.2⟩⟩⟩⟩⟩⟩⟩ | simp only [hk, ne_eq, not_false_eq_true, and_self, and_true, true_and])), (by apply Sq.rb; exact BK1265.out), (by apply Sq.rb; exact BK1266.out), (by apply Sq.rb; exact BK1282.out), (by apply Sq.rb; exact BK1287.out), (by apply Sq.rb; exact BK1292.out), (by apply Sq.rb; exact BK1298.out), (by repeat (first | (with_reducible first | exact HB.out | apply Sq.rc | refine below_set ?_ GE1265.out | refine below_set ?_ GE1266.out | refine below_set ?_ GE1282.out | refine below_set ?_ GE1287.out | refine below_set ?_ GE1292.out | refine below_set ?_ GE1298.out) | exact HB.out)), fun _ => (by apply Sq.ra; exact Kd.R_mono HO1321.out (fun _ hk => by first | exact True.intro | exact hk.1 | exact hk | exact ⟨hk.1.1, ⟨hk.1.2.1, ⟨hk.1.2.2.1, ⟨hk.1.2.2.2.1, ⟨hk.1.2.2.2.2.1, ⟨hk.1.2.2.2.2.2.1, ⟨hk.1.2.2.2.2.2.2.1, ⟨hk.1.2.2.2.2.2.2.2, hk.2⟩⟩⟩⟩⟩⟩⟩⟩ | simp only [hk, ne_eq, not_false_eq_true, and_self, and_true, true_and])), fun _ => (by apply Sq.ra; exact Kd.R_mono HO1325.out (fun _ hk => by first | exact True.intro | exact hk.1 | exact hk | exact ⟨hk.1.1.1.1.1.1.1.1.2, ⟨hk.1.1.1.1.1.1.1.2, ⟨hk.1.1.1.1.1.1.2, ⟨hk.1.1.1.1.1.2, ⟨hk.1.1.1.1.2, ⟨hk.1.1.1.2, ⟨hk.1.1.2, ⟨hk.1.2, hk.2⟩⟩⟩⟩⟩⟩⟩⟩ | simp only [hk, ne_eq, not_false_eq_true, and_self, and_true, true_and])), fun h0_ => absurd ((hoff 4 (by kernel_rfl)).symm.trans h0_) (by decide), z_BK1331, Q_GW1331, Q_GE1331, Q_NB1265_1331, Q_NB1331_1265, Q_NB1266_1331, Q_NB1331_1266, Q_NB1282_1331, Q_NB1331_1282, Q_NB1287_1331, Q_NB1331_1287, Q_NB1292_1331, Q_NB1331_1292, Q_NB1298_1331, Q_NB1331_1298, fun h0_ => absurd ((hoff 9 (by kernel_rfl)).symm.trans h0_) (by decide), Q_X1_, fun _ => rfl, fun h0_ => absurd ((hoff 4 (by kernel_rfl)).symm.trans h0_) (by decide), fun h0_ => absurd ((hoff 5 (by kernel_rfl)).symm.trans h0_) (by decide), fun h0_ => absurd ((hoff 6 (by kernel_rfl)).symm.trans h0_) (by decide), Q_X8_⟩
                refine steps_cons ?_ ?_
                ·rintro b a w' ⟨v1320, v1324, v1328, gb1331, m1_, m3_, m4_, m5_, m6_, m8_, ha, Q_HO1272, Q_HO1276, Q_HO1280, Q_HO1286, Q_HO1291, Q_HO1296, Q_HO1303, Q_HO1308, Q_BK1265, Q_BK1266, Q_BK1282, Q_BK1287, Q_BK1292, Q_BK1298, Q_HB, Q_HO1321, Q_HO1325, Q_HO1329, Q_BK1331, Q_GW1331, Q_GE1331, Q_NB1265_1331, Q_NB1331_1265, Q_NB1266_1331, Q_NB1331_1266, Q_NB1282_1331, Q_NB1331_1282, Q_NB1287_1331, Q_NB1331_1287, Q_NB1292_1331, Q_NB1331_1292, Q_NB1298_1331, Q_NB1331_1298, Q_BK1331_e9, Q_X1_, Q_X3_, Q_X4_, Q_X5_, Q_X6_, Q_X8_⟩ hb_ hon hoff
                 refine ⟨_, rfl, fun K hK => ?_⟩
                 have e96 : a.tmps[96]? = some (m1_) := by rw [ha]; exact putSel_on (e := (1, 96, m1_)) 1 rfl rfl (hon 1 (by kernel_rfl)) rfl
                 rw [Q_X1_ (hon 1 (by kernel_rfl))] at e96
                 have e98 : a.tmps[98]? = some (m3_) := by rw [ha]; exact putSel_on (e := (3, 98, m3_)) 3 rfl rfl (hon 3 (by kernel_rfl)) rfl
                 rw [Q_X3_ (hon 3 (by kernel_rfl))] at e98
                 replace ha := Aside0.mk ha
                 have HO1272 := Aside0.mk Q_HO1272
                 have HO1276 := Aside0.mk Q_HO1276
                 have HO1280 := Aside0.mk Q_HO1280
                 have HO1286 := Aside0.mk Q_HO1286
                 have HO1291 := Aside0.mk Q_HO1291
                 have HO1296 := Aside0.mk Q_HO1296
                 have HO1303 := Aside0.mk Q_HO1303
                 have HO1308 := Aside0.mk Q_HO1308
                 have BK1265 := Aside0.mk Q_BK1265
                 have BK1266 := Aside0.mk Q_BK1266
                 have BK1282 := Aside0.mk Q_BK1282
                 have BK1287 := Aside0.mk Q_BK1287
                 have BK1292 := Aside0.mk Q_BK1292
                 have BK1298 := Aside0.mk Q_BK1298
                 have HB := Aside0.mk Q_HB
                 have HO1321 := Sq.m (Q_HO1321 (hon 1 (by kernel_rfl)))
                 have HO1325 := Sq.m (Q_HO1325 (hon 3 (by kernel_rfl)))
                 obtain ⟨Ao125, co125, eo125⟩ := Kd.R_slice HO1321.out
                 (first | subst eo125 | (injection eo125 with f1_ f2_ f3_; have f4_ := f1_.symm; have f5_ := f3_.symm; clear f1_ f2_ f3_; subst f4_; subst f5_))
                 obtain ⟨Ao126, co126, eo126⟩ := Kd.R_slice HO1325.out
                 (first | subst eo126 | (injection eo126 with f1_ f2_ f3_; have f4_ := f1_.symm; have f5_ := f3_.symm; clear f1_ f2_ f3_; subst f4_; subst f5_))
                 refine goes_ Try.func53 (by kernel_rfl) rfl #[.agg #[.bool t1318, .slice Ao125 t1319.length co125], .agg #[.bool t1322, .slice Ao126 t1323.length co126]] (by rfl) rfl rfl (by first | (simp only [List.map_toArray, List.map_cons, List.map_nil, Act.eval, Array.getD_eq_getD_getElem?, Option.getD_some, e96, e98]; done) | (simp only [List.map_toArray, List.map_cons, List.map_nil, Act.eval, Array.getD_eq_getD_getElem?, Option.getD_some, e96, e98]; rfl)) ?_
                 with_reducible refine (impl_WholeAdd.calls k t1318 _ _ t1319 t1322 _ _ t1323 t1326 t1327 t1330 _ ?side1 ?side2 ?side3 ?side4 A45.out).mono ?_
                 (case side1 => repeat (first | exact (Kd.R_reads' HO1321.out).2.2 | (with_reducible refine Kd.C_alloc ?_ _) | (with_reducible refine Kd.C_drewN ?_ _) | (with_reducible refine Kd.C_drew ?_)))
                 (case side2 => exact (Kd.R_reads' HO1321.out).2.1)
                 (case side3 => repeat (first | exact (Kd.R_reads' HO1325.out).2.2 | (with_reducible refine Kd.C_alloc ?_ _) | (with_reducible refine Kd.C_drewN ?_ _) | (with_reducible refine Kd.C_drew ?_)))
                 (case side4 => exact (Kd.R_reads' HO1325.out).2.1)
                 rintro e w127 ⟨v1328, rfl, ho0, hb⟩
                 refine ⟨_, rfl, ?_⟩
                 have n0_ := Sq.m (Kd.R_elder' (by apply Sq.ra; exact HO1272.out) (Kd.R_base ho0) hb)
                 have n1_ := Sq.m (Kd.R_elder' (by apply Sq.ra; exact HO1276.out) (Kd.R_base ho0) hb)
                 have n2_ := Sq.m (Kd.R_elder' (by apply Sq.ra; exact HO1280.out) (Kd.R_base ho0) hb)
                 have n3_ := Sq.m (Kd.R_elder' (by apply Sq.ra; exact HO1286.out) (Kd.R_base ho0) hb)
                 have n4_ := Sq.m (Kd.R_elder' (by apply Sq.ra; exact HO1291.out) (Kd.R_base ho0) hb)
                 have n5_ := Sq.m (Kd.R_elder' (by apply Sq.ra; exact HO1296.out) (Kd.R_base ho0) hb)
                 have n6_ := Sq.m (Kd.R_elder' (by apply Sq.ra; exact HO1303.out) (Kd.R_base ho0) hb)
                 have n7_ := Sq.m (Kd.R_elder' (by apply Sq.ra; exact HO1308.out) (Kd.R_base ho0) hb)
                 have n8_ := Sq.m (Kd.R_elder' (by apply Sq.ra; exact HO1321.out) (Kd.R_base ho0) hb)
                 have n9_ := Sq.m (Kd.R_elder' (by apply Sq.ra; exact HO1325.out) (Kd.R_base ho0) hb)
                 have n10_ := Sq.m (Kd.R_lower (Kd.R_new' (Kd.R_new' (Kd.R_new' (Kd.R_new' (Kd.R_new' (Kd.R_new' (Kd.R_new' (Kd.R_new' (Kd.R_new' (Kd.R_new' ho0 (Kd.R_lt (by apply Sq.ra; exact HO1272.out))) (Kd.R_lt (by apply Sq.ra; exact HO1276.out))) (Kd.R_lt (by apply Sq.ra; exact HO1280.out))) (Kd.R_lt (by apply Sq.ra; exact HO1286.out))) (Kd.R_lt (by apply Sq.ra; exact HO1291.out))) (Kd.R_lt (by apply Sq.ra; exact HO1296.out))) (Kd.R_lt (by apply Sq.ra; exact HO1303.out))) (Kd.R_lt (by apply Sq.ra; exact HO1308.out))) (Kd.R_lt (by apply Sq.ra; exact HO1321.out))) (Kd.R_lt (by apply Sq.ra; exact HO1325.out))) (below_size (by repeat (first | (with_reducible first | exact HB.out | apply Sq.rc | refine below_set ?_ GE1265.out | refine below_set ?_ GE1266.out | refine below_set ?_ GE1282.out | refine below_set ?_ GE1287.out | refine below_set ?_ GE1292.out | refine below_set ?_ GE1298.out) | exact HB.out))))
                 have n11_ := Sq.m (blk_below (g := gb1265) (o := .cells #[.bool a0_0, .slice A0_1 l0_1.length c0_1] 56 (0, 0)) (by apply Sq.rb; exact BK1265.out) hb)
                 have n12_ := Sq.m (blk_below (g := gb1266) (o := .cells #[.bool a1_0, .slice A1_1 l1_1.length c1_1] 56 (0, 0)) (by apply Sq.rb; exact BK1266.out) hb)
                 have n13_ := Sq.m (blk_below (g := gb1282) (o := .cells #[.bool t1277, .slice Ao100 t1278.length co100] 59 (0, 0)) (by apply Sq.rb; exact BK1282.out) hb)
                 have n14_ := Sq.m (blk_below (g := gb1287) (o := .cells #[.bool t1283, .slice Ao78 t1284.length co78] 59 (0, 0)) (by apply Sq.rb; exact BK1287.out) hb)
                 have n15_ := Sq.m (blk_below (g := gb1292) (o := .cells #[.bool t1288, .slice Ao88 t1289.length co88] 59 (0, 0)) (by apply Sq.rb; exact BK1292.out) hb)
                 have n16_ := Sq.m (blk_below (g := gb1298) (o := .cells #[.bool t1293, .slice Ao98 t1294.length co98] 59 (0, 0)) (by apply Sq.rb; exact BK1298.out) hb)
                 have n17_ := Sq.m (below_step (by repeat (first | (with_reducible first | exact HB.out | apply Sq.rc | refine below_set ?_ GE1265.out | refine below_set ?_ GE1266.out | refine below_set ?_ GE1282.out | refine below_set ?_ GE1287.out | refine below_set ?_ GE1292.out | refine below_set ?_ GE1298.out) | exact HB.out)) hb)
                 have z_BK1331 := fun (h0_ : b 8 = true) (h1_ : b 9 = false) => (show w127.heap[gb1331]? = some (.cells #[.bool false, .slice none 0 0] 59 (0, 0)) from by first | exact (blk_below (g := gb1331) (o := .cells #[.bool false, .slice none 0 0] 59 (0, 0)) (by apply Sq.rb; exact (Q_BK1331 h0_ h1_)) hb))
                 clear HO1272
                 clear HO1276
                 clear HO1280
                 clear HO1286
                 clear HO1291
                 clear HO1296
                 clear HO1303
                 clear HO1308
                 clear HO1321
                 clear HO1325
                 clear BK1265
                 clear BK1266
                 clear BK1282
                 clear BK1287
                 clear BK1292
                 clear BK1298
                 clear HB
                 have HO1272 := n0_
                 have HO1276 := n1_
                 have HO1280 := n2_
                 have HO1286 := n3_
                 have HO1291 := n4_
                 have HO1296 := n5_
                 have HO1303 := n6_
                 have HO1308 := n7_
                 have HO1321 := n8_
                 have HO1325 := n9_
                 have HO1329 := n10_
                 have BK1265 := n11_
                 have BK1266 := n12_
                 have BK1282 := n13_
                 have BK1287 := n14_
                 have BK1292 := n15_
                 have BK1298 := n16_
                 have HB := n17_
                 clear n0_ n1_ n2_ n3_ n4_ n5_ n6_ n7_ n8_ n9_ n10_ n11_ n12_ n13_ n14_ n15_ n16_ n17_
                 (try clear hb)
                 (try clear hb2)
                 (try clear hk)
                 (try clear hi)
                 (try clear ho0)
                 refine hK.out _ _ ⟨.slice Ao125 t1319.length co125, .slice Ao126 t1323.length co126, v1328, gb1331, m1_, m3_, (.tuple #[.agg #[.bool t1326, v1328], .bool t1330]), m5_, m6_, m8_, (by rw [ha.out]; exact putSel_upk 4 hb_ rfl rfl rfl), (by apply Sq.ra; exact Kd.R_mono HO1272.out (fun _ hk => by first | exact True.intro | exact hk.1 | exact hk | exact ⟨hk.1.1, ⟨hk.1.2.1, ⟨hk.1.2.2.1, ⟨hk.1.2.2.2.1, ⟨hk.1.2.2.2.2, hk.2⟩⟩⟩⟩⟩ | simp only [hk, ne_eq, not_false_eq_true, and_self, and_true, true_and])), (by apply Sq.ra; exact Kd.R_mono HO1276.out (fun _ hk => by first | exact True.intro | exact hk.1 | exact hk | exact ⟨hk.1.1, ⟨hk.1.2.1, ⟨hk.1.2.2.1, ⟨hk.1.2.2.2.1, ⟨hk.1.2.2.2.2, hk.2⟩⟩⟩⟩⟩ | simp only [hk, ne_eq, not_false_eq_true, and_self, and_true, true_and])), (by apply Sq.ra; exact Kd.R_mono HO1280.out (fun _ hk => by first | exact True.intro | exact hk.1 | exact hk | exact ⟨hk.1.1, ⟨hk.1.2.1, ⟨hk.1.2.2.1, ⟨hk.1.2.2.2.1, ⟨hk.1.2.2.2.2, hk.2⟩⟩⟩⟩⟩ | simp only [hk, ne_eq, not_false_eq_true, and_self, and_true, true_and])), (by apply Sq.ra; exact Kd.R_mono HO1286.out (fun _ hk => by first | exact True.intro | exact hk.1 | exact hk | exact ⟨hk.1.1, ⟨hk.1.2.1, ⟨hk.1.2.2.1, ⟨hk.1.2.2.2.1, ⟨hk.1.2.2.2.2.1, ⟨hk.1.2.2.2.2.2.1, ⟨hk.1.2.2.2.2.2.2, hk.2⟩⟩⟩⟩⟩⟩⟩ | simp only [hk, ne_eq, not_false_eq_true, and_self, and_true, true_and])), (by apply Sq.ra; exact Kd.R_mono HO1291.out (fun _ hk => by first | exact True.intro | exact hk.1 | exact hk | exact ⟨hk.1.1, ⟨hk.1.2.1, ⟨hk.1.2.2.1, ⟨hk.1.2.2.2.1, ⟨hk.1.2.2.2.2.1, ⟨hk.1.2.2.2.2.2.1, ⟨hk.1.2.2.2.2.2.2, hk.2⟩⟩⟩⟩⟩⟩⟩ | simp only [hk, ne_eq, not_false_eq_true, and_self, and_true, true_and])), (by apply Sq.ra; exact Kd.R_mono HO1296.out (fun _ hk => by first | exact True.intro | exact hk.1 | exact hk | exact ⟨hk.1.1, ⟨hk.1.2.1, ⟨hk.1.2.2.1, ⟨hk.1.2.2.2.1, ⟨hk.1.2.2.2.2.1, ⟨hk.1.2.2.2.2.2.1, ⟨hk.1.2.2.2.2.2.2, hk.2⟩⟩⟩⟩⟩⟩⟩ | simp only [hk, ne_eq, not_false_eq_true, and_self, and_true, true_and])), (by apply Sq.ra; exact Kd.R_mono HO1303.out (fun _ hk => by first | exact True.intro | exact hk.1 | exact hk | exact ⟨hk.1.1, ⟨hk.1.2.1, ⟨hk.1.2.2.1, ⟨hk.1.2.2.2.1, ⟨hk.1.2.2.2.2.1, ⟨hk.1.2.2.2.2.2.1, ⟨hk.1.2.2.2.2.2.2, hk.2⟩⟩⟩⟩⟩⟩⟩ | simp only [hk, ne_eq, not_false_eq_true, and_self, and_true, true_and])), (by apply Sq.ra; exact Kd.R_mono HO1308.out (fun _ hk => by first | exact True.intro | exact hk.1 | exact hk | exact ⟨hk.1.1, ⟨hk.1.2.1, ⟨hk.1.2.2.1, ⟨hk.1.2.2.2.1, ⟨hk.1.2.2.2.2.1, ⟨hk.1.2.2.2.2.2.1, ⟨hk.1.2.2.2.2.2.2, hk.2⟩⟩⟩⟩⟩⟩⟩ | simp only [hk, ne_eq, not_false_eq_true, and_self, and_true, true_and])), (by apply Sq.rb; exact BK1265.out), (by apply Sq.rb; exact BK1266.out), (by apply Sq.rb; exact BK1282.out), (by apply Sq.rb; exact BK1287.out), (by apply Sq.rb; exact BK1292.out), (by apply Sq.rb; exact BK1298.out), (by repeat (first | (with_reducible first | exact HB.out | apply Sq.rc | refine below_set ?_ GE1265.out | refine below_set ?_ GE1266.out | refine below_set ?_ GE1282.out | refine below_set ?_ GE1287.out | refine below_set ?_ GE1292.out | refine below_set ?_ GE1298.out) | exact HB.out)), fun _ => (by apply Sq.ra; exact Kd.R_mono HO1321.out (fun _ hk => by first | exact True.intro | exact hk.1 | exact hk | exact ⟨hk.1.1, ⟨hk.1.2.1, ⟨hk.1.2.2.1, ⟨hk.1.2.2.2.1, ⟨hk.1.2.2.2.2.1, ⟨hk.1.2.2.2.2.2.1, ⟨hk.1.2.2.2.2.2.2.1, ⟨hk.1.2.2.2.2.2.2.2, hk.2⟩⟩⟩⟩⟩⟩⟩⟩ | simp only [hk, ne_eq, not_false_eq_true, and_self, and_true, true_and])), fun _ => (by apply Sq.ra; exact Kd.R_mono HO1325.out (fun _ hk => by first | exact True.intro | exact hk.1 | exact hk | exact ⟨hk.1.1, ⟨hk.1.2.1, ⟨hk.1.2.2.1, ⟨hk.1.2.2.2.1, ⟨hk.1.2.2.2.2.1, ⟨hk.1.2.2.2.2.2.1, ⟨hk.1.2.2.2.2.2.2.1, ⟨hk.1.2.2.2.2.2.2.2, hk.2⟩⟩⟩⟩⟩⟩⟩⟩ | simp only [hk, ne_eq, not_false_eq_true, and_self, and_true, true_and])), fun _ => (by apply Sq.ra; exact Kd.R_mono HO1329.out (fun _ hk => by first | exact True.intro | exact hk.1 | exact hk | exact ⟨hk.1.1.1.1.1.1.1.1.1.2, ⟨hk.1.1.1.1.1.1.1.1.2, ⟨hk.1.1.1.1.1.1.1.2, ⟨hk.1.1.1.1.1.1.2, ⟨hk.1.1.1.1.1.2, ⟨hk.1.1.1.1.2, ⟨hk.1.1.1.2, ⟨hk.1.1.2, ⟨hk.1.2, hk.2⟩⟩⟩⟩⟩⟩⟩⟩⟩ | simp only [hk, ne_eq, not_false_eq_true, and_self, and_true, true_and])), z_BK1331, Q_GW1331, Q_GE1331, Q_NB1265_1331, Q_NB1331_1265, Q_NB1266_1331, Q_NB1331_1266, Q_NB1282_1331, Q_NB1331_1282, Q_NB1287_1331, Q_NB1331_1287, Q_NB1292_1331, Q_NB1331_1292, Q_NB1298_1331, Q_NB1331_1298, fun h0_ => absurd ((hoff 9 (by kernel_rfl)).symm.trans h0_) (by decide), Q_X1_, Q_X3_, fun _ => rfl, fun h0_ => absurd ((hoff 5 (by kernel_rfl)).symm.trans h0_) (by decide), fun h0_ => absurd ((hoff 6 (by kernel_rfl)).symm.trans h0_) (by decide), Q_X8_⟩
                refine steps_cons ?_ ?_
                ·rintro b a w' ⟨v1320, v1324, v1328, gb1331, m1_, m3_, m4_, m5_, m6_, m8_, ha, Q_HO1272, Q_HO1276, Q_HO1280, Q_HO1286, Q_HO1291, Q_HO1296, Q_HO1303, Q_HO1308, Q_BK1265, Q_BK1266, Q_BK1282, Q_BK1287, Q_BK1292, Q_BK1298, Q_HB, Q_HO1321, Q_HO1325, Q_HO1329, Q_BK1331, Q_GW1331, Q_GE1331, Q_NB1265_1331, Q_NB1331_1265, Q_NB1266_1331, Q_NB1331_1266, Q_NB1282_1331, Q_NB1331_1282, Q_NB1287_1331, Q_NB1331_1287, Q_NB1292_1331, Q_NB1331_1292, Q_NB1298_1331, Q_NB1331_1298, Q_BK1331_e9, Q_X1_, Q_X3_, Q_X4_, Q_X5_, Q_X6_, Q_X8_⟩ hb_ hon hoff
                 refine ⟨_, rfl, fun K hK => ?_⟩
                 have e99 : a.tmps[99]? = some (m4_) := by rw [ha]; exact putSel_on (e := (4, 99, m4_)) 4 rfl rfl (hon 4 (by kernel_rfl)) rfl
                 rw [Q_X4_ (hon 4 (by kernel_rfl))] at e99
                 replace ha := Aside0.mk ha
                 have HO1272 := Aside0.mk Q_HO1272
                 have HO1276 := Aside0.mk Q_HO1276
                 have HO1280 := Aside0.mk Q_HO1280
                 have HO1286 := Aside0.mk Q_HO1286
                 have HO1291 := Aside0.mk Q_HO1291
                 have HO1296 := Aside0.mk Q_HO1296
                 have HO1303 := Aside0.mk Q_HO1303
                 have HO1308 := Aside0.mk Q_HO1308
                 have BK1265 := Aside0.mk Q_BK1265
                 have BK1266 := Aside0.mk Q_BK1266
                 have BK1282 := Aside0.mk Q_BK1282
                 have BK1287 := Aside0.mk Q_BK1287
                 have BK1292 := Aside0.mk Q_BK1292
                 have BK1298 := Aside0.mk Q_BK1298
                 have HB := Aside0.mk Q_HB
                 have HO1321 := Sq.m (Q_HO1321 (hon 1 (by kernel_rfl)))
                 have HO1325 := Sq.m (Q_HO1325 (hon 3 (by kernel_rfl)))
                 have HO1329 := Sq.m (Q_HO1329 (hon 4 (by kernel_rfl)))
                 refine value_ (w1 := w') (v := .tuple #[.agg #[.bool t1326, v1328], .bool t1330]) (by rfl) rfl ?_ ?_
                 ·go_simp
                  (try simp only [i64_w])
                  try rfl
                 refine hK.out _ _ ⟨v1320, v1324, v1328, gb1331, m1_, m3_, m4_, (.tuple #[.agg #[.bool t1326, v1328], .bool t1330]), m6_, m8_, (by rw [ha.out]; exact putSel_upk 5 hb_ rfl rfl rfl), Q_HO1272, Q_HO1276, Q_HO1280, Q_HO1286, Q_HO1291, Q_HO1296, Q_HO1303, Q_HO1308, Q_BK1265, Q_BK1266, Q_BK1282, Q_BK1287, Q_BK1292, Q_BK1298, Q_HB, Q_HO1321, Q_HO1325, Q_HO1329, Q_BK1331, Q_GW1331, Q_GE1331, Q_NB1265_1331, Q_NB1331_1265, Q_NB1266_1331, Q_NB1331_1266, Q_NB1282_1331, Q_NB1331_1282, Q_NB1287_1331, Q_NB1331_1287, Q_NB1292_1331, Q_NB1331_1292, Q_NB1298_1331, Q_NB1331_1298, fun h0_ => absurd ((hoff 9 (by kernel_rfl)).symm.trans h0_) (by decide), Q_X1_, Q_X3_, Q_X4_, fun _ => rfl, fun h0_ => absurd ((hoff 6 (by kernel_rfl)).symm.trans h0_) (by decide), Q_X8_⟩
                refine steps_cons ?_ ?_
                ·rintro b a w' ⟨v1320, v1324, v1328, gb1331, m1_, m3_, m4_, m5_, m6_, m8_, ha, Q_HO1272, Q_HO1276, Q_HO1280, Q_HO1286, Q_HO1291, Q_HO1296, Q_HO1303, Q_HO1308, Q_BK1265, Q_BK1266, Q_BK1282, Q_BK1287, Q_BK1292, Q_BK1298, Q_HB, Q_HO1321, Q_HO1325, Q_HO1329, Q_BK1331, Q_GW1331, Q_GE1331, Q_NB1265_1331, Q_NB1331_1265, Q_NB1266_1331, Q_NB1331_1266, Q_NB1282_1331, Q_NB1331_1282, Q_NB1287_1331, Q_NB1331_1287, Q_NB1292_1331, Q_NB1331_1292, Q_NB1298_1331, Q_NB1331_1298, Q_BK1331_e9, Q_X1_, Q_X3_, Q_X4_, Q_X5_, Q_X6_, Q_X8_⟩ hb_ hon hoff
                 refine ⟨_, rfl, fun K hK => ?_⟩
                 have e94 : a.tmps[94]? = some (m5_) := by rw [ha]; exact putSel_on (e := (5, 94, m5_)) 5 rfl rfl (hon 5 (by kernel_rfl)) rfl
                 rw [Q_X5_ (hon 5 (by kernel_rfl))] at e94
                 replace ha := Aside0.mk ha
                 have HO1272 := Aside0.mk Q_HO1272
                 have HO1276 := Aside0.mk Q_HO1276
                 have HO1280 := Aside0.mk Q_HO1280
                 have HO1286 := Aside0.mk Q_HO1286
                 have HO1291 := Aside0.mk Q_HO1291
                 have HO1296 := Aside0.mk Q_HO1296
                 have HO1303 := Aside0.mk Q_HO1303
                 have HO1308 := Aside0.mk Q_HO1308
                 have BK1265 := Aside0.mk Q_BK1265
                 have BK1266 := Aside0.mk Q_BK1266
                 have BK1282 := Aside0.mk Q_BK1282
                 have BK1287 := Aside0.mk Q_BK1287
                 have BK1292 := Aside0.mk Q_BK1292
                 have BK1298 := Aside0.mk Q_BK1298
                 have HB := Aside0.mk Q_HB
                 have HO1321 := Sq.m (Q_HO1321 (hon 1 (by kernel_rfl)))
                 have HO1325 := Sq.m (Q_HO1325 (hon 3 (by kernel_rfl)))
                 have HO1329 := Sq.m (Q_HO1329 (hon 4 (by kernel_rfl)))
                 refine value_ (w1 := w') (v := .agg #[.bool t1326, v1328]) (by rfl) rfl ?_ ?_
                 ·go_simp
                  (try simp only [i64_w])
                  try rfl
                 refine hK.out _ _ ⟨v1320, v1324, v1328, gb1331, m1_, m3_, m4_, m5_, (.agg #[.bool t1326, v1328]), m8_, (by rw [ha.out]; exact putSel_upk 6 hb_ rfl rfl rfl), Q_HO1272, Q_HO1276, Q_HO1280, Q_HO1286, Q_HO1291, Q_HO1296, Q_HO1303, Q_HO1308, Q_BK1265, Q_BK1266, Q_BK1282, Q_BK1287, Q_BK1292, Q_BK1298, Q_HB, Q_HO1321, Q_HO1325, Q_HO1329, Q_BK1331, Q_GW1331, Q_GE1331, Q_NB1265_1331, Q_NB1331_1265, Q_NB1266_1331, Q_NB1331_1266, Q_NB1282_1331, Q_NB1331_1282, Q_NB1287_1331, Q_NB1331_1287, Q_NB1292_1331, Q_NB1331_1292, Q_NB1298_1331, Q_NB1331_1298, fun h0_ => absurd ((hoff 9 (by kernel_rfl)).symm.trans h0_) (by decide), Q_X1_, Q_X3_, Q_X4_, Q_X5_, fun _ => rfl, Q_X8_⟩
                refine steps_cons ?_ ?_
                ·rintro b a w' ⟨v1320, v1324, v1328, gb1331, m1_, m3_, m4_, m5_, m6_, m8_, ha, Q_HO1272, Q_HO1276, Q_HO1280, Q_HO1286, Q_HO1291, Q_HO1296, Q_HO1303, Q_HO1308, Q_BK1265, Q_BK1266, Q_BK1282, Q_BK1287, Q_BK1292, Q_BK1298, Q_HB, Q_HO1321, Q_HO1325, Q_HO1329, Q_BK1331, Q_GW1331, Q_GE1331, Q_NB1265_1331, Q_NB1331_1265, Q_NB1266_1331, Q_NB1331_1266, Q_NB1282_1331, Q_NB1331_1282, Q_NB1287_1331, Q_NB1331_1287, Q_NB1292_1331, Q_NB1331_1292, Q_NB1298_1331, Q_NB1331_1298, Q_BK1331_e9, Q_X1_, Q_X3_, Q_X4_, Q_X5_, Q_X6_, Q_X8_⟩ hb_ hon hoff
                 refine ⟨_, rfl, fun K hK => ?_⟩
                 have e94 : a.tmps[94]? = some (m5_) := by rw [ha]; exact putSel_on (e := (5, 94, m5_)) 5 rfl rfl (hon 5 (by kernel_rfl)) rfl
                 rw [Q_X5_ (hon 5 (by kernel_rfl))] at e94
                 replace ha := Aside0.mk ha
                 have HO1272 := Aside0.mk Q_HO1272
                 have HO1276 := Aside0.mk Q_HO1276
                 have HO1280 := Aside0.mk Q_HO1280
                 have HO1286 := Aside0.mk Q_HO1286
                 have HO1291 := Aside0.mk Q_HO1291
                 have HO1296 := Aside0.mk Q_HO1296
                 have HO1303 := Aside0.mk Q_HO1303
                 have HO1308 := Aside0.mk Q_HO1308
                 have BK1265 := Aside0.mk Q_BK1265
                 have BK1266 := Aside0.mk Q_BK1266
                 have BK1282 := Aside0.mk Q_BK1282
                 have BK1287 := Aside0.mk Q_BK1287
                 have BK1292 := Aside0.mk Q_BK1292
                 have BK1298 := Aside0.mk Q_BK1298
                 have HB := Aside0.mk Q_HB
                 have HO1321 := Sq.m (Q_HO1321 (hon 1 (by kernel_rfl)))
                 have HO1325 := Sq.m (Q_HO1325 (hon 3 (by kernel_rfl)))
                 have HO1329 := Sq.m (Q_HO1329 (hon 4 (by kernel_rfl)))
                 refine value_ (w1 := w') (v := .bool t1330) (by rfl) rfl ?_ ?_
                 ·go_simp
                  (try simp only [i64_w])
                  try rfl
                 refine hK.out _ _ ⟨v1320, v1324, v1328, gb1331, m1_, m3_, m4_, m5_, m6_, m8_, (by rw [ha.out]; exact putSel_upk 7 hb_ rfl rfl rfl), Q_HO1272, Q_HO1276, Q_HO1280, Q_HO1286, Q_HO1291, Q_HO1296, Q_HO1303, Q_HO1308, Q_BK1265, Q_BK1266, Q_BK1282, Q_BK1287, Q_BK1292, Q_BK1298, Q_HB, Q_HO1321, Q_HO1325, Q_HO1329, Q_BK1331, Q_GW1331, Q_GE1331, Q_NB1265_1331, Q_NB1331_1265, Q_NB1266_1331, Q_NB1331_1266, Q_NB1282_1331, Q_NB1331_1282, Q_NB1287_1331, Q_NB1331_1287, Q_NB1292_1331, Q_NB1331_1292, Q_NB1298_1331, Q_NB1331_1298, Q_BK1331_e9, Q_X1_, Q_X3_, Q_X4_, Q_X5_, Q_X6_, Q_X8_⟩
                refine steps_cons ?_ ?_
                ·rintro b a w' ⟨v1320, v1324, v1328, gb1331, m1_, m3_, m4_, m5_, m6_, m8_, ha, Q_HO1272, Q_HO1276, Q_HO1280, Q_HO1286, Q_HO1291, Q_HO1296, Q_HO1303, Q_HO1308, Q_BK1265, Q_BK1266, Q_BK1282, Q_BK1287, Q_BK1292, Q_BK1298, Q_HB, Q_HO1321, Q_HO1325, Q_HO1329, Q_BK1331, Q_GW1331, Q_GE1331, Q_NB1265_1331, Q_NB1331_1265, Q_NB1266_1331, Q_NB1331_1266, Q_NB1282_1331, Q_NB1331_1282, Q_NB1287_1331, Q_NB1331_1287, Q_NB1292_1331, Q_NB1331_1292, Q_NB1298_1331, Q_NB1331_1298, Q_BK1331_e9, Q_X1_, Q_X3_, Q_X4_, Q_X5_, Q_X6_, Q_X8_⟩ hb_ hon hoff
                 refine ⟨_, rfl, fun K hK => ?_⟩
                 replace ha := Aside0.mk ha
                 have HO1272 := Aside0.mk Q_HO1272
                 have HO1276 := Aside0.mk Q_HO1276
                 have HO1280 := Aside0.mk Q_HO1280
                 have HO1286 := Aside0.mk Q_HO1286
                 have HO1291 := Aside0.mk Q_HO1291
                 have HO1296 := Aside0.mk Q_HO1296
                 have HO1303 := Aside0.mk Q_HO1303
                 have HO1308 := Aside0.mk Q_HO1308
                 have BK1265 := Aside0.mk Q_BK1265
                 have BK1266 := Aside0.mk Q_BK1266
                 have BK1282 := Aside0.mk Q_BK1282
                 have BK1287 := Aside0.mk Q_BK1287
                 have BK1292 := Aside0.mk Q_BK1292
                 have BK1298 := Aside0.mk Q_BK1298
                 have HB := Aside0.mk Q_HB
                 refine box_step ?hg (N := 15) ?hd (cs := #[.bool false, .slice none 0 0]) (t := 59) ?hr ?_; (case hd => rfl); (case hg => rfl); (case hr => first | (go_simp; done) | (go_simp; rfl))
                 intro gb1331 hg w122 hbox hb
                 have n0_ := Sq.m (Kd.R_below (by apply Sq.ra; exact HO1272.out) hb)
                 have n1_ := Sq.m (Kd.R_below (by apply Sq.ra; exact HO1276.out) hb)
                 have n2_ := Sq.m (Kd.R_below (by apply Sq.ra; exact HO1280.out) hb)
                 have n3_ := Sq.m (Kd.R_below (by apply Sq.ra; exact HO1286.out) hb)
                 have n4_ := Sq.m (Kd.R_below (by apply Sq.ra; exact HO1291.out) hb)
                 have n5_ := Sq.m (Kd.R_below (by apply Sq.ra; exact HO1296.out) hb)
                 have n6_ := Sq.m (Kd.R_below (by apply Sq.ra; exact HO1303.out) hb)
                 have n7_ := Sq.m (Kd.R_below (by apply Sq.ra; exact HO1308.out) hb)
                 have n8_ := Sq.m (blk_below (g := gb1265) (o := .cells #[.bool a0_0, .slice A0_1 l0_1.length c0_1] 56 (0, 0)) (by apply Sq.rb; exact BK1265.out) hb)
                 have n9_ := Sq.m (blk_below (g := gb1266) (o := .cells #[.bool a1_0, .slice A1_1 l1_1.length c1_1] 56 (0, 0)) (by apply Sq.rb; exact BK1266.out) hb)
                 have n10_ := Sq.m (blk_below (g := gb1282) (o := .cells #[.bool t1277, .slice Ao100 t1278.length co100] 59 (0, 0)) (by apply Sq.rb; exact BK1282.out) hb)
                 have n11_ := Sq.m (blk_below (g := gb1287) (o := .cells #[.bool t1283, .slice Ao78 t1284.length co78] 59 (0, 0)) (by apply Sq.rb; exact BK1287.out) hb)
                 have n12_ := Sq.m (blk_below (g := gb1292) (o := .cells #[.bool t1288, .slice Ao88 t1289.length co88] 59 (0, 0)) (by apply Sq.rb; exact BK1292.out) hb)
                 have n13_ := Sq.m (blk_below (g := gb1298) (o := .cells #[.bool t1293, .slice Ao98 t1294.length co98] 59 (0, 0)) (by apply Sq.rb; exact BK1298.out) hb)
                 have n14_ := Sq.m (below_step (by repeat (first | (with_reducible first | exact HB.out | apply Sq.rc | refine below_set ?_ GE1265.out | refine below_set ?_ GE1266.out | refine below_set ?_ GE1282.out | refine below_set ?_ GE1287.out | refine below_set ?_ GE1292.out | refine below_set ?_ GE1298.out) | exact HB.out)) hb)
                 have n15_ := Sq.m (hbox)
                 have n16_ := Sq.m ((by rw [hg]; exact (below_size (by repeat (first | (with_reducible first | exact HB.out | apply Sq.rc | refine below_set ?_ GE1265.out | refine below_set ?_ GE1266.out | refine below_set ?_ GE1282.out | refine below_set ?_ GE1287.out | refine below_set ?_ GE1292.out | refine below_set ?_ GE1298.out) | exact HB.out))) : w.heap.size ≤ gb1331))
                 have n17_ := Sq.m ((by rw [hg]; exact (below_size (by repeat (first | (with_reducible first | exact HB.out | apply Sq.rc | refine below_set ?_ GE1265.out | refine below_set ?_ GE1266.out | refine below_set ?_ GE1282.out | refine below_set ?_ GE1287.out | refine below_set ?_ GE1292.out | refine below_set ?_ GE1298.out) | exact HB.out))) : w.heap.size ≤ gb1331))
                 have n18_ := Sq.m ((by rw [hg]; exact Nat.ne_of_lt (blk_lt (g := gb1265) (o := .cells #[.bool a0_0, .slice A0_1 l0_1.length c0_1] 56 (0, 0)) (by apply Sq.rb; exact BK1265.out)) : gb1265 ≠ gb1331))
                 have n19_ := Sq.m ((by rw [hg]; exact Nat.ne_of_gt (blk_lt (g := gb1265) (o := .cells #[.bool a0_0, .slice A0_1 l0_1.length c0_1] 56 (0, 0)) (by apply Sq.rb; exact BK1265.out)) : gb1331 ≠ gb1265))
                 have n20_ := Sq.m ((by rw [hg]; exact Nat.ne_of_lt (blk_lt (g := gb1266) (o := .cells #[.bool a1_0, .slice A1_1 l1_1.length c1_1] 56 (0, 0)) (by apply Sq.rb; exact BK1266.out)) : gb1266 ≠ gb1331))
                 have n21_ := Sq.m ((by rw [hg]; exact Nat.ne_of_gt (blk_lt (g := gb1266) (o := .cells #[.bool a1_0, .slice A1_1 l1_1.length c1_1] 56 (0, 0)) (by apply Sq.rb; exact BK1266.out)) : gb1331 ≠ gb1266))
                 have n22_ := Sq.m ((by rw [hg]; exact Nat.ne_of_lt (blk_lt (g := gb1282) (o := .cells #[.bool t1277, .slice Ao100 t1278.length co100] 59 (0, 0)) (by apply Sq.rb; exact BK1282.out)) : gb1282 ≠ gb1331))
                 have n23_ := Sq.m ((by rw [hg]; exact Nat.ne_of_gt (blk_lt (g := gb1282) (o := .cells #[.bool t1277, .slice Ao100 t1278.length co100] 59 (0, 0)) (by apply Sq.rb; exact BK1282.out)) : gb1331 ≠ gb1282))
                 have n24_ := Sq.m ((by rw [hg]; exact Nat.ne_of_lt (blk_lt (g := gb1287) (o := .cells #[.bool t1283, .slice Ao78 t1284.length co78] 59 (0, 0)) (by apply Sq.rb; exact BK1287.out)) : gb1287 ≠ gb1331))
                 have n25_ := Sq.m ((by rw [hg]; exact Nat.ne_of_gt (blk_lt (g := gb1287) (o := .cells #[.bool t1283, .slice Ao78 t1284.length co78] 59 (0, 0)) (by apply Sq.rb; exact BK1287.out)) : gb1331 ≠ gb1287))
                 have n26_ := Sq.m ((by rw [hg]; exact Nat.ne_of_lt (blk_lt (g := gb1292) (o := .cells #[.bool t1288, .slice Ao88 t1289.length co88] 59 (0, 0)) (by apply Sq.rb; exact BK1292.out)) : gb1292 ≠ gb1331))
                 have n27_ := Sq.m ((by rw [hg]; exact Nat.ne_of_gt (blk_lt (g := gb1292) (o := .cells #[.bool t1288, .slice Ao88 t1289.length co88] 59 (0, 0)) (by apply Sq.rb; exact BK1292.out)) : gb1331 ≠ gb1292))
                 have n28_ := Sq.m ((by rw [hg]; exact Nat.ne_of_lt (blk_lt (g := gb1298) (o := .cells #[.bool t1293, .slice Ao98 t1294.length co98] 59 (0, 0)) (by apply Sq.rb; exact BK1298.out)) : gb1298 ≠ gb1331))
                 have n29_ := Sq.m ((by rw [hg]; exact Nat.ne_of_gt (blk_lt (g := gb1298) (o := .cells #[.bool t1293, .slice Ao98 t1294.length co98] 59 (0, 0)) (by apply Sq.rb; exact BK1298.out)) : gb1331 ≠ gb1298))
                 have z_HO1321 := fun (h0_ : b 1 = true) => (show Kd.R (Kd.int .i64) 3 w122 w.heap.size (fun k_ => some k_ ≠ (v1271 : Value).ownBlock ∧ some k_ ≠ (v1275 : Value).ownBlock ∧ some k_ ≠ (.slice Ao100 t1278.length co100 : Value).ownBlock ∧ some k_ ≠ (.slice Ao78 t1284.length co78 : Value).ownBlock ∧ some k_ ≠ (.slice Ao88 t1289.length co88 : Value).ownBlock ∧ some k_ ≠ (.slice Ao98 t1294.length co98 : Value).ownBlock ∧ some k_ ≠ (.slice Ao104 t1301.length co104 : Value).ownBlock ∧ some k_ ≠ (.slice Ao108 t1306.length co108 : Value).ownBlock) v1320 t1319 from by first | exact (Kd.R_below (by apply Sq.ra; exact (Q_HO1321 h0_)) hb) | exact Kd.R_mono (Kd.R_below (by apply Sq.ra; exact (Q_HO1321 h0_)) hb) (fun _ h_ => by first | trivial | exact h_ | exact h_.1))
                 have z_HO1325 := fun (h0_ : b 3 = true) => (show Kd.R (Kd.int .i64) 3 w122 w.heap.size (fun k_ => some k_ ≠ (v1271 : Value).ownBlock ∧ some k_ ≠ (v1275 : Value).ownBlock ∧ some k_ ≠ (.slice Ao100 t1278.length co100 : Value).ownBlock ∧ some k_ ≠ (.slice Ao78 t1284.length co78 : Value).ownBlock ∧ some k_ ≠ (.slice Ao88 t1289.length co88 : Value).ownBlock ∧ some k_ ≠ (.slice Ao98 t1294.length co98 : Value).ownBlock ∧ some k_ ≠ (.slice Ao104 t1301.length co104 : Value).ownBlock ∧ some k_ ≠ (.slice Ao108 t1306.length co108 : Value).ownBlock) v1324 t1323 from by first | exact (Kd.R_below (by apply Sq.ra; exact (Q_HO1325 h0_)) hb) | exact Kd.R_mono (Kd.R_below (by apply Sq.ra; exact (Q_HO1325 h0_)) hb) (fun _ h_ => by first | trivial | exact h_ | exact h_.1))
                 have z_HO1329 := fun (h0_ : b 4 = true) => (show Kd.R (Kd.int .i64) 3 w122 w.heap.size (fun k_ => some k_ ≠ (v1271 : Value).ownBlock ∧ some k_ ≠ (v1275 : Value).ownBlock ∧ some k_ ≠ (.slice Ao100 t1278.length co100 : Value).ownBlock ∧ some k_ ≠ (.slice Ao78 t1284.length co78 : Value).ownBlock ∧ some k_ ≠ (.slice Ao88 t1289.length co88 : Value).ownBlock ∧ some k_ ≠ (.slice Ao98 t1294.length co98 : Value).ownBlock ∧ some k_ ≠ (.slice Ao104 t1301.length co104 : Value).ownBlock ∧ some k_ ≠ (.slice Ao108 t1306.length co108 : Value).ownBlock) v1328 t1327 from by first | exact (Kd.R_below (by apply Sq.ra; exact (Q_HO1329 h0_)) hb) | exact Kd.R_mono (Kd.R_below (by apply Sq.ra; exact (Q_HO1329 h0_)) hb) (fun _ h_ => by first | trivial | exact h_ | exact h_.1))
                 clear HO1272
                 clear HO1276
                 clear HO1280
                 clear HO1286
                 clear HO1291
                 clear HO1296
                 clear HO1303
                 clear HO1308
                 clear BK1265
                 clear BK1266
                 clear BK1282
                 clear BK1287
                 clear BK1292
                 clear BK1298
                 clear HB
                 have HO1272 := n0_
                 have HO1276 := n1_
                 have HO1280 := n2_
                 have HO1286 := n3_
                 have HO1291 := n4_
                 have HO1296 := n5_
                 have HO1303 := n6_
                 have HO1308 := n7_
                 have BK1265 := n8_
                 have BK1266 := n9_
                 have BK1282 := n10_
                 have BK1287 := n11_
                 have BK1292 := n12_
                 have BK1298 := n13_
                 have HB := n14_
                 have BK1331 := n15_
                 have GW1331 := n16_
                 have GE1331 := n17_
                 have NB1265_1331 := n18_
                 have NB1331_1265 := n19_
                 have NB1266_1331 := n20_
                 have NB1331_1266 := n21_
                 have NB1282_1331 := n22_
                 have NB1331_1282 := n23_
                 have NB1287_1331 := n24_
                 have NB1331_1287 := n25_
                 have NB1292_1331 := n26_
                 have NB1331_1292 := n27_
                 have NB1298_1331 := n28_
                 have NB1331_1298 := n29_
                 clear n0_ n1_ n2_ n3_ n4_ n5_ n6_ n7_ n8_ n9_ n10_ n11_ n12_ n13_ n14_ n15_ n16_ n17_ n18_ n19_ n20_ n21_ n22_ n23_ n24_ n25_ n26_ n27_ n28_ n29_
                 clear hb hbox hg
                 refine hK.out _ _ ⟨v1320, v1324, v1328, gb1331, m1_, m3_, m4_, m5_, m6_, (.pointer (some ⟨gb1331, 0, none⟩)), (by rw [ha.out]; exact putSel_upk 8 hb_ rfl rfl rfl), (by apply Sq.ra; exact HO1272.out), (by apply Sq.ra; exact HO1276.out), (by apply Sq.ra; exact HO1280.out), (by apply Sq.ra; exact HO1286.out), (by apply Sq.ra; exact HO1291.out), (by apply Sq.ra; exact HO1296.out), (by apply Sq.ra; exact HO1303.out), (by apply Sq.ra; exact HO1308.out), (by apply Sq.rb; exact BK1265.out), (by apply Sq.rb; exact BK1266.out), (by apply Sq.rb; exact BK1282.out), (by apply Sq.rb; exact BK1287.out), (by apply Sq.rb; exact BK1292.out), (by apply Sq.rb; exact BK1298.out), (by repeat (first | (with_reducible first | exact HB.out | apply Sq.rc | refine below_set ?_ GE1265.out | refine below_set ?_ GE1266.out | refine below_set ?_ GE1282.out | refine below_set ?_ GE1287.out | refine below_set ?_ GE1292.out | refine below_set ?_ GE1298.out | refine below_set ?_ GE1331.out) | exact HB.out)), z_HO1321, z_HO1325, z_HO1329, fun _ _ => (by apply Sq.rb; exact BK1331.out), fun _ => GW1331.out, fun _ => GE1331.out, fun _ => NB1265_1331.out, fun _ => NB1331_1265.out, fun _ => NB1266_1331.out, fun _ => NB1331_1266.out, fun _ => NB1282_1331.out, fun _ => NB1331_1282.out, fun _ => NB1287_1331.out, fun _ => NB1331_1287.out, fun _ => NB1292_1331.out, fun _ => NB1331_1292.out, fun _ => NB1298_1331.out, fun _ => NB1331_1298.out, fun h0_ => absurd ((hoff 9 (by kernel_rfl)).symm.trans h0_) (by decide), Q_X1_, Q_X3_, Q_X4_, Q_X5_, Q_X6_, fun _ => rfl⟩
                refine steps_cons ?_ ?_
                ·rintro b a w' ⟨v1320, v1324, v1328, gb1331, m1_, m3_, m4_, m5_, m6_, m8_, ha, Q_HO1272, Q_HO1276, Q_HO1280, Q_HO1286, Q_HO1291, Q_HO1296, Q_HO1303, Q_HO1308, Q_BK1265, Q_BK1266, Q_BK1282, Q_BK1287, Q_BK1292, Q_BK1298, Q_HB, Q_HO1321, Q_HO1325, Q_HO1329, Q_BK1331, Q_GW1331, Q_GE1331, Q_NB1265_1331, Q_NB1331_1265, Q_NB1266_1331, Q_NB1331_1266, Q_NB1282_1331, Q_NB1331_1282, Q_NB1287_1331, Q_NB1331_1287, Q_NB1292_1331, Q_NB1331_1292, Q_NB1298_1331, Q_NB1331_1298, Q_BK1331_e9, Q_X1_, Q_X3_, Q_X4_, Q_X5_, Q_X6_, Q_X8_⟩ hb_ hon hoff
                 refine ⟨_, rfl, fun K hK => ?_⟩
                 have e15 : a.tmps[15]? = some (m8_) := by rw [ha]; exact putSel_on (e := (8, 15, m8_)) 8 rfl rfl (hon 8 (by kernel_rfl)) rfl
                 rw [Q_X8_ (hon 8 (by kernel_rfl))] at e15
                 have e100 : a.tmps[100]? = some (m6_) := by rw [ha]; exact putSel_on (e := (6, 100, m6_)) 6 rfl rfl (hon 6 (by kernel_rfl)) rfl
                 rw [Q_X6_ (hon 6 (by kernel_rfl))] at e100
                 replace ha := Aside0.mk ha
                 have HO1272 := Aside0.mk Q_HO1272
                 have HO1276 := Aside0.mk Q_HO1276
                 have HO1280 := Aside0.mk Q_HO1280
                 have HO1286 := Aside0.mk Q_HO1286
                 have HO1291 := Aside0.mk Q_HO1291
                 have HO1296 := Aside0.mk Q_HO1296
                 have HO1303 := Aside0.mk Q_HO1303
                 have HO1308 := Aside0.mk Q_HO1308
                 have BK1265 := Aside0.mk Q_BK1265
                 have BK1266 := Aside0.mk Q_BK1266
                 have BK1282 := Aside0.mk Q_BK1282
                 have BK1287 := Aside0.mk Q_BK1287
                 have BK1292 := Aside0.mk Q_BK1292
                 have BK1298 := Aside0.mk Q_BK1298
                 have HB := Aside0.mk Q_HB
                 have HO1321 := Sq.m (Q_HO1321 (hon 1 (by kernel_rfl)))
                 have HO1325 := Sq.m (Q_HO1325 (hon 3 (by kernel_rfl)))
                 have HO1329 := Sq.m (Q_HO1329 (hon 4 (by kernel_rfl)))
                 have BK1331 := Sq.m (Q_BK1331 (hon 8 (by kernel_rfl)) hb_)
                 have GW1331 := Sq.m (Q_GW1331 (hon 8 (by kernel_rfl)))
                 have GE1331 := Sq.m (Q_GE1331 (hon 8 (by kernel_rfl)))
                 have NB1265_1331 := Sq.m (Q_NB1265_1331 (hon 8 (by kernel_rfl)))
                 have NB1331_1265 := Sq.m (Q_NB1331_1265 (hon 8 (by kernel_rfl)))
                 have NB1266_1331 := Sq.m (Q_NB1266_1331 (hon 8 (by kernel_rfl)))
                 have NB1331_1266 := Sq.m (Q_NB1331_1266 (hon 8 (by kernel_rfl)))
                 have NB1282_1331 := Sq.m (Q_NB1282_1331 (hon 8 (by kernel_rfl)))
                 have NB1331_1282 := Sq.m (Q_NB1331_1282 (hon 8 (by kernel_rfl)))
                 have NB1287_1331 := Sq.m (Q_NB1287_1331 (hon 8 (by kernel_rfl)))
                 have NB1331_1287 := Sq.m (Q_NB1331_1287 (hon 8 (by kernel_rfl)))
                 have NB1292_1331 := Sq.m (Q_NB1292_1331 (hon 8 (by kernel_rfl)))
                 have NB1331_1292 := Sq.m (Q_NB1331_1292 (hon 8 (by kernel_rfl)))
                 have NB1298_1331 := Sq.m (Q_NB1298_1331 (hon 8 (by kernel_rfl)))
                 have NB1331_1298 := Sq.m (Q_NB1331_1298 (hon 8 (by kernel_rfl)))
                 obtain ⟨Ao130, co130, eo130⟩ := Kd.R_slice HO1329.out
                 (first | subst eo130 | (injection eo130 with f1_ f2_ f3_; have f4_ := f1_.symm; have f5_ := f3_.symm; clear f1_ f2_ f3_; subst f4_; subst f5_))
                 have hs129 : w'.cell? ⟨gb1331, 0, none⟩ = some (.bool false) := (blk_cell BK1331.out 0).trans rfl
                 have hfs129 := blk_frozen BK1331.out 0
                 have hns129_0 := NB1265_1331.out
                 have hns129_1 := NB1266_1331.out
                 have hns129_2 := NB1282_1331.out
                 have hns129_3 := NB1287_1331.out
                 have hns129_4 := NB1292_1331.out
                 have hns129_5 := NB1298_1331.out
                 have hms129_0 := NB1331_1265.out
                 have hms129_1 := NB1331_1266.out
                 have hms129_2 := NB1331_1282.out
                 have hms129_3 := NB1331_1287.out
                 have hms129_4 := NB1331_1292.out
                 have hms129_5 := NB1331_1298.out
                 have hs131 : w'.cell? ⟨gb1331, 1, none⟩ = some (.slice none 0 0) := (blk_cell BK1331.out 1).trans rfl
                 have hfs131 := blk_frozen BK1331.out 1
                 have hns131_0 := NB1265_1331.out
                 have hns131_1 := NB1266_1331.out
                 have hns131_2 := NB1282_1331.out
                 have hns131_3 := NB1287_1331.out
                 have hns131_4 := NB1292_1331.out
                 have hns131_5 := NB1298_1331.out
                 have hms131_0 := NB1331_1265.out
                 have hms131_1 := NB1331_1266.out
                 have hms131_2 := NB1331_1282.out
                 have hms131_3 := NB1331_1287.out
                 have hms131_4 := NB1331_1292.out
                 have hms131_5 := NB1331_1298.out
                 refine skip_ (w1 := ?_) (by rfl) rfl ?_ ?_
                 rotate_left
                 ·go_simp
                  rfl
                 refine hK.out _ _ ⟨v1320, v1324, .slice Ao130 t1327.length co130, gb1331, m1_, m3_, m4_, m5_, m6_, m8_, (by rw [ha.out]; exact putSel_none (v := undef) rfl), (by apply Sq.ra; exact Kd.R_mono (Kd.R_far (p := ⟨gb1331, 1, none⟩) (Kd.R_far (p := ⟨gb1331, 0, none⟩) (Kd.R_types HO1272.out BK1331.out (by decide)) (fun _ hk => hk.2) (.bool t1326)) (fun _ hk => hk.2) (.slice Ao130 t1327.length co130)) (fun _ hk => ⟨hk.1.1, ⟨hk.1.2.1, ⟨hk.1.2.2.1, ⟨hk.1.2.2.2.1, hk.1.2.2.2.2⟩⟩⟩⟩)), (by apply Sq.ra; exact Kd.R_mono (Kd.R_far (p := ⟨gb1331, 1, none⟩) (Kd.R_far (p := ⟨gb1331, 0, none⟩) (Kd.R_types HO1276.out BK1331.out (by decide)) (fun _ hk => hk.2) (.bool t1326)) (fun _ hk => hk.2) (.slice Ao130 t1327.length co130)) (fun _ hk => ⟨hk.1.1, ⟨hk.1.2.1, ⟨hk.1.2.2.1, ⟨hk.1.2.2.2.1, hk.1.2.2.2.2⟩⟩⟩⟩)), (by apply Sq.ra; exact Kd.R_mono (Kd.R_far (p := ⟨gb1331, 1, none⟩) (Kd.R_far (p := ⟨gb1331, 0, none⟩) (Kd.R_types HO1280.out BK1331.out (by decide)) (fun _ hk => hk.2) (.bool t1326)) (fun _ hk => hk.2) (.slice Ao130 t1327.length co130)) (fun _ hk => ⟨hk.1.1, ⟨hk.1.2.1, ⟨hk.1.2.2.1, ⟨hk.1.2.2.2.1, hk.1.2.2.2.2⟩⟩⟩⟩)), (by apply Sq.ra; exact Kd.R_mono (Kd.R_far (p := ⟨gb1331, 1, none⟩) (Kd.R_far (p := ⟨gb1331, 0, none⟩) (Kd.R_types HO1286.out BK1331.out (by decide)) (fun _ hk => hk.2) (.bool t1326)) (fun _ hk => hk.2) (.slice Ao130 t1327.length co130)) (fun _ hk => ⟨hk.1.1, ⟨hk.1.2.1, ⟨hk.1.2.2.1, ⟨hk.1.2.2.2.1, ⟨hk.1.2.2.2.2.1, ⟨hk.1.2.2.2.2.2.1, hk.1.2.2.2.2.2.2⟩⟩⟩⟩⟩⟩)), (by apply Sq.ra; exact Kd.R_mono (Kd.R_far (p := ⟨gb1331, 1, none⟩) (Kd.R_far (p := ⟨gb1331, 0, none⟩) (Kd.R_types HO1291.out BK1331.out (by decide)) (fun _ hk => hk.2) (.bool t1326)) (fun _ hk => hk.2) (.slice Ao130 t1327.length co130)) (fun _ hk => ⟨hk.1.1, ⟨hk.1.2.1, ⟨hk.1.2.2.1, ⟨hk.1.2.2.2.1, ⟨hk.1.2.2.2.2.1, ⟨hk.1.2.2.2.2.2.1, hk.1.2.2.2.2.2.2⟩⟩⟩⟩⟩⟩)), (by apply Sq.ra; exact Kd.R_mono (Kd.R_far (p := ⟨gb1331, 1, none⟩) (Kd.R_far (p := ⟨gb1331, 0, none⟩) (Kd.R_types HO1296.out BK1331.out (by decide)) (fun _ hk => hk.2) (.bool t1326)) (fun _ hk => hk.2) (.slice Ao130 t1327.length co130)) (fun _ hk => ⟨hk.1.1, ⟨hk.1.2.1, ⟨hk.1.2.2.1, ⟨hk.1.2.2.2.1, ⟨hk.1.2.2.2.2.1, ⟨hk.1.2.2.2.2.2.1, hk.1.2.2.2.2.2.2⟩⟩⟩⟩⟩⟩)), (by apply Sq.ra; exact Kd.R_mono (Kd.R_far (p := ⟨gb1331, 1, none⟩) (Kd.R_far (p := ⟨gb1331, 0, none⟩) (Kd.R_types HO1303.out BK1331.out (by decide)) (fun _ hk => hk.2) (.bool t1326)) (fun _ hk => hk.2) (.slice Ao130 t1327.length co130)) (fun _ hk => ⟨hk.1.1, ⟨hk.1.2.1, ⟨hk.1.2.2.1, ⟨hk.1.2.2.2.1, ⟨hk.1.2.2.2.2.1, ⟨hk.1.2.2.2.2.2.1, hk.1.2.2.2.2.2.2⟩⟩⟩⟩⟩⟩)), (by apply Sq.ra; exact Kd.R_mono (Kd.R_far (p := ⟨gb1331, 1, none⟩) (Kd.R_far (p := ⟨gb1331, 0, none⟩) (Kd.R_types HO1308.out BK1331.out (by decide)) (fun _ hk => hk.2) (.bool t1326)) (fun _ hk => hk.2) (.slice Ao130 t1327.length co130)) (fun _ hk => ⟨hk.1.1, ⟨hk.1.2.1, ⟨hk.1.2.2.1, ⟨hk.1.2.2.2.1, ⟨hk.1.2.2.2.2.1, ⟨hk.1.2.2.2.2.2.1, hk.1.2.2.2.2.2.2⟩⟩⟩⟩⟩⟩)), (by apply Sq.rb; refine blk_far ?_ NB1265_1331.out _; apply Sq.rb; refine blk_far ?_ NB1265_1331.out _; apply Sq.rb; exact BK1265.out), (by apply Sq.rb; refine blk_far ?_ NB1266_1331.out _; apply Sq.rb; refine blk_far ?_ NB1266_1331.out _; apply Sq.rb; exact BK1266.out), (by apply Sq.rb; refine blk_far ?_ NB1282_1331.out _; apply Sq.rb; refine blk_far ?_ NB1282_1331.out _; apply Sq.rb; exact BK1282.out), (by apply Sq.rb; refine blk_far ?_ NB1287_1331.out _; apply Sq.rb; refine blk_far ?_ NB1287_1331.out _; apply Sq.rb; exact BK1287.out), (by apply Sq.rb; refine blk_far ?_ NB1292_1331.out _; apply Sq.rb; refine blk_far ?_ NB1292_1331.out _; apply Sq.rb; exact BK1292.out), (by apply Sq.rb; refine blk_far ?_ NB1298_1331.out _; apply Sq.rb; refine blk_far ?_ NB1298_1331.out _; apply Sq.rb; exact BK1298.out), (by repeat (first | (with_reducible first | exact HB.out | apply Sq.rc | refine below_set ?_ GE1265.out | refine below_set ?_ GE1266.out | refine below_set ?_ GE1282.out | refine below_set ?_ GE1287.out | refine below_set ?_ GE1292.out | refine below_set ?_ GE1298.out | refine below_set ?_ GE1331.out) | exact HB.out)), fun _ => (by apply Sq.ra; exact Kd.R_mono (Kd.R_far (p := ⟨gb1331, 1, none⟩) (Kd.R_far (p := ⟨gb1331, 0, none⟩) (Kd.R_types HO1321.out BK1331.out (by decide)) (fun _ hk => hk.2) (.bool t1326)) (fun _ hk => hk.2) (.slice Ao130 t1327.length co130)) (fun _ hk => ⟨hk.1.1, ⟨hk.1.2.1, ⟨hk.1.2.2.1, ⟨hk.1.2.2.2.1, ⟨hk.1.2.2.2.2.1, ⟨hk.1.2.2.2.2.2.1, ⟨hk.1.2.2.2.2.2.2.1, hk.1.2.2.2.2.2.2.2⟩⟩⟩⟩⟩⟩⟩)), fun _ => (by apply Sq.ra; exact Kd.R_mono (Kd.R_far (p := ⟨gb1331, 1, none⟩) (Kd.R_far (p := ⟨gb1331, 0, none⟩) (Kd.R_types HO1325.out BK1331.out (by decide)) (fun _ hk => hk.2) (.bool t1326)) (fun _ hk => hk.2) (.slice Ao130 t1327.length co130)) (fun _ hk => ⟨hk.1.1, ⟨hk.1.2.1, ⟨hk.1.2.2.1, ⟨hk.1.2.2.2.1, ⟨hk.1.2.2.2.2.1, ⟨hk.1.2.2.2.2.2.1, ⟨hk.1.2.2.2.2.2.2.1, hk.1.2.2.2.2.2.2.2⟩⟩⟩⟩⟩⟩⟩)), fun _ => (by apply Sq.ra; exact Kd.R_mono (Kd.R_far (p := ⟨gb1331, 1, none⟩) (Kd.R_far (p := ⟨gb1331, 0, none⟩) (Kd.R_types HO1329.out BK1331.out (by decide)) (fun _ hk => hk.2) (.bool t1326)) (fun _ hk => hk.2) (.slice Ao130 t1327.length co130)) (fun _ hk => ⟨hk.1.1, ⟨hk.1.2.1, ⟨hk.1.2.2.1, ⟨hk.1.2.2.2.1, ⟨hk.1.2.2.2.2.1, ⟨hk.1.2.2.2.2.2.1, ⟨hk.1.2.2.2.2.2.2.1, hk.1.2.2.2.2.2.2.2⟩⟩⟩⟩⟩⟩⟩)), fun _ h1_ => absurd ((up_self b 9).symm.trans h1_) (by decide), fun _ => GW1331.out, fun _ => GE1331.out, fun _ => NB1265_1331.out, fun _ => NB1331_1265.out, fun _ => NB1266_1331.out, fun _ => NB1331_1266.out, fun _ => NB1282_1331.out, fun _ => NB1331_1282.out, fun _ => NB1287_1331.out, fun _ => NB1331_1287.out, fun _ => NB1292_1331.out, fun _ => NB1331_1292.out, fun _ => NB1298_1331.out, fun _ => NB1331_1298.out, fun _ => (by apply Sq.rb; refine blk_put (cs := #[.bool t1326, .slice none 0 0]) ?_ 1 _ rfl; apply Sq.rb; refine blk_put (cs := #[.bool false, .slice none 0 0]) ?_ 0 _ rfl; apply Sq.rb; exact BK1331.out), Q_X1_, Q_X3_, Q_X4_, Q_X5_, Q_X6_, Q_X8_⟩
                refine steps_cons ?_ ?_
                ·rintro b a w' ⟨v1320, v1324, v1328, gb1331, m1_, m3_, m4_, m5_, m6_, m8_, ha, Q_HO1272, Q_HO1276, Q_HO1280, Q_HO1286, Q_HO1291, Q_HO1296, Q_HO1303, Q_HO1308, Q_BK1265, Q_BK1266, Q_BK1282, Q_BK1287, Q_BK1292, Q_BK1298, Q_HB, Q_HO1321, Q_HO1325, Q_HO1329, Q_BK1331, Q_GW1331, Q_GE1331, Q_NB1265_1331, Q_NB1331_1265, Q_NB1266_1331, Q_NB1331_1266, Q_NB1282_1331, Q_NB1331_1282, Q_NB1287_1331, Q_NB1331_1287, Q_NB1292_1331, Q_NB1331_1292, Q_NB1298_1331, Q_NB1331_1298, Q_BK1331_e9, Q_X1_, Q_X3_, Q_X4_, Q_X5_, Q_X6_, Q_X8_⟩ hb_ hon hoff
                 refine ⟨_, rfl, fun K hK => ?_⟩
                 have e101 : a.tmps[101]? = some (.bool t1330) := by rw [ha]; exact putSel_on (e := (7, 101, .bool t1330)) 7 rfl rfl (hon 7 (by kernel_rfl)) rfl
                 replace ha := Aside0.mk ha
                 have HO1272 := Aside0.mk Q_HO1272
                 have HO1276 := Aside0.mk Q_HO1276
                 have HO1280 := Aside0.mk Q_HO1280
                 have HO1286 := Aside0.mk Q_HO1286
                 have HO1291 := Aside0.mk Q_HO1291
                 have HO1296 := Aside0.mk Q_HO1296
                 have HO1303 := Aside0.mk Q_HO1303
                 have HO1308 := Aside0.mk Q_HO1308
                 have BK1265 := Aside0.mk Q_BK1265
                 have BK1266 := Aside0.mk Q_BK1266
                 have BK1282 := Aside0.mk Q_BK1282
                 have BK1287 := Aside0.mk Q_BK1287
                 have BK1292 := Aside0.mk Q_BK1292
                 have BK1298 := Aside0.mk Q_BK1298
                 have HB := Aside0.mk Q_HB
                 have HO1321 := Sq.m (Q_HO1321 (hon 1 (by kernel_rfl)))
                 have HO1325 := Sq.m (Q_HO1325 (hon 3 (by kernel_rfl)))
                 have HO1329 := Sq.m (Q_HO1329 (hon 4 (by kernel_rfl)))
                 have GW1331 := Sq.m (Q_GW1331 (hon 8 (by kernel_rfl)))
                 have GE1331 := Sq.m (Q_GE1331 (hon 8 (by kernel_rfl)))
                 have NB1265_1331 := Sq.m (Q_NB1265_1331 (hon 8 (by kernel_rfl)))
                 have NB1331_1265 := Sq.m (Q_NB1331_1265 (hon 8 (by kernel_rfl)))
                 have NB1266_1331 := Sq.m (Q_NB1266_1331 (hon 8 (by kernel_rfl)))
                 have NB1331_1266 := Sq.m (Q_NB1331_1266 (hon 8 (by kernel_rfl)))
                 have NB1282_1331 := Sq.m (Q_NB1282_1331 (hon 8 (by kernel_rfl)))
                 have NB1331_1282 := Sq.m (Q_NB1331_1282 (hon 8 (by kernel_rfl)))
                 have NB1287_1331 := Sq.m (Q_NB1287_1331 (hon 8 (by kernel_rfl)))
                 have NB1331_1287 := Sq.m (Q_NB1331_1287 (hon 8 (by kernel_rfl)))
                 have NB1292_1331 := Sq.m (Q_NB1292_1331 (hon 8 (by kernel_rfl)))
                 have NB1331_1292 := Sq.m (Q_NB1331_1292 (hon 8 (by kernel_rfl)))
                 have NB1298_1331 := Sq.m (Q_NB1298_1331 (hon 8 (by kernel_rfl)))
                 have NB1331_1298 := Sq.m (Q_NB1331_1298 (hon 8 (by kernel_rfl)))
                 have BK1331 := Sq.m (Q_BK1331_e9 (hon 9 (by kernel_rfl)))
                 refine value_ (w1 := w') (v := .bool t1330) (by rfl) rfl ?_ ?_
                 ·go_simp
                  (try simp only [i64_w])
                  try rfl
                 refine hK.out _ _ ⟨v1320, v1324, v1328, gb1331, m1_, m3_, m4_, m5_, m6_, m8_, (by rw [ha.out]; exact putSel_upk 9 hb_ rfl rfl rfl), Q_HO1272, Q_HO1276, Q_HO1280, Q_HO1286, Q_HO1291, Q_HO1296, Q_HO1303, Q_HO1308, Q_BK1265, Q_BK1266, Q_BK1282, Q_BK1287, Q_BK1292, Q_BK1298, Q_HB, Q_HO1321, Q_HO1325, Q_HO1329, fun _ h1_ => absurd ((hon 9 (by kernel_rfl)).symm.trans h1_) (by decide), Q_GW1331, Q_GE1331, Q_NB1265_1331, Q_NB1331_1265, Q_NB1266_1331, Q_NB1331_1266, Q_NB1282_1331, Q_NB1331_1282, Q_NB1287_1331, Q_NB1331_1287, Q_NB1292_1331, Q_NB1331_1292, Q_NB1298_1331, Q_NB1331_1298, Q_BK1331_e9, Q_X1_, Q_X3_, Q_X4_, Q_X5_, Q_X6_, Q_X8_⟩
                exact steps_nil
               rintro b a w131 hall ⟨v1320, v1324, v1328, gb1331, m1_, m3_, m4_, m5_, m6_, m8_, ha, Q_HO1272, Q_HO1276, Q_HO1280, Q_HO1286, Q_HO1291, Q_HO1296, Q_HO1303, Q_HO1308, Q_BK1265, Q_BK1266, Q_BK1282, Q_BK1287, Q_BK1292, Q_BK1298, Q_HB, Q_HO1321, Q_HO1325, Q_HO1329, Q_BK1331, Q_GW1331, Q_GE1331, Q_NB1265_1331, Q_NB1331_1265, Q_NB1266_1331, Q_NB1331_1266, Q_NB1282_1331, Q_NB1331_1282, Q_NB1287_1331, Q_NB1331_1287, Q_NB1292_1331, Q_NB1331_1292, Q_NB1298_1331, Q_NB1331_1298, Q_BK1331_e9, Q_X1_, Q_X3_, Q_X4_, Q_X5_, Q_X6_, Q_X8_⟩
               clear BK1265 BK1266 BK1282 BK1287 BK1292 BK1298 HB HO1272 HO1276 HO1280 HO1286 HO1291 HO1296 HO1303 HO1308
               have hb0_ := hall 0 (by kernel_rfl)
               have hb1_ := hall 1 (by kernel_rfl)
               have hb2_ := hall 2 (by kernel_rfl)
               have hb3_ := hall 3 (by kernel_rfl)
               have hb4_ := hall 4 (by kernel_rfl)
               have hb5_ := hall 5 (by kernel_rfl)
               have hb6_ := hall 6 (by kernel_rfl)
               have hb7_ := hall 7 (by kernel_rfl)
               have hb8_ := hall 8 (by kernel_rfl)
               have hb9_ := hall 9 (by kernel_rfl)
               have hb10_ := hall 10 (by kernel_rfl)
               subst ha
               obtain rfl := Q_X1_ hb1_
               obtain rfl := Q_X3_ hb3_
               obtain rfl := Q_X4_ hb4_
               obtain rfl := Q_X5_ hb5_
               obtain rfl := Q_X6_ hb6_
               obtain rfl := Q_X8_ hb8_
               simp only [putSel, hb0_, hb1_, hb2_, hb3_, hb4_, hb5_, hb6_, hb7_, hb8_, hb9_, hb10_, if_true, Act.put, List.setIfInBounds_toArray, List.set_cons_zero, List.set_cons_succ]
               have HO1272 := Aside0.mk Q_HO1272
               clear Q_HO1272
               have HO1276 := Aside0.mk Q_HO1276
               clear Q_HO1276
               have HO1280 := Aside0.mk Q_HO1280
               clear Q_HO1280
               have HO1286 := Aside0.mk Q_HO1286
               clear Q_HO1286
               have HO1291 := Aside0.mk Q_HO1291
               clear Q_HO1291
               have HO1296 := Aside0.mk Q_HO1296
               clear Q_HO1296
               have HO1303 := Aside0.mk Q_HO1303
               clear Q_HO1303
               have HO1308 := Aside0.mk Q_HO1308
               clear Q_HO1308
               have BK1265 := Aside0.mk Q_BK1265
               clear Q_BK1265
               have BK1266 := Aside0.mk Q_BK1266
               clear Q_BK1266
               have BK1282 := Aside0.mk Q_BK1282
               clear Q_BK1282
               have BK1287 := Aside0.mk Q_BK1287
               clear Q_BK1287
               have BK1292 := Aside0.mk Q_BK1292
               clear Q_BK1292
               have BK1298 := Aside0.mk Q_BK1298
               clear Q_BK1298
               have HB := Aside0.mk Q_HB
               clear Q_HB
               have HO1321 := Sq.m (Q_HO1321 hb1_)
               clear Q_HO1321
               have HO1325 := Sq.m (Q_HO1325 hb3_)
               clear Q_HO1325
               have HO1329 := Sq.m (Q_HO1329 hb4_)
               clear Q_HO1329
               clear Q_BK1331
               have GW1331 := Sq.m (Q_GW1331 hb8_)
               clear Q_GW1331
               have GE1331 := Sq.m (Q_GE1331 hb8_)
               clear Q_GE1331
               have NB1265_1331 := Sq.m (Q_NB1265_1331 hb8_)
               clear Q_NB1265_1331
               have NB1331_1265 := Sq.m (Q_NB1331_1265 hb8_)
               clear Q_NB1331_1265
               have NB1266_1331 := Sq.m (Q_NB1266_1331 hb8_)
               clear Q_NB1266_1331
               have NB1331_1266 := Sq.m (Q_NB1331_1266 hb8_)
               clear Q_NB1331_1266
               have NB1282_1331 := Sq.m (Q_NB1282_1331 hb8_)
               clear Q_NB1282_1331
               have NB1331_1282 := Sq.m (Q_NB1331_1282 hb8_)
               clear Q_NB1331_1282
               have NB1287_1331 := Sq.m (Q_NB1287_1331 hb8_)
               clear Q_NB1287_1331
               have NB1331_1287 := Sq.m (Q_NB1331_1287 hb8_)
               clear Q_NB1331_1287
               have NB1292_1331 := Sq.m (Q_NB1292_1331 hb8_)
               clear Q_NB1292_1331
               have NB1331_1292 := Sq.m (Q_NB1331_1292 hb8_)
               clear Q_NB1331_1292
               have NB1298_1331 := Sq.m (Q_NB1298_1331 hb8_)
               clear Q_NB1298_1331
               have NB1331_1298 := Sq.m (Q_NB1331_1298 hb8_)
               clear Q_NB1331_1298
               have BK1331 := Sq.m (Q_BK1331_e9 hb9_)
               clear Q_BK1331_e9
               clear hall hb0_ hb1_ hb2_ hb3_ hb4_ hb5_ hb6_ hb7_ hb8_ hb9_ hb10_
               have hnb132 := NB1331_1265.out
               have hnc132 := NB1265_1331.out
               have hnb133 := NB1331_1266.out
               have hnc133 := NB1266_1331.out
               have hnb134 := NB1331_1282.out
               have hnc134 := NB1282_1331.out
               have hnb135 := NB1331_1287.out
               have hnc135 := NB1287_1331.out
               have hnb136 := NB1331_1292.out
               have hnc136 := NB1292_1331.out
               have hnb137 := NB1331_1298.out
               have hnc137 := NB1298_1331.out
               have hcz138_0 : w131.cell? ⟨gb1331, 0, none⟩ = some (.bool t1326) := (blk_cell BK1331.out 0).trans rfl
               have hcz138_1 : w131.cell? ⟨gb1331, 1, none⟩ = some (v1328) := (blk_cell BK1331.out 1).trans rfl
               have hfz138_0 := blk_frozen BK1331.out 0
               have hfz138_1 := blk_frozen BK1331.out 1
               have hcz139_0 : w131.cell? ⟨gb1282, 0, none⟩ = some (.bool t1277) := (blk_cell BK1282.out 0).trans rfl
               have hcz139_1 : w131.cell? ⟨gb1282, 1, none⟩ = some (.slice Ao100 t1278.length co100) := (blk_cell BK1282.out 1).trans rfl
               have hfz139_0 := blk_frozen BK1282.out 0
               have hfz139_1 := blk_frozen BK1282.out 1
               obtain ⟨Ao140, co140, eo140⟩ := Kd.R_slice HO1329.out
               subst eo140
               try go_wp2_with (first | ((with_reducible refine gate_callee (f := 54) rfl ?_); refine goesL_ (some 104) rfl rfl Try.func54 (by kernel_rfl) rfl #[.agg #[.bool t1326, .slice Ao140 t1327.length co140], .agg #[.bool t1277, .slice Ao100 t1278.length co100]] rfl (by (try simp only [List.map_toArray, List.map_cons, List.map_nil]); first | done | rfl | (simp only [List.length_drop, List.length_take]; rfl) | (simp only [i64_w, u8_w, w64_b]; rfl)) ?_; (with_reducible refine (laws_eqWhole.calls k t1326 _ _ t1327 t1277 _ _ t1278 true _ ?side1 ?side2 ?side3 ?side4 A46.out).mono ?_); (case side1 => repeat (first | exact (Kd.R_reads' HO1329.out).2.2 | (with_reducible refine Kd.C_alloc ?_ _) | (with_reducible refine Kd.C_drewN ?_ _) | (with_reducible refine Kd.C_drew ?_))); (case side2 => exact (Kd.R_reads' HO1329.out).2.1); (case side3 => repeat (first | exact (Kd.R_reads' HO1280.out).2.2 | (with_reducible refine Kd.C_alloc ?_ _) | (with_reducible refine Kd.C_drewN ?_ _) | (with_reducible refine Kd.C_drew ?_))); (case side4 => exact (Kd.R_reads' HO1280.out).2.1); rintro e w141 ⟨rfl, hb⟩; refine ⟨_, rfl, ?_⟩; have n0_ := Sq.m (Kd.R_below (by apply Sq.ra; exact HO1272.out) hb); have n1_ := Sq.m (Kd.R_below (by apply Sq.ra; exact HO1276.out) hb); have n2_ := Sq.m (Kd.R_below (by apply Sq.ra; exact HO1280.out) hb); have n3_ := Sq.m (Kd.R_below (by apply Sq.ra; exact HO1286.out) hb); have n4_ := Sq.m (Kd.R_below (by apply Sq.ra; exact HO1291.out) hb); have n5_ := Sq.m (Kd.R_below (by apply Sq.ra; exact HO1296.out) hb); have n6_ := Sq.m (Kd.R_below (by apply Sq.ra; exact HO1303.out) hb); have n7_ := Sq.m (Kd.R_below (by apply Sq.ra; exact HO1308.out) hb); have n8_ := Sq.m (Kd.R_below (by apply Sq.ra; exact HO1321.out) hb); have n9_ := Sq.m (Kd.R_below (by apply Sq.ra; exact HO1325.out) hb); have n10_ := Sq.m (Kd.R_below (by apply Sq.ra; exact HO1329.out) hb); have n11_ := Sq.m (blk_below (g := gb1265) (o := .cells #[.bool a0_0, .slice A0_1 l0_1.length c0_1] 56 (0, 0)) (by apply Sq.rb; exact BK1265.out) hb); have n12_ := Sq.m (blk_below (g := gb1266) (o := .cells #[.bool a1_0, .slice A1_1 l1_1.length c1_1] 56 (0, 0)) (by apply Sq.rb; exact BK1266.out) hb); have n13_ := Sq.m (blk_below (g := gb1282) (o := .cells #[.bool t1277, .slice Ao100 t1278.length co100] 59 (0, 0)) (by apply Sq.rb; exact BK1282.out) hb); have n14_ := Sq.m (blk_below (g := gb1287) (o := .cells #[.bool t1283, .slice Ao78 t1284.length co78] 59 (0, 0)) (by apply Sq.rb; exact BK1287.out) hb); have n15_ := Sq.m (blk_below (g := gb1292) (o := .cells #[.bool t1288, .slice Ao88 t1289.length co88] 59 (0, 0)) (by apply Sq.rb; exact BK1292.out) hb); have n16_ := Sq.m (blk_below (g := gb1298) (o := .cells #[.bool t1293, .slice Ao98 t1294.length co98] 59 (0, 0)) (by apply Sq.rb; exact BK1298.out) hb); have n17_ := Sq.m (blk_below (g := gb1331) (o := .cells #[.bool t1326, .slice Ao140 t1327.length co140] 59 (0, 0)) (by apply Sq.rb; exact BK1331.out) hb); have n18_ := Sq.m (below_step (by repeat (first | (with_reducible first | exact HB.out | apply Sq.rc | refine below_set ?_ GE1265.out | refine below_set ?_ GE1266.out | refine below_set ?_ GE1282.out | refine below_set ?_ GE1287.out | refine below_set ?_ GE1292.out | refine below_set ?_ GE1298.out | refine below_set ?_ GE1331.out) | exact HB.out)) hb); clear HO1272; clear HO1276; clear HO1280; clear HO1286; clear HO1291; clear HO1296; clear HO1303; clear HO1308; clear HO1321; clear HO1325; clear HO1329; clear BK1265; clear BK1266; clear BK1282; clear BK1287; clear BK1292; clear BK1298; clear BK1331; clear HB; have HO1272 := n0_; have HO1276 := n1_; have HO1280 := n2_; have HO1286 := n3_; have HO1291 := n4_; have HO1296 := n5_; have HO1303 := n6_; have HO1308 := n7_; have HO1321 := n8_; have HO1325 := n9_; have HO1329 := n10_; have BK1265 := n11_; have BK1266 := n12_; have BK1282 := n13_; have BK1287 := n14_; have BK1292 := n15_; have BK1298 := n16_; have BK1331 := n17_; have HB := n18_; clear n0_ n1_ n2_ n3_ n4_ n5_ n6_ n7_ n8_ n9_ n10_ n11_ n12_ n13_ n14_ n15_ n16_ n17_ n18_; (try clear hb); (try clear hb2); (try clear hk); (try clear hi); have hcz142_0 : w141.cell? ⟨gb1298, 0, none⟩ = some (.bool t1293) := (blk_cell BK1298.out 0).trans rfl; have hcz142_1 : w141.cell? ⟨gb1298, 1, none⟩ = some (.slice Ao98 t1294.length co98) := (blk_cell BK1298.out 1).trans rfl; have hfz142_0 := blk_frozen BK1298.out 0; have hfz142_1 := blk_frozen BK1298.out 1) | ((with_reducible refine gate_callee (f := 56) rfl ?_); refine goesL_ (some 113) rfl rfl Try.func56 (by kernel_rfl) rfl #[.agg #[.bool t1293, .slice Ao98 t1316.length co98], .int .i64 1] rfl (by (try simp only [List.map_toArray, List.map_cons, List.map_nil]); first | done | (rw [show t1316.length = t1294.length from (Kd.R_reads' HO1296.out).1.symm] <;> rfl) | rfl | (simp only [List.length_drop, List.length_take]; rfl) | (simp only [i64_w, u8_w, w64_b]; rfl)) ?_; (with_reducible refine (laws_heldWhole.calls k t1293 _ _ t1316 1 t1333 _ ?side1 ?side2 A49.out).mono ?_); (case side1 => repeat (first | exact (Kd.R_reads' HO1296.out).2.2 | (with_reducible refine Kd.C_alloc ?_ _) | (with_reducible refine Kd.C_drewN ?_ _) | (with_reducible refine Kd.C_drew ?_))); (case side2 => rw [show t1316.length = t1294.length from (Kd.R_reads' HO1296.out).1.symm]; exact (Kd.R_reads' HO1296.out).2.1); rintro e w143 ⟨rfl, hb⟩; refine ⟨_, rfl, ?_⟩; have n0_ := Sq.m (Kd.R_below (by apply Sq.ra; exact HO1272.out) hb); have n1_ := Sq.m (Kd.R_below (by apply Sq.ra; exact HO1276.out) hb); have n2_ := Sq.m (Kd.R_below (by apply Sq.ra; exact HO1280.out) hb); have n3_ := Sq.m (Kd.R_below (by apply Sq.ra; exact HO1286.out) hb); have n4_ := Sq.m (Kd.R_below (by apply Sq.ra; exact HO1291.out) hb); have n5_ := Sq.m (Kd.R_below (by apply Sq.ra; exact HO1296.out) hb); have n6_ := Sq.m (Kd.R_below (by apply Sq.ra; exact HO1303.out) hb); have n7_ := Sq.m (Kd.R_below (by apply Sq.ra; exact HO1308.out) hb); have n8_ := Sq.m (Kd.R_below (by apply Sq.ra; exact HO1321.out) hb); have n9_ := Sq.m (Kd.R_below (by apply Sq.ra; exact HO1325.out) hb); have n10_ := Sq.m (Kd.R_below (by apply Sq.ra; exact HO1329.out) hb); have n11_ := Sq.m (blk_below (g := gb1265) (o := .cells #[.bool a0_0, .slice A0_1 l0_1.length c0_1] 56 (0, 0)) (by apply Sq.rb; exact BK1265.out) hb); have n12_ := Sq.m (blk_below (g := gb1266) (o := .cells #[.bool a1_0, .slice A1_1 l1_1.length c1_1] 56 (0, 0)) (by apply Sq.rb; exact BK1266.out) hb); have n13_ := Sq.m (blk_below (g := gb1282) (o := .cells #[.bool t1277, .slice Ao100 t1278.length co100] 59 (0, 0)) (by apply Sq.rb; exact BK1282.out) hb); have n14_ := Sq.m (blk_below (g := gb1287) (o := .cells #[.bool t1283, .slice Ao78 t1284.length co78] 59 (0, 0)) (by apply Sq.rb; exact BK1287.out) hb); have n15_ := Sq.m (blk_below (g := gb1292) (o := .cells #[.bool t1288, .slice Ao88 t1289.length co88] 59 (0, 0)) (by apply Sq.rb; exact BK1292.out) hb); have n16_ := Sq.m (blk_below (g := gb1298) (o := .cells #[.bool t1293, .slice Ao98 t1294.length co98] 59 (0, 0)) (by apply Sq.rb; exact BK1298.out) hb); have n17_ := Sq.m (blk_below (g := gb1331) (o := .cells #[.bool t1326, .slice Ao140 t1327.length co140] 59 (0, 0)) (by apply Sq.rb; exact BK1331.out) hb); have n18_ := Sq.m (below_step (by repeat (first | (with_reducible first | exact HB.out | apply Sq.rc | refine below_set ?_ GE1265.out | refine below_set ?_ GE1266.out | refine below_set ?_ GE1282.out | refine below_set ?_ GE1287.out | refine below_set ?_ GE1292.out | refine below_set ?_ GE1298.out | refine below_set ?_ GE1331.out) | exact HB.out)) hb); clear HO1272; clear HO1276; clear HO1280; clear HO1286; clear HO1291; clear HO1296; clear HO1303; clear HO1308; clear HO1321; clear HO1325; clear HO1329; clear BK1265; clear BK1266; clear BK1282; clear BK1287; clear BK1292; clear BK1298; clear BK1331; clear HB; have HO1272 := n0_; have HO1276 := n1_; have HO1280 := n2_; have HO1286 := n3_; have HO1291 := n4_; have HO1296 := n5_; have HO1303 := n6_; have HO1308 := n7_; have HO1321 := n8_; have HO1325 := n9_; have HO1329 := n10_; have BK1265 := n11_; have BK1266 := n12_; have BK1282 := n13_; have BK1287 := n14_; have BK1292 := n15_; have BK1298 := n16_; have BK1331 := n17_; have HB := n18_; clear n0_ n1_ n2_ n3_ n4_ n5_ n6_ n7_ n8_ n9_ n10_ n11_ n12_ n13_ n14_ n15_ n16_ n17_ n18_; (try clear hb); (try clear hb2); (try clear hk); (try clear hi)))
               go_ret
               exact ⟨by first | rfl | (simp [errW_none, errW_some] <;> rfl) | (simp [*, errW_none, errW_some] <;> rfl), by repeat (first | (with_reducible first | exact HB.out | apply Sq.rc | refine below_set ?_ GE1265.out | refine below_set ?_ GE1266.out | refine below_set ?_ GE1282.out | refine below_set ?_ GE1287.out | refine below_set ?_ GE1292.out | refine below_set ?_ GE1298.out | refine below_set ?_ GE1331.out) | exact HB.out)⟩
              ·rw [if_neg c51] at H
               exact absurd H (by simp)
           ·replace c47 := Bool.eq_false_iff.mpr c47
            subst c47
            have H1 : (none) = some r := by rw [if_neg (show ¬ (false = true) by decide)] at H; exact H
            clear H
            have H := H1
            clear H1
            exact absurd H (by simp)
          ·rw [if_neg c42] at H
           exact absurd H (by simp)
        ·replace c38 := Bool.eq_false_iff.mpr c38
         subst c38
         have H1 : (none) = some r := by rw [if_neg (show ¬ (false = true) by decide)] at H; exact H
         clear H
         have H := H1
         clear H1
         exact absurd H (by simp)
      ·replace c33 := Bool.eq_false_iff.mpr c33
       subst c33
       have H1 : (none) = some r := by rw [if_neg (show ¬ (false = true) by decide)] at H; exact H
       clear H
       have H := H1
       clear H1
       exact absurd H (by simp)
     ·replace c30 := Bool.eq_false_iff.mpr c30
      subst c30
      have H1 : (none) = some r := by rw [if_neg (show ¬ (false = true) by decide)] at H; exact H
      clear H
      have H := H1
      clear H1
      exact absurd H (by simp)
   ·replace c26 := Bool.eq_false_iff.mpr c26
    subst c26
    have H1 : (none) = some r := by rw [if_neg (show ¬ (false = true) by decide)] at H; exact H
    clear H
    have H := H1
    clear H1
    exact absurd H (by simp)

end Go.Proofs.Ytjepgnfgalnjhaa.Q
