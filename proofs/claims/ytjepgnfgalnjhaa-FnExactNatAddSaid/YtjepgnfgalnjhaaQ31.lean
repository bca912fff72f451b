/- The machine side of Go functions, written by a program of this session over the print of the translation. No conditions. -/
import Derived.Test.YtjepgnfgalnjhaaSq
import Derived.Test.YtjepgnfgalnjhaaQ0
import Derived.Test.YtjepgnfgalnjhaaQ2
import Derived.Test.YtjepgnfgalnjhaaQ9
import Derived.Test.YtjepgnfgalnjhaaQ21
import Derived.Test.YtjepgnfgalnjhaaQ23
import Derived.Test.YtjepgnfgalnjhaaQ25
import Derived.Test.YtjepgnfgalnjhaaQ28
import Derived.Test.YtjepgnfgalnjhaaQ30
namespace Go.Proofs.Ytjepgnfgalnjhaa.Q
open Go.RowKit Go.Proofs.YtjepgnfgalnjhaaW.PrintWords Go.Proofs.YtjepgnfgalnjhaaW.PrintLast Go.Proofs.YtjepgnfgalnjhaaW.PrintMore
attribute [local go_sem] max2_int min2_int max_two min_two max_three min_three max_four min_four   -- for this text's walks alone
set_option linter.unusedVariables false
set_option linter.unusedSimpArgs false

/-! ### laws_FnExactNatAdd: function 4 -/
def laws_FnExactNatAdd.f (k : Nat) (l0_0 : List Int) (l1_0 : List Int) : Option (Bool) := (laws_szNat.f l0_0 1048576).bind fun t349 => (if t349 < 0 then (some true) else ((laws_szNat.f l1_0 t349).bind fun t350 => (if t350 < 0 then (some true) else ((laws_toNat.f k l0_0).bind fun t351 => ((laws_toNat.f k l1_0).bind fun t354 => ((spec_NatAdd.f k t351 t354).bind fun bt357 => ((laws_toNat.f k l0_0).bind fun t362 => ((laws_toNat.f k l1_0).bind fun t366 => ((impl_NatAdd.f k t362 t366).bind fun bt370 => ((laws_eqNat.f k bt370.1 bt357.1).bind fun t375 => (if t375 = true then (if (bt370.2 != bt357.2) = true then (none) else ((laws_toNat.f k l0_0).bind fun t376 => ((laws_eqNat.f k t362 t376).bind fun t379 => (if t379 = true then ((laws_toNat.f k l1_0).bind fun t380 => ((laws_eqNat.f k t366 t380).bind fun t383 => (if t383 = true then ((laws_markNat.f k t362 1).bind fun bt384 => ((laws_markNat.f k t366 bt384.1).bind fun bt386 => (if bt386.1 < 0 then (none) else ((laws_eqNat.f k bt370.1 bt357.1).bind fun t388 => (if t388 = true then ((laws_markNat.f k bt370.1 1).bind fun bt389 => ((laws_heldNat.f k bt389.2 1).bind fun t391 => (if t391 < 0 then (none) else (if t391 = bt389.1 then ((laws_toNat.f k l0_0).bind fun t392 => ((laws_toNat.f k l1_0).bind fun t395 => ((impl_NatAdd.f k t392 t395).bind fun bt398 => ((laws_eqNat.f k bt398.1 bt357.1).bind fun t403 => (if t403 = true then (if (bt398.2 != bt357.2) = true then (none) else ((laws_heldNat.f k bt389.2 1).bind fun t404 => (if t404 < 0 then (none) else (if t404 = bt389.1 then (some true) else (none))))) else (none)))))) else (none))))) else (none)))))) else (none)))) else (none))))) else (none))))))))))))
def laws_FnExactNatAdd.T8 : Bool × List (List Nat × List Nat) := (true, [([], []), ([0], [0]), ([], []), ([2, 1], [2]), ([1, 3, 3], [1, 3]), ([4], [4]), ([5], [5]), ([5], [5]), ([], []), ([8, 6, 4, 0, 1, 2, 3, 4, 5, 6, 8], [6, 8]), ([7, 9, 0, 1, 2, 3, 4, 5, 6, 7, 8, 9], [7])])
def laws_FnExactNatAdd.B8 : List Nat := [0, 1, 0, 7, 15, 31, 63, 63, 0, 383, 1023]
theorem laws_FnExactNatAdd.tab8 : rtab .any (opsOf Try.f4 8) = laws_FnExactNatAdd.T8 := by kernel_rfl
theorem laws_FnExactNatAdd.bits8 : waitsOk laws_FnExactNatAdd.T8.2 laws_FnExactNatAdd.B8 = true := by kernel_rfl
def laws_FnExactNatAdd.T31 : Bool × List (List Nat × List Nat) := (true, [([], []), ([0], [0]), ([], []), ([2, 1], [2]), ([1, 3, 3], [1, 3]), ([4], [4]), ([5], [5]), ([5], [5]), ([], []), ([8, 6, 4, 0, 1, 2, 3, 4, 5, 6, 8], [6, 8]), ([7, 9, 0, 1, 2, 3, 4, 5, 6, 7, 8, 9], [7])])
def laws_FnExactNatAdd.B31 : List Nat := [0, 1, 0, 7, 15, 31, 63, 63, 0, 383, 1023]
theorem laws_FnExactNatAdd.tab31 : rtab .any (opsOf Try.f4 31) = laws_FnExactNatAdd.T31 := by kernel_rfl
theorem laws_FnExactNatAdd.bits31 : waitsOk laws_FnExactNatAdd.T31.2 laws_FnExactNatAdd.B31 = true := by kernel_rfl
set_option maxHeartbeats 8000000 in
set_option maxRecDepth 100000 in
theorem laws_FnExactNatAdd.calls (k : Nat) (A0_0 : Option Addr) (c0_0 : Nat) (l0_0 : List Int) (A1_0 : Option Addr) (c1_0 : Nat) (l1_0 : List Int) (r : Bool) (w : World) (hr0_0 : Kd.C (Kd.int .i64) w A0_0 l0_0.length l0_0) (hc0_0 : l0_0.length ≤ c0_0) (hr1_0 : Kd.C (Kd.int .i64) w A1_0 l1_0.length l1_0) (hc1_0 : l1_0.length ≤ c1_0) (h : laws_FnExactNatAdd.f k l0_0 l1_0 = some r) :
  Calls Try.prog 4 #[.agg #[.slice A0_0 l0_0.length c0_0], .agg #[.slice A1_0 l1_0.length c1_0]] w fun e w' => e = .returned (.bool r) ∧ Below w.heap.size w w' := by
 have hu24 := Try.underlying24
 have hu26 := Try.underlying26
 have HR0_0 := Aside0.mk hr0_0
 have HC0_0 := Aside0.mk hc0_0
 clear hr0_0 hc0_0
 have HR1_0 := Aside0.mk hr1_0
 have HC1_0 := Aside0.mk hc1_0
 clear hr1_0 hc1_0
 have HB := Sq.m (Below.refl w.heap.size w)
 have H : ((laws_szNat.f l0_0 1048576).bind fun t349 => (if t349 < 0 then (some true) else ((laws_szNat.f l1_0 t349).bind fun t350 => (if t350 < 0 then (some true) else ((laws_toNat.f k l0_0).bind fun t351 => ((laws_toNat.f k l1_0).bind fun t354 => ((spec_NatAdd.f k t351 t354).bind fun bt357 => ((laws_toNat.f k l0_0).bind fun t362 => ((laws_toNat.f k l1_0).bind fun t366 => ((impl_NatAdd.f k t362 t366).bind fun bt370 => ((laws_eqNat.f k bt370.1 bt357.1).bind fun t375 => (if t375 = true then (if (bt370.2 != bt357.2) = true then (none) else ((laws_toNat.f k l0_0).bind fun t376 => ((laws_eqNat.f k t362 t376).bind fun t379 => (if t379 = true then ((laws_toNat.f k l1_0).bind fun t380 => ((laws_eqNat.f k t366 t380).bind fun t383 => (if t383 = true then ((laws_markNat.f k t362 1).bind fun bt384 => ((laws_markNat.f k t366 bt384.1).bind fun bt386 => (if bt386.1 < 0 then (none) else ((laws_eqNat.f k bt370.1 bt357.1).bind fun t388 => (if t388 = true then ((laws_markNat.f k bt370.1 1).bind fun bt389 => ((laws_heldNat.f k bt389.2 1).bind fun t391 => (if t391 < 0 then (none) else (if t391 = bt389.1 then ((laws_toNat.f k l0_0).bind fun t392 => ((laws_toNat.f k l1_0).bind fun t395 => ((impl_NatAdd.f k t392 t395).bind fun bt398 => ((laws_eqNat.f k bt398.1 bt357.1).bind fun t403 => (if t403 = true then (if (bt398.2 != bt357.2) = true then (none) else ((laws_heldNat.f k bt389.2 1).bind fun t404 => (if t404 < 0 then (none) else (if t404 = bt389.1 then (some true) else (none))))) else (none)))))) else (none))))) else (none)))))) else (none)))) else (none))))) else (none))))))))))))) = some r := h
 clear h
 replace H := Option.bind_eq_some_iff.mp H
 obtain ⟨t349, A30, H⟩ := H
 try dsimp only at H
 have A3 := Aside0.mk A30
 clear A30
 by_cases c4 : t349 < 0
 ·rw [if_pos c4] at H
  have c4b0 : decide (t349 < 0) = true := decide_eq_true c4
  clear c4
  obtain rfl := Option.some.inj H
  go_enter Try.func4, Try.ntmps4
  go_wp2_with (first | ((with_reducible refine gate_dst (N := 2) rfl ?_); refine box_event ?hg (N := 2) ?hd (cs := #[.slice A0_0 l0_0.length c0_0]) (t := 24) ?hr ?_; (case hd => rfl); (case hg => rfl); (case hr => first | (go_simp; done) | (go_simp; rfl)); intro gb347 hg w5 hbox hb; have n0_ := Sq.m (below_step (by repeat (first | (with_reducible first | exact HB.out | apply Sq.rc) | exact HB.out)) hb); have n1_ := Sq.m (hbox); have n2_ := Sq.m ((by rw [hg]; exact (below_size (by repeat (first | (with_reducible first | exact HB.out | apply Sq.rc) | exact HB.out))) : w.heap.size ≤ gb347)); have n3_ := Sq.m ((by rw [hg]; exact (below_size (by repeat (first | (with_reducible first | exact HB.out | apply Sq.rc) | exact HB.out))) : w.heap.size ≤ gb347)); clear HB; have HB := n0_; have BK347 := n1_; have GW347 := n2_; have GE347 := n3_; clear n0_ n1_ n2_ n3_; clear hb hbox hg) | ((with_reducible refine gate_dst (N := 3) rfl ?_); refine box_event ?hg (N := 3) ?hd (cs := #[.slice A1_0 l1_0.length c1_0]) (t := 24) ?hr ?_; (case hd => rfl); (case hg => rfl); (case hr => first | (go_simp; done) | (go_simp; rfl)); intro gb348 hg w6 hbox hb; have n0_ := Sq.m (blk_below (g := gb347) (o := .cells #[.slice A0_0 l0_0.length c0_0] 24 (0, 0)) (by apply Sq.rb; exact BK347.out) hb); have n1_ := Sq.m (below_step (by repeat (first | (with_reducible first | exact HB.out | apply Sq.rc | refine below_set ?_ GE347.out) | exact HB.out)) hb); have n2_ := Sq.m (hbox); have n3_ := Sq.m ((by rw [hg]; exact (below_size (by repeat (first | (with_reducible first | exact HB.out | apply Sq.rc | refine below_set ?_ GE347.out) | exact HB.out))) : w.heap.size ≤ gb348)); have n4_ := Sq.m ((by rw [hg]; exact (below_size (by repeat (first | (with_reducible first | exact HB.out | apply Sq.rc | refine below_set ?_ GE347.out) | exact HB.out))) : w.heap.size ≤ gb348)); have n5_ := Sq.m ((by rw [hg]; exact Nat.ne_of_lt (blk_lt (g := gb347) (o := .cells #[.slice A0_0 l0_0.length c0_0] 24 (0, 0)) (by apply Sq.rb; exact BK347.out)) : gb347 ≠ gb348)); have n6_ := Sq.m ((by rw [hg]; exact Nat.ne_of_gt (blk_lt (g := gb347) (o := .cells #[.slice A0_0 l0_0.length c0_0] 24 (0, 0)) (by apply Sq.rb; exact BK347.out)) : gb348 ≠ gb347)); clear BK347; clear HB; have BK347 := n0_; have HB := n1_; have BK348 := n2_; have GW348 := n3_; have GE348 := n4_; have NB347_348 := n5_; have NB348_347 := n6_; clear n0_ n1_ n2_ n3_ n4_ n5_ n6_; clear hb hbox hg; have hnb7 := NB347_348.out; have hnc7 := NB348_347.out; have hcz8_0 : w6.cell? ⟨gb347, 0, none⟩ = some (.slice A0_0 l0_0.length c0_0) := (blk_cell BK347.out 0).trans rfl; have hfz8_0 := blk_frozen BK347.out 0) | ((with_reducible refine gate_callee (f := 15) rfl ?_); refine goesL_ (some 19) rfl rfl Try.func15 (by kernel_rfl) rfl #[.agg #[.slice A0_0 l0_0.length c0_0], .int .i64 1048576] rfl (by (try simp only [List.map_toArray, List.map_cons, List.map_nil]); first | done | rfl | (simp only [List.length_drop, List.length_take]; rfl) | (simp only [i64_w, u8_w, w64_b]; rfl)) ?_; (with_reducible refine (laws_szNat.calls _ _ l0_0 1048576 t349 _ ?side1 ?side2 A3.out).mono ?_); (case side1 => repeat (first | exact (Kd.C_below HR0_0.out HB.out) | (with_reducible refine Kd.C_alloc ?_ _) | (with_reducible refine Kd.C_drewN ?_ _) | (with_reducible refine Kd.C_drew ?_))); (case side2 => exact HC0_0.out); rintro e w9 ⟨rfl, hb⟩; refine ⟨_, rfl, ?_⟩; have n0_ := Sq.m (blk_below (g := gb347) (o := .cells #[.slice A0_0 l0_0.length c0_0] 24 (0, 0)) (by apply Sq.rb; exact BK347.out) hb); have n1_ := Sq.m (blk_below (g := gb348) (o := .cells #[.slice A1_0 l1_0.length c1_0] 24 (0, 0)) (by apply Sq.rb; exact BK348.out) hb); have n2_ := Sq.m (below_step (by repeat (first | (with_reducible first | exact HB.out | apply Sq.rc | refine below_set ?_ GE347.out | refine below_set ?_ GE348.out) | exact HB.out)) hb); clear BK347; clear BK348; clear HB; have BK347 := n0_; have BK348 := n1_; have HB := n2_; clear n0_ n1_ n2_; (try clear hb); (try clear hb2); (try clear hk); (try clear hi)))
  go_ret
  exact ⟨by first | rfl | (simp [errW_none, errW_some] <;> rfl) | (simp [*, errW_none, errW_some] <;> rfl), by repeat (first | (with_reducible first | exact HB.out | apply Sq.rc | refine below_set ?_ GE347.out | refine below_set ?_ GE348.out) | exact HB.out)⟩
 ·rw [if_neg c4] at H
  have c4b0 : decide (t349 < 0) = false := decide_eq_false c4
  clear c4
  replace H := Option.bind_eq_some_iff.mp H
  obtain ⟨t350, A100, H⟩ := H
  try dsimp only at H
  have A10 := Aside0.mk A100
  clear A100
  by_cases c11 : t350 < 0
  ·rw [if_pos c11] at H
   have c11b0 : decide (t350 < 0) = true := decide_eq_true c11
   clear c11
   obtain rfl := Option.some.inj H
   go_enter Try.func4, Try.ntmps4
   go_wp2_with (first | ((with_reducible refine gate_dst (N := 2) rfl ?_); refine box_event ?hg (N := 2) ?hd (cs := #[.slice A0_0 l0_0.length c0_0]) (t := 24) ?hr ?_; (case hd => rfl); (case hg => rfl); (case hr => first | (go_simp; done) | (go_simp; rfl)); intro gb347 hg w12 hbox hb; have n0_ := Sq.m (below_step (by repeat (first | (with_reducible first | exact HB.out | apply Sq.rc) | exact HB.out)) hb); have n1_ := Sq.m (hbox); have n2_ := Sq.m ((by rw [hg]; exact (below_size (by repeat (first | (with_reducible first | exact HB.out | apply Sq.rc) | exact HB.out))) : w.heap.size ≤ gb347)); have n3_ := Sq.m ((by rw [hg]; exact (below_size (by repeat (first | (with_reducible first | exact HB.out | apply Sq.rc) | exact HB.out))) : w.heap.size ≤ gb347)); clear HB; have HB := n0_; have BK347 := n1_; have GW347 := n2_; have GE347 := n3_; clear n0_ n1_ n2_ n3_; clear hb hbox hg) | ((with_reducible refine gate_dst (N := 3) rfl ?_); refine box_event ?hg (N := 3) ?hd (cs := #[.slice A1_0 l1_0.length c1_0]) (t := 24) ?hr ?_; (case hd => rfl); (case hg => rfl); (case hr => first | (go_simp; done) | (go_simp; rfl)); intro gb348 hg w13 hbox hb; have n0_ := Sq.m (blk_below (g := gb347) (o := .cells #[.slice A0_0 l0_0.length c0_0] 24 (0, 0)) (by apply Sq.rb; exact BK347.out) hb); have n1_ := Sq.m (below_step (by repeat (first | (with_reducible first | exact HB.out | apply Sq.rc | refine below_set ?_ GE347.out) | exact HB.out)) hb); have n2_ := Sq.m (hbox); have n3_ := Sq.m ((by rw [hg]; exact (below_size (by repeat (first | (with_reducible first | exact HB.out | apply Sq.rc | refine below_set ?_ GE347.out) | exact HB.out))) : w.heap.size ≤ gb348)); have n4_ := Sq.m ((by rw [hg]; exact (below_size (by repeat (first | (with_reducible first | exact HB.out | apply Sq.rc | refine below_set ?_ GE347.out) | exact HB.out))) : w.heap.size ≤ gb348)); have n5_ := Sq.m ((by rw [hg]; exact Nat.ne_of_lt (blk_lt (g := gb347) (o := .cells #[.slice A0_0 l0_0.length c0_0] 24 (0, 0)) (by apply Sq.rb; exact BK347.out)) : gb347 ≠ gb348)); have n6_ := Sq.m ((by rw [hg]; exact Nat.ne_of_gt (blk_lt (g := gb347) (o := .cells #[.slice A0_0 l0_0.length c0_0] 24 (0, 0)) (by apply Sq.rb; exact BK347.out)) : gb348 ≠ gb347)); clear BK347; clear HB; have BK347 := n0_; have HB := n1_; have BK348 := n2_; have GW348 := n3_; have GE348 := n4_; have NB347_348 := n5_; have NB348_347 := n6_; clear n0_ n1_ n2_ n3_ n4_ n5_ n6_; clear hb hbox hg; have hnb14 := NB347_348.out; have hnc14 := NB348_347.out; have hcz15_0 : w13.cell? ⟨gb347, 0, none⟩ = some (.slice A0_0 l0_0.length c0_0) := (blk_cell BK347.out 0).trans rfl; have hfz15_0 := blk_frozen BK347.out 0) | ((with_reducible refine gate_callee (f := 15) rfl ?_); refine goesL_ (some 19) rfl rfl Try.func15 (by kernel_rfl) rfl #[.agg #[.slice A0_0 l0_0.length c0_0], .int .i64 1048576] rfl (by (try simp only [List.map_toArray, List.map_cons, List.map_nil]); first | done | rfl | (simp only [List.length_drop, List.length_take]; rfl) | (simp only [i64_w, u8_w, w64_b]; rfl)) ?_; (with_reducible refine (laws_szNat.calls _ _ l0_0 1048576 t349 _ ?side1 ?side2 A3.out).mono ?_); (case side1 => repeat (first | exact (Kd.C_below HR0_0.out HB.out) | (with_reducible refine Kd.C_alloc ?_ _) | (with_reducible refine Kd.C_drewN ?_ _) | (with_reducible refine Kd.C_drew ?_))); (case side2 => exact HC0_0.out); rintro e w16 ⟨rfl, hb⟩; refine ⟨_, rfl, ?_⟩; have n0_ := Sq.m (blk_below (g := gb347) (o := .cells #[.slice A0_0 l0_0.length c0_0] 24 (0, 0)) (by apply Sq.rb; exact BK347.out) hb); have n1_ := Sq.m (blk_below (g := gb348) (o := .cells #[.slice A1_0 l1_0.length c1_0] 24 (0, 0)) (by apply Sq.rb; exact BK348.out) hb); have n2_ := Sq.m (below_step (by repeat (first | (with_reducible first | exact HB.out | apply Sq.rc | refine below_set ?_ GE347.out | refine below_set ?_ GE348.out) | exact HB.out)) hb); clear BK347; clear BK348; clear HB; have BK347 := n0_; have BK348 := n1_; have HB := n2_; clear n0_ n1_ n2_; (try clear hb); (try clear hb2); (try clear hk); (try clear hi); have hcz17_0 : w16.cell? ⟨gb348, 0, none⟩ = some (.slice A1_0 l1_0.length c1_0) := (blk_cell BK348.out 0).trans rfl; have hfz17_0 := blk_frozen BK348.out 0) | ((with_reducible refine gate_callee (f := 15) rfl ?_); refine goesL_ (some 24) rfl rfl Try.func15 (by kernel_rfl) rfl #[.agg #[.slice A1_0 l1_0.length c1_0], .int .i64 t349] rfl (by (try simp only [List.map_toArray, List.map_cons, List.map_nil]); first | done | rfl | (simp only [List.length_drop, List.length_take]; rfl) | (simp only [i64_w, u8_w, w64_b]; rfl)) ?_; (with_reducible refine (laws_szNat.calls _ _ l1_0 t349 t350 _ ?side1 ?side2 A10.out).mono ?_); (case side1 => repeat (first | exact (Kd.C_below HR1_0.out HB.out) | (with_reducible refine Kd.C_alloc ?_ _) | (with_reducible refine Kd.C_drewN ?_ _) | (with_reducible refine Kd.C_drew ?_))); (case side2 => exact HC1_0.out); rintro e w18 ⟨rfl, hb⟩; refine ⟨_, rfl, ?_⟩; have n0_ := Sq.m (blk_below (g := gb347) (o := .cells #[.slice A0_0 l0_0.length c0_0] 24 (0, 0)) (by apply Sq.rb; exact BK347.out) hb); have n1_ := Sq.m (blk_below (g := gb348) (o := .cells #[.slice A1_0 l1_0.length c1_0] 24 (0, 0)) (by apply Sq.rb; exact BK348.out) hb); have n2_ := Sq.m (below_step (by repeat (first | (with_reducible first | exact HB.out | apply Sq.rc | refine below_set ?_ GE347.out | refine below_set ?_ GE348.out) | exact HB.out)) hb); clear BK347; clear BK348; clear HB; have BK347 := n0_; have BK348 := n1_; have HB := n2_; clear n0_ n1_ n2_; (try clear hb); (try clear hb2); (try clear hk); (try clear hi)))
   go_ret
   exact ⟨by first | rfl | (simp [errW_none, errW_some] <;> rfl) | (simp [*, errW_none, errW_some] <;> rfl), by repeat (first | (with_reducible first | exact HB.out | apply Sq.rc | refine below_set ?_ GE347.out | refine below_set ?_ GE348.out) | exact HB.out)⟩
  ·rw [if_neg c11] at H
   have c11b0 : decide (t350 < 0) = false := decide_eq_false c11
   clear c11
   replace H := Option.bind_eq_some_iff.mp H
   obtain ⟨t351, A190, H⟩ := H
   try dsimp only at H
   have A19 := Aside0.mk A190
   clear A190
   replace H := Option.bind_eq_some_iff.mp H
   obtain ⟨t354, A200, H⟩ := H
   try dsimp only at H
   have A20 := Aside0.mk A200
   clear A200
   replace H := Option.bind_eq_some_iff.mp H
   obtain ⟨⟨t357, t360⟩, A210, H⟩ := H
   try dsimp only at H
   have A21 := Aside0.mk A210
   clear A210
   replace H := Option.bind_eq_some_iff.mp H
   obtain ⟨t362, A220, H⟩ := H
   try dsimp only at H
   have A22 := Aside0.mk A220
   clear A220
   replace H := Option.bind_eq_some_iff.mp H
   obtain ⟨t366, A230, H⟩ := H
   try dsimp only at H
   have A23 := Aside0.mk A230
   clear A230
   replace H := Option.bind_eq_some_iff.mp H
   obtain ⟨⟨t370, t373⟩, A240, H⟩ := H
   try dsimp only at H
   have A24 := Aside0.mk A240
   clear A240
   replace H := Option.bind_eq_some_iff.mp H
   obtain ⟨t375, A250, H⟩ := H
   try dsimp only at H
   have A25 := Aside0.mk A250
   clear A250
   by_cases c26 : t375 = true
   ·subst c26
    have H1 : (if (t373 != t360) = true then (none) else ((laws_toNat.f k l0_0).bind fun t376 => ((laws_eqNat.f k t362 t376).bind fun t379 => (if t379 = true then ((laws_toNat.f k l1_0).bind fun t380 => ((laws_eqNat.f k t366 t380).bind fun t383 => (if t383 = true then ((laws_markNat.f k t362 1).bind fun bt384 => ((laws_markNat.f k t366 bt384.1).bind fun bt386 => (if bt386.1 < 0 then (none) else ((laws_eqNat.f k t370 t357).bind fun t388 => (if t388 = true then ((laws_markNat.f k t370 1).bind fun bt389 => ((laws_heldNat.f k bt389.2 1).bind fun t391 => (if t391 < 0 then (none) else (if t391 = bt389.1 then ((laws_toNat.f k l0_0).bind fun t392 => ((laws_toNat.f k l1_0).bind fun t395 => ((impl_NatAdd.f k t392 t395).bind fun bt398 => ((laws_eqNat.f k bt398.1 t357).bind fun t403 => (if t403 = true then (if (bt398.2 != t360) = true then (none) else ((laws_heldNat.f k bt389.2 1).bind fun t404 => (if t404 < 0 then (none) else (if t404 = bt389.1 then (some true) else (none))))) else (none)))))) else (none))))) else (none)))))) else (none)))) else (none))))) = some r := by rw [if_pos rfl] at H; exact H
    clear H
    have H := H1
    clear H1
    by_cases c27 : (t373 != t360) = true
    ·rw [if_pos c27] at H
     exact absurd H (by simp)
    ·rw [if_neg c27] at H
     have c27b0 : (t373 != t360) = false := by simpa using c27
     (try (have c27b1 : decide (t373 = t360) = true := by simpa using c27))
     (try (have c27b2 : (t373 == t360) = true := by simpa using c27))
     clear c27
     replace H := Option.bind_eq_some_iff.mp H
     obtain ⟨t376, A280, H⟩ := H
     try dsimp only at H
     have A28 := Aside0.mk A280
     clear A280
     replace H := Option.bind_eq_some_iff.mp H
     obtain ⟨t379, A290, H⟩ := H
     try dsimp only at H
     have A29 := Aside0.mk A290
     clear A290
     by_cases c30 : t379 = true
     ·subst c30
      have H1 : ((laws_toNat.f k l1_0).bind fun t380 => ((laws_eqNat.f k t366 t380).bind fun t383 => (if t383 = true then ((laws_markNat.f k t362 1).bind fun bt384 => ((laws_markNat.f k t366 bt384.1).bind fun bt386 => (if bt386.1 < 0 then (none) else ((laws_eqNat.f k t370 t357).bind fun t388 => (if t388 = true then ((laws_markNat.f k t370 1).bind fun bt389 => ((laws_heldNat.f k bt389.2 1).bind fun t391 => (if t391 < 0 then (none) else (if t391 = bt389.1 then ((laws_toNat.f k l0_0).bind fun t392 => ((laws_toNat.f k l1_0).bind fun t395 => ((impl_NatAdd.f k t392 t395).bind fun bt398 => ((laws_eqNat.f k bt398.1 t357).bind fun t403 => (if t403 = true then (if (bt398.2 != t360) = true then (none) else ((laws_heldNat.f k bt389.2 1).bind fun t404 => (if t404 < 0 then (none) else (if t404 = bt389.1 then (some true) else (none))))) else (none)))))) else (none))))) else (none)))))) else (none)))) = some r := by rw [if_pos rfl] at H; exact H
      clear H
      have H := H1
      clear H1
      replace H := Option.bind_eq_some_iff.mp H
      obtain ⟨t380, A310, H⟩ := H
      try dsimp only at H
      have A31 := Aside0.mk A310
      clear A310
      replace H := Option.bind_eq_some_iff.mp H
      obtain ⟨t383, A320, H⟩ := H
      try dsimp only at H
      have A32 := Aside0.mk A320
      clear A320
      by_cases c33 : t383 = true
      ·subst c33
       have H1 : ((laws_markNat.f k t362 1).bind fun bt384 => ((laws_markNat.f k t366 bt384.1).bind fun bt386 => (if bt386.1 < 0 then (none) else ((laws_eqNat.f k t370 t357).bind fun t388 => (if t388 = true then ((laws_markNat.f k t370 1).bind fun bt389 => ((laws_heldNat.f k bt389.2 1).bind fun t391 => (if t391 < 0 then (none) else (if t391 = bt389.1 then ((laws_toNat.f k l0_0).bind fun t392 => ((laws_toNat.f k l1_0).bind fun t395 => ((impl_NatAdd.f k t392 t395).bind fun bt398 => ((laws_eqNat.f k bt398.1 t357).bind fun t403 => (if t403 = true then (if (bt398.2 != t360) = true then (none) else ((laws_heldNat.f k bt389.2 1).bind fun t404 => (if t404 < 0 then (none) else (if t404 = bt389.1 then (some true) else (none))))) else (none)))))) else (none))))) else (none)))))) = some r := by rw [if_pos rfl] at H; exact H
       clear H
       have H := H1
       clear H1
       replace H := Option.bind_eq_some_iff.mp H
       obtain ⟨⟨t384, t385⟩, A340, H⟩ := H
       try dsimp only at H
       have A34 := Aside0.mk A340
       clear A340
       replace H := Option.bind_eq_some_iff.mp H
       obtain ⟨⟨t386, t387⟩, A350, H⟩ := H
       try dsimp only at H
       have A35 := Aside0.mk A350
       clear A350
       by_cases c36 : t386 < 0
       ·rw [if_pos c36] at H
        exact absurd H (by simp)
       ·rw [if_neg c36] at H
        have c36b0 : decide (t386 < 0) = false := decide_eq_false c36
        clear c36
        replace H := Option.bind_eq_some_iff.mp H
        obtain ⟨t388, A370, H⟩ := H
        try dsimp only at H
        have A37 := Aside0.mk A370
        clear A370
        by_cases c38 : t388 = true
        ·subst c38
         have H1 : ((laws_markNat.f k t370 1).bind fun bt389 => ((laws_heldNat.f k bt389.2 1).bind fun t391 => (if t391 < 0 then (none) else (if t391 = bt389.1 then ((laws_toNat.f k l0_0).bind fun t392 => ((laws_toNat.f k l1_0).bind fun t395 => ((impl_NatAdd.f k t392 t395).bind fun bt398 => ((laws_eqNat.f k bt398.1 t357).bind fun t403 => (if t403 = true then (if (bt398.2 != t360) = true then (none) else ((laws_heldNat.f k bt389.2 1).bind fun t404 => (if t404 < 0 then (none) else (if t404 = bt389.1 then (some true) else (none))))) else (none)))))) else (none))))) = some r := by rw [if_pos rfl] at H; exact H
         clear H
         have H := H1
         clear H1
         replace H := Option.bind_eq_some_iff.mp H
         obtain ⟨⟨t389, t390⟩, A390, H⟩ := H
         try dsimp only at H
         have A39 := Aside0.mk A390
         clear A390
         replace H := Option.bind_eq_some_iff.mp H
         obtain ⟨t391, A400, H⟩ := H
         try dsimp only at H
         have A40 := Aside0.mk A400
         clear A400
         by_cases c41 : t391 < 0
         ·rw [if_pos c41] at H
          exact absurd H (by simp)
         ·rw [if_neg c41] at H
          have c41b0 : decide (t391 < 0) = false := decide_eq_false c41
          clear c41
          by_cases c42 : t391 = t389
          ·rw [if_pos c42] at H
           have c42b0 : (t391 == t389) = true := beq_iff_eq.mpr c42
           have c42b1 : (t391 != t389) = false := bne_eq_false_iff_eq.mpr c42
           clear c42
           replace H := Option.bind_eq_some_iff.mp H
           obtain ⟨t392, A430, H⟩ := H
           try dsimp only at H
           have A43 := Aside0.mk A430
           clear A430
           replace H := Option.bind_eq_some_iff.mp H
           obtain ⟨t395, A440, H⟩ := H
           try dsimp only at H
           have A44 := Aside0.mk A440
           clear A440
           replace H := Option.bind_eq_some_iff.mp H
           obtain ⟨⟨t398, t401⟩, A450, H⟩ := H
           try dsimp only at H
           have A45 := Aside0.mk A450
           clear A450
           replace H := Option.bind_eq_some_iff.mp H
           obtain ⟨t403, A460, H⟩ := H
           try dsimp only at H
           have A46 := Aside0.mk A460
           clear A460
           by_cases c47 : t403 = true
           ·subst c47
            have H1 : (if (t401 != t360) = true then (none) else ((laws_heldNat.f k t390 1).bind fun t404 => (if t404 < 0 then (none) else (if t404 = t389 then (some true) else (none))))) = some r := by rw [if_pos rfl] at H; exact H
            clear H
            have H := H1
            clear H1
            by_cases c48 : (t401 != t360) = true
            ·rw [if_pos c48] at H
             exact absurd H (by simp)
            ·rw [if_neg c48] at H
             have c48b0 : (t401 != t360) = false := by simpa using c48
             (try (have c48b1 : decide (t401 = t360) = true := by simpa using c48))
             (try (have c48b2 : (t401 == t360) = true := by simpa using c48))
             clear c48
             replace H := Option.bind_eq_some_iff.mp H
             obtain ⟨t404, A490, H⟩ := H
             try dsimp only at H
             have A49 := Aside0.mk A490
             clear A490
             by_cases c50 : t404 < 0
             ·rw [if_pos c50] at H
              exact absurd H (by simp)
             ·rw [if_neg c50] at H
              have c50b0 : decide (t404 < 0) = false := decide_eq_false c50
              clear c50
              by_cases c51 : t404 = t389
              ·rw [if_pos c51] at H
               have c51b0 : (t404 == t389) = true := beq_iff_eq.mpr c51
               have c51b1 : (t404 != t389) = false := bne_eq_false_iff_eq.mpr c51
               clear c51
               obtain rfl := Option.some.inj H
               go_enter Try.func4, Try.ntmps4
               try go_wp2_with (first | ((with_reducible refine gate_dst (N := 2) rfl ?_); refine box_event ?hg (N := 2) ?hd (cs := #[.slice A0_0 l0_0.length c0_0]) (t := 24) ?hr ?_; (case hd => rfl); (case hg => rfl); (case hr => first | (go_simp; done) | (go_simp; rfl)); intro gb347 hg w52 hbox hb; have n0_ := Sq.m (below_step (by repeat (first | (with_reducible first | exact HB.out | apply Sq.rc) | exact HB.out)) hb); have n1_ := Sq.m (hbox); have n2_ := Sq.m ((by rw [hg]; exact (below_size (by repeat (first | (with_reducible first | exact HB.out | apply Sq.rc) | exact HB.out))) : w.heap.size ≤ gb347)); have n3_ := Sq.m ((by rw [hg]; exact (below_size (by repeat (first | (with_reducible first | exact HB.out | apply Sq.rc) | exact HB.out))) : w.heap.size ≤ gb347)); clear HB; have HB := n0_; have BK347 := n1_; have GW347 := n2_; have GE347 := n3_; clear n0_ n1_ n2_ n3_; clear hb hbox hg) | ((with_reducible refine gate_dst (N := 3) rfl ?_); refine box_event ?hg (N := 3) ?hd (cs := #[.slice A1_0 l1_0.length c1_0]) (t := 24) ?hr ?_; (case hd => rfl); (case hg => rfl); (case hr => first | (go_simp; done) | (go_simp; rfl)); intro gb348 hg w53 hbox hb; have n0_ := Sq.m (blk_below (g := gb347) (o := .cells #[.slice A0_0 l0_0.length c0_0] 24 (0, 0)) (by apply Sq.rb; exact BK347.out) hb); have n1_ := Sq.m (below_step (by repeat (first | (with_reducible first | exact HB.out | apply Sq.rc | refine below_set ?_ GE347.out) | exact HB.out)) hb); have n2_ := Sq.m (hbox); have n3_ := Sq.m ((by rw [hg]; exact (below_size (by repeat (first | (with_reducible first | exact HB.out | apply Sq.rc | refine below_set ?_ GE347.out) | exact HB.out))) : w.heap.size ≤ gb348)); have n4_ := Sq.m ((by rw [hg]; exact (below_size (by repeat (first | (with_reducible first | exact HB.out | apply Sq.rc | refine below_set ?_ GE347.out) | exact HB.out))) : w.heap.size ≤ gb348)); have n5_ := Sq.m ((by rw [hg]; exact Nat.ne_of_lt (blk_lt (g := gb347) (o := .cells #[.slice A0_0 l0_0.length c0_0] 24 (0, 0)) (by apply Sq.rb; exact BK347.out)) : gb347 ≠ gb348)); have n6_ := Sq.m ((by rw [hg]; exact Nat.ne_of_gt (blk_lt (g := gb347) (o := .cells #[.slice A0_0 l0_0.length c0_0] 24 (0, 0)) (by apply Sq.rb; exact BK347.out)) : gb348 ≠ gb347)); clear BK347; clear HB; have BK347 := n0_; have HB := n1_; have BK348 := n2_; have GW348 := n3_; have GE348 := n4_; have NB347_348 := n5_; have NB348_347 := n6_; clear n0_ n1_ n2_ n3_ n4_ n5_ n6_; clear hb hbox hg; have hnb54 := NB347_348.out; have hnc54 := NB348_347.out; have hcz55_0 : w53.cell? ⟨gb347, 0, none⟩ = some (.slice A0_0 l0_0.length c0_0) := (blk_cell BK347.out 0).trans rfl; have hfz55_0 := blk_frozen BK347.out 0) | ((with_reducible refine gate_callee (f := 15) rfl ?_); refine goesL_ (some 19) rfl rfl Try.func15 (by kernel_rfl) rfl #[.agg #[.slice A0_0 l0_0.length c0_0], .int .i64 1048576] rfl (by (try simp only [List.map_toArray, List.map_cons, List.map_nil]); first | done | rfl | (simp only [List.length_drop, List.length_take]; rfl) | (simp only [i64_w, u8_w, w64_b]; rfl)) ?_; (with_reducible refine (laws_szNat.calls _ _ l0_0 1048576 t349 _ ?side1 ?side2 A3.out).mono ?_); (case side1 => repeat (first | exact (Kd.C_below HR0_0.out HB.out) | (with_reducible refine Kd.C_alloc ?_ _) | (with_reducible refine Kd.C_drewN ?_ _) | (with_reducible refine Kd.C_drew ?_))); (case side2 => exact HC0_0.out); rintro e w56 ⟨rfl, hb⟩; refine ⟨_, rfl, ?_⟩; have n0_ := Sq.m (blk_below (g := gb347) (o := .cells #[.slice A0_0 l0_0.length c0_0] 24 (0, 0)) (by apply Sq.rb; exact BK347.out) hb); have n1_ := Sq.m (blk_below (g := gb348) (o := .cells #[.slice A1_0 l1_0.length c1_0] 24 (0, 0)) (by apply Sq.rb; exact BK348.out) hb); have n2_ := Sq.m (below_step (by repeat (first | (with_reducible first | exact HB.out | apply Sq.rc | refine below_set ?_ GE347.out | refine below_set ?_ GE348.out) | exact HB.out)) hb); clear BK347; clear BK348; clear HB; have BK347 := n0_; have BK348 := n1_; have HB := n2_; clear n0_ n1_ n2_; (try clear hb); (try clear hb2); (try clear hk); (try clear hi); have hcz57_0 : w56.cell? ⟨gb348, 0, none⟩ = some (.slice A1_0 l1_0.length c1_0) := (blk_cell BK348.out 0).trans rfl; have hfz57_0 := blk_frozen BK348.out 0) | ((with_reducible refine gate_callee (f := 15) rfl ?_); refine goesL_ (some 24) rfl rfl Try.func15 (by kernel_rfl) rfl #[.agg #[.slice A1_0 l1_0.length c1_0], .int .i64 t349] rfl (by (try simp only [List.map_toArray, List.map_cons, List.map_nil]); first | done | rfl | (simp only [List.length_drop, List.length_take]; rfl) | (simp only [i64_w, u8_w, w64_b]; rfl)) ?_; (with_reducible refine (laws_szNat.calls _ _ l1_0 t349 t350 _ ?side1 ?side2 A10.out).mono ?_); (case side1 => repeat (first | exact (Kd.C_below HR1_0.out HB.out) | (with_reducible refine Kd.C_alloc ?_ _) | (with_reducible refine Kd.C_drewN ?_ _) | (with_reducible refine Kd.C_drew ?_))); (case side2 => exact HC1_0.out); rintro e w58 ⟨rfl, hb⟩; refine ⟨_, rfl, ?_⟩; have n0_ := Sq.m (blk_below (g := gb347) (o := .cells #[.slice A0_0 l0_0.length c0_0] 24 (0, 0)) (by apply Sq.rb; exact BK347.out) hb); have n1_ := Sq.m (blk_below (g := gb348) (o := .cells #[.slice A1_0 l1_0.length c1_0] 24 (0, 0)) (by apply Sq.rb; exact BK348.out) hb); have n2_ := Sq.m (below_step (by repeat (first | (with_reducible first | exact HB.out | apply Sq.rc | refine below_set ?_ GE347.out | refine below_set ?_ GE348.out) | exact HB.out)) hb); clear BK347; clear BK348; clear HB; have BK347 := n0_; have BK348 := n1_; have HB := n2_; clear n0_ n1_ n2_; (try clear hb); (try clear hb2); (try clear hk); (try clear hi)))
               have n0_ := Sq.m (blk_drew BK347.out)
               have n1_ := Sq.m (blk_drew BK348.out)
               have n2_ := Sq.m (below_drew1 HB.out)
               clear BK347
               clear BK348
               clear HB
               have BK347 := n0_
               have BK348 := n1_
               have HB := n2_
               clear n0_ n1_ n2_
               refine start_ (n := 11) (S := fun w' => True) (ds := []) #[false, false, false, false, false, false, false, false, false, false, false] (by kernel_rfl) rfl rfl trivial (fun hHeld => ?_); refine with_tabW laws_FnExactNatAdd.tab8 laws_FnExactNatAdd.bits8 (fun HT_ HW_ => ?_)
               generalize w58.drew = w59 at BK347 BK348 HB hHeld ⊢
               refine inv_at [0, 1, 2, 3, 4, 5, 6, 7, 8, 9, 10] (fun a0_ b a w' => ∃ (v352 : Value) (v355 : Value) (v358 : Value) (gb361 : Nat) (m1_ : Value) (m3_ : Value) (m4_ : Value) (m5_ : Value) (m6_ : Value) (m8_ : Value), a = putSel a0_ b [(0, 28, .agg #[.slice A0_0 l0_0.length c0_0]), (1, 29, m1_), (2, 30, .agg #[.slice A1_0 l1_0.length c1_0]), (3, 31, m3_), (4, 32, m4_), (5, 27, m5_), (6, 33, m6_), (7, 34, .bool t360), (8, 6, m8_), (10, 7, .bool t360)] ∧ (w'.heap[gb347]? = some (.cells #[.slice A0_0 l0_0.length c0_0] 24 (0, 0))) ∧ (w'.heap[gb348]? = some (.cells #[.slice A1_0 l1_0.length c1_0] 24 (0, 0))) ∧ (Below w.heap.size w w') ∧ (b 1 = true → Kd.R (Kd.int .i64) 3 w' w.heap.size (fun _ => True) v352 t351) ∧ (b 3 = true → Kd.R (Kd.int .i64) 3 w' w.heap.size (fun _ => True) v355 t354) ∧ (b 4 = true → Kd.R (Kd.int .i64) 3 w' w.heap.size (fun _ => True) v358 t357) ∧ (b 8 = true → b 9 = false → w'.heap[gb361]? = some (.cells #[.slice none 0 0] 26 (0, 0))) ∧ (b 8 = true → w.heap.size ≤ gb361) ∧ (b 8 = true → w.heap.size ≤ gb361) ∧ (b 8 = true → gb347 ≠ gb361) ∧ (b 8 = true → gb361 ≠ gb347) ∧ (b 8 = true → gb348 ≠ gb361) ∧ (b 8 = true → gb361 ≠ gb348) ∧ (b 9 = true → w'.heap[gb361]? = some (.cells #[v358] 26 (0, 0))) ∧ (b 1 = true → (m1_ : Value) = .agg #[v352]) ∧ (b 3 = true → (m3_ : Value) = .agg #[v355]) ∧ (b 4 = true → (m4_ : Value) = .tuple #[.agg #[v358], .bool t360]) ∧ (b 5 = true → (m5_ : Value) = .tuple #[.agg #[v358], .bool t360]) ∧ (b 6 = true → (m6_ : Value) = .agg #[v358]) ∧ (b 8 = true → (m8_ : Value) = .pointer (some ⟨gb361, 0, none⟩))) HT_.out HW_.out (by kernel_rfl) (by kernel_rfl) ?_ ?_ ?_
               ·exact ⟨.bool false, .bool false, .bool false, 0, .bool false, .bool false, .bool false, .bool false, .bool false, .bool false, by simp only [putSel, Bool.false_eq_true, if_false], BK347.out, BK348.out, HB.out, fun h_ => absurd h_ (by decide), fun h_ => absurd h_ (by decide), fun h_ => absurd h_ (by decide), fun h_ => absurd h_ (by decide), fun h_ => absurd h_ (by decide), fun h_ => absurd h_ (by decide), fun h_ => absurd h_ (by decide), fun h_ => absurd h_ (by decide), fun h_ => absurd h_ (by decide), fun h_ => absurd h_ (by decide), fun h_ => absurd h_ (by decide), fun h_ => absurd h_ (by decide), fun h_ => absurd h_ (by decide), fun h_ => absurd h_ (by decide), fun h_ => absurd h_ (by decide), fun h_ => absurd h_ (by decide), fun h_ => absurd h_ (by decide)⟩
               ·skip
                clear BK347 BK348 HB
                refine steps_cons ?_ ?_
                ·rintro b a w' ⟨v352, v355, v358, gb361, m1_, m3_, m4_, m5_, m6_, m8_, ha, Q_BK347, Q_BK348, Q_HB, Q_HO353, Q_HO356, Q_HO359, Q_BK361, Q_GW361, Q_GE361, Q_NB347_361, Q_NB361_347, Q_NB348_361, Q_NB361_348, Q_BK361_e9, Q_X1_, Q_X3_, Q_X4_, Q_X5_, Q_X6_, Q_X8_⟩ hb_ hon hoff
                 refine ⟨_, rfl, fun K hK => ?_⟩
                 have e2 : a.tmps[2]? = some (.pointer (some ⟨gb347, 0, none⟩)) := by rw [ha]; exact (putSel_off rfl).trans rfl
                 replace ha := Aside0.mk ha
                 have BK347 := Aside0.mk Q_BK347
                 have BK348 := Aside0.mk Q_BK348
                 have HB := Aside0.mk Q_HB
                 have hc0_ : w'.cell? ⟨gb347, 0, none⟩ = some (.slice A0_0 l0_0.length c0_0) := (blk_cell BK347.out 0).trans rfl
                 refine value_ (w1 := w') (v := .agg #[.slice A0_0 l0_0.length c0_0]) (by rfl) rfl ?_ ?_
                 ·go_simp
                  (try simp only [i64_w])
                  try rfl
                 refine hK.out _ _ ⟨v352, v355, v358, gb361, m1_, m3_, m4_, m5_, m6_, m8_, (by rw [ha.out]; exact putSel_upk 0 hb_ rfl rfl rfl), Q_BK347, Q_BK348, Q_HB, fun h0_ => absurd ((hoff 1 (by kernel_rfl)).symm.trans h0_) (by decide), fun h0_ => absurd ((hoff 3 (by kernel_rfl)).symm.trans h0_) (by decide), fun h0_ => absurd ((hoff 4 (by kernel_rfl)).symm.trans h0_) (by decide), Q_BK361, Q_GW361, Q_GE361, Q_NB347_361, Q_NB361_347, Q_NB348_361, Q_NB361_348, fun h0_ => absurd ((hoff 9 (by kernel_rfl)).symm.trans h0_) (by decide), fun h0_ => absurd ((hoff 1 (by kernel_rfl)).symm.trans h0_) (by decide), fun h0_ => absurd ((hoff 3 (by kernel_rfl)).symm.trans h0_) (by decide), fun h0_ => absurd ((hoff 4 (by kernel_rfl)).symm.trans h0_) (by decide), fun h0_ => absurd ((hoff 5 (by kernel_rfl)).symm.trans h0_) (by decide), fun h0_ => absurd ((hoff 6 (by kernel_rfl)).symm.trans h0_) (by decide), Q_X8_⟩
                refine steps_cons ?_ ?_
                ·rintro b a w' ⟨v352, v355, v358, gb361, m1_, m3_, m4_, m5_, m6_, m8_, ha, Q_BK347, Q_BK348, Q_HB, Q_HO353, Q_HO356, Q_HO359, Q_BK361, Q_GW361, Q_GE361, Q_NB347_361, Q_NB361_347, Q_NB348_361, Q_NB361_348, Q_BK361_e9, Q_X1_, Q_X3_, Q_X4_, Q_X5_, Q_X6_, Q_X8_⟩ hb_ hon hoff
                 refine ⟨_, rfl, fun K hK => ?_⟩
                 have e28 : a.tmps[28]? = some (.agg #[.slice A0_0 l0_0.length c0_0]) := by rw [ha]; exact putSel_on (e := (0, 28, .agg #[.slice A0_0 l0_0.length c0_0])) 0 rfl rfl (hon 0 (by kernel_rfl)) rfl
                 replace ha := Aside0.mk ha
                 have BK347 := Aside0.mk Q_BK347
                 have BK348 := Aside0.mk Q_BK348
                 have HB := Aside0.mk Q_HB
                 refine goes_ Try.func17 (by kernel_rfl) rfl #[.agg #[.slice A0_0 l0_0.length c0_0]] (by rfl) rfl rfl (by first | (simp only [List.map_toArray, List.map_cons, List.map_nil, Act.eval, Array.getD_eq_getD_getElem?, Option.getD_some, e28]; done) | (simp only [List.map_toArray, List.map_cons, List.map_nil, Act.eval, Array.getD_eq_getD_getElem?, Option.getD_some, e28]; rfl)) ?_
                 with_reducible refine (laws_toNat.calls k _ _ l0_0 t351 _ ?side1 ?side2 A19.out).mono ?_
                 (case side1 => repeat (first | exact (Kd.C_below HR0_0.out HB.out) | (with_reducible refine Kd.C_alloc ?_ _) | (with_reducible refine Kd.C_drewN ?_ _) | (with_reducible refine Kd.C_drew ?_)))
                 (case side2 => exact HC0_0.out)
                 rintro e w60 ⟨v352, rfl, ho0, hb⟩
                 refine ⟨_, rfl, ?_⟩
                 have n0_ := Sq.m (Kd.R_lower ho0 (below_size (by repeat (first | (with_reducible first | exact HB.out | apply Sq.rc | refine below_set ?_ GE347.out | refine below_set ?_ GE348.out) | exact HB.out))))
                 have n1_ := Sq.m (blk_below (g := gb347) (o := .cells #[.slice A0_0 l0_0.length c0_0] 24 (0, 0)) (by apply Sq.rb; exact BK347.out) hb)
                 have n2_ := Sq.m (blk_below (g := gb348) (o := .cells #[.slice A1_0 l1_0.length c1_0] 24 (0, 0)) (by apply Sq.rb; exact BK348.out) hb)
                 have n3_ := Sq.m (below_step (by repeat (first | (with_reducible first | exact HB.out | apply Sq.rc | refine below_set ?_ GE347.out | refine below_set ?_ GE348.out) | exact HB.out)) hb)
                 have z_BK361 := fun (h0_ : b 8 = true) (h1_ : b 9 = false) => (show w60.heap[gb361]? = some (.cells #[.slice none 0 0] 26 (0, 0)) from by first | exact (blk_below (g := gb361) (o := .cells #[.slice none 0 0] 26 (0, 0)) (by apply Sq.rb; exact (Q_BK361 h0_ h1_)) hb))
                 clear BK347
                 clear BK348
                 clear HB
                 have HO353 := n0_
                 have BK347 := n1_
                 have BK348 := n2_
                 have HB := n3_
                 clear n0_ n1_ n2_ n3_
                 (try clear hb)
                 (try clear hb2)
                 (try clear hk)
                 (try clear hi)
                 (try clear ho0)
                 refine hK.out _ _ ⟨v352, v355, v358, gb361, (.agg #[v352]), m3_, m4_, m5_, m6_, m8_, (by rw [ha.out]; exact putSel_upk 1 hb_ rfl rfl rfl), (by apply Sq.rb; exact BK347.out), (by apply Sq.rb; exact BK348.out), (by repeat (first | (with_reducible first | exact HB.out | apply Sq.rc | refine below_set ?_ GE347.out | refine below_set ?_ GE348.out) | exact HB.out)), fun _ => (by apply Sq.ra; exact HO353.out), fun h0_ => absurd ((hoff 3 (by kernel_rfl)).symm.trans h0_) (by decide), fun h0_ => absurd ((hoff 4 (by kernel_rfl)).symm.trans h0_) (by decide), z_BK361, Q_GW361, Q_GE361, Q_NB347_361, Q_NB361_347, Q_NB348_361, Q_NB361_348, fun h0_ => absurd ((hoff 9 (by kernel_rfl)).symm.trans h0_) (by decide), fun _ => rfl, fun h0_ => absurd ((hoff 3 (by kernel_rfl)).symm.trans h0_) (by decide), fun h0_ => absurd ((hoff 4 (by kernel_rfl)).symm.trans h0_) (by decide), fun h0_ => absurd ((hoff 5 (by kernel_rfl)).symm.trans h0_) (by decide), fun h0_ => absurd ((hoff 6 (by kernel_rfl)).symm.trans h0_) (by decide), Q_X8_⟩
                refine steps_cons ?_ ?_
                ·rintro b a w' ⟨v352, v355, v358, gb361, m1_, m3_, m4_, m5_, m6_, m8_, ha, Q_BK347, Q_BK348, Q_HB, Q_HO353, Q_HO356, Q_HO359, Q_BK361, Q_GW361, Q_GE361, Q_NB347_361, Q_NB361_347, Q_NB348_361, Q_NB361_348, Q_BK361_e9, Q_X1_, Q_X3_, Q_X4_, Q_X5_, Q_X6_, Q_X8_⟩ hb_ hon hoff
                 refine ⟨_, rfl, fun K hK => ?_⟩
                 have e3 : a.tmps[3]? = some (.pointer (some ⟨gb348, 0, none⟩)) := by rw [ha]; exact (putSel_off rfl).trans rfl
                 replace ha := Aside0.mk ha
                 have BK347 := Aside0.mk Q_BK347
                 have BK348 := Aside0.mk Q_BK348
                 have HB := Aside0.mk Q_HB
                 have hc0_ : w'.cell? ⟨gb348, 0, none⟩ = some (.slice A1_0 l1_0.length c1_0) := (blk_cell BK348.out 0).trans rfl
                 refine value_ (w1 := w') (v := .agg #[.slice A1_0 l1_0.length c1_0]) (by rfl) rfl ?_ ?_
                 ·go_simp
                  (try simp only [i64_w])
                  try rfl
                 refine hK.out _ _ ⟨v352, v355, v358, gb361, m1_, m3_, m4_, m5_, m6_, m8_, (by rw [ha.out]; exact putSel_upk 2 hb_ rfl rfl rfl), Q_BK347, Q_BK348, Q_HB, Q_HO353, fun h0_ => absurd ((hoff 3 (by kernel_rfl)).symm.trans h0_) (by decide), fun h0_ => absurd ((hoff 4 (by kernel_rfl)).symm.trans h0_) (by decide), Q_BK361, Q_GW361, Q_GE361, Q_NB347_361, Q_NB361_347, Q_NB348_361, Q_NB361_348, fun h0_ => absurd ((hoff 9 (by kernel_rfl)).symm.trans h0_) (by decide), Q_X1_, fun h0_ => absurd ((hoff 3 (by kernel_rfl)).symm.trans h0_) (by decide), fun h0_ => absurd ((hoff 4 (by kernel_rfl)).symm.trans h0_) (by decide), fun h0_ => absurd ((hoff 5 (by kernel_rfl)).symm.trans h0_) (by decide), fun h0_ => absurd ((hoff 6 (by kernel_rfl)).symm.trans h0_) (by decide), Q_X8_⟩
                refine steps_cons ?_ ?_
                ·rintro b a w' ⟨v352, v355, v358, gb361, m1_, m3_, m4_, m5_, m6_, m8_, ha, Q_BK347, Q_BK348, Q_HB, Q_HO353, Q_HO356, Q_HO359, Q_BK361, Q_GW361, Q_GE361, Q_NB347_361, Q_NB361_347, Q_NB348_361, Q_NB361_348, Q_BK361_e9, Q_X1_, Q_X3_, Q_X4_, Q_X5_, Q_X6_, Q_X8_⟩ hb_ hon hoff
                 refine ⟨_, rfl, fun K hK => ?_⟩
                 have e30 : a.tmps[30]? = some (.agg #[.slice A1_0 l1_0.length c1_0]) := by rw [ha]; exact putSel_on (e := (2, 30, .agg #[.slice A1_0 l1_0.length c1_0])) 2 rfl rfl (hon 2 (by kernel_rfl)) rfl
                 replace ha := Aside0.mk ha
                 have BK347 := Aside0.mk Q_BK347
                 have BK348 := Aside0.mk Q_BK348
                 have HB := Aside0.mk Q_HB
                 have HO353 := Sq.m (Q_HO353 (hon 1 (by kernel_rfl)))
                 refine goes_ Try.func17 (by kernel_rfl) rfl #[.agg #[.slice A1_0 l1_0.length c1_0]] (by rfl) rfl rfl (by first | (simp only [List.map_toArray, List.map_cons, List.map_nil, Act.eval, Array.getD_eq_getD_getElem?, Option.getD_some, e30]; done) | (simp only [List.map_toArray, List.map_cons, List.map_nil, Act.eval, Array.getD_eq_getD_getElem?, Option.getD_some, e30]; rfl)) ?_
                 with_reducible refine (laws_toNat.calls k _ _ l1_0 t354 _ ?side1 ?side2 A20.out).mono ?_
                 (case side1 => repeat (first | exact (Kd.C_below HR1_0.out HB.out) | (with_reducible refine Kd.C_alloc ?_ _) | (with_reducible refine Kd.C_drewN ?_ _) | (with_reducible refine Kd.C_drew ?_)))
                 (case side2 => exact HC1_0.out)
                 rintro e w62 ⟨v355, rfl, ho0, hb⟩
                 refine ⟨_, rfl, ?_⟩
                 have n0_ := Sq.m (Kd.R_elder' (by apply Sq.ra; exact HO353.out) (Kd.R_base ho0) hb)
                 have n1_ := Sq.m (Kd.R_lower (Kd.R_new' ho0 (Kd.R_lt (by apply Sq.ra; exact HO353.out))) (below_size (by repeat (first | (with_reducible first | exact HB.out | apply Sq.rc | refine below_set ?_ GE347.out | refine below_set ?_ GE348.out) | exact HB.out))))
                 have n2_ := Sq.m (blk_below (g := gb347) (o := .cells #[.slice A0_0 l0_0.length c0_0] 24 (0, 0)) (by apply Sq.rb; exact BK347.out) hb)
                 have n3_ := Sq.m (blk_below (g := gb348) (o := .cells #[.slice A1_0 l1_0.length c1_0] 24 (0, 0)) (by apply Sq.rb; exact BK348.out) hb)
                 have n4_ := Sq.m (below_step (by repeat (first | (with_reducible first | exact HB.out | apply Sq.rc | refine below_set ?_ GE347.out | refine below_set ?_ GE348.out) | exact HB.out)) hb)
                 have z_BK361 := fun (h0_ : b 8 = true) (h1_ : b 9 = false) => (show w62.heap[gb361]? = some (.cells #[.slice none 0 0] 26 (0, 0)) from by first | exact (blk_below (g := gb361) (o := .cells #[.slice none 0 0] 26 (0, 0)) (by apply Sq.rb; exact (Q_BK361 h0_ h1_)) hb))
                 clear HO353
                 clear BK347
                 clear BK348
                 clear HB
                 have HO353 := n0_
                 have HO356 := n1_
                 have BK347 := n2_
                 have BK348 := n3_
                 have HB := n4_
                 clear n0_ n1_ n2_ n3_ n4_
                 (try clear hb)
                 (try clear hb2)
                 (try clear hk)
                 (try clear hi)
                 (try clear ho0)
                 refine hK.out _ _ ⟨v352, v355, v358, gb361, m1_, (.agg #[v355]), m4_, m5_, m6_, m8_, (by rw [ha.out]; exact putSel_upk 3 hb_ rfl rfl rfl), (by apply Sq.rb; exact BK347.out), (by apply Sq.rb; exact BK348.out), (by repeat (first | (with_reducible first | exact HB.out | apply Sq.rc | refine below_set ?_ GE347.out | refine below_set ?_ GE348.out) | exact HB.out)), fun _ => (by apply Sq.ra; exact Kd.R_mono HO353.out (fun _ hk => by first | exact True.intro | exact hk.1 | exact hk | exact hk.2 | simp only [hk, ne_eq, not_false_eq_true, and_self, and_true, true_and])), fun _ => (by apply Sq.ra; exact Kd.R_mono HO356.out (fun _ hk => by first | exact True.intro | exact hk.1 | exact hk | exact hk.2 | simp only [hk, ne_eq, not_false_eq_true, and_self, and_true, true_and])), fun h0_ => absurd ((hoff 4 (by kernel_rfl)).symm.trans h0_) (by decide), z_BK361, Q_GW361, Q_GE361, Q_NB347_361, Q_NB361_347, Q_NB348_361, Q_NB361_348, fun h0_ => absurd ((hoff 9 (by kernel_rfl)).symm.trans h0_) (by decide), Q_X1_, fun _ => rfl, fun h0_ => absurd ((hoff 4 (by kernel_rfl)).symm.trans h0_) (by decide), fun h0_ => absurd ((hoff 5 (by kernel_rfl)).symm.trans h0_) (by decide), fun h0_ => absurd ((hoff 6 (by kernel_rfl)).symm.trans h0_) (by decide), Q_X8_⟩
                refine steps_cons ?_ ?_
                ·rintro b a w' ⟨v352, v355, v358, gb361, m1_, m3_, m4_, m5_, m6_, m8_, ha, Q_BK347, Q_BK348, Q_HB, Q_HO353, Q_HO356, Q_HO359, Q_BK361, Q_GW361, Q_GE361, Q_NB347_361, Q_NB361_347, Q_NB348_361, Q_NB361_348, Q_BK361_e9, Q_X1_, Q_X3_, Q_X4_, Q_X5_, Q_X6_, Q_X8_⟩ hb_ hon hoff
                 refine ⟨_, rfl, fun K hK => ?_⟩
                 have e29 : a.tmps[29]? = some (m1_) := by rw [ha]; exact putSel_on (e := (1, 29, m1_)) 1 rfl rfl (hon 1 (by kernel_rfl)) rfl
                 rw [Q_X1_ (hon 1 (by kernel_rfl))] at e29
                 have e31 : a.tmps[31]? = some (m3_) := by rw [ha]; exact putSel_on (e := (3, 31, m3_)) 3 rfl rfl (hon 3 (by kernel_rfl)) rfl
                 rw [Q_X3_ (hon 3 (by kernel_rfl))] at e31
                 replace ha := Aside0.mk ha
                 have BK347 := Aside0.mk Q_BK347
                 have BK348 := Aside0.mk Q_BK348
                 have HB := Aside0.mk Q_HB
                 have HO353 := Sq.m (Q_HO353 (hon 1 (by kernel_rfl)))
                 have HO356 := Sq.m (Q_HO356 (hon 3 (by kernel_rfl)))
                 obtain ⟨Ao63, co63, eo63⟩ := Kd.R_slice HO353.out
                 (first | subst eo63 | (injection eo63 with f1_ f2_ f3_; have f4_ := f1_.symm; have f5_ := f3_.symm; clear f1_ f2_ f3_; subst f4_; subst f5_))
                 obtain ⟨Ao64, co64, eo64⟩ := Kd.R_slice HO356.out
                 (first | subst eo64 | (injection eo64 with f1_ f2_ f3_; have f4_ := f1_.symm; have f5_ := f3_.symm; clear f1_ f2_ f3_; subst f4_; subst f5_))
                 refine goes_ Try.func22 (by kernel_rfl) rfl #[.agg #[.slice Ao63 t351.length co63], .agg #[.slice Ao64 t354.length co64]] (by rfl) rfl rfl (by first | (simp only [List.map_toArray, List.map_cons, List.map_nil, Act.eval, Array.getD_eq_getD_getElem?, Option.getD_some, e29, e31]; done) | (simp only [List.map_toArray, List.map_cons, List.map_nil, Act.eval, Array.getD_eq_getD_getElem?, Option.getD_some, e29, e31]; rfl)) ?_
                 with_reducible refine (spec_NatAdd.calls k _ _ t351 _ _ t354 t357 t360 _ ?side1 ?side2 ?side3 ?side4 A21.out).mono ?_
                 (case side1 => repeat (first | exact (Kd.R_reads' HO353.out).2.2 | (with_reducible refine Kd.C_alloc ?_ _) | (with_reducible refine Kd.C_drewN ?_ _) | (with_reducible refine Kd.C_drew ?_)))
                 (case side2 => exact (Kd.R_reads' HO353.out).2.1)
                 (case side3 => repeat (first | exact (Kd.R_reads' HO356.out).2.2 | (with_reducible refine Kd.C_alloc ?_ _) | (with_reducible refine Kd.C_drewN ?_ _) | (with_reducible refine Kd.C_drew ?_)))
                 (case side4 => exact (Kd.R_reads' HO356.out).2.1)
                 rintro e w65 ⟨v358, rfl, ho0, hb⟩
                 refine ⟨_, rfl, ?_⟩
                 have n0_ := Sq.m (Kd.R_elder' (by apply Sq.ra; exact HO353.out) (Kd.R_base ho0) hb)
                 have n1_ := Sq.m (Kd.R_elder' (by apply Sq.ra; exact HO356.out) (Kd.R_base ho0) hb)
                 have n2_ := Sq.m (Kd.R_lower (Kd.R_new' (Kd.R_new' ho0 (Kd.R_lt (by apply Sq.ra; exact HO353.out))) (Kd.R_lt (by apply Sq.ra; exact HO356.out))) (below_size (by repeat (first | (with_reducible first | exact HB.out | apply Sq.rc | refine below_set ?_ GE347.out | refine below_set ?_ GE348.out) | exact HB.out))))
                 have n3_ := Sq.m (blk_below (g := gb347) (o := .cells #[.slice A0_0 l0_0.length c0_0] 24 (0, 0)) (by apply Sq.rb; exact BK347.out) hb)
                 have n4_ := Sq.m (blk_below (g := gb348) (o := .cells #[.slice A1_0 l1_0.length c1_0] 24 (0, 0)) (by apply Sq.rb; exact BK348.out) hb)
                 have n5_ := Sq.m (below_step (by repeat (first | (with_reducible first | exact HB.out | apply Sq.rc | refine below_set ?_ GE347.out | refine below_set ?_ GE348.out) | exact HB.out)) hb)
                 have z_BK361 := fun (h0_ : b 8 = true) (h1_ : b 9 = false) => (show w65.heap[gb361]? = some (.cells #[.slice none 0 0] 26 (0, 0)) from by first | exact (blk_below (g := gb361) (o := .cells #[.slice none 0 0] 26 (0, 0)) (by apply Sq.rb; exact (Q_BK361 h0_ h1_)) hb))
                 clear HO353
                 clear HO356
                 clear BK347
                 clear BK348
                 clear HB
                 have HO353 := n0_
                 have HO356 := n1_
                 have HO359 := n2_
                 have BK347 := n3_
                 have BK348 := n4_
                 have HB := n5_
                 clear n0_ n1_ n2_ n3_ n4_ n5_
                 (try clear hb)
                 (try clear hb2)
                 (try clear hk)
                 (try clear hi)
                 (try clear ho0)
                 refine hK.out _ _ ⟨.slice Ao63 t351.length co63, .slice Ao64 t354.length co64, v358, gb361, m1_, m3_, (.tuple #[.agg #[v358], .bool t360]), m5_, m6_, m8_, (by rw [ha.out]; exact putSel_upk 4 hb_ rfl rfl rfl), (by apply Sq.rb; exact BK347.out), (by apply Sq.rb; exact BK348.out), (by repeat (first | (with_reducible first | exact HB.out | apply Sq.rc | refine below_set ?_ GE347.out | refine below_set ?_ GE348.out) | exact HB.out)), fun _ => (by apply Sq.ra; exact Kd.R_mono HO353.out (fun _ hk => by first | exact True.intro | exact hk.1 | exact hk | exact hk.2 | simp only [hk, ne_eq, not_false_eq_true, and_self, and_true, true_and])), fun _ => (by apply Sq.ra; exact Kd.R_mono HO356.out (fun _ hk => by first | exact True.intro | exact hk.1 | exact hk | exact hk.2 | simp only [hk, ne_eq, not_false_eq_true, and_self, and_true, true_and])), fun _ => (by apply Sq.ra; exact Kd.R_mono HO359.out (fun _ hk => by first | exact True.intro | exact hk.1 | exact hk | exact ⟨hk.1.2, hk.2⟩ | simp only [hk, ne_eq, not_false_eq_true, and_self, and_true, true_and])), z_BK361, Q_GW361, Q_GE361, Q_NB347_361, Q_NB361_347, Q_NB348_361, Q_NB361_348, fun h0_ => absurd ((hoff 9 (by kernel_rfl)).symm.trans h0_) (by decide), Q_X1_, Q_X3_, fun _ => rfl, fun h0_ => absurd ((hoff 5 (by kernel_rfl)).symm.trans h0_) (by decide), fun h0_ => absurd ((hoff 6 (by kernel_rfl)).symm.trans h0_) (by decide), Q_X8_⟩
                refine steps_cons ?_ ?_
                ·rintro b a w' ⟨v352, v355, v358, gb361, m1_, m3_, m4_, m5_, m6_, m8_, ha, Q_BK347, Q_BK348, Q_HB, Q_HO353, Q_HO356, Q_HO359, Q_BK361, Q_GW361, Q_GE361, Q_NB347_361, Q_NB361_347, Q_NB348_361, Q_NB361_348, Q_BK361_e9, Q_X1_, Q_X3_, Q_X4_, Q_X5_, Q_X6_, Q_X8_⟩ hb_ hon hoff
                 refine ⟨_, rfl, fun K hK => ?_⟩
                 have e32 : a.tmps[32]? = some (m4_) := by rw [ha]; exact putSel_on (e := (4, 32, m4_)) 4 rfl rfl (hon 4 (by kernel_rfl)) rfl
                 rw [Q_X4_ (hon 4 (by kernel_rfl))] at e32
                 replace ha := Aside0.mk ha
                 have BK347 := Aside0.mk Q_BK347
                 have BK348 := Aside0.mk Q_BK348
                 have HB := Aside0.mk Q_HB
                 have HO353 := Sq.m (Q_HO353 (hon 1 (by kernel_rfl)))
                 have HO356 := Sq.m (Q_HO356 (hon 3 (by kernel_rfl)))
                 have HO359 := Sq.m (Q_HO359 (hon 4 (by kernel_rfl)))
                 refine value_ (w1 := w') (v := .tuple #[.agg #[v358], .bool t360]) (by rfl) rfl ?_ ?_
                 ·go_simp
                  (try simp only [i64_w])
                  try rfl
                 refine hK.out _ _ ⟨v352, v355, v358, gb361, m1_, m3_, m4_, (.tuple #[.agg #[v358], .bool t360]), m6_, m8_, (by rw [ha.out]; exact putSel_upk 5 hb_ rfl rfl rfl), Q_BK347, Q_BK348, Q_HB, Q_HO353, Q_HO356, Q_HO359, Q_BK361, Q_GW361, Q_GE361, Q_NB347_361, Q_NB361_347, Q_NB348_361, Q_NB361_348, fun h0_ => absurd ((hoff 9 (by kernel_rfl)).symm.trans h0_) (by decide), Q_X1_, Q_X3_, Q_X4_, fun _ => rfl, fun h0_ => absurd ((hoff 6 (by kernel_rfl)).symm.trans h0_) (by decide), Q_X8_⟩
                refine steps_cons ?_ ?_
                ·rintro b a w' ⟨v352, v355, v358, gb361, m1_, m3_, m4_, m5_, m6_, m8_, ha, Q_BK347, Q_BK348, Q_HB, Q_HO353, Q_HO356, Q_HO359, Q_BK361, Q_GW361, Q_GE361, Q_NB347_361, Q_NB361_347, Q_NB348_361, Q_NB361_348, Q_BK361_e9, Q_X1_, Q_X3_, Q_X4_, Q_X5_, Q_X6_, Q_X8_⟩ hb_ hon hoff
                 refine ⟨_, rfl, fun K hK => ?_⟩
                 have e27 : a.tmps[27]? = some (m5_) := by rw [ha]; exact putSel_on (e := (5, 27, m5_)) 5 rfl rfl (hon 5 (by kernel_rfl)) rfl
                 rw [Q_X5_ (hon 5 (by kernel_rfl))] at e27
                 replace ha := Aside0.mk ha
                 have BK347 := Aside0.mk Q_BK347
                 have BK348 := Aside0.mk Q_BK348
                 have HB := Aside0.mk Q_HB
                 have HO353 := Sq.m (Q_HO353 (hon 1 (by kernel_rfl)))
                 have HO356 := Sq.m (Q_HO356 (hon 3 (by kernel_rfl)))
                 have HO359 := Sq.m (Q_HO359 (hon 4 (by kernel_rfl)))
                 refine value_ (w1 := w') (v := .agg #[v358]) (by rfl) rfl ?_ ?_
                 ·go_simp
                  (try simp only [i64_w])
                  try rfl
                 refine hK.out _ _ ⟨v352, v355, v358, gb361, m1_, m3_, m4_, m5_, (.agg #[v358]), m8_, (by rw [ha.out]; exact putSel_upk 6 hb_ rfl rfl rfl), Q_BK347, Q_BK348, Q_HB, Q_HO353, Q_HO356, Q_HO359, Q_BK361, Q_GW361, Q_GE361, Q_NB347_361, Q_NB361_347, Q_NB348_361, Q_NB361_348, fun h0_ => absurd ((hoff 9 (by kernel_rfl)).symm.trans h0_) (by decide), Q_X1_, Q_X3_, Q_X4_, Q_X5_, fun _ => rfl, Q_X8_⟩
                refine steps_cons ?_ ?_
                ·rintro b a w' ⟨v352, v355, v358, gb361, m1_, m3_, m4_, m5_, m6_, m8_, ha, Q_BK347, Q_BK348, Q_HB, Q_HO353, Q_HO356, Q_HO359, Q_BK361, Q_GW361, Q_GE361, Q_NB347_361, Q_NB361_347, Q_NB348_361, Q_NB361_348, Q_BK361_e9, Q_X1_, Q_X3_, Q_X4_, Q_X5_, Q_X6_, Q_X8_⟩ hb_ hon hoff
                 refine ⟨_, rfl, fun K hK => ?_⟩
                 have e27 : a.tmps[27]? = some (m5_) := by rw [ha]; exact putSel_on (e := (5, 27, m5_)) 5 rfl rfl (hon 5 (by kernel_rfl)) rfl
                 rw [Q_X5_ (hon 5 (by kernel_rfl))] at e27
                 replace ha := Aside0.mk ha
                 have BK347 := Aside0.mk Q_BK347
                 have BK348 := Aside0.mk Q_BK348
                 have HB := Aside0.mk Q_HB
                 have HO353 := Sq.m (Q_HO353 (hon 1 (by kernel_rfl)))
                 have HO356 := Sq.m (Q_HO356 (hon 3 (by kernel_rfl)))
                 have HO359 := Sq.m (Q_HO359 (hon 4 (by kernel_rfl)))
                 refine value_ (w1 := w') (v := .bool t360) (by rfl) rfl ?_ ?_
                 ·go_simp
                  (try simp only [i64_w])
                  try rfl
                 refine hK.out _ _ ⟨v352, v355, v358, gb361, m1_, m3_, m4_, m5_, m6_, m8_, (by rw [ha.out]; exact putSel_upk 7 hb_ rfl rfl rfl), Q_BK347, Q_BK348, Q_HB, Q_HO353, Q_HO356, Q_HO359, Q_BK361, Q_GW361, Q_GE361, Q_NB347_361, Q_NB361_347, Q_NB348_361, Q_NB361_348, Q_BK361_e9, Q_X1_, Q_X3_, Q_X4_, Q_X5_, Q_X6_, Q_X8_⟩
                refine steps_cons ?_ ?_
                ·rintro b a w' ⟨v352, v355, v358, gb361, m1_, m3_, m4_, m5_, m6_, m8_, ha, Q_BK347, Q_BK348, Q_HB, Q_HO353, Q_HO356, Q_HO359, Q_BK361, Q_GW361, Q_GE361, Q_NB347_361, Q_NB361_347, Q_NB348_361, Q_NB361_348, Q_BK361_e9, Q_X1_, Q_X3_, Q_X4_, Q_X5_, Q_X6_, Q_X8_⟩ hb_ hon hoff
                 refine ⟨_, rfl, fun K hK => ?_⟩
                 replace ha := Aside0.mk ha
                 have BK347 := Aside0.mk Q_BK347
                 have BK348 := Aside0.mk Q_BK348
                 have HB := Aside0.mk Q_HB
                 refine box_step ?hg (N := 6) ?hd (cs := #[.slice none 0 0]) (t := 26) ?hr ?_; (case hd => rfl); (case hg => rfl); (case hr => first | (go_simp; done) | (go_simp; rfl))
                 intro gb361 hg w60 hbox hb
                 have n0_ := Sq.m (blk_below (g := gb347) (o := .cells #[.slice A0_0 l0_0.length c0_0] 24 (0, 0)) (by apply Sq.rb; exact BK347.out) hb)
                 have n1_ := Sq.m (blk_below (g := gb348) (o := .cells #[.slice A1_0 l1_0.length c1_0] 24 (0, 0)) (by apply Sq.rb; exact BK348.out) hb)
                 have n2_ := Sq.m (below_step (by repeat (first | (with_reducible first | exact HB.out | apply Sq.rc | refine below_set ?_ GE347.out | refine below_set ?_ GE348.out) | exact HB.out)) hb)
                 have n3_ := Sq.m (hbox)
                 have n4_ := Sq.m ((by rw [hg]; exact (below_size (by repeat (first | (with_reducible first | exact HB.out | apply Sq.rc | refine below_set ?_ GE347.out | refine below_set ?_ GE348.out) | exact HB.out))) : w.heap.size ≤ gb361))
                 have n5_ := Sq.m ((by rw [hg]; exact (below_size (by repeat (first | (with_reducible first | exact HB.out | apply Sq.rc | refine below_set ?_ GE347.out | refine below_set ?_ GE348.out) | exact HB.out))) : w.heap.size ≤ gb361))
                 have n6_ := Sq.m ((by rw [hg]; exact Nat.ne_of_lt (blk_lt (g := gb347) (o := .cells #[.slice A0_0 l0_0.length c0_0] 24 (0, 0)) (by apply Sq.rb; exact BK347.out)) : gb347 ≠ gb361))
                 have n7_ := Sq.m ((by rw [hg]; exact Nat.ne_of_gt (blk_lt (g := gb347) (o := .cells #[.slice A0_0 l0_0.length c0_0] 24 (0, 0)) (by apply Sq.rb; exact BK347.out)) : gb361 ≠ gb347))
                 have n8_ := Sq.m ((by rw [hg]; exact Nat.ne_of_lt (blk_lt (g := gb348) (o := .cells #[.slice A1_0 l1_0.length c1_0] 24 (0, 0)) (by apply Sq.rb; exact BK348.out)) : gb348 ≠ gb361))
                 have n9_ := Sq.m ((by rw [hg]; exact Nat.ne_of_gt (blk_lt (g := gb348) (o := .cells #[.slice A1_0 l1_0.length c1_0] 24 (0, 0)) (by apply Sq.rb; exact BK348.out)) : gb361 ≠ gb348))
                 have z_HO353 := fun (h0_ : b 1 = true) => (show Kd.R (Kd.int .i64) 3 w60 w.heap.size (fun _ => True) v352 t351 from by first | exact (Kd.R_below (by apply Sq.ra; exact (Q_HO353 h0_)) hb) | exact Kd.R_mono (Kd.R_below (by apply Sq.ra; exact (Q_HO353 h0_)) hb) (fun _ h_ => by first | trivial | exact h_ | exact h_.1))
                 have z_HO356 := fun (h0_ : b 3 = true) => (show Kd.R (Kd.int .i64) 3 w60 w.heap.size (fun _ => True) v355 t354 from by first | exact (Kd.R_below (by apply Sq.ra; exact (Q_HO356 h0_)) hb) | exact Kd.R_mono (Kd.R_below (by apply Sq.ra; exact (Q_HO356 h0_)) hb) (fun _ h_ => by first | trivial | exact h_ | exact h_.1))
                 have z_HO359 := fun (h0_ : b 4 = true) => (show Kd.R (Kd.int .i64) 3 w60 w.heap.size (fun _ => True) v358 t357 from by first | exact (Kd.R_below (by apply Sq.ra; exact (Q_HO359 h0_)) hb) | exact Kd.R_mono (Kd.R_below (by apply Sq.ra; exact (Q_HO359 h0_)) hb) (fun _ h_ => by first | trivial | exact h_ | exact h_.1))
                 clear BK347
                 clear BK348
                 clear HB
                 have BK347 := n0_
                 have BK348 := n1_
                 have HB := n2_
                 have BK361 := n3_
                 have GW361 := n4_
                 have GE361 := n5_
                 have NB347_361 := n6_
                 have NB361_347 := n7_
                 have NB348_361 := n8_
                 have NB361_348 := n9_
                 clear n0_ n1_ n2_ n3_ n4_ n5_ n6_ n7_ n8_ n9_
                 clear hb hbox hg
                 refine hK.out _ _ ⟨v352, v355, v358, gb361, m1_, m3_, m4_, m5_, m6_, (.pointer (some ⟨gb361, 0, none⟩)), (by rw [ha.out]; exact putSel_upk 8 hb_ rfl rfl rfl), (by apply Sq.rb; exact BK347.out), (by apply Sq.rb; exact BK348.out), (by repeat (first | (with_reducible first | exact HB.out | apply Sq.rc | refine below_set ?_ GE347.out | refine below_set ?_ GE348.out | refine below_set ?_ GE361.out) | exact HB.out)), z_HO353, z_HO356, z_HO359, fun _ _ => (by apply Sq.rb; exact BK361.out), fun _ => GW361.out, fun _ => GE361.out, fun _ => NB347_361.out, fun _ => NB361_347.out, fun _ => NB348_361.out, fun _ => NB361_348.out, fun h0_ => absurd ((hoff 9 (by kernel_rfl)).symm.trans h0_) (by decide), Q_X1_, Q_X3_, Q_X4_, Q_X5_, Q_X6_, fun _ => rfl⟩
                refine steps_cons ?_ ?_
                ·rintro b a w' ⟨v352, v355, v358, gb361, m1_, m3_, m4_, m5_, m6_, m8_, ha, Q_BK347, Q_BK348, Q_HB, Q_HO353, Q_HO356, Q_HO359, Q_BK361, Q_GW361, Q_GE361, Q_NB347_361, Q_NB361_347, Q_NB348_361, Q_NB361_348, Q_BK361_e9, Q_X1_, Q_X3_, Q_X4_, Q_X5_, Q_X6_, Q_X8_⟩ hb_ hon hoff
                 refine ⟨_, rfl, fun K hK => ?_⟩
                 have e6 : a.tmps[6]? = some (m8_) := by rw [ha]; exact putSel_on (e := (8, 6, m8_)) 8 rfl rfl (hon 8 (by kernel_rfl)) rfl
                 rw [Q_X8_ (hon 8 (by kernel_rfl))] at e6
                 have e33 : a.tmps[33]? = some (m6_) := by rw [ha]; exact putSel_on (e := (6, 33, m6_)) 6 rfl rfl (hon 6 (by kernel_rfl)) rfl
                 rw [Q_X6_ (hon 6 (by kernel_rfl))] at e33
                 replace ha := Aside0.mk ha
                 have BK347 := Aside0.mk Q_BK347
                 have BK348 := Aside0.mk Q_BK348
                 have HB := Aside0.mk Q_HB
                 have HO353 := Sq.m (Q_HO353 (hon 1 (by kernel_rfl)))
                 have HO356 := Sq.m (Q_HO356 (hon 3 (by kernel_rfl)))
                 have HO359 := Sq.m (Q_HO359 (hon 4 (by kernel_rfl)))
                 have BK361 := Sq.m (Q_BK361 (hon 8 (by kernel_rfl)) hb_)
                 have GW361 := Sq.m (Q_GW361 (hon 8 (by kernel_rfl)))
                 have GE361 := Sq.m (Q_GE361 (hon 8 (by kernel_rfl)))
                 have NB347_361 := Sq.m (Q_NB347_361 (hon 8 (by kernel_rfl)))
                 have NB361_347 := Sq.m (Q_NB361_347 (hon 8 (by kernel_rfl)))
                 have NB348_361 := Sq.m (Q_NB348_361 (hon 8 (by kernel_rfl)))
                 have NB361_348 := Sq.m (Q_NB361_348 (hon 8 (by kernel_rfl)))
                 obtain ⟨Ao67, co67, eo67⟩ := Kd.R_slice HO359.out
                 (first | subst eo67 | (injection eo67 with f1_ f2_ f3_; have f4_ := f1_.symm; have f5_ := f3_.symm; clear f1_ f2_ f3_; subst f4_; subst f5_))
                 have hs68 : w'.cell? ⟨gb361, 0, none⟩ = some (.slice none 0 0) := (blk_cell BK361.out 0).trans rfl
                 have hfs68 := blk_frozen BK361.out 0
                 have hns68_0 := NB347_361.out
                 have hns68_1 := NB348_361.out
                 have hms68_0 := NB361_347.out
                 have hms68_1 := NB361_348.out
                 refine skip_ (w1 := ?_) (by rfl) rfl ?_ ?_
                 rotate_left
                 ·go_simp
                  rfl
                 refine hK.out _ _ ⟨v352, v355, .slice Ao67 t357.length co67, gb361, m1_, m3_, m4_, m5_, m6_, m8_, (by rw [ha.out]; exact putSel_none (v := undef) rfl), (by apply Sq.rb; refine blk_far ?_ NB347_361.out _; apply Sq.rb; exact BK347.out), (by apply Sq.rb; refine blk_far ?_ NB348_361.out _; apply Sq.rb; exact BK348.out), (by repeat (first | (with_reducible first | exact HB.out | apply Sq.rc | refine below_set ?_ GE347.out | refine below_set ?_ GE348.out | refine below_set ?_ GE361.out) | exact HB.out)), fun _ => (by apply Sq.ra; exact Kd.R_mono (Kd.R_far (p := ⟨gb361, 0, none⟩) (Kd.R_types HO353.out BK361.out (by decide)) (fun _ hk => hk.2) (.slice Ao67 t357.length co67)) (fun _ hk => trivial)), fun _ => (by apply Sq.ra; exact Kd.R_mono (Kd.R_far (p := ⟨gb361, 0, none⟩) (Kd.R_types HO356.out BK361.out (by decide)) (fun _ hk => hk.2) (.slice Ao67 t357.length co67)) (fun _ hk => trivial)), fun _ => (by apply Sq.ra; exact Kd.R_mono (Kd.R_far (p := ⟨gb361, 0, none⟩) (Kd.R_types HO359.out BK361.out (by decide)) (fun _ hk => hk.2) (.slice Ao67 t357.length co67)) (fun _ hk => trivial)), fun _ h1_ => absurd ((up_self b 9).symm.trans h1_) (by decide), fun _ => GW361.out, fun _ => GE361.out, fun _ => NB347_361.out, fun _ => NB361_347.out, fun _ => NB348_361.out, fun _ => NB361_348.out, fun _ => (by apply Sq.rb; refine blk_put (cs := #[.slice none 0 0]) ?_ 0 _ rfl; apply Sq.rb; exact BK361.out), Q_X1_, Q_X3_, Q_X4_, Q_X5_, Q_X6_, Q_X8_⟩
                refine steps_cons ?_ ?_
                ·rintro b a w' ⟨v352, v355, v358, gb361, m1_, m3_, m4_, m5_, m6_, m8_, ha, Q_BK347, Q_BK348, Q_HB, Q_HO353, Q_HO356, Q_HO359, Q_BK361, Q_GW361, Q_GE361, Q_NB347_361, Q_NB361_347, Q_NB348_361, Q_NB361_348, Q_BK361_e9, Q_X1_, Q_X3_, Q_X4_, Q_X5_, Q_X6_, Q_X8_⟩ hb_ hon hoff
                 refine ⟨_, rfl, fun K hK => ?_⟩
                 have e34 : a.tmps[34]? = some (.bool t360) := by rw [ha]; exact putSel_on (e := (7, 34, .bool t360)) 7 rfl rfl (hon 7 (by kernel_rfl)) rfl
                 replace ha := Aside0.mk ha
                 have BK347 := Aside0.mk Q_BK347
                 have BK348 := Aside0.mk Q_BK348
                 have HB := Aside0.mk Q_HB
                 have HO353 := Sq.m (Q_HO353 (hon 1 (by kernel_rfl)))
                 have HO356 := Sq.m (Q_HO356 (hon 3 (by kernel_rfl)))
                 have HO359 := Sq.m (Q_HO359 (hon 4 (by kernel_rfl)))
                 have GW361 := Sq.m (Q_GW361 (hon 8 (by kernel_rfl)))
                 have GE361 := Sq.m (Q_GE361 (hon 8 (by kernel_rfl)))
                 have NB347_361 := Sq.m (Q_NB347_361 (hon 8 (by kernel_rfl)))
                 have NB361_347 := Sq.m (Q_NB361_347 (hon 8 (by kernel_rfl)))
                 have NB348_361 := Sq.m (Q_NB348_361 (hon 8 (by kernel_rfl)))
                 have NB361_348 := Sq.m (Q_NB361_348 (hon 8 (by kernel_rfl)))
                 have BK361 := Sq.m (Q_BK361_e9 (hon 9 (by kernel_rfl)))
                 refine value_ (w1 := w') (v := .bool t360) (by rfl) rfl ?_ ?_
                 ·go_simp
                  (try simp only [i64_w])
                  try rfl
                 refine hK.out _ _ ⟨v352, v355, v358, gb361, m1_, m3_, m4_, m5_, m6_, m8_, (by rw [ha.out]; exact putSel_upk 9 hb_ rfl rfl rfl), Q_BK347, Q_BK348, Q_HB, Q_HO353, Q_HO356, Q_HO359, fun _ h1_ => absurd ((hon 9 (by kernel_rfl)).symm.trans h1_) (by decide), Q_GW361, Q_GE361, Q_NB347_361, Q_NB361_347, Q_NB348_361, Q_NB361_348, Q_BK361_e9, Q_X1_, Q_X3_, Q_X4_, Q_X5_, Q_X6_, Q_X8_⟩
                exact steps_nil
               rintro b a w68 hall ⟨v352, v355, v358, gb361, m1_, m3_, m4_, m5_, m6_, m8_, ha, Q_BK347, Q_BK348, Q_HB, Q_HO353, Q_HO356, Q_HO359, Q_BK361, Q_GW361, Q_GE361, Q_NB347_361, Q_NB361_347, Q_NB348_361, Q_NB361_348, Q_BK361_e9, Q_X1_, Q_X3_, Q_X4_, Q_X5_, Q_X6_, Q_X8_⟩
               clear BK347 BK348 HB
               have hb0_ := hall 0 (by kernel_rfl)
               have hb1_ := hall 1 (by kernel_rfl)
               have hb2_ := hall 2 (by kernel_rfl)
               have hb3_ := hall 3 (by kernel_rfl)
               have hb4_ := hall 4 (by kernel_rfl)
               have hb5_ := hall 5 (by kernel_rfl)
               have hb6_ := hall 6 (by kernel_rfl)
               have hb7_ := hall 7 (by kernel_rfl)
               have hb8_ := hall 8 (by kernel_rfl)
               have hb9_ := hall 9 (by kernel_rfl)
               have hb10_ := hall 10 (by kernel_rfl)
               subst ha
               obtain rfl := Q_X1_ hb1_
               obtain rfl := Q_X3_ hb3_
               obtain rfl := Q_X4_ hb4_
               obtain rfl := Q_X5_ hb5_
               obtain rfl := Q_X6_ hb6_
               obtain rfl := Q_X8_ hb8_
               simp only [putSel, hb0_, hb1_, hb2_, hb3_, hb4_, hb5_, hb6_, hb7_, hb8_, hb9_, hb10_, if_true, Act.put, List.setIfInBounds_toArray, List.set_cons_zero, List.set_cons_succ]
               have BK347 := Aside0.mk Q_BK347
               clear Q_BK347
               have BK348 := Aside0.mk Q_BK348
               clear Q_BK348
               have HB := Aside0.mk Q_HB
               clear Q_HB
               have HO353 := Sq.m (Q_HO353 hb1_)
               clear Q_HO353
               have HO356 := Sq.m (Q_HO356 hb3_)
               clear Q_HO356
               have HO359 := Sq.m (Q_HO359 hb4_)
               clear Q_HO359
               clear Q_BK361
               have GW361 := Sq.m (Q_GW361 hb8_)
               clear Q_GW361
               have GE361 := Sq.m (Q_GE361 hb8_)
               clear Q_GE361
               have NB347_361 := Sq.m (Q_NB347_361 hb8_)
               clear Q_NB347_361
               have NB361_347 := Sq.m (Q_NB361_347 hb8_)
               clear Q_NB361_347
               have NB348_361 := Sq.m (Q_NB348_361 hb8_)
               clear Q_NB348_361
               have NB361_348 := Sq.m (Q_NB361_348 hb8_)
               clear Q_NB361_348
               have BK361 := Sq.m (Q_BK361_e9 hb9_)
               clear Q_BK361_e9
               clear hall hb0_ hb1_ hb2_ hb3_ hb4_ hb5_ hb6_ hb7_ hb8_ hb9_ hb10_
               have hnb69 := NB347_361.out
               have hnc69 := NB361_347.out
               have hcz70_0 : w68.cell? ⟨gb347, 0, none⟩ = some (.slice A0_0 l0_0.length c0_0) := (blk_cell BK347.out 0).trans rfl
               have hfz70_0 := blk_frozen BK347.out 0
               try go_wp2_with (first | ((with_reducible refine gate_callee (f := 17) rfl ?_); refine goesL_ (some 36) rfl rfl Try.func17 (by kernel_rfl) rfl #[.agg #[.slice A0_0 l0_0.length c0_0]] rfl (by (try simp only [List.map_toArray, List.map_cons, List.map_nil]); first | done | rfl | (simp only [List.length_drop, List.length_take]; rfl) | (simp only [i64_w, u8_w, w64_b]; rfl)) ?_; (with_reducible refine (laws_toNat.calls k _ _ l0_0 t362 _ ?side1 ?side2 A22.out).mono ?_); (case side1 => repeat (first | exact (Kd.C_below HR0_0.out HB.out) | (with_reducible refine Kd.C_alloc ?_ _) | (with_reducible refine Kd.C_drewN ?_ _) | (with_reducible refine Kd.C_drew ?_))); (case side2 => exact HC0_0.out); rintro e w71 ⟨v363, rfl, ho0, hb⟩; refine ⟨_, rfl, ?_⟩; have n0_ := Sq.m (Kd.R_elder' (by apply Sq.ra; exact HO353.out) (Kd.R_base ho0) hb); have n1_ := Sq.m (Kd.R_elder' (by apply Sq.ra; exact HO356.out) (Kd.R_base ho0) hb); have n2_ := Sq.m (Kd.R_elder' (by apply Sq.ra; exact HO359.out) (Kd.R_base ho0) hb); have n3_ := Sq.m (Kd.R_lower (Kd.R_new' (Kd.R_new' (Kd.R_new' ho0 (Kd.R_lt (by apply Sq.ra; exact HO353.out))) (Kd.R_lt (by apply Sq.ra; exact HO356.out))) (Kd.R_lt (by apply Sq.ra; exact HO359.out))) (below_size (by repeat (first | (with_reducible first | exact HB.out | apply Sq.rc | refine below_set ?_ GE347.out | refine below_set ?_ GE348.out | refine below_set ?_ GE361.out) | exact HB.out)))); have n4_ := Sq.m (blk_below (g := gb347) (o := .cells #[.slice A0_0 l0_0.length c0_0] 24 (0, 0)) (by apply Sq.rb; exact BK347.out) hb); have n5_ := Sq.m (blk_below (g := gb348) (o := .cells #[.slice A1_0 l1_0.length c1_0] 24 (0, 0)) (by apply Sq.rb; exact BK348.out) hb); have n6_ := Sq.m (blk_below (g := gb361) (o := .cells #[v358] 26 (0, 0)) (by apply Sq.rb; exact BK361.out) hb); have n7_ := Sq.m (below_step (by repeat (first | (with_reducible first | exact HB.out | apply Sq.rc | refine below_set ?_ GE347.out | refine below_set ?_ GE348.out | refine below_set ?_ GE361.out) | exact HB.out)) hb); clear HO353; clear HO356; clear HO359; clear BK347; clear BK348; clear BK361; clear HB; have HO353 := n0_; have HO356 := n1_; have HO359 := n2_; have HO364 := n3_; have BK347 := n4_; have BK348 := n5_; have BK361 := n6_; have HB := n7_; clear n0_ n1_ n2_ n3_ n4_ n5_ n6_ n7_; (try clear hb); (try clear hb2); (try clear hk); (try clear hi); (try clear ho0)) | ((with_reducible refine gate_dst (N := 8) rfl ?_); refine box_event ?hg (N := 8) ?hd (cs := #[.slice none 0 0]) (t := 26) ?hr ?_; (case hd => rfl); (case hg => rfl); (case hr => first | (go_simp; done) | (go_simp; rfl)); intro gb365 hg w72 hbox hb; have n0_ := Sq.m (Kd.R_below (by apply Sq.ra; exact HO353.out) hb); have n1_ := Sq.m (Kd.R_below (by apply Sq.ra; exact HO356.out) hb); have n2_ := Sq.m (Kd.R_below (by apply Sq.ra; exact HO359.out) hb); have n3_ := Sq.m (Kd.R_below (by apply Sq.ra; exact HO364.out) hb); have n4_ := Sq.m (blk_below (g := gb347) (o := .cells #[.slice A0_0 l0_0.length c0_0] 24 (0, 0)) (by apply Sq.rb; exact BK347.out) hb); have n5_ := Sq.m (blk_below (g := gb348) (o := .cells #[.slice A1_0 l1_0.length c1_0] 24 (0, 0)) (by apply Sq.rb; exact BK348.out) hb); have n6_ := Sq.m (blk_below (g := gb361) (o := .cells #[v358] 26 (0, 0)) (by apply Sq.rb; exact BK361.out) hb); have n7_ := Sq.m (below_step (by repeat (first | (with_reducible first | exact HB.out | apply Sq.rc | refine below_set ?_ GE347.out | refine below_set ?_ GE348.out | refine below_set ?_ GE361.out) | exact HB.out)) hb); have n8_ := Sq.m (hbox); have n9_ := Sq.m ((by rw [hg]; exact (below_size (by repeat (first | (with_reducible first | exact HB.out | apply Sq.rc | refine below_set ?_ GE347.out | refine below_set ?_ GE348.out | refine below_set ?_ GE361.out) | exact HB.out))) : w.heap.size ≤ gb365)); have n10_ := Sq.m ((by rw [hg]; exact (below_size (by repeat (first | (with_reducible first | exact HB.out | apply Sq.rc | refine below_set ?_ GE347.out | refine below_set ?_ GE348.out | refine below_set ?_ GE361.out) | exact HB.out))) : w.heap.size ≤ gb365)); have n11_ := Sq.m ((by rw [hg]; exact Nat.ne_of_lt (blk_lt (g := gb347) (o := .cells #[.slice A0_0 l0_0.length c0_0] 24 (0, 0)) (by apply Sq.rb; exact BK347.out)) : gb347 ≠ gb365)); have n12_ := Sq.m ((by rw [hg]; exact Nat.ne_of_gt (blk_lt (g := gb347) (o := .cells #[.slice A0_0 l0_0.length c0_0] 24 (0, 0)) (by apply Sq.rb; exact BK347.out)) : gb365 ≠ gb347)); have n13_ := Sq.m ((by rw [hg]; exact Nat.ne_of_lt (blk_lt (g := gb348) (o := .cells #[.slice A1_0 l1_0.length c1_0] 24 (0, 0)) (by apply Sq.rb; exact BK348.out)) : gb348 ≠ gb365)); have n14_ := Sq.m ((by rw [hg]; exact Nat.ne_of_gt (blk_lt (g := gb348) (o := .cells #[.slice A1_0 l1_0.length c1_0] 24 (0, 0)) (by apply Sq.rb; exact BK348.out)) : gb365 ≠ gb348)); have n15_ := Sq.m ((by rw [hg]; exact Nat.ne_of_lt (blk_lt (g := gb361) (o := .cells #[v358] 26 (0, 0)) (by apply Sq.rb; exact BK361.out)) : gb361 ≠ gb365)); have n16_ := Sq.m ((by rw [hg]; exact Nat.ne_of_gt (blk_lt (g := gb361) (o := .cells #[v358] 26 (0, 0)) (by apply Sq.rb; exact BK361.out)) : gb365 ≠ gb361)); clear HO353; clear HO356; clear HO359; clear HO364; clear BK347; clear BK348; clear BK361; clear HB; have HO353 := n0_; have HO356 := n1_; have HO359 := n2_; have HO364 := n3_; have BK347 := n4_; have BK348 := n5_; have BK361 := n6_; have HB := n7_; have BK365 := n8_; have GW365 := n9_; have GE365 := n10_; have NB347_365 := n11_; have NB365_347 := n12_; have NB348_365 := n13_; have NB365_348 := n14_; have NB361_365 := n15_; have NB365_361 := n16_; clear n0_ n1_ n2_ n3_ n4_ n5_ n6_ n7_ n8_ n9_ n10_ n11_ n12_ n13_ n14_ n15_ n16_; clear hb hbox hg; obtain ⟨Ao73, co73, eo73⟩ := Kd.R_slice HO364.out; subst eo73; have hnb74 := NB365_347.out; have hnc74 := NB347_365.out; have hnb75 := NB365_348.out; have hnc75 := NB348_365.out; have hnb76 := NB365_361.out; have hnc76 := NB361_365.out; have hcz77_0 : w72.cell? ⟨gb365, 0, none⟩ = some (.slice none 0 0) := (blk_cell BK365.out 0).trans rfl; have hfz77_0 := blk_frozen BK365.out 0; have hnb78 := NB348_361.out; have hnc78 := NB361_348.out; have hcz79_0 : w72.cell? ⟨gb348, 0, none⟩ = some (.slice A1_0 l1_0.length c1_0) := (blk_cell BK348.out 0).trans rfl; have hfz79_0 := blk_frozen BK348.out 0) | ((with_reducible refine gate_callee (f := 17) rfl ?_); refine goesL_ (some 38) rfl rfl Try.func17 (by kernel_rfl) rfl #[.agg #[.slice A1_0 l1_0.length c1_0]] rfl (by (try simp only [List.map_toArray, List.map_cons, List.map_nil]); first | done | rfl | (simp only [List.length_drop, List.length_take]; rfl) | (simp only [i64_w, u8_w, w64_b]; rfl)) ?_; (with_reducible refine (laws_toNat.calls k _ _ l1_0 t366 _ ?side1 ?side2 A23.out).mono ?_); (case side1 => exact Kd.C_below HR1_0.out (by repeat (first | (with_reducible first | exact HB.out | apply Sq.rc | refine below_set ?_ GE347.out | refine below_set ?_ GE348.out | refine below_set ?_ GE361.out | refine below_set ?_ GE365.out) | exact HB.out))); (case side2 => exact HC1_0.out); rintro e w80 ⟨v367, rfl, ho0, hb⟩; refine ⟨_, rfl, ?_⟩; have n0_ := Sq.m (Kd.R_elder' (by apply Sq.ra; exact (Kd.R_mono (Kd.R_far (p := ⟨gb365, 0, none⟩) (Kd.R_types HO353.out BK365.out (by decide)) (fun _ hk => hk.2) (.slice Ao73 t362.length co73)) (fun _ h_ => h_.1))) (Kd.R_base ho0) hb); have n1_ := Sq.m (Kd.R_elder' (by apply Sq.ra; exact (Kd.R_mono (Kd.R_far (p := ⟨gb365, 0, none⟩) (Kd.R_types HO356.out BK365.out (by decide)) (fun _ hk => hk.2) (.slice Ao73 t362.length co73)) (fun _ h_ => h_.1))) (Kd.R_base ho0) hb); have n2_ := Sq.m (Kd.R_elder' (by apply Sq.ra; exact (Kd.R_mono (Kd.R_far (p := ⟨gb365, 0, none⟩) (Kd.R_types HO359.out BK365.out (by decide)) (fun _ hk => hk.2) (.slice Ao73 t362.length co73)) (fun _ h_ => h_.1))) (Kd.R_base ho0) hb); have n3_ := Sq.m (Kd.R_elder' (by apply Sq.ra; exact (Kd.R_mono (Kd.R_far (p := ⟨gb365, 0, none⟩) (Kd.R_types HO364.out BK365.out (by decide)) (fun _ hk => hk.2) (.slice Ao73 t362.length co73)) (fun _ h_ => h_.1))) (Kd.R_base ho0) hb); have n4_ := Sq.m (Kd.R_lower (Kd.R_new' (Kd.R_new' (Kd.R_new' (Kd.R_new' ho0 (Kd.R_lt (by apply Sq.ra; exact (Kd.R_mono (Kd.R_far (p := ⟨gb365, 0, none⟩) (Kd.R_types HO353.out BK365.out (by decide)) (fun _ hk => hk.2) (.slice Ao73 t362.length co73)) (fun _ h_ => h_.1))))) (Kd.R_lt (by apply Sq.ra; exact (Kd.R_mono (Kd.R_far (p := ⟨gb365, 0, none⟩) (Kd.R_types HO356.out BK365.out (by decide)) (fun _ hk => hk.2) (.slice Ao73 t362.length co73)) (fun _ h_ => h_.1))))) (Kd.R_lt (by apply Sq.ra; exact (Kd.R_mono (Kd.R_far (p := ⟨gb365, 0, none⟩) (Kd.R_types HO359.out BK365.out (by decide)) (fun _ hk => hk.2) (.slice Ao73 t362.length co73)) (fun _ h_ => h_.1))))) (Kd.R_lt (by apply Sq.ra; exact (Kd.R_mono (Kd.R_far (p := ⟨gb365, 0, none⟩) (Kd.R_types HO364.out BK365.out (by decide)) (fun _ hk => hk.2) (.slice Ao73 t362.length co73)) (fun _ h_ => h_.1))))) (below_size (by repeat (first | (with_reducible first | exact HB.out | apply Sq.rc | refine below_set ?_ GE347.out | refine below_set ?_ GE348.out | refine below_set ?_ GE361.out | refine below_set ?_ GE365.out) | exact HB.out)))); have n5_ := Sq.m (blk_below (g := gb347) (o := .cells #[.slice A0_0 l0_0.length c0_0] 24 (0, 0)) (by apply Sq.rb; refine blk_far ?_ NB347_365.out _; apply Sq.rb; exact BK347.out) hb); have n6_ := Sq.m (blk_below (g := gb348) (o := .cells #[.slice A1_0 l1_0.length c1_0] 24 (0, 0)) (by apply Sq.rb; refine blk_far ?_ NB348_365.out _; apply Sq.rb; exact BK348.out) hb); have n7_ := Sq.m (blk_below (g := gb361) (o := .cells #[v358] 26 (0, 0)) (by apply Sq.rb; refine blk_far ?_ NB361_365.out _; apply Sq.rb; exact BK361.out) hb); have n8_ := Sq.m (blk_below (g := gb365) (o := .cells #[.slice Ao73 t362.length co73] 26 (0, 0)) (by apply Sq.rb; refine blk_put (cs := #[.slice none 0 0]) ?_ 0 _ rfl; apply Sq.rb; exact BK365.out) hb); have n9_ := Sq.m (below_step (by repeat (first | (with_reducible first | exact HB.out | apply Sq.rc | refine below_set ?_ GE347.out | refine below_set ?_ GE348.out | refine below_set ?_ GE361.out | refine below_set ?_ GE365.out) | exact HB.out)) hb); clear HO353; clear HO356; clear HO359; clear HO364; clear BK347; clear BK348; clear BK361; clear BK365; clear HB; have HO353 := n0_; have HO356 := n1_; have HO359 := n2_; have HO364 := n3_; have HO368 := n4_; have BK347 := n5_; have BK348 := n6_; have BK361 := n7_; have BK365 := n8_; have HB := n9_; clear n0_ n1_ n2_ n3_ n4_ n5_ n6_ n7_ n8_ n9_; (try clear hb); (try clear hb2); (try clear hk); (try clear hi); (try clear ho0)) | ((with_reducible refine gate_dst (N := 9) rfl ?_); refine box_event ?hg (N := 9) ?hd (cs := #[.slice none 0 0]) (t := 26) ?hr ?_; (case hd => rfl); (case hg => rfl); (case hr => first | (go_simp; done) | (go_simp; rfl)); intro gb369 hg w81 hbox hb; have n0_ := Sq.m (Kd.R_below (by apply Sq.ra; exact HO353.out) hb); have n1_ := Sq.m (Kd.R_below (by apply Sq.ra; exact HO356.out) hb); have n2_ := Sq.m (Kd.R_below (by apply Sq.ra; exact HO359.out) hb); have n3_ := Sq.m (Kd.R_below (by apply Sq.ra; exact HO364.out) hb); have n4_ := Sq.m (Kd.R_below (by apply Sq.ra; exact HO368.out) hb); have n5_ := Sq.m (blk_below (g := gb347) (o := .cells #[.slice A0_0 l0_0.length c0_0] 24 (0, 0)) (by apply Sq.rb; exact BK347.out) hb); have n6_ := Sq.m (blk_below (g := gb348) (o := .cells #[.slice A1_0 l1_0.length c1_0] 24 (0, 0)) (by apply Sq.rb; exact BK348.out) hb); have n7_ := Sq.m (blk_below (g := gb361) (o := .cells #[v358] 26 (0, 0)) (by apply Sq.rb; exact BK361.out) hb); have n8_ := Sq.m (blk_below (g := gb365) (o := .cells #[.slice Ao73 t362.length co73] 26 (0, 0)) (by apply Sq.rb; exact BK365.out) hb); have n9_ := Sq.m (below_step (by repeat (first | (with_reducible first | exact HB.out | apply Sq.rc | refine below_set ?_ GE347.out | refine below_set ?_ GE348.out | refine below_set ?_ GE361.out | refine below_set ?_ GE365.out) | exact HB.out)) hb); have n10_ := Sq.m (hbox); have n11_ := Sq.m ((by rw [hg]; exact (below_size (by repeat (first | (with_reducible first | exact HB.out | apply Sq.rc | refine below_set ?_ GE347.out | refine below_set ?_ GE348.out | refine below_set ?_ GE361.out | refine below_set ?_ GE365.out) | exact HB.out))) : w.heap.size ≤ gb369)); have n12_ := Sq.m ((by rw [hg]; exact (below_size (by repeat (first | (with_reducible first | exact HB.out | apply Sq.rc | refine below_set ?_ GE347.out | refine below_set ?_ GE348.out | refine below_set ?_ GE361.out | refine below_set ?_ GE365.out) | exact HB.out))) : w.heap.size ≤ gb369)); have n13_ := Sq.m ((by rw [hg]; exact Nat.ne_of_lt (blk_lt (g := gb347) (o := .cells #[.slice A0_0 l0_0.length c0_0] 24 (0, 0)) (by apply Sq.rb; exact BK347.out)) : gb347 ≠ gb369)); have n14_ := Sq.m ((by rw [hg]; exact Nat.ne_of_gt (blk_lt (g := gb347) (o := .cells #[.slice A0_0 l0_0.length c0_0] 24 (0, 0)) (by apply Sq.rb; exact BK347.out)) : gb369 ≠ gb347)); have n15_ := Sq.m ((by rw [hg]; exact Nat.ne_of_lt (blk_lt (g := gb348) (o := .cells #[.slice A1_0 l1_0.length c1_0] 24 (0, 0)) (by apply Sq.rb; exact BK348.out)) : gb348 ≠ gb369)); have n16_ := Sq.m ((by rw [hg]; exact Nat.ne_of_gt (blk_lt (g := gb348) (o := .cells #[.slice A1_0 l1_0.length c1_0] 24 (0, 0)) (by apply Sq.rb; exact BK348.out)) : gb369 ≠ gb348)); have n17_ := Sq.m ((by rw [hg]; exact Nat.ne_of_lt (blk_lt (g := gb361) (o := .cells #[v358] 26 (0, 0)) (by apply Sq.rb; exact BK361.out)) : gb361 ≠ gb369)); have n18_ := Sq.m ((by rw [hg]; exact Nat.ne_of_gt (blk_lt (g := gb361) (o := .cells #[v358] 26 (0, 0)) (by apply Sq.rb; exact BK361.out)) : gb369 ≠ gb361)); have n19_ := Sq.m ((by rw [hg]; exact Nat.ne_of_lt (blk_lt (g := gb365) (o := .cells #[.slice Ao73 t362.length co73] 26 (0, 0)) (by apply Sq.rb; exact BK365.out)) : gb365 ≠ gb369)); have n20_ := Sq.m ((by rw [hg]; exact Nat.ne_of_gt (blk_lt (g := gb365) (o := .cells #[.slice Ao73 t362.length co73] 26 (0, 0)) (by apply Sq.rb; exact BK365.out)) : gb369 ≠ gb365)); clear HO353; clear HO356; clear HO359; clear HO364; clear HO368; clear BK347; clear BK348; clear BK361; clear BK365; clear HB; have HO353 := n0_; have HO356 := n1_; have HO359 := n2_; have HO364 := n3_; have HO368 := n4_; have BK347 := n5_; have BK348 := n6_; have BK361 := n7_; have BK365 := n8_; have HB := n9_; have BK369 := n10_; have GW369 := n11_; have GE369 := n12_; have NB347_369 := n13_; have NB369_347 := n14_; have NB348_369 := n15_; have NB369_348 := n16_; have NB361_369 := n17_; have NB369_361 := n18_; have NB365_369 := n19_; have NB369_365 := n20_; clear n0_ n1_ n2_ n3_ n4_ n5_ n6_ n7_ n8_ n9_ n10_ n11_ n12_ n13_ n14_ n15_ n16_ n17_ n18_ n19_ n20_; clear hb hbox hg; obtain ⟨Ao82, co82, eo82⟩ := Kd.R_slice HO368.out; subst eo82; have hnb83 := NB369_347.out; have hnc83 := NB347_369.out; have hnb84 := NB369_348.out; have hnc84 := NB348_369.out; have hnb85 := NB369_361.out; have hnc85 := NB361_369.out; have hnb86 := NB369_365.out; have hnc86 := NB365_369.out; have hcz87_0 : w81.cell? ⟨gb369, 0, none⟩ = some (.slice none 0 0) := (blk_cell BK369.out 0).trans rfl; have hfz87_0 := blk_frozen BK369.out 0; have hcz88_0 : w81.cell? ⟨gb365, 0, none⟩ = some (.slice Ao73 t362.length co73) := (blk_cell BK365.out 0).trans rfl; have hfz88_0 := blk_frozen BK365.out 0) | ((with_reducible refine gate_callee (f := 23) rfl ?_); refine goesL_ (some 42) rfl rfl Try.func23 (by kernel_rfl) rfl #[.agg #[.slice Ao73 t362.length co73], .agg #[.slice Ao82 t366.length co82]] rfl (by (try simp only [List.map_toArray, List.map_cons, List.map_nil]); first | done | rfl | (simp only [List.length_drop, List.length_take]; rfl) | (simp only [i64_w, u8_w, w64_b]; rfl)) ?_; (with_reducible refine (impl_NatAdd.calls k _ _ t362 _ _ t366 t370 t373 _ ?side1 ?side2 ?side3 ?side4 A24.out).mono ?_); (case side1 => refine (Kd.R_reads' (e := 3) (base := w.heap.size) (ok := fun k_ => ((((True ∧ some k_ ≠ (v352 : Value).ownBlock) ∧ some k_ ≠ (v355 : Value).ownBlock) ∧ some k_ ≠ (v358 : Value).ownBlock) ∧ some k_ ≠ (.slice Ao82 t366.length co82 : Value).ownBlock)) (n := t362.length) (c := co73) ?_).2.2; exact (by apply Sq.ra; exact (Kd.R_mono (Kd.R_far (p := ⟨gb369, 0, none⟩) (Kd.R_types HO364.out BK369.out (by decide)) (fun _ hk => hk.2) (.slice Ao82 t366.length co82)) (fun _ h_ => h_.1)))); (case side2 => exact (Kd.R_reads' HO364.out).2.1); (case side3 => refine (Kd.R_reads' (e := 3) (base := w.heap.size) (ok := fun k_ => ((((True ∧ some k_ ≠ (v352 : Value).ownBlock) ∧ some k_ ≠ (v355 : Value).ownBlock) ∧ some k_ ≠ (v358 : Value).ownBlock) ∧ some k_ ≠ (.slice Ao73 t362.length co73 : Value).ownBlock)) (n := t366.length) (c := co82) ?_).2.2; exact (by apply Sq.ra; exact (Kd.R_mono (Kd.R_far (p := ⟨gb369, 0, none⟩) (Kd.R_types HO368.out BK369.out (by decide)) (fun _ hk => hk.2) (.slice Ao82 t366.length co82)) (fun _ h_ => h_.1)))); (case side4 => exact (Kd.R_reads' HO368.out).2.1); rintro e w89 ⟨v371, rfl, ho0, hb⟩; refine ⟨_, rfl, ?_⟩; have n0_ := Sq.m (Kd.R_elder' (by apply Sq.ra; exact (Kd.R_mono (Kd.R_far (p := ⟨gb369, 0, none⟩) (Kd.R_types HO353.out BK369.out (by decide)) (fun _ hk => hk.2) (.slice Ao82 t366.length co82)) (fun _ h_ => h_.1))) (Kd.R_base ho0) hb); have n1_ := Sq.m (Kd.R_elder' (by apply Sq.ra; exact (Kd.R_mono (Kd.R_far (p := ⟨gb369, 0, none⟩) (Kd.R_types HO356.out BK369.out (by decide)) (fun _ hk => hk.2) (.slice Ao82 t366.length co82)) (fun _ h_ => h_.1))) (Kd.R_base ho0) hb); have n2_ := Sq.m (Kd.R_elder' (by apply Sq.ra; exact (Kd.R_mono (Kd.R_far (p := ⟨gb369, 0, none⟩) (Kd.R_types HO359.out BK369.out (by decide)) (fun _ hk => hk.2) (.slice Ao82 t366.length co82)) (fun _ h_ => h_.1))) (Kd.R_base ho0) hb); have n3_ := Sq.m (Kd.R_elder' (by apply Sq.ra; exact (Kd.R_mono (Kd.R_far (p := ⟨gb369, 0, none⟩) (Kd.R_types HO364.out BK369.out (by decide)) (fun _ hk => hk.2) (.slice Ao82 t366.length co82)) (fun _ h_ => h_.1))) (Kd.R_base ho0) hb); have n4_ := Sq.m (Kd.R_elder' (by apply Sq.ra; exact (Kd.R_mono (Kd.R_far (p := ⟨gb369, 0, none⟩) (Kd.R_types HO368.out BK369.out (by decide)) (fun _ hk => hk.2) (.slice Ao82 t366.length co82)) (fun _ h_ => h_.1))) (Kd.R_base ho0) hb); have n5_ := Sq.m (Kd.R_lower (Kd.R_new' (Kd.R_new' (Kd.R_new' (Kd.R_new' (Kd.R_new' ho0 (Kd.R_lt (by apply Sq.ra; exact (Kd.R_mono (Kd.R_far (p := ⟨gb369, 0, none⟩) (Kd.R_types HO353.out BK369.out (by decide)) (fun _ hk => hk.2) (.slice Ao82 t366.length co82)) (fun _ h_ => h_.1))))) (Kd.R_lt (by apply Sq.ra; exact (Kd.R_mono (Kd.R_far (p := ⟨gb369, 0, none⟩) (Kd.R_types HO356.out BK369.out (by decide)) (fun _ hk => hk.2) (.slice Ao82 t366.length co82)) (fun _ h_ => h_.1))))) (Kd.R_lt (by apply Sq.ra; exact (Kd.R_mono (Kd.R_far (p := ⟨gb369, 0, none⟩) (Kd.R_types HO359.out BK369.out (by decide)) (fun _ hk => hk.2) (.slice Ao82 t366.length co82)) (fun _ h_ => h_.1))))) (Kd.R_lt (by apply Sq.ra; exact (Kd.R_mono (Kd.R_far (p := ⟨gb369, 0, none⟩) (Kd.R_types HO364.out BK369.out (by decide)) (fun _ hk => hk.2) (.slice Ao82 t366.length co82)) (fun _ h_ => h_.1))))) (Kd.R_lt (by apply Sq.ra; exact (Kd.R_mono (Kd.R_far (p := ⟨gb369, 0, none⟩) (Kd.R_types HO368.out BK369.out (by decide)) (fun _ hk => hk.2) (.slice Ao82 t366.length co82)) (fun _ h_ => h_.1))))) (below_size (by repeat (first | (with_reducible first | exact HB.out | apply Sq.rc | refine below_set ?_ GE347.out | refine below_set ?_ GE348.out | refine below_set ?_ GE361.out | refine below_set ?_ GE365.out | refine below_set ?_ GE369.out) | exact HB.out)))); have n6_ := Sq.m (blk_below (g := gb347) (o := .cells #[.slice A0_0 l0_0.length c0_0] 24 (0, 0)) (by apply Sq.rb; refine blk_far ?_ NB347_369.out _; apply Sq.rb; exact BK347.out) hb); have n7_ := Sq.m (blk_below (g := gb348) (o := .cells #[.slice A1_0 l1_0.length c1_0] 24 (0, 0)) (by apply Sq.rb; refine blk_far ?_ NB348_369.out _; apply Sq.rb; exact BK348.out) hb); have n8_ := Sq.m (blk_below (g := gb361) (o := .cells #[v358] 26 (0, 0)) (by apply Sq.rb; refine blk_far ?_ NB361_369.out _; apply Sq.rb; exact BK361.out) hb); have n9_ := Sq.m (blk_below (g := gb365) (o := .cells #[.slice Ao73 t362.length co73] 26 (0, 0)) (by apply Sq.rb; refine blk_far ?_ NB365_369.out _; apply Sq.rb; exact BK365.out) hb); have n10_ := Sq.m (blk_below (g := gb369) (o := .cells #[.slice Ao82 t366.length co82] 26 (0, 0)) (by apply Sq.rb; refine blk_put (cs := #[.slice none 0 0]) ?_ 0 _ rfl; apply Sq.rb; exact BK369.out) hb); have n11_ := Sq.m (below_step (by repeat (first | (with_reducible first | exact HB.out | apply Sq.rc | refine below_set ?_ GE347.out | refine below_set ?_ GE348.out | refine below_set ?_ GE361.out | refine below_set ?_ GE365.out | refine below_set ?_ GE369.out) | exact HB.out)) hb); clear HO353; clear HO356; clear HO359; clear HO364; clear HO368; clear BK347; clear BK348; clear BK361; clear BK365; clear BK369; clear HB; have HO353 := n0_; have HO356 := n1_; have HO359 := n2_; have HO364 := n3_; have HO368 := n4_; have HO372 := n5_; have BK347 := n6_; have BK348 := n7_; have BK361 := n8_; have BK365 := n9_; have BK369 := n10_; have HB := n11_; clear n0_ n1_ n2_ n3_ n4_ n5_ n6_ n7_ n8_ n9_ n10_ n11_; (try clear hb); (try clear hb2); (try clear hk); (try clear hi); (try clear ho0)) | ((with_reducible refine gate_dst (N := 10) rfl ?_); refine box_event ?hg (N := 10) ?hd (cs := #[.slice none 0 0]) (t := 26) ?hr ?_; (case hd => rfl); (case hg => rfl); (case hr => first | (go_simp; done) | (go_simp; rfl)); intro gb374 hg w90 hbox hb; have n0_ := Sq.m (Kd.R_below (by apply Sq.ra; exact HO353.out) hb); have n1_ := Sq.m (Kd.R_below (by apply Sq.ra; exact HO356.out) hb); have n2_ := Sq.m (Kd.R_below (by apply Sq.ra; exact HO359.out) hb); have n3_ := Sq.m (Kd.R_below (by apply Sq.ra; exact HO364.out) hb); have n4_ := Sq.m (Kd.R_below (by apply Sq.ra; exact HO368.out) hb); have n5_ := Sq.m (Kd.R_below (by apply Sq.ra; exact HO372.out) hb); have n6_ := Sq.m (blk_below (g := gb347) (o := .cells #[.slice A0_0 l0_0.length c0_0] 24 (0, 0)) (by apply Sq.rb; exact BK347.out) hb); have n7_ := Sq.m (blk_below (g := gb348) (o := .cells #[.slice A1_0 l1_0.length c1_0] 24 (0, 0)) (by apply Sq.rb; exact BK348.out) hb); have n8_ := Sq.m (blk_below (g := gb361) (o := .cells #[v358] 26 (0, 0)) (by apply Sq.rb; exact BK361.out) hb); have n9_ := Sq.m (blk_below (g := gb365) (o := .cells #[.slice Ao73 t362.length co73] 26 (0, 0)) (by apply Sq.rb; exact BK365.out) hb); have n10_ := Sq.m (blk_below (g := gb369) (o := .cells #[.slice Ao82 t366.length co82] 26 (0, 0)) (by apply Sq.rb; exact BK369.out) hb); have n11_ := Sq.m (below_step (by repeat (first | (with_reducible first | exact HB.out | apply Sq.rc | refine below_set ?_ GE347.out | refine below_set ?_ GE348.out | refine below_set ?_ GE361.out | refine below_set ?_ GE365.out | refine below_set ?_ GE369.out) | exact HB.out)) hb); have n12_ := Sq.m (hbox); have n13_ := Sq.m ((by rw [hg]; exact (below_size (by repeat (first | (with_reducible first | exact HB.out | apply Sq.rc | refine below_set ?_ GE347.out | refine below_set ?_ GE348.out | refine below_set ?_ GE361.out | refine below_set ?_ GE365.out | refine below_set ?_ GE369.out) | exact HB.out))) : w.heap.size ≤ gb374)); have n14_ := Sq.m ((by rw [hg]; exact (below_size (by repeat (first | (with_reducible first | exact HB.out | apply Sq.rc | refine below_set ?_ GE347.out | refine below_set ?_ GE348.out | refine below_set ?_ GE361.out | refine below_set ?_ GE365.out | refine below_set ?_ GE369.out) | exact HB.out))) : w.heap.size ≤ gb374)); have n15_ := Sq.m ((by rw [hg]; exact Nat.ne_of_lt (blk_lt (g := gb347) (o := .cells #[.slice A0_0 l0_0.length c0_0] 24 (0, 0)) (by apply Sq.rb; exact BK347.out)) : gb347 ≠ gb374)); have n16_ := Sq.m ((by rw [hg]; exact Nat.ne_of_gt (blk_lt (g := gb347) (o := .cells #[.slice A0_0 l0_0.length c0_0] 24 (0, 0)) (by apply Sq.rb; exact BK347.out)) : gb374 ≠ gb347)); have n17_ := Sq.m ((by rw [hg]; exact Nat.ne_of_lt (blk_lt (g := gb348) (o := .cells #[.slice A1_0 l1_0.length c1_0] 24 (0, 0)) (by apply Sq.rb; exact BK348.out)) : gb348 ≠ gb374)); have n18_ := Sq.m ((by rw [hg]; exact Nat.ne_of_gt (blk_lt (g := gb348) (o := .cells #[.slice A1_0 l1_0.length c1_0] 24 (0, 0)) (by apply Sq.rb; exact BK348.out)) : gb374 ≠ gb348)); have n19_ := Sq.m ((by rw [hg]; exact Nat.ne_of_lt (blk_lt (g := gb361) (o := .cells #[v358] 26 (0, 0)) (by apply Sq.rb; exact BK361.out)) : gb361 ≠ gb374)); have n20_ := Sq.m ((by rw [hg]; exact Nat.ne_of_gt (blk_lt (g := gb361) (o := .cells #[v358] 26 (0, 0)) (by apply Sq.rb; exact BK361.out)) : gb374 ≠ gb361)); have n21_ := Sq.m ((by rw [hg]; exact Nat.ne_of_lt (blk_lt (g := gb365) (o := .cells #[.slice Ao73 t362.length co73] 26 (0, 0)) (by apply Sq.rb; exact BK365.out)) : gb365 ≠ gb374)); have n22_ := Sq.m ((by rw [hg]; exact Nat.ne_of_gt (blk_lt (g := gb365) (o := .cells #[.slice Ao73 t362.length co73] 26 (0, 0)) (by apply Sq.rb; exact BK365.out)) : gb374 ≠ gb365)); have n23_ := Sq.m ((by rw [hg]; exact Nat.ne_of_lt (blk_lt (g := gb369) (o := .cells #[.slice Ao82 t366.length co82] 26 (0, 0)) (by apply Sq.rb; exact BK369.out)) : gb369 ≠ gb374)); have n24_ := Sq.m ((by rw [hg]; exact Nat.ne_of_gt (blk_lt (g := gb369) (o := .cells #[.slice Ao82 t366.length co82] 26 (0, 0)) (by apply Sq.rb; exact BK369.out)) : gb374 ≠ gb369)); clear HO353; clear HO356; clear HO359; clear HO364; clear HO368; clear HO372; clear BK347; clear BK348; clear BK361; clear BK365; clear BK369; clear HB; have HO353 := n0_; have HO356 := n1_; have HO359 := n2_; have HO364 := n3_; have HO368 := n4_; have HO372 := n5_; have BK347 := n6_; have BK348 := n7_; have BK361 := n8_; have BK365 := n9_; have BK369 := n10_; have HB := n11_; have BK374 := n12_; have GW374 := n13_; have GE374 := n14_; have NB347_374 := n15_; have NB374_347 := n16_; have NB348_374 := n17_; have NB374_348 := n18_; have NB361_374 := n19_; have NB374_361 := n20_; have NB365_374 := n21_; have NB374_365 := n22_; have NB369_374 := n23_; have NB374_369 := n24_; clear n0_ n1_ n2_ n3_ n4_ n5_ n6_ n7_ n8_ n9_ n10_ n11_ n12_ n13_ n14_ n15_ n16_ n17_ n18_ n19_ n20_ n21_ n22_ n23_ n24_; clear hb hbox hg; obtain ⟨Ao91, co91, eo91⟩ := Kd.R_slice HO372.out; subst eo91; have hnb92 := NB374_347.out; have hnc92 := NB347_374.out; have hnb93 := NB374_348.out; have hnc93 := NB348_374.out; have hnb94 := NB374_361.out; have hnc94 := NB361_374.out; have hnb95 := NB374_365.out; have hnc95 := NB365_374.out; have hnb96 := NB374_369.out; have hnc96 := NB369_374.out; have hcz97_0 : w90.cell? ⟨gb374, 0, none⟩ = some (.slice none 0 0) := (blk_cell BK374.out 0).trans rfl; have hfz97_0 := blk_frozen BK374.out 0; have hcz98_0 : w90.cell? ⟨gb361, 0, none⟩ = some (v358) := (blk_cell BK361.out 0).trans rfl; have hfz98_0 := blk_frozen BK361.out 0; obtain ⟨Ao99, co99, eo99⟩ := Kd.R_slice HO359.out; subst eo99) | ((with_reducible refine gate_callee (f := 19) rfl ?_); refine goesL_ (some 47) rfl rfl Try.func19 (by kernel_rfl) rfl #[.agg #[.slice Ao91 t370.length co91], .agg #[.slice Ao99 t357.length co99]] rfl (by (try simp only [List.map_toArray, List.map_cons, List.map_nil]); first | done | rfl | (simp only [List.length_drop, List.length_take]; rfl) | (simp only [i64_w, u8_w, w64_b]; rfl)) ?_; (with_reducible refine (laws_eqNat.calls k _ _ t370 _ _ t357 true _ ?side1 ?side2 ?side3 ?side4 A25.out).mono ?_); (case side1 => refine (Kd.R_reads' (e := 3) (base := w.heap.size) (ok := fun k_ => (((((True ∧ some k_ ≠ (v352 : Value).ownBlock) ∧ some k_ ≠ (v355 : Value).ownBlock) ∧ some k_ ≠ (.slice Ao99 t357.length co99 : Value).ownBlock) ∧ some k_ ≠ (.slice Ao73 t362.length co73 : Value).ownBlock) ∧ some k_ ≠ (.slice Ao82 t366.length co82 : Value).ownBlock)) (n := t370.length) (c := co91) ?_).2.2; exact (by apply Sq.ra; exact (Kd.R_mono (Kd.R_far (p := ⟨gb374, 0, none⟩) (Kd.R_types HO372.out BK374.out (by decide)) (fun _ hk => hk.2) (.slice Ao91 t370.length co91)) (fun _ h_ => h_.1)))); (case side2 => exact (Kd.R_reads' HO372.out).2.1); (case side3 => refine (Kd.R_reads' (e := 3) (base := w.heap.size) (ok := fun k_ => (((True ∧ some k_ ≠ (.slice Ao73 t362.length co73 : Value).ownBlock) ∧ some k_ ≠ (.slice Ao82 t366.length co82 : Value).ownBlock) ∧ some k_ ≠ (.slice Ao91 t370.length co91 : Value).ownBlock)) (n := t357.length) (c := co99) ?_).2.2; exact (by apply Sq.ra; exact (Kd.R_mono (Kd.R_far (p := ⟨gb374, 0, none⟩) (Kd.R_types HO359.out BK374.out (by decide)) (fun _ hk => hk.2) (.slice Ao91 t370.length co91)) (fun _ h_ => h_.1)))); (case side4 => exact (Kd.R_reads' HO359.out).2.1); rintro e w100 ⟨rfl, hb⟩; refine ⟨_, rfl, ?_⟩; have n0_ := Sq.m (Kd.R_below (by apply Sq.ra; exact (Kd.R_mono (Kd.R_far (p := ⟨gb374, 0, none⟩) (Kd.R_types HO353.out BK374.out (by decide)) (fun _ hk => hk.2) (.slice Ao91 t370.length co91)) (fun _ h_ => h_.1))) hb); have n1_ := Sq.m (Kd.R_below (by apply Sq.ra; exact (Kd.R_mono (Kd.R_far (p := ⟨gb374, 0, none⟩) (Kd.R_types HO356.out BK374.out (by decide)) (fun _ hk => hk.2) (.slice Ao91 t370.length co91)) (fun _ h_ => h_.1))) hb); have n2_ := Sq.m (Kd.R_below (by apply Sq.ra; exact (Kd.R_mono (Kd.R_far (p := ⟨gb374, 0, none⟩) (Kd.R_types HO359.out BK374.out (by decide)) (fun _ hk => hk.2) (.slice Ao91 t370.length co91)) (fun _ h_ => h_.1))) hb); have n3_ := Sq.m (Kd.R_below (by apply Sq.ra; exact (Kd.R_mono (Kd.R_far (p := ⟨gb374, 0, none⟩) (Kd.R_types HO364.out BK374.out (by decide)) (fun _ hk => hk.2) (.slice Ao91 t370.length co91)) (fun _ h_ => h_.1))) hb); have n4_ := Sq.m (Kd.R_below (by apply Sq.ra; exact (Kd.R_mono (Kd.R_far (p := ⟨gb374, 0, none⟩) (Kd.R_types HO368.out BK374.out (by decide)) (fun _ hk => hk.2) (.slice Ao91 t370.length co91)) (fun _ h_ => h_.1))) hb); have n5_ := Sq.m (Kd.R_below (by apply Sq.ra; exact (Kd.R_mono (Kd.R_far (p := ⟨gb374, 0, none⟩) (Kd.R_types HO372.out BK374.out (by decide)) (fun _ hk => hk.2) (.slice Ao91 t370.length co91)) (fun _ h_ => h_.1))) hb); have n6_ := Sq.m (blk_below (g := gb347) (o := .cells #[.slice A0_0 l0_0.length c0_0] 24 (0, 0)) (by apply Sq.rb; refine blk_far ?_ NB347_374.out _; apply Sq.rb; exact BK347.out) hb); have n7_ := Sq.m (blk_below (g := gb348) (o := .cells #[.slice A1_0 l1_0.length c1_0] 24 (0, 0)) (by apply Sq.rb; refine blk_far ?_ NB348_374.out _; apply Sq.rb; exact BK348.out) hb); have n8_ := Sq.m (blk_below (g := gb361) (o := .cells #[.slice Ao99 t357.length co99] 26 (0, 0)) (by apply Sq.rb; refine blk_far ?_ NB361_374.out _; apply Sq.rb; exact BK361.out) hb); have n9_ := Sq.m (blk_below (g := gb365) (o := .cells #[.slice Ao73 t362.length co73] 26 (0, 0)) (by apply Sq.rb; refine blk_far ?_ NB365_374.out _; apply Sq.rb; exact BK365.out) hb); have n10_ := Sq.m (blk_below (g := gb369) (o := .cells #[.slice Ao82 t366.length co82] 26 (0, 0)) (by apply Sq.rb; refine blk_far ?_ NB369_374.out _; apply Sq.rb; exact BK369.out) hb); have n11_ := Sq.m (blk_below (g := gb374) (o := .cells #[.slice Ao91 t370.length co91] 26 (0, 0)) (by apply Sq.rb; refine blk_put (cs := #[.slice none 0 0]) ?_ 0 _ rfl; apply Sq.rb; exact BK374.out) hb); have n12_ := Sq.m (below_step (by repeat (first | (with_reducible first | exact HB.out | apply Sq.rc | refine below_set ?_ GE347.out | refine below_set ?_ GE348.out | refine below_set ?_ GE361.out | refine below_set ?_ GE365.out | refine below_set ?_ GE369.out | refine below_set ?_ GE374.out) | exact HB.out)) hb); clear HO353; clear HO356; clear HO359; clear HO364; clear HO368; clear HO372; clear BK347; clear BK348; clear BK361; clear BK365; clear BK369; clear BK374; clear HB; have HO353 := n0_; have HO356 := n1_; have HO359 := n2_; have HO364 := n3_; have HO368 := n4_; have HO372 := n5_; have BK347 := n6_; have BK348 := n7_; have BK361 := n8_; have BK365 := n9_; have BK369 := n10_; have BK374 := n11_; have HB := n12_; clear n0_ n1_ n2_ n3_ n4_ n5_ n6_ n7_ n8_ n9_ n10_ n11_ n12_; (try clear hb); (try clear hb2); (try clear hk); (try clear hi)))
               have n0_ := Sq.m (Kd.R_drew HO353.out)
               have n1_ := Sq.m (Kd.R_drew HO356.out)
               have n2_ := Sq.m (Kd.R_drew HO359.out)
               have n3_ := Sq.m (Kd.R_drew HO364.out)
               have n4_ := Sq.m (Kd.R_drew HO368.out)
               have n5_ := Sq.m (Kd.R_drew HO372.out)
               have n6_ := Sq.m (blk_drew BK347.out)
               have n7_ := Sq.m (blk_drew BK348.out)
               have n8_ := Sq.m (blk_drew BK361.out)
               have n9_ := Sq.m (blk_drew BK365.out)
               have n10_ := Sq.m (blk_drew BK369.out)
               have n11_ := Sq.m (blk_drew BK374.out)
               have n12_ := Sq.m (below_drew1 HB.out)
               clear HO353
               clear HO356
               clear HO359
               clear HO364
               clear HO368
               clear HO372
               clear BK347
               clear BK348
               clear BK361
               clear BK365
               clear BK369
               clear BK374
               clear HB
               have HO353 := n0_
               have HO356 := n1_
               have HO359 := n2_
               have HO364 := n3_
               have HO368 := n4_
               have HO372 := n5_
               have BK347 := n6_
               have BK348 := n7_
               have BK361 := n8_
               have BK365 := n9_
               have BK369 := n10_
               have BK374 := n11_
               have HB := n12_
               clear n0_ n1_ n2_ n3_ n4_ n5_ n6_ n7_ n8_ n9_ n10_ n11_ n12_
               refine start_ (n := 5) (S := fun w' => w'.cell? ⟨gb365, 0, none⟩ = some (.slice Ao73 t362.length co73) ∧ w'.cell? ⟨gb347, 0, none⟩ = some (.slice A0_0 l0_0.length c0_0)) (ds := []) #[false, false, false, false, false] (by kernel_rfl) rfl rfl ⟨(blk_cell BK365.out 0).trans rfl, (blk_cell BK347.out 0).trans rfl⟩ (fun hHeld => ?_)
               generalize w100.drew = w101 at HO353 HO356 HO359 HO364 HO368 HO372 BK347 BK348 BK361 BK365 BK369 BK374 HB hHeld ⊢
               refine take_ (i := 0) (N := some 54) (v := ?_) (a' := ?_) #[true, false, false, false, false] rfl rfl (by kernel_rfl) (fun _ _ _ h => h) (Or.inl ⟨by rfl, ?_⟩) hHeld ?_ ?_
               rotate_left
               ·rintro w' ⟨s0, s1⟩
                go_simp
                with_reducible rfl
               rotate_left
               ·simp only [Act.put, List.setIfInBounds_toArray, List.set_cons_zero, List.set_cons_succ, i64_w, i32_w, u8_w, w64_b]
                rfl
               refine take_ (i := 1) (N := some 55) (v := ?_) (a' := ?_) #[true, true, false, false, false] rfl rfl (by kernel_rfl) (fun _ _ _ h => h) (Or.inl ⟨by rfl, ?_⟩) hHeld ?_ ?_
               rotate_left
               ·rintro w' ⟨s0, s1⟩
                go_simp
                with_reducible rfl
               rotate_left
               ·simp only [Act.put, List.setIfInBounds_toArray, List.set_cons_zero, List.set_cons_succ, i64_w, i32_w, u8_w, w64_b]
                rfl
               refine one_ (i := 2) (N := some 56) #[true, true, true, false, false] rfl rfl (by kernel_rfl) (by decide) (fun K hK => ?_)
               refine goes_ Try.func17 (by kernel_rfl) rfl #[.agg #[.slice A0_0 l0_0.length c0_0]] (by rfl) rfl rfl (by (try simp only [List.map_toArray, List.map_cons, List.map_nil]); first | done | rfl | (simp only [List.length_drop, List.length_take]; rfl) | (simp only [i64_w, u8_w, w64_b]; rfl)) ?_
               with_reducible refine (laws_toNat.calls k _ _ l0_0 t376 _ ?side1 ?side2 A28.out).mono ?_
               (case side1 => repeat (first | exact (Kd.C_below HR0_0.out HB.out) | (with_reducible refine Kd.C_alloc ?_ _) | (with_reducible refine Kd.C_drewN ?_ _) | (with_reducible refine Kd.C_drew ?_)))
               (case side2 => exact HC0_0.out)
               rintro e w102 ⟨v377, rfl, ho0, hb⟩
               refine ⟨_, rfl, ?_⟩
               have n0_ := Sq.m (Kd.R_elder' (by apply Sq.ra; exact HO353.out) (Kd.R_base ho0) hb)
               have n1_ := Sq.m (Kd.R_elder' (by apply Sq.ra; exact HO356.out) (Kd.R_base ho0) hb)
               have n2_ := Sq.m (Kd.R_elder' (by apply Sq.ra; exact HO359.out) (Kd.R_base ho0) hb)
               have n3_ := Sq.m (Kd.R_elder' (by apply Sq.ra; exact HO364.out) (Kd.R_base ho0) hb)
               have n4_ := Sq.m (Kd.R_elder' (by apply Sq.ra; exact HO368.out) (Kd.R_base ho0) hb)
               have n5_ := Sq.m (Kd.R_elder' (by apply Sq.ra; exact HO372.out) (Kd.R_base ho0) hb)
               have n6_ := Sq.m (Kd.R_lower (Kd.R_new' (Kd.R_new' (Kd.R_new' (Kd.R_new' (Kd.R_new' (Kd.R_new' ho0 (Kd.R_lt (by apply Sq.ra; exact HO353.out))) (Kd.R_lt (by apply Sq.ra; exact HO356.out))) (Kd.R_lt (by apply Sq.ra; exact HO359.out))) (Kd.R_lt (by apply Sq.ra; exact HO364.out))) (Kd.R_lt (by apply Sq.ra; exact HO368.out))) (Kd.R_lt (by apply Sq.ra; exact HO372.out))) (below_size (by repeat (first | (with_reducible first | exact HB.out | apply Sq.rc | refine below_set ?_ GE347.out | refine below_set ?_ GE348.out | refine below_set ?_ GE361.out | refine below_set ?_ GE365.out | refine below_set ?_ GE369.out | refine below_set ?_ GE374.out) | exact HB.out))))
               have n7_ := Sq.m (blk_below (g := gb347) (o := .cells #[.slice A0_0 l0_0.length c0_0] 24 (0, 0)) (by apply Sq.rb; exact BK347.out) hb)
               have n8_ := Sq.m (blk_below (g := gb348) (o := .cells #[.slice A1_0 l1_0.length c1_0] 24 (0, 0)) (by apply Sq.rb; exact BK348.out) hb)
               have n9_ := Sq.m (blk_below (g := gb361) (o := .cells #[.slice Ao99 t357.length co99] 26 (0, 0)) (by apply Sq.rb; exact BK361.out) hb)
               have n10_ := Sq.m (blk_below (g := gb365) (o := .cells #[.slice Ao73 t362.length co73] 26 (0, 0)) (by apply Sq.rb; exact BK365.out) hb)
               have n11_ := Sq.m (blk_below (g := gb369) (o := .cells #[.slice Ao82 t366.length co82] 26 (0, 0)) (by apply Sq.rb; exact BK369.out) hb)
               have n12_ := Sq.m (blk_below (g := gb374) (o := .cells #[.slice Ao91 t370.length co91] 26 (0, 0)) (by apply Sq.rb; exact BK374.out) hb)
               have n13_ := Sq.m (below_step (by repeat (first | (with_reducible first | exact HB.out | apply Sq.rc | refine below_set ?_ GE347.out | refine below_set ?_ GE348.out | refine below_set ?_ GE361.out | refine below_set ?_ GE365.out | refine below_set ?_ GE369.out | refine below_set ?_ GE374.out) | exact HB.out)) hb)
               clear HO353
               clear HO356
               clear HO359
               clear HO364
               clear HO368
               clear HO372
               clear BK347
               clear BK348
               clear BK361
               clear BK365
               clear BK369
               clear BK374
               clear HB
               have HO353 := n0_
               have HO356 := n1_
               have HO359 := n2_
               have HO364 := n3_
               have HO368 := n4_
               have HO372 := n5_
               have HO378 := n6_
               have BK347 := n7_
               have BK348 := n8_
               have BK361 := n9_
               have BK365 := n10_
               have BK369 := n11_
               have BK374 := n12_
               have HB := n13_
               clear n0_ n1_ n2_ n3_ n4_ n5_ n6_ n7_ n8_ n9_ n10_ n11_ n12_ n13_
               (try clear hb)
               (try clear hb2)
               (try clear hk)
               (try clear hi)
               (try clear ho0)
               obtain ⟨Ao103, co103, eo103⟩ := Kd.R_slice HO378.out
               (first | subst eo103 | (injection eo103 with f1_ f2_ f3_; have f4_ := f1_.symm; have f5_ := f3_.symm; clear f1_ f2_ f3_; subst f4_; subst f5_))
               refine hK.out _ _ ⟨(blk_cell BK365.out 0).trans rfl, (blk_cell BK347.out 0).trans rfl⟩ (fun hHeld => ?_)
               clear hK K
               refine norm_ (a' := ?_) ?_ ?_
               rotate_left
               ·show Act.put _ (some 56) _ = _
                simp only [Act.put, List.setIfInBounds_toArray, List.set_cons_zero, List.set_cons_succ, i64_w, i32_w, u8_w, w64_b]
                rfl
               refine one_ (i := 3) (N := some 57) #[true, true, true, true, false] rfl rfl (by kernel_rfl) (by decide) (fun K hK => ?_)
               refine goes_ Try.func19 (by kernel_rfl) rfl #[.agg #[.slice Ao73 t362.length co73], .agg #[.slice Ao103 t376.length co103]] (by rfl) rfl rfl (by (try simp only [List.map_toArray, List.map_cons, List.map_nil]); first | done | rfl | (simp only [List.length_drop, List.length_take]; rfl) | (simp only [i64_w, u8_w, w64_b]; rfl)) ?_
               with_reducible refine (laws_eqNat.calls k _ _ t362 _ _ t376 true _ ?side1 ?side2 ?side3 ?side4 A29.out).mono ?_
               (case side1 => repeat (first | exact (Kd.R_reads' HO364.out).2.2 | (with_reducible refine Kd.C_alloc ?_ _) | (with_reducible refine Kd.C_drewN ?_ _) | (with_reducible refine Kd.C_drew ?_)))
               (case side2 => exact (Kd.R_reads' HO364.out).2.1)
               (case side3 => repeat (first | exact (Kd.R_reads' HO378.out).2.2 | (with_reducible refine Kd.C_alloc ?_ _) | (with_reducible refine Kd.C_drewN ?_ _) | (with_reducible refine Kd.C_drew ?_)))
               (case side4 => exact (Kd.R_reads' HO378.out).2.1)
               rintro e w104 ⟨rfl, hb⟩
               refine ⟨_, rfl, ?_⟩
               have n0_ := Sq.m (Kd.R_below (by apply Sq.ra; exact HO353.out) hb)
               have n1_ := Sq.m (Kd.R_below (by apply Sq.ra; exact HO356.out) hb)
               have n2_ := Sq.m (Kd.R_below (by apply Sq.ra; exact HO359.out) hb)
               have n3_ := Sq.m (Kd.R_below (by apply Sq.ra; exact HO364.out) hb)
               have n4_ := Sq.m (Kd.R_below (by apply Sq.ra; exact HO368.out) hb)
               have n5_ := Sq.m (Kd.R_below (by apply Sq.ra; exact HO372.out) hb)
               have n6_ := Sq.m (Kd.R_below (by apply Sq.ra; exact HO378.out) hb)
               have n7_ := Sq.m (blk_below (g := gb347) (o := .cells #[.slice A0_0 l0_0.length c0_0] 24 (0, 0)) (by apply Sq.rb; exact BK347.out) hb)
               have n8_ := Sq.m (blk_below (g := gb348) (o := .cells #[.slice A1_0 l1_0.length c1_0] 24 (0, 0)) (by apply Sq.rb; exact BK348.out) hb)
               have n9_ := Sq.m (blk_below (g := gb361) (o := .cells #[.slice Ao99 t357.length co99] 26 (0, 0)) (by apply Sq.rb; exact BK361.out) hb)
               have n10_ := Sq.m (blk_below (g := gb365) (o := .cells #[.slice Ao73 t362.length co73] 26 (0, 0)) (by apply Sq.rb; exact BK365.out) hb)
               have n11_ := Sq.m (blk_below (g := gb369) (o := .cells #[.slice Ao82 t366.length co82] 26 (0, 0)) (by apply Sq.rb; exact BK369.out) hb)
               have n12_ := Sq.m (blk_below (g := gb374) (o := .cells #[.slice Ao91 t370.length co91] 26 (0, 0)) (by apply Sq.rb; exact BK374.out) hb)
               have n13_ := Sq.m (below_step (by repeat (first | (with_reducible first | exact HB.out | apply Sq.rc | refine below_set ?_ GE347.out | refine below_set ?_ GE348.out | refine below_set ?_ GE361.out | refine below_set ?_ GE365.out | refine below_set ?_ GE369.out | refine below_set ?_ GE374.out) | exact HB.out)) hb)
               clear HO353
               clear HO356
               clear HO359
               clear HO364
               clear HO368
               clear HO372
               clear HO378
               clear BK347
               clear BK348
               clear BK361
               clear BK365
               clear BK369
               clear BK374
               clear HB
               have HO353 := n0_
               have HO356 := n1_
               have HO359 := n2_
               have HO364 := n3_
               have HO368 := n4_
               have HO372 := n5_
               have HO378 := n6_
               have BK347 := n7_
               have BK348 := n8_
               have BK361 := n9_
               have BK365 := n10_
               have BK369 := n11_
               have BK374 := n12_
               have HB := n13_
               clear n0_ n1_ n2_ n3_ n4_ n5_ n6_ n7_ n8_ n9_ n10_ n11_ n12_ n13_
               (try clear hb)
               (try clear hb2)
               (try clear hk)
               (try clear hi)
               refine hK.out _ _ ⟨(blk_cell BK365.out 0).trans rfl, (blk_cell BK347.out 0).trans rfl⟩ (fun hHeld => ?_)
               clear hK K
               refine norm_ (a' := ?_) ?_ ?_
               rotate_left
               ·show Act.put _ (some 57) _ = _
                simp only [Act.put, List.setIfInBounds_toArray, List.set_cons_zero, List.set_cons_succ, i64_w, i32_w, u8_w, w64_b]
                rfl
               refine pure_ (i := 4) (N := some 58) (v := ?_) (a' := ?_) #[true, true, true, true, true] rfl rfl (by kernel_rfl) (fun _ _ _ h => h) (Or.inl ⟨by rfl, ?_⟩) ?_ ?_
               rotate_left
               ·intro w'
                go_simp
                with_reducible rfl
               rotate_left
               ·simp only [Act.put, List.setIfInBounds_toArray, List.set_cons_zero, List.set_cons_succ, i64_w, i32_w, u8_w, w64_b]
                rfl
               refine done_ (by kernel_rfl) ?_
               try go_wp2
               have n0_ := Sq.m (Kd.R_drew HO353.out)
               have n1_ := Sq.m (Kd.R_drew HO356.out)
               have n2_ := Sq.m (Kd.R_drew HO359.out)
               have n3_ := Sq.m (Kd.R_drew HO364.out)
               have n4_ := Sq.m (Kd.R_drew HO368.out)
               have n5_ := Sq.m (Kd.R_drew HO372.out)
               have n6_ := Sq.m (Kd.R_drew HO378.out)
               have n7_ := Sq.m (blk_drew BK347.out)
               have n8_ := Sq.m (blk_drew BK348.out)
               have n9_ := Sq.m (blk_drew BK361.out)
               have n10_ := Sq.m (blk_drew BK365.out)
               have n11_ := Sq.m (blk_drew BK369.out)
               have n12_ := Sq.m (blk_drew BK374.out)
               have n13_ := Sq.m (below_drew1 HB.out)
               clear HO353
               clear HO356
               clear HO359
               clear HO364
               clear HO368
               clear HO372
               clear HO378
               clear BK347
               clear BK348
               clear BK361
               clear BK365
               clear BK369
               clear BK374
               clear HB
               have HO353 := n0_
               have HO356 := n1_
               have HO359 := n2_
               have HO364 := n3_
               have HO368 := n4_
               have HO372 := n5_
               have HO378 := n6_
               have BK347 := n7_
               have BK348 := n8_
               have BK361 := n9_
               have BK365 := n10_
               have BK369 := n11_
               have BK374 := n12_
               have HB := n13_
               clear n0_ n1_ n2_ n3_ n4_ n5_ n6_ n7_ n8_ n9_ n10_ n11_ n12_ n13_
               refine start_ (n := 5) (S := fun w' => w'.cell? ⟨gb369, 0, none⟩ = some (.slice Ao82 t366.length co82) ∧ w'.cell? ⟨gb348, 0, none⟩ = some (.slice A1_0 l1_0.length c1_0)) (ds := []) #[false, false, false, false, false] (by kernel_rfl) rfl rfl ⟨(blk_cell BK369.out 0).trans rfl, (blk_cell BK348.out 0).trans rfl⟩ (fun hHeld => ?_)
               generalize w104.drew = w105 at HO353 HO356 HO359 HO364 HO368 HO372 HO378 BK347 BK348 BK361 BK365 BK369 BK374 HB hHeld ⊢
               refine take_ (i := 0) (N := some 59) (v := ?_) (a' := ?_) #[true, false, false, false, false] rfl rfl (by kernel_rfl) (fun _ _ _ h => h) (Or.inl ⟨by rfl, ?_⟩) hHeld ?_ ?_
               rotate_left
               ·rintro w' ⟨s0, s1⟩
                go_simp
                with_reducible rfl
               rotate_left
               ·simp only [Act.put, List.setIfInBounds_toArray, List.set_cons_zero, List.set_cons_succ, i64_w, i32_w, u8_w, w64_b]
                rfl
               refine take_ (i := 1) (N := some 60) (v := ?_) (a' := ?_) #[true, true, false, false, false] rfl rfl (by kernel_rfl) (fun _ _ _ h => h) (Or.inl ⟨by rfl, ?_⟩) hHeld ?_ ?_
               rotate_left
               ·rintro w' ⟨s0, s1⟩
                go_simp
                with_reducible rfl
               rotate_left
               ·simp only [Act.put, List.setIfInBounds_toArray, List.set_cons_zero, List.set_cons_succ, i64_w, i32_w, u8_w, w64_b]
                rfl
               refine one_ (i := 2) (N := some 61) #[true, true, true, false, false] rfl rfl (by kernel_rfl) (by decide) (fun K hK => ?_)
               refine goes_ Try.func17 (by kernel_rfl) rfl #[.agg #[.slice A1_0 l1_0.length c1_0]] (by rfl) rfl rfl (by (try simp only [List.map_toArray, List.map_cons, List.map_nil]); first | done | rfl | (simp only [List.length_drop, List.length_take]; rfl) | (simp only [i64_w, u8_w, w64_b]; rfl)) ?_
               with_reducible refine (laws_toNat.calls k _ _ l1_0 t380 _ ?side1 ?side2 A31.out).mono ?_
               (case side1 => repeat (first | exact (Kd.C_below HR1_0.out HB.out) | (with_reducible refine Kd.C_alloc ?_ _) | (with_reducible refine Kd.C_drewN ?_ _) | (with_reducible refine Kd.C_drew ?_)))
               (case side2 => exact HC1_0.out)
               rintro e w106 ⟨v381, rfl, ho0, hb⟩
               refine ⟨_, rfl, ?_⟩
               have n0_ := Sq.m (Kd.R_elder' (by apply Sq.ra; exact HO353.out) (Kd.R_base ho0) hb)
               have n1_ := Sq.m (Kd.R_elder' (by apply Sq.ra; exact HO356.out) (Kd.R_base ho0) hb)
               have n2_ := Sq.m (Kd.R_elder' (by apply Sq.ra; exact HO359.out) (Kd.R_base ho0) hb)
               have n3_ := Sq.m (Kd.R_elder' (by apply Sq.ra; exact HO364.out) (Kd.R_base ho0) hb)
               have n4_ := Sq.m (Kd.R_elder' (by apply Sq.ra; exact HO368.out) (Kd.R_base ho0) hb)
               have n5_ := Sq.m (Kd.R_elder' (by apply Sq.ra; exact HO372.out) (Kd.R_base ho0) hb)
               have n6_ := Sq.m (Kd.R_elder' (by apply Sq.ra; exact HO378.out) (Kd.R_base ho0) hb)
               have n7_ := Sq.m (Kd.R_lower (Kd.R_new' (Kd.R_new' (Kd.R_new' (Kd.R_new' (Kd.R_new' (Kd.R_new' (Kd.R_new' ho0 (Kd.R_lt (by apply Sq.ra; exact HO353.out))) (Kd.R_lt (by apply Sq.ra; exact HO356.out))) (Kd.R_lt (by apply Sq.ra; exact HO359.out))) (Kd.R_lt (by apply Sq.ra; exact HO364.out))) (Kd.R_lt (by apply Sq.ra; exact HO368.out))) (Kd.R_lt (by apply Sq.ra; exact HO372.out))) (Kd.R_lt (by apply Sq.ra; exact HO378.out))) (below_size (by repeat (first | (with_reducible first | exact HB.out | apply Sq.rc | refine below_set ?_ GE347.out | refine below_set ?_ GE348.out | refine below_set ?_ GE361.out | refine below_set ?_ GE365.out | refine below_set ?_ GE369.out | refine below_set ?_ GE374.out) | exact HB.out))))
               have n8_ := Sq.m (blk_below (g := gb347) (o := .cells #[.slice A0_0 l0_0.length c0_0] 24 (0, 0)) (by apply Sq.rb; exact BK347.out) hb)
               have n9_ := Sq.m (blk_below (g := gb348) (o := .cells #[.slice A1_0 l1_0.length c1_0] 24 (0, 0)) (by apply Sq.rb; exact BK348.out) hb)
               have n10_ := Sq.m (blk_below (g := gb361) (o := .cells #[.slice Ao99 t357.length co99] 26 (0, 0)) (by apply Sq.rb; exact BK361.out) hb)
               have n11_ := Sq.m (blk_below (g := gb365) (o := .cells #[.slice Ao73 t362.length co73] 26 (0, 0)) (by apply Sq.rb; exact BK365.out) hb)
               have n12_ := Sq.m (blk_below (g := gb369) (o := .cells #[.slice Ao82 t366.length co82] 26 (0, 0)) (by apply Sq.rb; exact BK369.out) hb)
               have n13_ := Sq.m (blk_below (g := gb374) (o := .cells #[.slice Ao91 t370.length co91] 26 (0, 0)) (by apply Sq.rb; exact BK374.out) hb)
               have n14_ := Sq.m (below_step (by repeat (first | (with_reducible first | exact HB.out | apply Sq.rc | refine below_set ?_ GE347.out | refine below_set ?_ GE348.out | refine below_set ?_ GE361.out | refine below_set ?_ GE365.out | refine below_set ?_ GE369.out | refine below_set ?_ GE374.out) | exact HB.out)) hb)
               clear HO353
               clear HO356
               clear HO359
               clear HO364
               clear HO368
               clear HO372
               clear HO378
               clear BK347
               clear BK348
               clear BK361
               clear BK365
               clear BK369
               clear BK374
               clear HB
               have HO353 := n0_
               have HO356 := n1_
               have HO359 := n2_
               have HO364 := n3_
               have HO368 := n4_
               have HO372 := n5_
               have HO378 := n6_
               have HO382 := n7_
               have BK347 := n8_
               have BK348 := n9_
               have BK361 := n10_
               have BK365 := n11_
               have BK369 := n12_
               have BK374 := n13_
               have HB := n14_
               clear n0_ n1_ n2_ n3_ n4_ n5_ n6_ n7_ n8_ n9_ n10_ n11_ n12_ n13_ n14_
               (try clear hb)
               (try clear hb2)
               (try clear hk)
               (try clear hi)
               (try clear ho0)
               obtain ⟨Ao107, co107, eo107⟩ := Kd.R_slice HO382.out
               (first | subst eo107 | (injection eo107 with f1_ f2_ f3_; have f4_ := f1_.symm; have f5_ := f3_.symm; clear f1_ f2_ f3_; subst f4_; subst f5_))
               refine hK.out _ _ ⟨(blk_cell BK369.out 0).trans rfl, (blk_cell BK348.out 0).trans rfl⟩ (fun hHeld => ?_)
               clear hK K
               refine norm_ (a' := ?_) ?_ ?_
               rotate_left
               ·show Act.put _ (some 61) _ = _
                simp only [Act.put, List.setIfInBounds_toArray, List.set_cons_zero, List.set_cons_succ, i64_w, i32_w, u8_w, w64_b]
                rfl
               refine one_ (i := 3) (N := some 62) #[true, true, true, true, false] rfl rfl (by kernel_rfl) (by decide) (fun K hK => ?_)
               refine goes_ Try.func19 (by kernel_rfl) rfl #[.agg #[.slice Ao82 t366.length co82], .agg #[.slice Ao107 t380.length co107]] (by rfl) rfl rfl (by (try simp only [List.map_toArray, List.map_cons, List.map_nil]); first | done | rfl | (simp only [List.length_drop, List.length_take]; rfl) | (simp only [i64_w, u8_w, w64_b]; rfl)) ?_
               with_reducible refine (laws_eqNat.calls k _ _ t366 _ _ t380 true _ ?side1 ?side2 ?side3 ?side4 A32.out).mono ?_
               (case side1 => repeat (first | exact (Kd.R_reads' HO368.out).2.2 | (with_reducible refine Kd.C_alloc ?_ _) | (with_reducible refine Kd.C_drewN ?_ _) | (with_reducible refine Kd.C_drew ?_)))
               (case side2 => exact (Kd.R_reads' HO368.out).2.1)
               (case side3 => repeat (first | exact (Kd.R_reads' HO382.out).2.2 | (with_reducible refine Kd.C_alloc ?_ _) | (with_reducible refine Kd.C_drewN ?_ _) | (with_reducible refine Kd.C_drew ?_)))
               (case side4 => exact (Kd.R_reads' HO382.out).2.1)
               rintro e w108 ⟨rfl, hb⟩
               refine ⟨_, rfl, ?_⟩
               have n0_ := Sq.m (Kd.R_below (by apply Sq.ra; exact HO353.out) hb)
               have n1_ := Sq.m (Kd.R_below (by apply Sq.ra; exact HO356.out) hb)
               have n2_ := Sq.m (Kd.R_below (by apply Sq.ra; exact HO359.out) hb)
               have n3_ := Sq.m (Kd.R_below (by apply Sq.ra; exact HO364.out) hb)
               have n4_ := Sq.m (Kd.R_below (by apply Sq.ra; exact HO368.out) hb)
               have n5_ := Sq.m (Kd.R_below (by apply Sq.ra; exact HO372.out) hb)
               have n6_ := Sq.m (Kd.R_below (by apply Sq.ra; exact HO378.out) hb)
               have n7_ := Sq.m (Kd.R_below (by apply Sq.ra; exact HO382.out) hb)
               have n8_ := Sq.m (blk_below (g := gb347) (o := .cells #[.slice A0_0 l0_0.length c0_0] 24 (0, 0)) (by apply Sq.rb; exact BK347.out) hb)
               have n9_ := Sq.m (blk_below (g := gb348) (o := .cells #[.slice A1_0 l1_0.length c1_0] 24 (0, 0)) (by apply Sq.rb; exact BK348.out) hb)
               have n10_ := Sq.m (blk_below (g := gb361) (o := .cells #[.slice Ao99 t357.length co99] 26 (0, 0)) (by apply Sq.rb; exact BK361.out) hb)
               have n11_ := Sq.m (blk_below (g := gb365) (o := .cells #[.slice Ao73 t362.length co73] 26 (0, 0)) (by apply Sq.rb; exact BK365.out) hb)
               have n12_ := Sq.m (blk_below (g := gb369) (o := .cells #[.slice Ao82 t366.length co82] 26 (0, 0)) (by apply Sq.rb; exact BK369.out) hb)
               have n13_ := Sq.m (blk_below (g := gb374) (o := .cells #[.slice Ao91 t370.length co91] 26 (0, 0)) (by apply Sq.rb; exact BK374.out) hb)
               have n14_ := Sq.m (below_step (by repeat (first | (with_reducible first | exact HB.out | apply Sq.rc | refine below_set ?_ GE347.out | refine below_set ?_ GE348.out | refine below_set ?_ GE361.out | refine below_set ?_ GE365.out | refine below_set ?_ GE369.out | refine below_set ?_ GE374.out) | exact HB.out)) hb)
               clear HO353
               clear HO356
               clear HO359
               clear HO364
               clear HO368
               clear HO372
               clear HO378
               clear HO382
               clear BK347
               clear BK348
               clear BK361
               clear BK365
               clear BK369
               clear BK374
               clear HB
               have HO353 := n0_
               have HO356 := n1_
               have HO359 := n2_
               have HO364 := n3_
               have HO368 := n4_
               have HO372 := n5_
               have HO378 := n6_
               have HO382 := n7_
               have BK347 := n8_
               have BK348 := n9_
               have BK361 := n10_
               have BK365 := n11_
               have BK369 := n12_
               have BK374 := n13_
               have HB := n14_
               clear n0_ n1_ n2_ n3_ n4_ n5_ n6_ n7_ n8_ n9_ n10_ n11_ n12_ n13_ n14_
               (try clear hb)
               (try clear hb2)
               (try clear hk)
               (try clear hi)
               refine hK.out _ _ ⟨(blk_cell BK369.out 0).trans rfl, (blk_cell BK348.out 0).trans rfl⟩ (fun hHeld => ?_)
               clear hK K
               refine norm_ (a' := ?_) ?_ ?_
               rotate_left
               ·show Act.put _ (some 62) _ = _
                simp only [Act.put, List.setIfInBounds_toArray, List.set_cons_zero, List.set_cons_succ, i64_w, i32_w, u8_w, w64_b]
                rfl
               refine pure_ (i := 4) (N := some 63) (v := ?_) (a' := ?_) #[true, true, true, true, true] rfl rfl (by kernel_rfl) (fun _ _ _ h => h) (Or.inl ⟨by rfl, ?_⟩) ?_ ?_
               rotate_left
               ·intro w'
                go_simp
                with_reducible rfl
               rotate_left
               ·simp only [Act.put, List.setIfInBounds_toArray, List.set_cons_zero, List.set_cons_succ, i64_w, i32_w, u8_w, w64_b]
                rfl
               refine done_ (by kernel_rfl) ?_
               have hcz109_0 : w108.cell? ⟨gb365, 0, none⟩ = some (.slice Ao73 t362.length co73) := (blk_cell BK365.out 0).trans rfl
               have hfz109_0 := blk_frozen BK365.out 0
               try go_wp2_with (first | ((with_reducible refine gate_callee (f := 20) rfl ?_); refine goesL_ (some 66) rfl rfl Try.func20 (by kernel_rfl) rfl #[.agg #[.slice Ao73 t362.length co73], .int .i64 1] rfl (by (try simp only [List.map_toArray, List.map_cons, List.map_nil]); first | done | rfl | (simp only [List.length_drop, List.length_take]; rfl) | (simp only [i64_w, u8_w, w64_b]; rfl)) ?_; (with_reducible refine (laws_markNat.calls k (fun k_ => some k_ = (.slice Ao73 t362.length co73 : Value).ownBlock) (.slice Ao73 t362.length co73) t362 1 t384 t385 w _ ?side1 ?side2 A34.out).mono ?_); (case side1 => repeat (first | (with_reducible first | exact HB.out | apply Sq.rc | refine below_set ?_ GE347.out | refine below_set ?_ GE348.out | refine below_set ?_ GE361.out | refine below_set ?_ GE365.out | refine below_set ?_ GE369.out | refine below_set ?_ GE374.out) | exact HB.out)); (case side2 => exact Kd.R_tight rfl HO364.out); rintro e w110 ⟨rfl, hy0, hb, hkp⟩; refine ⟨_, rfl, ?_⟩; have n0_ := Sq.m (blk_kept (by apply Sq.rb; exact BK347.out) hkp (fun hs_ => (fun e_ => (Kd.R_ne HO364.out BK347.out (by decide)) e_) hs_)); have n1_ := Sq.m (blk_kept (by apply Sq.rb; exact BK348.out) hkp (fun hs_ => (fun e_ => (Kd.R_ne HO364.out BK348.out (by decide)) e_) hs_)); have n2_ := Sq.m (Kd.R_mono (ok' := fun k_ => some k_ ≠ (.slice Ao73 t362.length co73 : Value).ownBlock ∧ some k_ ≠ (.slice Ao82 t366.length co82 : Value).ownBlock ∧ some k_ ≠ (.slice Ao91 t370.length co91 : Value).ownBlock ∧ some k_ ≠ (.slice Ao103 t376.length co103 : Value).ownBlock ∧ some k_ ≠ (.slice Ao107 t380.length co107 : Value).ownBlock) (Kd.R_keptB (HO353.out) hkp (fun k_ hk_ hs_ => (hk_.1.1.1.1.2) hs_)) (fun k_ hk_ => ⟨hk_.1.1.1.1.1.2, hk_.1.1.1.1.2, hk_.1.1.1.2, hk_.1.1.2, hk_.1.2⟩)); have n3_ := Sq.m (Kd.R_mono (ok' := fun k_ => some k_ ≠ (.slice Ao73 t362.length co73 : Value).ownBlock ∧ some k_ ≠ (.slice Ao82 t366.length co82 : Value).ownBlock ∧ some k_ ≠ (.slice Ao91 t370.length co91 : Value).ownBlock ∧ some k_ ≠ (.slice Ao103 t376.length co103 : Value).ownBlock ∧ some k_ ≠ (.slice Ao107 t380.length co107 : Value).ownBlock) (Kd.R_keptB (HO356.out) hkp (fun k_ hk_ hs_ => (hk_.1.1.1.1.2) hs_)) (fun k_ hk_ => ⟨hk_.1.1.1.1.1.2, hk_.1.1.1.1.2, hk_.1.1.1.2, hk_.1.1.2, hk_.1.2⟩)); have n4_ := Sq.m (Kd.R_mono (ok' := fun k_ => some k_ ≠ (.slice Ao73 t362.length co73 : Value).ownBlock ∧ some k_ ≠ (.slice Ao82 t366.length co82 : Value).ownBlock ∧ some k_ ≠ (.slice Ao91 t370.length co91 : Value).ownBlock ∧ some k_ ≠ (.slice Ao103 t376.length co103 : Value).ownBlock ∧ some k_ ≠ (.slice Ao107 t380.length co107 : Value).ownBlock) (Kd.R_keptB (HO359.out) hkp (fun k_ hk_ hs_ => (hk_.1.1.1.1.2) hs_)) (fun k_ hk_ => ⟨hk_.1.1.1.1.1.2, hk_.1.1.1.1.2, hk_.1.1.1.2, hk_.1.1.2, hk_.1.2⟩)); have n5_ := Sq.m (blk_kept (by apply Sq.rb; exact BK361.out) hkp (fun hs_ => (fun e_ => (Kd.R_ne HO364.out BK361.out (by decide)) e_) hs_)); have n6_ := Sq.m (Kd.R_reok rfl hy0 (fun k_ e_ => HO364.out.1 k_ e_)); have n7_ := Sq.m (blk_kept (by apply Sq.rb; exact BK365.out) hkp (fun hs_ => (fun e_ => (Kd.R_ne HO364.out BK365.out (by decide)) e_) hs_)); have n8_ := Sq.m (Kd.R_mono (ok' := fun k_ => some k_ ≠ (v352 : Value).ownBlock ∧ some k_ ≠ (v355 : Value).ownBlock ∧ some k_ ≠ (.slice Ao99 t357.length co99 : Value).ownBlock ∧ some k_ ≠ (.slice Ao73 t362.length co73 : Value).ownBlock ∧ some k_ ≠ (.slice Ao91 t370.length co91 : Value).ownBlock ∧ some k_ ≠ (.slice Ao103 t376.length co103 : Value).ownBlock ∧ some k_ ≠ (.slice Ao107 t380.length co107 : Value).ownBlock) (Kd.R_keptB (HO368.out) hkp (fun k_ hk_ hs_ => (hk_.1.1.1.2) hs_)) (fun k_ hk_ => ⟨hk_.1.1.1.1.1.1.1.2, hk_.1.1.1.1.1.1.2, hk_.1.1.1.1.1.2, hk_.1.1.1.1.2, hk_.1.1.1.2, hk_.1.1.2, hk_.1.2⟩)); have n9_ := Sq.m (blk_kept (by apply Sq.rb; exact BK369.out) hkp (fun hs_ => (fun e_ => (Kd.R_ne HO364.out BK369.out (by decide)) e_) hs_)); have n10_ := Sq.m (Kd.R_mono (ok' := fun k_ => some k_ ≠ (v352 : Value).ownBlock ∧ some k_ ≠ (v355 : Value).ownBlock ∧ some k_ ≠ (.slice Ao99 t357.length co99 : Value).ownBlock ∧ some k_ ≠ (.slice Ao73 t362.length co73 : Value).ownBlock ∧ some k_ ≠ (.slice Ao82 t366.length co82 : Value).ownBlock ∧ some k_ ≠ (.slice Ao103 t376.length co103 : Value).ownBlock ∧ some k_ ≠ (.slice Ao107 t380.length co107 : Value).ownBlock) (Kd.R_keptB (HO372.out) hkp (fun k_ hk_ hs_ => (hk_.1.1.1.2) hs_)) (fun k_ hk_ => ⟨hk_.1.1.1.1.1.1.1.2, hk_.1.1.1.1.1.1.2, hk_.1.1.1.1.1.2, hk_.1.1.1.1.2, hk_.1.1.1.2, hk_.1.1.2, hk_.1.2⟩)); have n11_ := Sq.m (blk_kept (by apply Sq.rb; exact BK374.out) hkp (fun hs_ => (fun e_ => (Kd.R_ne HO364.out BK374.out (by decide)) e_) hs_)); have n12_ := Sq.m (Kd.R_mono (ok' := fun k_ => some k_ ≠ (v352 : Value).ownBlock ∧ some k_ ≠ (v355 : Value).ownBlock ∧ some k_ ≠ (.slice Ao99 t357.length co99 : Value).ownBlock ∧ some k_ ≠ (.slice Ao73 t362.length co73 : Value).ownBlock ∧ some k_ ≠ (.slice Ao82 t366.length co82 : Value).ownBlock ∧ some k_ ≠ (.slice Ao91 t370.length co91 : Value).ownBlock ∧ some k_ ≠ (.slice Ao107 t380.length co107 : Value).ownBlock) (Kd.R_keptB (HO378.out) hkp (fun k_ hk_ hs_ => (hk_.1.1.1.2) hs_)) (fun k_ hk_ => ⟨hk_.1.1.1.1.1.1.1.2, hk_.1.1.1.1.1.1.2, hk_.1.1.1.1.1.2, hk_.1.1.1.1.2, hk_.1.1.1.2, hk_.1.1.2, hk_.1.2⟩)); have n13_ := Sq.m (Kd.R_mono (ok' := fun k_ => some k_ ≠ (v352 : Value).ownBlock ∧ some k_ ≠ (v355 : Value).ownBlock ∧ some k_ ≠ (.slice Ao99 t357.length co99 : Value).ownBlock ∧ some k_ ≠ (.slice Ao73 t362.length co73 : Value).ownBlock ∧ some k_ ≠ (.slice Ao82 t366.length co82 : Value).ownBlock ∧ some k_ ≠ (.slice Ao91 t370.length co91 : Value).ownBlock ∧ some k_ ≠ (.slice Ao103 t376.length co103 : Value).ownBlock) (Kd.R_keptB (HO382.out) hkp (fun k_ hk_ hs_ => (hk_.1.1.1.2) hs_)) (fun k_ hk_ => ⟨hk_.1.1.1.1.1.1.1.2, hk_.1.1.1.1.1.1.2, hk_.1.1.1.1.1.2, hk_.1.1.1.1.2, hk_.1.1.1.2, hk_.1.1.2, hk_.1.2⟩)); have n14_ := Sq.m (hb); clear BK347; clear BK348; clear HO353; clear HO356; clear HO359; clear BK361; clear HO364; clear BK365; clear HO368; clear BK369; clear HO372; clear BK374; clear HO378; clear HO382; clear HB; have BK347 := n0_; have BK348 := n1_; have HO353 := n2_; have HO356 := n3_; have HO359 := n4_; have BK361 := n5_; have HO364 := n6_; have BK365 := n7_; have HO368 := n8_; have BK369 := n9_; have HO372 := n10_; have BK374 := n11_; have HO378 := n12_; have HO382 := n13_; have HB := n14_; clear n0_ n1_ n2_ n3_ n4_ n5_ n6_ n7_ n8_ n9_ n10_ n11_ n12_ n13_ n14_; (try clear hb); (try clear hkp); (try clear hy0); have hcz111_0 : w110.cell? ⟨gb369, 0, none⟩ = some (.slice Ao82 t366.length co82) := (blk_cell BK369.out 0).trans rfl; have hfz111_0 := blk_frozen BK369.out 0) | ((with_reducible refine gate_callee (f := 20) rfl ?_); refine goesL_ (some 69) rfl rfl Try.func20 (by kernel_rfl) rfl #[.agg #[.slice Ao82 t366.length co82], .int .i64 t384] rfl (by (try simp only [List.map_toArray, List.map_cons, List.map_nil]); first | done | rfl | (simp only [List.length_drop, List.length_take]; rfl) | (simp only [i64_w, u8_w, w64_b]; rfl)) ?_; (with_reducible refine (laws_markNat.calls k (fun k_ => some k_ = (.slice Ao82 t366.length co82 : Value).ownBlock) (.slice Ao82 t366.length co82) t366 t384 t386 t387 w _ ?side1 ?side2 A35.out).mono ?_); (case side1 => repeat (first | (with_reducible first | exact HB.out | apply Sq.rc | refine below_set ?_ GE347.out | refine below_set ?_ GE348.out | refine below_set ?_ GE361.out | refine below_set ?_ GE365.out | refine below_set ?_ GE369.out | refine below_set ?_ GE374.out) | exact HB.out)); (case side2 => exact Kd.R_tight rfl HO368.out); rintro e w112 ⟨rfl, hy0, hb, hkp⟩; refine ⟨_, rfl, ?_⟩; have n0_ := Sq.m (blk_kept (by apply Sq.rb; exact BK347.out) hkp (fun hs_ => (fun e_ => (Kd.R_ne HO368.out BK347.out (by decide)) e_) hs_)); have n1_ := Sq.m (blk_kept (by apply Sq.rb; exact BK348.out) hkp (fun hs_ => (fun e_ => (Kd.R_ne HO368.out BK348.out (by decide)) e_) hs_)); have n2_ := Sq.m (Kd.R_mono (ok' := fun k_ => some k_ ≠ (.slice Ao73 t362.length co73 : Value).ownBlock ∧ some k_ ≠ (.slice Ao82 t366.length co82 : Value).ownBlock ∧ some k_ ≠ (.slice Ao91 t370.length co91 : Value).ownBlock ∧ some k_ ≠ (.slice Ao103 t376.length co103 : Value).ownBlock ∧ some k_ ≠ (.slice Ao107 t380.length co107 : Value).ownBlock) (Kd.R_keptB (HO353.out) hkp (fun k_ hk_ hs_ => (hk_.2.1) hs_)) (fun k_ hk_ => ⟨hk_.1.1, hk_.1.2.1, hk_.1.2.2.1, hk_.1.2.2.2.1, hk_.1.2.2.2.2⟩)); have n3_ := Sq.m (Kd.R_mono (ok' := fun k_ => some k_ ≠ (.slice Ao73 t362.length co73 : Value).ownBlock ∧ some k_ ≠ (.slice Ao82 t366.length co82 : Value).ownBlock ∧ some k_ ≠ (.slice Ao91 t370.length co91 : Value).ownBlock ∧ some k_ ≠ (.slice Ao103 t376.length co103 : Value).ownBlock ∧ some k_ ≠ (.slice Ao107 t380.length co107 : Value).ownBlock) (Kd.R_keptB (HO356.out) hkp (fun k_ hk_ hs_ => (hk_.2.1) hs_)) (fun k_ hk_ => ⟨hk_.1.1, hk_.1.2.1, hk_.1.2.2.1, hk_.1.2.2.2.1, hk_.1.2.2.2.2⟩)); have n4_ := Sq.m (Kd.R_mono (ok' := fun k_ => some k_ ≠ (.slice Ao73 t362.length co73 : Value).ownBlock ∧ some k_ ≠ (.slice Ao82 t366.length co82 : Value).ownBlock ∧ some k_ ≠ (.slice Ao91 t370.length co91 : Value).ownBlock ∧ some k_ ≠ (.slice Ao103 t376.length co103 : Value).ownBlock ∧ some k_ ≠ (.slice Ao107 t380.length co107 : Value).ownBlock) (Kd.R_keptB (HO359.out) hkp (fun k_ hk_ hs_ => (hk_.2.1) hs_)) (fun k_ hk_ => ⟨hk_.1.1, hk_.1.2.1, hk_.1.2.2.1, hk_.1.2.2.2.1, hk_.1.2.2.2.2⟩)); have n5_ := Sq.m (blk_kept (by apply Sq.rb; exact BK361.out) hkp (fun hs_ => (fun e_ => (Kd.R_ne HO368.out BK361.out (by decide)) e_) hs_)); have n6_ := Sq.m (Kd.R_mono (ok' := fun k_ => some k_ ≠ (v352 : Value).ownBlock ∧ some k_ ≠ (v355 : Value).ownBlock ∧ some k_ ≠ (.slice Ao99 t357.length co99 : Value).ownBlock ∧ some k_ ≠ (.slice Ao82 t366.length co82 : Value).ownBlock ∧ some k_ ≠ (.slice Ao91 t370.length co91 : Value).ownBlock ∧ some k_ ≠ (.slice Ao103 t376.length co103 : Value).ownBlock ∧ some k_ ≠ (.slice Ao107 t380.length co107 : Value).ownBlock) (Kd.R_keptB (HO364.out) hkp (fun k_ hk_ hs_ => (hk_.1.1.1.2) hs_)) (fun k_ hk_ => ⟨hk_.1.1.1.1.1.1.1.2, hk_.1.1.1.1.1.1.2, hk_.1.1.1.1.1.2, hk_.1.1.1.1.2, hk_.1.1.1.2, hk_.1.1.2, hk_.1.2⟩)); have n7_ := Sq.m (blk_kept (by apply Sq.rb; exact BK365.out) hkp (fun hs_ => (fun e_ => (Kd.R_ne HO368.out BK365.out (by decide)) e_) hs_)); have n8_ := Sq.m (Kd.R_reok rfl hy0 (fun k_ e_ => HO368.out.1 k_ e_)); have n9_ := Sq.m (blk_kept (by apply Sq.rb; exact BK369.out) hkp (fun hs_ => (fun e_ => (Kd.R_ne HO368.out BK369.out (by decide)) e_) hs_)); have n10_ := Sq.m (Kd.R_mono (ok' := fun k_ => some k_ ≠ (v352 : Value).ownBlock ∧ some k_ ≠ (v355 : Value).ownBlock ∧ some k_ ≠ (.slice Ao99 t357.length co99 : Value).ownBlock ∧ some k_ ≠ (.slice Ao73 t362.length co73 : Value).ownBlock ∧ some k_ ≠ (.slice Ao82 t366.length co82 : Value).ownBlock ∧ some k_ ≠ (.slice Ao103 t376.length co103 : Value).ownBlock ∧ some k_ ≠ (.slice Ao107 t380.length co107 : Value).ownBlock) (Kd.R_keptB (HO372.out) hkp (fun k_ hk_ hs_ => (hk_.2.2.2.2.1) hs_)) (fun k_ hk_ => ⟨hk_.1.1, hk_.1.2.1, hk_.1.2.2.1, hk_.1.2.2.2.1, hk_.1.2.2.2.2.1, hk_.1.2.2.2.2.2.1, hk_.1.2.2.2.2.2.2⟩)); have n11_ := Sq.m (blk_kept (by apply Sq.rb; exact BK374.out) hkp (fun hs_ => (fun e_ => (Kd.R_ne HO368.out BK374.out (by decide)) e_) hs_)); have n12_ := Sq.m (Kd.R_mono (ok' := fun k_ => some k_ ≠ (v352 : Value).ownBlock ∧ some k_ ≠ (v355 : Value).ownBlock ∧ some k_ ≠ (.slice Ao99 t357.length co99 : Value).ownBlock ∧ some k_ ≠ (.slice Ao73 t362.length co73 : Value).ownBlock ∧ some k_ ≠ (.slice Ao82 t366.length co82 : Value).ownBlock ∧ some k_ ≠ (.slice Ao91 t370.length co91 : Value).ownBlock ∧ some k_ ≠ (.slice Ao107 t380.length co107 : Value).ownBlock) (Kd.R_keptB (HO378.out) hkp (fun k_ hk_ hs_ => (hk_.2.2.2.2.1) hs_)) (fun k_ hk_ => ⟨hk_.1.1, hk_.1.2.1, hk_.1.2.2.1, hk_.1.2.2.2.1, hk_.1.2.2.2.2.1, hk_.1.2.2.2.2.2.1, hk_.1.2.2.2.2.2.2⟩)); have n13_ := Sq.m (Kd.R_mono (ok' := fun k_ => some k_ ≠ (v352 : Value).ownBlock ∧ some k_ ≠ (v355 : Value).ownBlock ∧ some k_ ≠ (.slice Ao99 t357.length co99 : Value).ownBlock ∧ some k_ ≠ (.slice Ao73 t362.length co73 : Value).ownBlock ∧ some k_ ≠ (.slice Ao82 t366.length co82 : Value).ownBlock ∧ some k_ ≠ (.slice Ao91 t370.length co91 : Value).ownBlock ∧ some k_ ≠ (.slice Ao103 t376.length co103 : Value).ownBlock) (Kd.R_keptB (HO382.out) hkp (fun k_ hk_ hs_ => (hk_.2.2.2.2.1) hs_)) (fun k_ hk_ => ⟨hk_.1.1, hk_.1.2.1, hk_.1.2.2.1, hk_.1.2.2.2.1, hk_.1.2.2.2.2.1, hk_.1.2.2.2.2.2.1, hk_.1.2.2.2.2.2.2⟩)); have n14_ := Sq.m (hb); clear BK347; clear BK348; clear HO353; clear HO356; clear HO359; clear BK361; clear HO364; clear BK365; clear HO368; clear BK369; clear HO372; clear BK374; clear HO378; clear HO382; clear HB; have BK347 := n0_; have BK348 := n1_; have HO353 := n2_; have HO356 := n3_; have HO359 := n4_; have BK361 := n5_; have HO364 := n6_; have BK365 := n7_; have HO368 := n8_; have BK369 := n9_; have HO372 := n10_; have BK374 := n11_; have HO378 := n12_; have HO382 := n13_; have HB := n14_; clear n0_ n1_ n2_ n3_ n4_ n5_ n6_ n7_ n8_ n9_ n10_ n11_ n12_ n13_ n14_; (try clear hb); (try clear hkp); (try clear hy0); have hcz113_0 : w112.cell? ⟨gb374, 0, none⟩ = some (.slice Ao91 t370.length co91) := (blk_cell BK374.out 0).trans rfl; have hfz113_0 := blk_frozen BK374.out 0; have hcz114_0 : w112.cell? ⟨gb361, 0, none⟩ = some (.slice Ao99 t357.length co99) := (blk_cell BK361.out 0).trans rfl; have hfz114_0 := blk_frozen BK361.out 0) | (go_at_call 19; (with_reducible refine (laws_eqNat.calls k _ _ t370 _ _ t357 true _ ?side1 ?side2 ?side3 ?side4 A37.out).mono ?_); (case side1 => repeat (first | exact (Kd.R_reads' HO372.out).2.2 | (with_reducible refine Kd.C_alloc ?_ _) | (with_reducible refine Kd.C_drewN ?_ _) | (with_reducible refine Kd.C_drew ?_))); (case side2 => exact (Kd.R_reads' HO372.out).2.1); (case side3 => repeat (first | exact (Kd.R_reads' HO359.out).2.2 | (with_reducible refine Kd.C_alloc ?_ _) | (with_reducible refine Kd.C_drewN ?_ _) | (with_reducible refine Kd.C_drew ?_))); (case side4 => exact (Kd.R_reads' HO359.out).2.1); rintro e w115 ⟨rfl, hb⟩; have n0_ := Sq.m (Kd.R_below (by apply Sq.ra; exact HO353.out) hb); have n1_ := Sq.m (Kd.R_below (by apply Sq.ra; exact HO356.out) hb); have n2_ := Sq.m (Kd.R_below (by apply Sq.ra; exact HO359.out) hb); have n3_ := Sq.m (Kd.R_below (by apply Sq.ra; exact HO364.out) hb); have n4_ := Sq.m (Kd.R_below (by apply Sq.ra; exact HO368.out) hb); have n5_ := Sq.m (Kd.R_below (by apply Sq.ra; exact HO372.out) hb); have n6_ := Sq.m (Kd.R_below (by apply Sq.ra; exact HO378.out) hb); have n7_ := Sq.m (Kd.R_below (by apply Sq.ra; exact HO382.out) hb); have n8_ := Sq.m (blk_below (g := gb347) (o := .cells #[.slice A0_0 l0_0.length c0_0] 24 (0, 0)) (by apply Sq.rb; exact BK347.out) hb); have n9_ := Sq.m (blk_below (g := gb348) (o := .cells #[.slice A1_0 l1_0.length c1_0] 24 (0, 0)) (by apply Sq.rb; exact BK348.out) hb); have n10_ := Sq.m (blk_below (g := gb361) (o := .cells #[.slice Ao99 t357.length co99] 26 (0, 0)) (by apply Sq.rb; exact BK361.out) hb); have n11_ := Sq.m (blk_below (g := gb365) (o := .cells #[.slice Ao73 t362.length co73] 26 (0, 0)) (by apply Sq.rb; exact BK365.out) hb); have n12_ := Sq.m (blk_below (g := gb369) (o := .cells #[.slice Ao82 t366.length co82] 26 (0, 0)) (by apply Sq.rb; exact BK369.out) hb); have n13_ := Sq.m (blk_below (g := gb374) (o := .cells #[.slice Ao91 t370.length co91] 26 (0, 0)) (by apply Sq.rb; exact BK374.out) hb); have n14_ := Sq.m (below_step (by repeat (first | (with_reducible first | exact HB.out | apply Sq.rc | refine below_set ?_ GE347.out | refine below_set ?_ GE348.out | refine below_set ?_ GE361.out | refine below_set ?_ GE365.out | refine below_set ?_ GE369.out | refine below_set ?_ GE374.out) | exact HB.out)) hb); clear HO353; clear HO356; clear HO359; clear HO364; clear HO368; clear HO372; clear HO378; clear HO382; clear BK347; clear BK348; clear BK361; clear BK365; clear BK369; clear BK374; clear HB; have HO353 := n0_; have HO356 := n1_; have HO359 := n2_; have HO364 := n3_; have HO368 := n4_; have HO372 := n5_; have HO378 := n6_; have HO382 := n7_; have BK347 := n8_; have BK348 := n9_; have BK361 := n10_; have BK365 := n11_; have BK369 := n12_; have BK374 := n13_; have HB := n14_; clear n0_ n1_ n2_ n3_ n4_ n5_ n6_ n7_ n8_ n9_ n10_ n11_ n12_ n13_ n14_; (try clear hb); (try clear hb2); (try clear hk); (try clear hi); have hcz116_0 : w115.cell? ⟨gb374, 0, none⟩ = some (.slice Ao91 t370.length co91) := (blk_cell BK374.out 0).trans rfl; have hfz116_0 := blk_frozen BK374.out 0) | ((with_reducible refine gate_callee (f := 20) rfl ?_); refine goesL_ (some 85) rfl rfl Try.func20 (by kernel_rfl) rfl #[.agg #[.slice Ao91 t370.length co91], .int .i64 1] rfl (by (try simp only [List.map_toArray, List.map_cons, List.map_nil]); first | done | rfl | (simp only [List.length_drop, List.length_take]; rfl) | (simp only [i64_w, u8_w, w64_b]; rfl)) ?_; (with_reducible refine (laws_markNat.calls k (fun k_ => some k_ = (.slice Ao91 t370.length co91 : Value).ownBlock) (.slice Ao91 t370.length co91) t370 1 t389 t390 w _ ?side1 ?side2 A39.out).mono ?_); (case side1 => repeat (first | (with_reducible first | exact HB.out | apply Sq.rc | refine below_set ?_ GE347.out | refine below_set ?_ GE348.out | refine below_set ?_ GE361.out | refine below_set ?_ GE365.out | refine below_set ?_ GE369.out | refine below_set ?_ GE374.out) | exact HB.out)); (case side2 => exact Kd.R_tight rfl HO372.out); rintro e w117 ⟨rfl, hy0, hb, hkp⟩; refine ⟨_, rfl, ?_⟩; have n0_ := Sq.m (blk_kept (by apply Sq.rb; exact BK347.out) hkp (fun hs_ => (fun e_ => (Kd.R_ne HO372.out BK347.out (by decide)) e_) hs_)); have n1_ := Sq.m (blk_kept (by apply Sq.rb; exact BK348.out) hkp (fun hs_ => (fun e_ => (Kd.R_ne HO372.out BK348.out (by decide)) e_) hs_)); have n2_ := Sq.m (Kd.R_mono (ok' := fun k_ => some k_ ≠ (.slice Ao73 t362.length co73 : Value).ownBlock ∧ some k_ ≠ (.slice Ao82 t366.length co82 : Value).ownBlock ∧ some k_ ≠ (.slice Ao91 t370.length co91 : Value).ownBlock ∧ some k_ ≠ (.slice Ao103 t376.length co103 : Value).ownBlock ∧ some k_ ≠ (.slice Ao107 t380.length co107 : Value).ownBlock) (Kd.R_keptB (HO353.out) hkp (fun k_ hk_ hs_ => (hk_.2.2.1) hs_)) (fun k_ hk_ => ⟨hk_.1.1, hk_.1.2.1, hk_.1.2.2.1, hk_.1.2.2.2.1, hk_.1.2.2.2.2⟩)); have n3_ := Sq.m (Kd.R_mono (ok' := fun k_ => some k_ ≠ (.slice Ao73 t362.length co73 : Value).ownBlock ∧ some k_ ≠ (.slice Ao82 t366.length co82 : Value).ownBlock ∧ some k_ ≠ (.slice Ao91 t370.length co91 : Value).ownBlock ∧ some k_ ≠ (.slice Ao103 t376.length co103 : Value).ownBlock ∧ some k_ ≠ (.slice Ao107 t380.length co107 : Value).ownBlock) (Kd.R_keptB (HO356.out) hkp (fun k_ hk_ hs_ => (hk_.2.2.1) hs_)) (fun k_ hk_ => ⟨hk_.1.1, hk_.1.2.1, hk_.1.2.2.1, hk_.1.2.2.2.1, hk_.1.2.2.2.2⟩)); have n4_ := Sq.m (Kd.R_mono (ok' := fun k_ => some k_ ≠ (.slice Ao73 t362.length co73 : Value).ownBlock ∧ some k_ ≠ (.slice Ao82 t366.length co82 : Value).ownBlock ∧ some k_ ≠ (.slice Ao91 t370.length co91 : Value).ownBlock ∧ some k_ ≠ (.slice Ao103 t376.length co103 : Value).ownBlock ∧ some k_ ≠ (.slice Ao107 t380.length co107 : Value).ownBlock) (Kd.R_keptB (HO359.out) hkp (fun k_ hk_ hs_ => (hk_.2.2.1) hs_)) (fun k_ hk_ => ⟨hk_.1.1, hk_.1.2.1, hk_.1.2.2.1, hk_.1.2.2.2.1, hk_.1.2.2.2.2⟩)); have n5_ := Sq.m (blk_kept (by apply Sq.rb; exact BK361.out) hkp (fun hs_ => (fun e_ => (Kd.R_ne HO372.out BK361.out (by decide)) e_) hs_)); have n6_ := Sq.m (Kd.R_mono (ok' := fun k_ => some k_ ≠ (v352 : Value).ownBlock ∧ some k_ ≠ (v355 : Value).ownBlock ∧ some k_ ≠ (.slice Ao99 t357.length co99 : Value).ownBlock ∧ some k_ ≠ (.slice Ao82 t366.length co82 : Value).ownBlock ∧ some k_ ≠ (.slice Ao91 t370.length co91 : Value).ownBlock ∧ some k_ ≠ (.slice Ao103 t376.length co103 : Value).ownBlock ∧ some k_ ≠ (.slice Ao107 t380.length co107 : Value).ownBlock) (Kd.R_keptB (HO364.out) hkp (fun k_ hk_ hs_ => (hk_.2.2.2.2.1) hs_)) (fun k_ hk_ => ⟨hk_.1.1, hk_.1.2.1, hk_.1.2.2.1, hk_.1.2.2.2.1, hk_.1.2.2.2.2.1, hk_.1.2.2.2.2.2.1, hk_.1.2.2.2.2.2.2⟩)); have n7_ := Sq.m (blk_kept (by apply Sq.rb; exact BK365.out) hkp (fun hs_ => (fun e_ => (Kd.R_ne HO372.out BK365.out (by decide)) e_) hs_)); have n8_ := Sq.m (Kd.R_mono (ok' := fun k_ => some k_ ≠ (v352 : Value).ownBlock ∧ some k_ ≠ (v355 : Value).ownBlock ∧ some k_ ≠ (.slice Ao99 t357.length co99 : Value).ownBlock ∧ some k_ ≠ (.slice Ao73 t362.length co73 : Value).ownBlock ∧ some k_ ≠ (.slice Ao91 t370.length co91 : Value).ownBlock ∧ some k_ ≠ (.slice Ao103 t376.length co103 : Value).ownBlock ∧ some k_ ≠ (.slice Ao107 t380.length co107 : Value).ownBlock) (Kd.R_keptB (HO368.out) hkp (fun k_ hk_ hs_ => (hk_.2.2.2.2.1) hs_)) (fun k_ hk_ => ⟨hk_.1.1, hk_.1.2.1, hk_.1.2.2.1, hk_.1.2.2.2.1, hk_.1.2.2.2.2.1, hk_.1.2.2.2.2.2.1, hk_.1.2.2.2.2.2.2⟩)); have n9_ := Sq.m (blk_kept (by apply Sq.rb; exact BK369.out) hkp (fun hs_ => (fun e_ => (Kd.R_ne HO372.out BK369.out (by decide)) e_) hs_)); have n10_ := Sq.m (Kd.R_reok rfl hy0 (fun k_ e_ => HO372.out.1 k_ e_)); have n11_ := Sq.m (blk_kept (by apply Sq.rb; exact BK374.out) hkp (fun hs_ => (fun e_ => (Kd.R_ne HO372.out BK374.out (by decide)) e_) hs_)); have n12_ := Sq.m (Kd.R_mono (ok' := fun k_ => some k_ ≠ (v352 : Value).ownBlock ∧ some k_ ≠ (v355 : Value).ownBlock ∧ some k_ ≠ (.slice Ao99 t357.length co99 : Value).ownBlock ∧ some k_ ≠ (.slice Ao73 t362.length co73 : Value).ownBlock ∧ some k_ ≠ (.slice Ao82 t366.length co82 : Value).ownBlock ∧ some k_ ≠ (.slice Ao91 t370.length co91 : Value).ownBlock ∧ some k_ ≠ (.slice Ao107 t380.length co107 : Value).ownBlock) (Kd.R_keptB (HO378.out) hkp (fun k_ hk_ hs_ => (hk_.2.2.2.2.2.1) hs_)) (fun k_ hk_ => ⟨hk_.1.1, hk_.1.2.1, hk_.1.2.2.1, hk_.1.2.2.2.1, hk_.1.2.2.2.2.1, hk_.1.2.2.2.2.2.1, hk_.1.2.2.2.2.2.2⟩)); have n13_ := Sq.m (Kd.R_mono (ok' := fun k_ => some k_ ≠ (v352 : Value).ownBlock ∧ some k_ ≠ (v355 : Value).ownBlock ∧ some k_ ≠ (.slice Ao99 t357.length co99 : Value).ownBlock ∧ some k_ ≠ (.slice Ao73 t362.length co73 : Value).ownBlock ∧ some k_ ≠ (.slice Ao82 t366.length co82 : Value).ownBlock ∧ some k_ ≠ (.slice Ao91 t370.length co91 : Value).ownBlock ∧ some k_ ≠ (.slice Ao103 t376.length co103 : Value).ownBlock) (Kd.R_keptB (HO382.out) hkp (fun k_ hk_ hs_ => (hk_.2.2.2.2.2.1) hs_)) (fun k_ hk_ => ⟨hk_.1.1, hk_.1.2.1, hk_.1.2.2.1, hk_.1.2.2.2.1, hk_.1.2.2.2.2.1, hk_.1.2.2.2.2.2.1, hk_.1.2.2.2.2.2.2⟩)); have n14_ := Sq.m (hb); clear BK347; clear BK348; clear HO353; clear HO356; clear HO359; clear BK361; clear HO364; clear BK365; clear HO368; clear BK369; clear HO372; clear BK374; clear HO378; clear HO382; clear HB; have BK347 := n0_; have BK348 := n1_; have HO353 := n2_; have HO356 := n3_; have HO359 := n4_; have BK361 := n5_; have HO364 := n6_; have BK365 := n7_; have HO368 := n8_; have BK369 := n9_; have HO372 := n10_; have BK374 := n11_; have HO378 := n12_; have HO382 := n13_; have HB := n14_; clear n0_ n1_ n2_ n3_ n4_ n5_ n6_ n7_ n8_ n9_ n10_ n11_ n12_ n13_ n14_; (try clear hb); (try clear hkp); (try clear hy0); have hcz118_0 : w117.cell? ⟨gb374, 0, none⟩ = some (.slice Ao91 t370.length co91) := (blk_cell BK374.out 0).trans rfl; have hfz118_0 := blk_frozen BK374.out 0) | ((with_reducible refine gate_callee (f := 21) rfl ?_); refine goesL_ (some 88) rfl rfl Try.func21 (by kernel_rfl) rfl #[.agg #[.slice Ao91 t390.length co91], .int .i64 1] rfl (by (try simp only [List.map_toArray, List.map_cons, List.map_nil]); first | done | (rw [show t390.length = t370.length from (Kd.R_reads' HO372.out).1.symm] <;> rfl) | rfl | (simp only [List.length_drop, List.length_take]; rfl) | (simp only [i64_w, u8_w, w64_b]; rfl)) ?_; (with_reducible refine (laws_heldNat.calls k _ _ t390 1 t391 _ ?side1 ?side2 A40.out).mono ?_); (case side1 => repeat (first | exact (Kd.R_reads' HO372.out).2.2 | (with_reducible refine Kd.C_alloc ?_ _) | (with_reducible refine Kd.C_drewN ?_ _) | (with_reducible refine Kd.C_drew ?_))); (case side2 => rw [show t390.length = t370.length from (Kd.R_reads' HO372.out).1.symm]; exact (Kd.R_reads' HO372.out).2.1); rintro e w119 ⟨rfl, hb⟩; refine ⟨_, rfl, ?_⟩; have n0_ := Sq.m (Kd.R_below (by apply Sq.ra; exact HO353.out) hb); have n1_ := Sq.m (Kd.R_below (by apply Sq.ra; exact HO356.out) hb); have n2_ := Sq.m (Kd.R_below (by apply Sq.ra; exact HO359.out) hb); have n3_ := Sq.m (Kd.R_below (by apply Sq.ra; exact HO364.out) hb); have n4_ := Sq.m (Kd.R_below (by apply Sq.ra; exact HO368.out) hb); have n5_ := Sq.m (Kd.R_below (by apply Sq.ra; exact HO372.out) hb); have n6_ := Sq.m (Kd.R_below (by apply Sq.ra; exact HO378.out) hb); have n7_ := Sq.m (Kd.R_below (by apply Sq.ra; exact HO382.out) hb); have n8_ := Sq.m (blk_below (g := gb347) (o := .cells #[.slice A0_0 l0_0.length c0_0] 24 (0, 0)) (by apply Sq.rb; exact BK347.out) hb); have n9_ := Sq.m (blk_below (g := gb348) (o := .cells #[.slice A1_0 l1_0.length c1_0] 24 (0, 0)) (by apply Sq.rb; exact BK348.out) hb); have n10_ := Sq.m (blk_below (g := gb361) (o := .cells #[.slice Ao99 t357.length co99] 26 (0, 0)) (by apply Sq.rb; exact BK361.out) hb); have n11_ := Sq.m (blk_below (g := gb365) (o := .cells #[.slice Ao73 t362.length co73] 26 (0, 0)) (by apply Sq.rb; exact BK365.out) hb); have n12_ := Sq.m (blk_below (g := gb369) (o := .cells #[.slice Ao82 t366.length co82] 26 (0, 0)) (by apply Sq.rb; exact BK369.out) hb); have n13_ := Sq.m (blk_below (g := gb374) (o := .cells #[.slice Ao91 t370.length co91] 26 (0, 0)) (by apply Sq.rb; exact BK374.out) hb); have n14_ := Sq.m (below_step (by repeat (first | (with_reducible first | exact HB.out | apply Sq.rc | refine below_set ?_ GE347.out | refine below_set ?_ GE348.out | refine below_set ?_ GE361.out | refine below_set ?_ GE365.out | refine below_set ?_ GE369.out | refine below_set ?_ GE374.out) | exact HB.out)) hb); clear HO353; clear HO356; clear HO359; clear HO364; clear HO368; clear HO372; clear HO378; clear HO382; clear BK347; clear BK348; clear BK361; clear BK365; clear BK369; clear BK374; clear HB; have HO353 := n0_; have HO356 := n1_; have HO359 := n2_; have HO364 := n3_; have HO368 := n4_; have HO372 := n5_; have HO378 := n6_; have HO382 := n7_; have BK347 := n8_; have BK348 := n9_; have BK361 := n10_; have BK365 := n11_; have BK369 := n12_; have BK374 := n13_; have HB := n14_; clear n0_ n1_ n2_ n3_ n4_ n5_ n6_ n7_ n8_ n9_ n10_ n11_ n12_ n13_ n14_; (try clear hb); (try clear hb2); (try clear hk); (try clear hi)))
               have n0_ := Sq.m (Kd.R_drew HO353.out)
               have n1_ := Sq.m (Kd.R_drew HO356.out)
               have n2_ := Sq.m (Kd.R_drew HO359.out)
               have n3_ := Sq.m (Kd.R_drew HO364.out)
               have n4_ := Sq.m (Kd.R_drew HO368.out)
               have n5_ := Sq.m (Kd.R_drew HO372.out)
               have n6_ := Sq.m (Kd.R_drew HO378.out)
               have n7_ := Sq.m (Kd.R_drew HO382.out)
               have n8_ := Sq.m (blk_drew BK347.out)
               have n9_ := Sq.m (blk_drew BK348.out)
               have n10_ := Sq.m (blk_drew BK361.out)
               have n11_ := Sq.m (blk_drew BK365.out)
               have n12_ := Sq.m (blk_drew BK369.out)
               have n13_ := Sq.m (blk_drew BK374.out)
               have n14_ := Sq.m (below_drew1 HB.out)
               clear HO353
               clear HO356
               clear HO359
               clear HO364
               clear HO368
               clear HO372
               clear HO378
               clear HO382
               clear BK347
               clear BK348
               clear BK361
               clear BK365
               clear BK369
               clear BK374
               clear HB
               have HO353 := n0_
               have HO356 := n1_
               have HO359 := n2_
               have HO364 := n3_
               have HO368 := n4_
               have HO372 := n5_
               have HO378 := n6_
               have HO382 := n7_
               have BK347 := n8_
               have BK348 := n9_
               have BK361 := n10_
               have BK365 := n11_
               have BK369 := n12_
               have BK374 := n13_
               have HB := n14_
               clear n0_ n1_ n2_ n3_ n4_ n5_ n6_ n7_ n8_ n9_ n10_ n11_ n12_ n13_ n14_
               refine start_ (n := 11) (S := fun w' => True) (ds := []) #[false, false, false, false, false, false, false, false, false, false, false] (by kernel_rfl) rfl rfl trivial (fun hHeld => ?_); refine with_tabW laws_FnExactNatAdd.tab31 laws_FnExactNatAdd.bits31 (fun HT_ HW_ => ?_)
               generalize w119.drew = w120 at HO353 HO356 HO359 HO364 HO368 HO372 HO378 HO382 BK347 BK348 BK361 BK365 BK369 BK374 HB hHeld ⊢
               refine inv_at [0, 1, 2, 3, 4, 5, 6, 7, 8, 9, 10] (fun a0_ b a w' => ∃ (v393 : Value) (v396 : Value) (v399 : Value) (gb402 : Nat) (m1_ : Value) (m3_ : Value) (m4_ : Value) (m5_ : Value) (m6_ : Value) (m8_ : Value), a = putSel a0_ b [(0, 95, .agg #[.slice A0_0 l0_0.length c0_0]), (1, 96, m1_), (2, 97, .agg #[.slice A1_0 l1_0.length c1_0]), (3, 98, m3_), (4, 99, m4_), (5, 94, m5_), (6, 100, m6_), (7, 101, .bool t401), (8, 15, m8_), (10, 16, .bool t401)] ∧ (Kd.R (Kd.int .i64) 3 w' w.heap.size (fun k_ => some k_ ≠ (.slice Ao73 t362.length co73 : Value).ownBlock ∧ some k_ ≠ (.slice Ao82 t366.length co82 : Value).ownBlock ∧ some k_ ≠ (.slice Ao91 t370.length co91 : Value).ownBlock ∧ some k_ ≠ (.slice Ao103 t376.length co103 : Value).ownBlock ∧ some k_ ≠ (.slice Ao107 t380.length co107 : Value).ownBlock) v352 t351) ∧ (Kd.R (Kd.int .i64) 3 w' w.heap.size (fun k_ => some k_ ≠ (.slice Ao73 t362.length co73 : Value).ownBlock ∧ some k_ ≠ (.slice Ao82 t366.length co82 : Value).ownBlock ∧ some k_ ≠ (.slice Ao91 t370.length co91 : Value).ownBlock ∧ some k_ ≠ (.slice Ao103 t376.length co103 : Value).ownBlock ∧ some k_ ≠ (.slice Ao107 t380.length co107 : Value).ownBlock) v355 t354) ∧ (Kd.R (Kd.int .i64) 3 w' w.heap.size (fun k_ => some k_ ≠ (.slice Ao73 t362.length co73 : Value).ownBlock ∧ some k_ ≠ (.slice Ao82 t366.length co82 : Value).ownBlock ∧ some k_ ≠ (.slice Ao91 t370.length co91 : Value).ownBlock ∧ some k_ ≠ (.slice Ao103 t376.length co103 : Value).ownBlock ∧ some k_ ≠ (.slice Ao107 t380.length co107 : Value).ownBlock) (.slice Ao99 t357.length co99) t357) ∧ (Kd.R (Kd.int .i64) 3 w' w.heap.size (fun k_ => some k_ ≠ (v352 : Value).ownBlock ∧ some k_ ≠ (v355 : Value).ownBlock ∧ some k_ ≠ (.slice Ao99 t357.length co99 : Value).ownBlock ∧ some k_ ≠ (.slice Ao82 t366.length co82 : Value).ownBlock ∧ some k_ ≠ (.slice Ao91 t370.length co91 : Value).ownBlock ∧ some k_ ≠ (.slice Ao103 t376.length co103 : Value).ownBlock ∧ some k_ ≠ (.slice Ao107 t380.length co107 : Value).ownBlock) (.slice Ao73 t362.length co73) t385) ∧ (Kd.R (Kd.int .i64) 3 w' w.heap.size (fun k_ => some k_ ≠ (v352 : Value).ownBlock ∧ some k_ ≠ (v355 : Value).ownBlock ∧ some k_ ≠ (.slice Ao99 t357.length co99 : Value).ownBlock ∧ some k_ ≠ (.slice Ao73 t362.length co73 : Value).ownBlock ∧ some k_ ≠ (.slice Ao91 t370.length co91 : Value).ownBlock ∧ some k_ ≠ (.slice Ao103 t376.length co103 : Value).ownBlock ∧ some k_ ≠ (.slice Ao107 t380.length co107 : Value).ownBlock) (.slice Ao82 t366.length co82) t387) ∧ (Kd.R (Kd.int .i64) 3 w' w.heap.size (fun k_ => some k_ ≠ (v352 : Value).ownBlock ∧ some k_ ≠ (v355 : Value).ownBlock ∧ some k_ ≠ (.slice Ao99 t357.length co99 : Value).ownBlock ∧ some k_ ≠ (.slice Ao73 t362.length co73 : Value).ownBlock ∧ some k_ ≠ (.slice Ao82 t366.length co82 : Value).ownBlock ∧ some k_ ≠ (.slice Ao103 t376.length co103 : Value).ownBlock ∧ some k_ ≠ (.slice Ao107 t380.length co107 : Value).ownBlock) (.slice Ao91 t370.length co91) t390) ∧ (Kd.R (Kd.int .i64) 3 w' w.heap.size (fun k_ => some k_ ≠ (v352 : Value).ownBlock ∧ some k_ ≠ (v355 : Value).ownBlock ∧ some k_ ≠ (.slice Ao99 t357.length co99 : Value).ownBlock ∧ some k_ ≠ (.slice Ao73 t362.length co73 : Value).ownBlock ∧ some k_ ≠ (.slice Ao82 t366.length co82 : Value).ownBlock ∧ some k_ ≠ (.slice Ao91 t370.length co91 : Value).ownBlock ∧ some k_ ≠ (.slice Ao107 t380.length co107 : Value).ownBlock) (.slice Ao103 t376.length co103) t376) ∧ (Kd.R (Kd.int .i64) 3 w' w.heap.size (fun k_ => some k_ ≠ (v352 : Value).ownBlock ∧ some k_ ≠ (v355 : Value).ownBlock ∧ some k_ ≠ (.slice Ao99 t357.length co99 : Value).ownBlock ∧ some k_ ≠ (.slice Ao73 t362.length co73 : Value).ownBlock ∧ some k_ ≠ (.slice Ao82 t366.length co82 : Value).ownBlock ∧ some k_ ≠ (.slice Ao91 t370.length co91 : Value).ownBlock ∧ some k_ ≠ (.slice Ao103 t376.length co103 : Value).ownBlock) (.slice Ao107 t380.length co107) t380) ∧ (w'.heap[gb347]? = some (.cells #[.slice A0_0 l0_0.length c0_0] 24 (0, 0))) ∧ (w'.heap[gb348]? = some (.cells #[.slice A1_0 l1_0.length c1_0] 24 (0, 0))) ∧ (w'.heap[gb361]? = some (.cells #[.slice Ao99 t357.length co99] 26 (0, 0))) ∧ (w'.heap[gb365]? = some (.cells #[.slice Ao73 t362.length co73] 26 (0, 0))) ∧ (w'.heap[gb369]? = some (.cells #[.slice Ao82 t366.length co82] 26 (0, 0))) ∧ (w'.heap[gb374]? = some (.cells #[.slice Ao91 t370.length co91] 26 (0, 0))) ∧ (Below w.heap.size w w') ∧ (b 1 = true → Kd.R (Kd.int .i64) 3 w' w.heap.size (fun k_ => some k_ ≠ (v352 : Value).ownBlock ∧ some k_ ≠ (v355 : Value).ownBlock ∧ some k_ ≠ (.slice Ao99 t357.length co99 : Value).ownBlock ∧ some k_ ≠ (.slice Ao73 t362.length co73 : Value).ownBlock ∧ some k_ ≠ (.slice Ao82 t366.length co82 : Value).ownBlock ∧ some k_ ≠ (.slice Ao91 t370.length co91 : Value).ownBlock ∧ some k_ ≠ (.slice Ao103 t376.length co103 : Value).ownBlock ∧ some k_ ≠ (.slice Ao107 t380.length co107 : Value).ownBlock) v393 t392) ∧ (b 3 = true → Kd.R (Kd.int .i64) 3 w' w.heap.size (fun k_ => some k_ ≠ (v352 : Value).ownBlock ∧ some k_ ≠ (v355 : Value).ownBlock ∧ some k_ ≠ (.slice Ao99 t357.length co99 : Value).ownBlock ∧ some k_ ≠ (.slice Ao73 t362.length co73 : Value).ownBlock ∧ some k_ ≠ (.slice Ao82 t366.length co82 : Value).ownBlock ∧ some k_ ≠ (.slice Ao91 t370.length co91 : Value).ownBlock ∧ some k_ ≠ (.slice Ao103 t376.length co103 : Value).ownBlock ∧ some k_ ≠ (.slice Ao107 t380.length co107 : Value).ownBlock) v396 t395) ∧ (b 4 = true → Kd.R (Kd.int .i64) 3 w' w.heap.size (fun k_ => some k_ ≠ (v352 : Value).ownBlock ∧ some k_ ≠ (v355 : Value).ownBlock ∧ some k_ ≠ (.slice Ao99 t357.length co99 : Value).ownBlock ∧ some k_ ≠ (.slice Ao73 t362.length co73 : Value).ownBlock ∧ some k_ ≠ (.slice Ao82 t366.length co82 : Value).ownBlock ∧ some k_ ≠ (.slice Ao91 t370.length co91 : Value).ownBlock ∧ some k_ ≠ (.slice Ao103 t376.length co103 : Value).ownBlock ∧ some k_ ≠ (.slice Ao107 t380.length co107 : Value).ownBlock) v399 t398) ∧ (b 8 = true → b 9 = false → w'.heap[gb402]? = some (.cells #[.slice none 0 0] 26 (0, 0))) ∧ (b 8 = true → w.heap.size ≤ gb402) ∧ (b 8 = true → w.heap.size ≤ gb402) ∧ (b 8 = true → gb347 ≠ gb402) ∧ (b 8 = true → gb402 ≠ gb347) ∧ (b 8 = true → gb348 ≠ gb402) ∧ (b 8 = true → gb402 ≠ gb348) ∧ (b 8 = true → gb361 ≠ gb402) ∧ (b 8 = true → gb402 ≠ gb361) ∧ (b 8 = true → gb365 ≠ gb402) ∧ (b 8 = true → gb402 ≠ gb365) ∧ (b 8 = true → gb369 ≠ gb402) ∧ (b 8 = true → gb402 ≠ gb369) ∧ (b 8 = true → gb374 ≠ gb402) ∧ (b 8 = true → gb402 ≠ gb374) ∧ (b 9 = true → w'.heap[gb402]? = some (.cells #[v399] 26 (0, 0))) ∧ (b 1 = true → (m1_ : Value) = .agg #[v393]) ∧ (b 3 = true → (m3_ : Value) = .agg #[v396]) ∧ (b 4 = true → (m4_ : Value) = .tuple #[.agg #[v399], .bool t401]) ∧ (b 5 = true → (m5_ : Value) = .tuple #[.agg #[v399], .bool t401]) ∧ (b 6 = true → (m6_ : Value) = .agg #[v399]) ∧ (b 8 = true → (m8_ : Value) = .pointer (some ⟨gb402, 0, none⟩))) HT_.out HW_.out (by kernel_rfl) (by kernel_rfl) ?_ ?_ ?_
               ·exact ⟨.bool false, .bool false, .bool false, 0, .bool false, .bool false, .bool false, .bool false, .bool false, .bool false, by simp only [putSel, Bool.false_eq_true, if_false], HO353.out, HO356.out, HO359.out, HO364.out, HO368.out, HO372.out, HO378.out, HO382.out, BK347.out, BK348.out, BK361.out, BK365.out, BK369.out, BK374.out, HB.out, fun h_ => absurd h_ (by decide), fun h_ => absurd h_ (by decide), fun h_ => absurd h_ (by decide), fun h_ => absurd h_ (by decide), fun h_ => absurd h_ (by decide), fun h_ => absurd h_ (by decide), fun h_ => absurd h_ (by decide), fun h_ => absurd h_ (by decide), fun h_ => absurd h_ (by decide), fun h_ => absurd h_ (by decide), fun h_ => absurd h_ (by decide), fun h_ => absurd h_ (by decide), fun h_ => absurd h_ (by decide), fun h_ => absurd h_ (by decide), fun h_ => absurd h_ (by decide), fun h_ => absurd h_ (by decide), fun h_ => absurd h_ (by decide), fun h_ => absurd h_ (by decide), fun h_ => absurd h_ (by decide), fun h_ => absurd h_ (by decide), fun h_ => absurd h_ (by decide), fun h_ => absurd h_ (by decide), fun h_ => absurd h_ (by decide), fun h_ => absurd h_ (by decide), fun h_ => absurd h_ (by decide)⟩
               ·skip
                clear BK347 BK348 BK361 BK365 BK369 BK374 HB HO353 HO356 HO359 HO364 HO368 HO372 HO378 HO382
                refine steps_cons ?_ ?_
                ·rintro b a w' ⟨v393, v396, v399, gb402, m1_, m3_, m4_, m5_, m6_, m8_, ha, Q_HO353, Q_HO356, Q_HO359, Q_HO364, Q_HO368, Q_HO372, Q_HO378, Q_HO382, Q_BK347, Q_BK348, Q_BK361, Q_BK365, Q_BK369, Q_BK374, Q_HB, Q_HO394, Q_HO397, Q_HO400, Q_BK402, Q_GW402, Q_GE402, Q_NB347_402, Q_NB402_347, Q_NB348_402, Q_NB402_348, Q_NB361_402, Q_NB402_361, Q_NB365_402, Q_NB402_365, Q_NB369_402, Q_NB402_369, Q_NB374_402, Q_NB402_374, Q_BK402_e9, Q_X1_, Q_X3_, Q_X4_, Q_X5_, Q_X6_, Q_X8_⟩ hb_ hon hoff
                 refine ⟨_, rfl, fun K hK => ?_⟩
                 have e2 : a.tmps[2]? = some (.pointer (some ⟨gb347, 0, none⟩)) := by rw [ha]; exact (putSel_off rfl).trans rfl
                 replace ha := Aside0.mk ha
                 have HO353 := Aside0.mk Q_HO353
                 have HO356 := Aside0.mk Q_HO356
                 have HO359 := Aside0.mk Q_HO359
                 have HO364 := Aside0.mk Q_HO364
                 have HO368 := Aside0.mk Q_HO368
                 have HO372 := Aside0.mk Q_HO372
                 have HO378 := Aside0.mk Q_HO378
                 have HO382 := Aside0.mk Q_HO382
                 have BK347 := Aside0.mk Q_BK347
                 have BK348 := Aside0.mk Q_BK348
                 have BK361 := Aside0.mk Q_BK361
                 have BK365 := Aside0.mk Q_BK365
                 have BK369 := Aside0.mk Q_BK369
                 have BK374 := Aside0.mk Q_BK374
                 have HB := Aside0.mk Q_HB
                 have hc0_ : w'.cell? ⟨gb347, 0, none⟩ = some (.slice A0_0 l0_0.length c0_0) := (blk_cell BK347.out 0).trans rfl
                 refine value_ (w1 := w') (v := .agg #[.slice A0_0 l0_0.length c0_0]) (by rfl) rfl ?_ ?_
                 ·go_simp
                  (try simp only [i64_w])
                  try rfl
                 refine hK.out _ _ ⟨v393, v396, v399, gb402, m1_, m3_, m4_, m5_, m6_, m8_, (by rw [ha.out]; exact putSel_upk 0 hb_ rfl rfl rfl), Q_HO353, Q_HO356, Q_HO359, Q_HO364, Q_HO368, Q_HO372, Q_HO378, Q_HO382, Q_BK347, Q_BK348, Q_BK361, Q_BK365, Q_BK369, Q_BK374, Q_HB, fun h0_ => absurd ((hoff 1 (by kernel_rfl)).symm.trans h0_) (by decide), fun h0_ => absurd ((hoff 3 (by kernel_rfl)).symm.trans h0_) (by decide), fun h0_ => absurd ((hoff 4 (by kernel_rfl)).symm.trans h0_) (by decide), Q_BK402, Q_GW402, Q_GE402, Q_NB347_402, Q_NB402_347, Q_NB348_402, Q_NB402_348, Q_NB361_402, Q_NB402_361, Q_NB365_402, Q_NB402_365, Q_NB369_402, Q_NB402_369, Q_NB374_402, Q_NB402_374, fun h0_ => absurd ((hoff 9 (by kernel_rfl)).symm.trans h0_) (by decide), fun h0_ => absurd ((hoff 1 (by kernel_rfl)).symm.trans h0_) (by decide), fun h0_ => absurd ((hoff 3 (by kernel_rfl)).symm.trans h0_) (by decide), fun h0_ => absurd ((hoff 4 (by kernel_rfl)).symm.trans h0_) (by decide), fun h0_ => absurd ((hoff 5 (by kernel_rfl)).symm.trans h0_) (by decide), fun h0_ => absurd ((hoff 6 (by kernel_rfl)).symm.trans h0_) (by decide), Q_X8_⟩
                refine steps_cons ?_ ?_
                ·rintro b a w' ⟨v393, v396, v399, gb402, m1_, m3_, m4_, m5_, m6_, m8_, ha, Q_HO353, Q_HO356, Q_HO359, Q_HO364, Q_HO368, Q_HO372, Q_HO378, Q_HO382, Q_BK347, Q_BK348, Q_BK361, Q_BK365, Q_BK369, Q_BK374, Q_HB, Q_HO394, Q_HO397, Q_HO400, Q_BK402, Q_GW402, Q_GE402, Q_NB347_402, Q_NB402_347, Q_NB348_402, Q_NB402_348, Q_NB361_402, Q_NB402_361, Q_NB365_402, Q_NB402_365, Q_NB369_402, Q_NB402_369, Q_NB374_402, Q_NB402_374, Q_BK402_e9, Q_X1_, Q_X3_, Q_X4_, Q_X5_, Q_X6_, Q_X8_⟩ hb_ hon hoff
                 refine ⟨_, rfl, fun K hK => ?_⟩
                 have e95 : a.tmps[95]? = some (.agg #[.slice A0_0 l0_0.length c0_0]) := by rw [ha]; exact putSel_on (e := (0, 95, .agg #[.slice A0_0 l0_0.length c0_0])) 0 rfl rfl (hon 0 (by kernel_rfl)) rfl
                 replace ha := Aside0.mk ha
                 have HO353 := Aside0.mk Q_HO353
                 have HO356 := Aside0.mk Q_HO356
                 have HO359 := Aside0.mk Q_HO359
                 have HO364 := Aside0.mk Q_HO364
                 have HO368 := Aside0.mk Q_HO368
                 have HO372 := Aside0.mk Q_HO372
                 have HO378 := Aside0.mk Q_HO378
                 have HO382 := Aside0.mk Q_HO382
                 have BK347 := Aside0.mk Q_BK347
                 have BK348 := Aside0.mk Q_BK348
                 have BK361 := Aside0.mk Q_BK361
                 have BK365 := Aside0.mk Q_BK365
                 have BK369 := Aside0.mk Q_BK369
                 have BK374 := Aside0.mk Q_BK374
                 have HB := Aside0.mk Q_HB
                 refine goes_ Try.func17 (by kernel_rfl) rfl #[.agg #[.slice A0_0 l0_0.length c0_0]] (by rfl) rfl rfl (by first | (simp only [List.map_toArray, List.map_cons, List.map_nil, Act.eval, Array.getD_eq_getD_getElem?, Option.getD_some, e95]; done) | (simp only [List.map_toArray, List.map_cons, List.map_nil, Act.eval, Array.getD_eq_getD_getElem?, Option.getD_some, e95]; rfl)) ?_
                 with_reducible refine (laws_toNat.calls k _ _ l0_0 t392 _ ?side1 ?side2 A43.out).mono ?_
                 (case side1 => repeat (first | exact (Kd.C_below HR0_0.out HB.out) | (with_reducible refine Kd.C_alloc ?_ _) | (with_reducible refine Kd.C_drewN ?_ _) | (with_reducible refine Kd.C_drew ?_)))
                 (case side2 => exact HC0_0.out)
                 rintro e w121 ⟨v393, rfl, ho0, hb⟩
                 refine ⟨_, rfl, ?_⟩
                 have n0_ := Sq.m (Kd.R_elder' (by apply Sq.ra; exact HO353.out) (Kd.R_base ho0) hb)
                 have n1_ := Sq.m (Kd.R_elder' (by apply Sq.ra; exact HO356.out) (Kd.R_base ho0) hb)
                 have n2_ := Sq.m (Kd.R_elder' (by apply Sq.ra; exact HO359.out) (Kd.R_base ho0) hb)
                 have n3_ := Sq.m (Kd.R_elder' (by apply Sq.ra; exact HO364.out) (Kd.R_base ho0) hb)
                 have n4_ := Sq.m (Kd.R_elder' (by apply Sq.ra; exact HO368.out) (Kd.R_base ho0) hb)
                 have n5_ := Sq.m (Kd.R_elder' (by apply Sq.ra; exact HO372.out) (Kd.R_base ho0) hb)
                 have n6_ := Sq.m (Kd.R_elder' (by apply Sq.ra; exact HO378.out) (Kd.R_base ho0) hb)
                 have n7_ := Sq.m (Kd.R_elder' (by apply Sq.ra; exact HO382.out) (Kd.R_base ho0) hb)
                 have n8_ := Sq.m (Kd.R_lower (Kd.R_new' (Kd.R_new' (Kd.R_new' (Kd.R_new' (Kd.R_new' (Kd.R_new' (Kd.R_new' (Kd.R_new' ho0 (Kd.R_lt (by apply Sq.ra; exact HO353.out))) (Kd.R_lt (by apply Sq.ra; exact HO356.out))) (Kd.R_lt (by apply Sq.ra; exact HO359.out))) (Kd.R_lt (by apply Sq.ra; exact HO364.out))) (Kd.R_lt (by apply Sq.ra; exact HO368.out))) (Kd.R_lt (by apply Sq.ra; exact HO372.out))) (Kd.R_lt (by apply Sq.ra; exact HO378.out))) (Kd.R_lt (by apply Sq.ra; exact HO382.out))) (below_size (by repeat (first | (with_reducible first | exact HB.out | apply Sq.rc | refine below_set ?_ GE347.out | refine below_set ?_ GE348.out | refine below_set ?_ GE361.out | refine below_set ?_ GE365.out | refine below_set ?_ GE369.out | refine below_set ?_ GE374.out) | exact HB.out))))
                 have n9_ := Sq.m (blk_below (g := gb347) (o := .cells #[.slice A0_0 l0_0.length c0_0] 24 (0, 0)) (by apply Sq.rb; exact BK347.out) hb)
                 have n10_ := Sq.m (blk_below (g := gb348) (o := .cells #[.slice A1_0 l1_0.length c1_0] 24 (0, 0)) (by apply Sq.rb; exact BK348.out) hb)
                 have n11_ := Sq.m (blk_below (g := gb361) (o := .cells #[.slice Ao99 t357.length co99] 26 (0, 0)) (by apply Sq.rb; exact BK361.out) hb)
                 have n12_ := Sq.m (blk_below (g := gb365) (o := .cells #[.slice Ao73 t362.length co73] 26 (0, 0)) (by apply Sq.rb; exact BK365.out) hb)
                 have n13_ := Sq.m (blk_below (g := gb369) (o := .cells #[.slice Ao82 t366.length co82] 26 (0, 0)) (by apply Sq.rb; exact BK369.out) hb)
                 have n14_ := Sq.m (blk_below (g := gb374) (o := .cells #[.slice Ao91 t370.length co91] 26 (0, 0)) (by apply Sq.rb; exact BK374.out) hb)
                 have n15_ := Sq.m (below_step (by repeat (first | (with_reducible first | exact HB.out | apply Sq.rc | refine below_set ?_ GE347.out | refine below_set ?_ GE348.out | refine below_set ?_ GE361.out | refine below_set ?_ GE365.out | refine below_set ?_ GE369.out | refine below_set ?_ GE374.out) | exact HB.out)) hb)
                 have z_BK402 := fun (h0_ : b 8 = true) (h1_ : b 9 = false) => (show w121.heap[gb402]? = some (.cells #[.slice none 0 0] 26 (0, 0)) from by first | exact (blk_below (g := gb402) (o := .cells #[.slice none 0 0] 26 (0, 0)) (by apply Sq.rb; exact (Q_BK402 h0_ h1_)) hb))
                 clear HO353
                 clear HO356
                 clear HO359
                 clear HO364
                 clear HO368
                 clear HO372
                 clear HO378
                 clear HO382
                 clear BK347
                 clear BK348
                 clear BK361
                 clear BK365
                 clear BK369
                 clear BK374
                 clear HB
                 have HO353 := n0_
                 have HO356 := n1_
                 have HO359 := n2_
                 have HO364 := n3_
                 have HO368 := n4_
                 have HO372 := n5_
                 have HO378 := n6_
                 have HO382 := n7_
                 have HO394 := n8_
                 have BK347 := n9_
                 have BK348 := n10_
                 have BK361 := n11_
                 have BK365 := n12_
                 have BK369 := n13_
                 have BK374 := n14_
                 have HB := n15_
                 clear n0_ n1_ n2_ n3_ n4_ n5_ n6_ n7_ n8_ n9_ n10_ n11_ n12_ n13_ n14_ n15_
                 (try clear hb)
                 (try clear hb2)
                 (try clear hk)
                 (try clear hi)
                 (try clear ho0)
                 refine hK.out _ _ ⟨v393, v396, v399, gb402, (.agg #[v393]), m3_, m4_, m5_, m6_, m8_, (by rw [ha.out]; exact putSel_upk 1 hb_ rfl rfl rfl), (by apply Sq.ra; exact Kd.R_mono HO353.out (fun _ hk => by first | exact True.intro | exact hk.1 | exact hk | exact ⟨hk.1.1, ⟨hk.1.2.1, ⟨hk.1.2.2.1, ⟨hk.1.2.2.2.1, ⟨hk.1.2.2.2.2, hk.2⟩⟩⟩⟩⟩ | simp only [hk, ne_eq, not_false_eq_true, and_self, and_true, true_and])), (by apply Sq.ra; exact Kd.R_mono HO356.out (fun _ hk => by first | exact True.intro | exact hk.1 | exact hk | exact ⟨hk.1.1, ⟨hk.1.2.1, ⟨hk.1.2.2.1, ⟨hk.1.2.2.2.1, ⟨hk.1.2.2.2.2, hk.2⟩⟩⟩⟩⟩ | simp only [hk, ne_eq, not_false_eq_true, and_self, and_true, true_and])), (by apply Sq.ra; exact Kd.R_mono HO359.out (fun _ hk => by first | exact True.intro | exact hk.1 | exact hk | exact ⟨hk.1.1, ⟨hk.1.2.1, ⟨hk.1.2.2.1, ⟨hk.1.2.2.2.1, ⟨hk.1.2.2.2.2, hk.2⟩⟩⟩⟩⟩ | simp only [hk, ne_eq, not_false_eq_true, and_self, and_true, true_and])), (by apply Sq.ra; exact Kd.R_mono HO364.out (fun _ hk => by first | exact True.intro | exact hk.1 | exact hk | exact ⟨hk.1.1, ⟨hk.1.2.1, ⟨hk.1.2.2.1, ⟨hk.1.2.2.2.1, ⟨hk.1.2.2.2.2.1, ⟨hk.1.2.2.2.2.2.1, ⟨hk.1.2.2.2.2.2.2, hk.2⟩⟩⟩⟩⟩⟩⟩ | simp only [hk, ne_eq, not_false_eq_true, and_self, and_true, true_and])), (by apply Sq.ra; exact Kd.R_mono HO368.out (fun _ hk => by first | exact True.intro | exact hk.1 | exact hk | exact ⟨hk.1.1, ⟨hk.1.2.1, ⟨hk.1.2.2.1, ⟨hk.1.2.2.2.1, ⟨hk.1.2.2.2.2.1, ⟨hk.1.2.2.2.2.2.1, ⟨hk.1.2.2.2.2.2.2, hk.2⟩⟩⟩⟩⟩⟩⟩ | simp only [hk, ne_eq, not_false_eq_true, and_self, and_true, true_and])), (by apply Sq.ra; exact Kd.R_mono HO372.out (fun _ hk => by first | exact True.intro | exact hk.1 | exact hk | exact ⟨hk.1.1, ⟨hk.1.2.1, ⟨hk.1.2.2.1, ⟨hk.1.2.2.2.1, ⟨hk.1.2.2.2.2.1, ⟨hk.1.2.2.2.2.2.1, ⟨hk.1.2.2.2.2.2.2, hk.2⟩⟩⟩⟩⟩⟩⟩ | simp only [hk, ne_eq, not_false_eq_true, and_self, and_true, true_and])), (by apply Sq.ra; exact Kd.R_mono HO378.out (fun _ hk => by first | exact True.intro | exact hk.1 | exact hk | exact ⟨hk.1.1, ⟨hk.1.2.1, ⟨hk.1.2.2.1, ⟨hk.1.2.2.2.1, ⟨hk.1.2.2.2.2.1, ⟨hk.1.2.2.2.2.2.1, ⟨hk.1.2.2.2.2.2.2, hk.2⟩⟩⟩⟩⟩⟩⟩ | simp only [hk, ne_eq, not_false_eq_true, and_self, and_true, true_and])), (by apply Sq.ra; exact Kd.R_mono HO382.out (fun _ hk => by first | exact True.intro | exact hk.1 | exact hk | exact ⟨hk.1.1, ⟨hk.1.2.1, ⟨hk.1.2.2.1, ⟨hk.1.2.2.2.1, ⟨hk.1.2.2.2.2.1, ⟨hk.1.2.2.2.2.2.1, ⟨hk.1.2.2.2.2.2.2, hk.2⟩⟩⟩⟩⟩⟩⟩ | simp only [hk, ne_eq, not_false_eq_true, and_self, and_true, true_and])), (by apply Sq.rb; exact BK347.out), (by apply Sq.rb; exact BK348.out), (by apply Sq.rb; exact BK361.out), (by apply Sq.rb; exact BK365.out), (by apply Sq.rb; exact BK369.out), (by apply Sq.rb; exact BK374.out), (by repeat (first | (with_reducible first | exact HB.out | apply Sq.rc | refine below_set ?_ GE347.out | refine below_set ?_ GE348.out | refine below_set ?_ GE361.out | refine below_set ?_ GE365.out | refine below_set ?_ GE369.out | refine below_set ?_ GE374.out) | exact HB.out)), fun _ => (by apply Sq.ra; exact Kd.R_mono HO394.out (fun _ hk => ⟨hk.1.1.1.1.1.1.1.2, ⟨hk.1.1.1.1.1.1.2, ⟨hk.1.1.1.1.1.2, ⟨hk.1.1.1.1.2, ⟨hk.1.1.1.2, ⟨hk.1.1.2, ⟨hk.1.2, hk.2⟩⟩⟩⟩⟩⟩⟩)), fun h0_ => absurd ((hoff 3 (by kernel_rfl)).symm.trans h0_) (by decide), fun h0_ => absurd ((hoff 4 (by kernel_rfl)).symm.trans h0_) (by decide), z_BK402, Q_GW402, Q_GE402, Q_NB347_402, Q_NB402_347, Q_NB348_402, Q_NB402_348, Q_NB361_402, Q_NB402_361, Q_NB365_402, Q_NB402_365, Q_NB369_402, Q_NB402_369, Q_NB374_402, Q_NB402_374, fun h0_ => absurd ((hoff 9 (by kernel_rfl)).symm.trans h0_) (by decide), fun _ => rfl, fun h0_ => absurd ((hoff 3 (by kernel_rfl)).symm.trans h0_) (by decide), fun h0_ => absurd ((hoff 4 (by kernel_rfl)).symm.trans h0_) (by decide), fun h0_ => absurd ((hoff 5 (by kernel_rfl)).symm.trans h0_) (by decide), fun h0_ => absurd ((hoff 6 (by kernel_rfl)).symm.trans h0_) (by decide), Q_X8_⟩
                refine steps_cons ?_ ?_
                ·rintro b a w' ⟨v393, v396, v399, gb402, m1_, m3_, m4_, m5_, m6_, m8_, ha, Q_HO353, Q_HO356, Q_HO359, Q_HO364, Q_HO368, Q_HO372, Q_HO378, Q_HO382, Q_BK347, Q_BK348, Q_BK361, Q_BK365, Q_BK369, Q_BK374, Q_HB, Q_HO394, Q_HO397, Q_HO400, Q_BK402, Q_GW402, Q_GE402, Q_NB347_402, Q_NB402_347, Q_NB348_402, Q_NB402_348, Q_NB361_402, Q_NB402_361, Q_NB365_402, Q_NB402_365, Q_NB369_402, Q_NB402_369, Q_NB374_402, Q_NB402_374, Q_BK402_e9, Q_X1_, Q_X3_, Q_X4_, Q_X5_, Q_X6_, Q_X8_⟩ hb_ hon hoff
                 refine ⟨_, rfl, fun K hK => ?_⟩
                 have e3 : a.tmps[3]? = some (.pointer (some ⟨gb348, 0, none⟩)) := by rw [ha]; exact (putSel_off rfl).trans rfl
                 replace ha := Aside0.mk ha
                 have HO353 := Aside0.mk Q_HO353
                 have HO356 := Aside0.mk Q_HO356
                 have HO359 := Aside0.mk Q_HO359
                 have HO364 := Aside0.mk Q_HO364
                 have HO368 := Aside0.mk Q_HO368
                 have HO372 := Aside0.mk Q_HO372
                 have HO378 := Aside0.mk Q_HO378
                 have HO382 := Aside0.mk Q_HO382
                 have BK347 := Aside0.mk Q_BK347
                 have BK348 := Aside0.mk Q_BK348
                 have BK361 := Aside0.mk Q_BK361
                 have BK365 := Aside0.mk Q_BK365
                 have BK369 := Aside0.mk Q_BK369
                 have BK374 := Aside0.mk Q_BK374
                 have HB := Aside0.mk Q_HB
                 have hc0_ : w'.cell? ⟨gb348, 0, none⟩ = some (.slice A1_0 l1_0.length c1_0) := (blk_cell BK348.out 0).trans rfl
                 refine value_ (w1 := w') (v := .agg #[.slice A1_0 l1_0.length c1_0]) (by rfl) rfl ?_ ?_
                 ·go_simp
                  (try simp only [i64_w])
                  try rfl
                 refine hK.out _ _ ⟨v393, v396, v399, gb402, m1_, m3_, m4_, m5_, m6_, m8_, (by rw [ha.out]; exact putSel_upk 2 hb_ rfl rfl rfl), Q_HO353, Q_HO356, Q_HO359, Q_HO364, Q_HO368, Q_HO372, Q_HO378, Q_HO382, Q_BK347, Q_BK348, Q_BK361, Q_BK365, Q_BK369, Q_BK374, Q_HB, Q_HO394, fun h0_ => absurd ((hoff 3 (by kernel_rfl)).symm.trans h0_) (by decide), fun h0_ => absurd ((hoff 4 (by kernel_rfl)).symm.trans h0_) (by decide), Q_BK402, Q_GW402, Q_GE402, Q_NB347_402, Q_NB402_347, Q_NB348_402, Q_NB402_348, Q_NB361_402, Q_NB402_361, Q_NB365_402, Q_NB402_365, Q_NB369_402, Q_NB402_369, Q_NB374_402, Q_NB402_374, fun h0_ => absurd ((hoff 9 (by kernel_rfl)).symm.trans h0_) (by decide), Q_X1_, fun h0_ => absurd ((hoff 3 (by kernel_rfl)).symm.trans h0_) (by decide), fun h0_ => absurd ((hoff 4 (by kernel_rfl)).symm.trans h0_) (by decide), fun h0_ => absurd ((hoff 5 (by kernel_rfl)).symm.trans h0_) (by decide), fun h0_ => absurd ((hoff 6 (by kernel_rfl)).symm.trans h0_) (by decide), Q_X8_⟩
                refine steps_cons ?_ ?_
                ·rintro b a w' ⟨v393, v396, v399, gb402, m1_, m3_, m4_, m5_, m6_, m8_, ha, Q_HO353, Q_HO356, Q_HO359, Q_HO364, Q_HO368, Q_HO372, Q_HO378, Q_HO382, Q_BK347, Q_BK348, Q_BK361, Q_BK365, Q_BK369, Q_BK374, Q_HB, Q_HO394, Q_HO397, Q_HO400, Q_BK402, Q_GW402, Q_GE402, Q_NB347_402, Q_NB402_347, Q_NB348_402, Q_NB402_348, Q_NB361_402, Q_NB402_361, Q_NB365_402, Q_NB402_365, Q_NB369_402, Q_NB402_369, Q_NB374_402, Q_NB402_374, Q_BK402_e9, Q_X1_, Q_X3_, Q_X4_, Q_X5_, Q_X6_, Q_X8_⟩ hb_ hon hoff
                 refine ⟨_, rfl, fun K hK => ?_⟩
                 have e97 : a.tmps[97]? = some (.agg #[.slice A1_0 l1_0.length c1_0]) := by rw [ha]; exact putSel_on (e := (2, 97, .agg #[.slice A1_0 l1_0.length c1_0])) 2 rfl rfl (hon 2 (by kernel_rfl)) rfl
                 replace ha := Aside0.mk ha
                 have HO353 := Aside0.mk Q_HO353
                 have HO356 := Aside0.mk Q_HO356
                 have HO359 := Aside0.mk Q_HO359
                 have HO364 := Aside0.mk Q_HO364
                 have HO368 := Aside0.mk Q_HO368
                 have HO372 := Aside0.mk Q_HO372
                 have HO378 := Aside0.mk Q_HO378
                 have HO382 := Aside0.mk Q_HO382
                 have BK347 := Aside0.mk Q_BK347
                 have BK348 := Aside0.mk Q_BK348
                 have BK361 := Aside0.mk Q_BK361
                 have BK365 := Aside0.mk Q_BK365
                 have BK369 := Aside0.mk Q_BK369
                 have BK374 := Aside0.mk Q_BK374
                 have HB := Aside0.mk Q_HB
                 have HO394 := Sq.m (Q_HO394 (hon 1 (by kernel_rfl)))
                 refine goes_ Try.func17 (by kernel_rfl) rfl #[.agg #[.slice A1_0 l1_0.length c1_0]] (by rfl) rfl rfl (by first | (simp only [List.map_toArray, List.map_cons, List.map_nil, Act.eval, Array.getD_eq_getD_getElem?, Option.getD_some, e97]; done) | (simp only [List.map_toArray, List.map_cons, List.map_nil, Act.eval, Array.getD_eq_getD_getElem?, Option.getD_some, e97]; rfl)) ?_
                 with_reducible refine (laws_toNat.calls k _ _ l1_0 t395 _ ?side1 ?side2 A44.out).mono ?_
                 (case side1 => repeat (first | exact (Kd.C_below HR1_0.out HB.out) | (with_reducible refine Kd.C_alloc ?_ _) | (with_reducible refine Kd.C_drewN ?_ _) | (with_reducible refine Kd.C_drew ?_)))
                 (case side2 => exact HC1_0.out)
                 rintro e w123 ⟨v396, rfl, ho0, hb⟩
                 refine ⟨_, rfl, ?_⟩
                 have n0_ := Sq.m (Kd.R_elder' (by apply Sq.ra; exact HO353.out) (Kd.R_base ho0) hb)
                 have n1_ := Sq.m (Kd.R_elder' (by apply Sq.ra; exact HO356.out) (Kd.R_base ho0) hb)
                 have n2_ := Sq.m (Kd.R_elder' (by apply Sq.ra; exact HO359.out) (Kd.R_base ho0) hb)
                 have n3_ := Sq.m (Kd.R_elder' (by apply Sq.ra; exact HO364.out) (Kd.R_base ho0) hb)
                 have n4_ := Sq.m (Kd.R_elder' (by apply Sq.ra; exact HO368.out) (Kd.R_base ho0) hb)
                 have n5_ := Sq.m (Kd.R_elder' (by apply Sq.ra; exact HO372.out) (Kd.R_base ho0) hb)
                 have n6_ := Sq.m (Kd.R_elder' (by apply Sq.ra; exact HO378.out) (Kd.R_base ho0) hb)
                 have n7_ := Sq.m (Kd.R_elder' (by apply Sq.ra; exact HO382.out) (Kd.R_base ho0) hb)
                 have n8_ := Sq.m (Kd.R_elder' (by apply Sq.ra; exact HO394.out) (Kd.R_base ho0) hb)
                 have n9_ := Sq.m (Kd.R_lower (Kd.R_new' (Kd.R_new' (Kd.R_new' (Kd.R_new' (Kd.R_new' (Kd.R_new' (Kd.R_new' (Kd.R_new' (Kd.R_new' ho0 (Kd.R_lt (by apply Sq.ra; exact HO353.out))) (Kd.R_lt (by apply Sq.ra; exact HO356.out))) (Kd.R_lt (by apply Sq.ra; exact HO359.out))) (Kd.R_lt (by apply Sq.ra; exact HO364.out))) (Kd.R_lt (by apply Sq.ra; exact HO368.out))) (Kd.R_lt (by apply Sq.ra; exact HO372.out))) (Kd.R_lt (by apply Sq.ra; exact HO378.out))) (Kd.R_lt (by apply Sq.ra; exact HO382.out))) (Kd.R_lt (by apply Sq.ra; exact HO394.out))) (below_size (by repeat (first | (with_reducible first | exact HB.out | apply Sq.rc | refine below_set ?_ GE347.out | refine below_set ?_ GE348.out | refine below_set ?_ GE361.out | refine below_set ?_ GE365.out | refine below_set ?_ GE369.out | refine below_set ?_ GE374.out) | exact HB.out))))
                 have n10_ := Sq.m (blk_below (g := gb347) (o := .cells #[.slice A0_0 l0_0.length c0_0] 24 (0, 0)) (by apply Sq.rb; exact BK347.out) hb)
                 have n11_ := Sq.m (blk_below (g := gb348) (o := .cells #[.slice A1_0 l1_0.length c1_0] 24 (0, 0)) (by apply Sq.rb; exact BK348.out) hb)
                 have n12_ := Sq.m (blk_below (g := gb361) (o := .cells #[.slice Ao99 t357.length co99] 26 (0, 0)) (by apply Sq.rb; exact BK361.out) hb)
                 have n13_ := Sq.m (blk_below (g := gb365) (o := .cells #[.slice Ao73 t362.length co73] 26 (0, 0)) (by apply Sq.rb; exact BK365.out) hb)
                 have n14_ := Sq.m (blk_below (g := gb369) (o := .cells #[.slice Ao82 t366.length co82] 26 (0, 0)) (by apply Sq.rb; exact BK369.out) hb)
                 have n15_ := Sq.m (blk_below (g := gb374) (o := .cells #[.slice Ao91 t370.length co91] 26 (0, 0)) (by apply Sq.rb; exact BK374.out) hb)
                 have n16_ := Sq.m (below_step (by repeat (first | (with_reducible first | exact HB.out | apply Sq.rc | refine below_set ?_ GE347.out | refine below_set ?_ GE348.out | refine below_set ?_ GE361.out | refine below_set ?_ GE365.out | refine below_set ?_ GE369.out | refine below_set ?_ GE374.out) | exact HB.out)) hb)
                 have z_BK402 := fun (h0_ : b 8 = true) (h1_ : b 9 = false) => (show w123.heap[gb402]? = some (.cells #[.slice none 0 0] 26 (0, 0)) from by first | exact (blk_below (g := gb402) (o := .cells #[.slice none 0 0] 26 (0, 0)) (by apply Sq.rb; exact (Q_BK402 h0_ h1_)) hb))
                 clear HO353
                 clear HO356
                 clear HO359
                 clear HO364
                 clear HO368
                 clear HO372
                 clear HO378
                 clear HO382
                 clear HO394
                 clear BK347
                 clear BK348
                 clear BK361
                 clear BK365
                 clear BK369
                 clear BK374
                 clear HB
                 have HO353 := n0_
                 have HO356 := n1_
                 have HO359 := n2_
                 have HO364 := n3_
                 have HO368 := n4_
                 have HO372 := n5_
                 have HO378 := n6_
                 have HO382 := n7_
                 have HO394 := n8_
                 have HO397 := n9_
                 have BK347 := n10_
                 have BK348 := n11_
                 have BK361 := n12_
                 have BK365 := n13_
                 have BK369 := n14_
                 have BK374 := n15_
                 have HB := n16_
                 clear n0_ n1_ n2_ n3_ n4_ n5_ n6_ n7_ n8_ n9_ n10_ n11_ n12_ n13_ n14_ n15_ n16_
                 (try clear hb)
                 (try clear hb2)
                 (try clear hk)
                 (try clear hi)
                 (try clear ho0)
                 refine hK.out _ _ ⟨v393, v396, v399, gb402, m1_, (.agg #[v396]), m4_, m5_, m6_, m8_, (by rw [ha.out]; exact putSel_upk 3 hb_ rfl rfl rfl), (by apply Sq.ra; exact Kd.R_mono HO353.out (fun _ hk => by first | exact True.intro | exact hk.1 | exact hk | exact ⟨hk.1.1, ⟨hk.1.2.1, ⟨hk.1.2.2.1, ⟨hk.1.2.2.2.1, ⟨hk.1.2.2.2.2, hk.2⟩⟩⟩⟩⟩ | simp only [hk, ne_eq, not_false_eq_true, and_self, and_true, true_and])), (by apply Sq.ra; exact Kd.R_mono HO356.out (fun _ hk => by first | exact True.intro | exact hk.1 | exact hk | exact ⟨hk.1.1, ⟨hk.1.2.1, ⟨hk.1.2.2.1, ⟨hk.1.2.2.2.1, ⟨hk.1.2.2.2.2, hk.2⟩⟩⟩⟩⟩ | simp only [hk, ne_eq, not_false_eq_true, and_self, and_true, true_and])), (by apply Sq.ra; exact Kd.R_mono HO359.out (fun _ hk => by first | exact True.intro | exact hk.1 | exact hk | exact ⟨hk.1.1, ⟨hk.1.2.1, ⟨hk.1.2.2.1, ⟨hk.1.2.2.2.1, ⟨hk.1.2.2.2.2, hk.2⟩⟩⟩⟩⟩ | simp only [hk, ne_eq, not_false_eq_true, and_self, and_true, true_and])), (by apply Sq.ra; exact Kd.R_mono HO364.out (fun _ hk => by first | exact True.intro | exact hk.1 | exact hk | exact ⟨hk.1.1, ⟨hk.1.2.1, ⟨hk.1.2.2.1, ⟨hk.1.2.2.2.1, ⟨hk.1.2.2.2.2.1, ⟨hk.1.2.2.2.2.2.1, ⟨hk.1.2.2.2.2.2.2, hk.2⟩⟩⟩⟩⟩⟩⟩ | simp only [hk, ne_eq, not_false_eq_true, and_self, and_true, true_and])), (by apply Sq.ra; exact Kd.R_mono HO368.out (fun _ hk => by first | exact True.intro | exact hk.1 | exact hk | exact ⟨hk.1.1, ⟨hk.1.2.1, ⟨hk.1.2.2.1, ⟨hk.1.2.2.2.1, ⟨hk.1.2.2.2.2.1, ⟨hk.1.2.2.2.2.2.1, ⟨hk.1.2.2.2.2.2.2, hk.2⟩⟩⟩⟩⟩⟩⟩ | simp only [hk, ne_eq, not_false_eq_true, and_self, and_true, true_and])), (by apply Sq.ra; exact Kd.R_mono HO372.out (fun _ hk => by first | exact True.intro | exact hk.1 | exact hk | exact ⟨hk.1.1, ⟨hk.1.2.1, ⟨hk.1.2.2.1, ⟨hk.1.2.2.2.1, ⟨hk.1.2.2.2.2.1, ⟨hk.1.2.2.2.2.2.1, ⟨hk.1.2.2.2.2.2.2, hk.2⟩⟩⟩⟩⟩⟩⟩ | simp only [hk, ne_eq, not_false_eq_true, and_self, and_true, true_and])), (by apply Sq.ra; exact Kd.R_mono HO378.out (fun _ hk => by first | exact True.intro | exact hk.1 | exact hk | exact ⟨hk.1.1, ⟨hk.1.2.1, ⟨hk.1.2.2.1, ⟨hk.1.2.2.2.1, ⟨hk.1.2.2.2.2.1, ⟨hk.1.2.2.2.2.2.1, ⟨hk.1.2.2.2.2.2.2, hk.2⟩⟩⟩⟩⟩⟩⟩ | simp only [hk, ne_eq, not_false_eq_true, and_self, and_true, true_and])), (by apply Sq.ra; exact Kd.R_mono HO382.out (fun _ hk => by first | exact True.intro | exact hk.1 | exact hk | exact ⟨hk.1.1, ⟨hk.1.2.1, ⟨hk.1.2.2.1, ⟨hk.1.2.2.2.1, ⟨hk.1.2.2.2.2.1, ⟨hk.1.2.2.2.2.2.1, ⟨hk.1.2.2.2.2.2.2, hk.2⟩⟩⟩⟩⟩⟩⟩ | simp only [hk, ne_eq, not_false_eq_true, and_self, and_true, true_and])), (by apply Sq.rb; exact BK347.out), (by apply Sq.rb; exact BK348.out), (by apply Sq.rb; exact BK361.out), (by apply Sq.rb; exact BK365.out), (by apply Sq.rb; exact BK369.out), (by apply Sq.rb; exact BK374.out), (by repeat (first | (with_reducible first | exact HB.out | apply Sq.rc | refine below_set ?_ GE347.out | refine below_set ?_ GE348.out | refine below_set ?_ GE361.out | refine below_set ?_ GE365.out | refine below_set ?_ GE369.out | refine below_set ?_ GE374.out) | exact HB.out)), fun _ => (by apply Sq.ra; exact Kd.R_mono HO394.out (fun _ hk => by first | exact True.intro | exact hk.1 | exact hk | exact ⟨hk.1.1, ⟨hk.1.2.1, ⟨hk.1.2.2.1, ⟨hk.1.2.2.2.1, ⟨hk.1.2.2.2.2.1, ⟨hk.1.2.2.2.2.2.1, ⟨hk.1.2.2.2.2.2.2.1, ⟨hk.1.2.2.2.2.2.2.2, hk.2⟩⟩⟩⟩⟩⟩⟩⟩ | simp only [hk, ne_eq, not_false_eq_true, and_self, and_true, true_and])), fun _ => (by apply Sq.ra; exact Kd.R_mono HO397.out (fun _ hk => by first | exact True.intro | exact hk.1 | exact hk | exact ⟨hk.1.1.1.1.1.1.1.1.2, ⟨hk.1.1.1.1.1.1.1.2, ⟨hk.1.1.1.1.1.1.2, ⟨hk.1.1.1.1.1.2, ⟨hk.1.1.1.1.2, ⟨hk.1.1.1.2, ⟨hk.1.1.2, ⟨hk.1.2, hk.2⟩⟩⟩⟩⟩⟩⟩⟩ | simp only [hk, ne_eq, not_false_eq_true, and_self, and_true, true_and])), fun h0_ => absurd ((hoff 4 (by kernel_rfl)).symm.trans h0_) (by decide), z_BK402, Q_GW402, Q_GE402, Q_NB347_402, Q_NB402_347, Q_NB348_402, Q_NB402_348, Q_NB361_402, Q_NB402_361, Q_NB365_402, Q_NB402_365, Q_NB369_402, Q_NB402_369, Q_NB374_402, Q_NB402_374, fun h0_ => absurd ((hoff 9 (by kernel_rfl)).symm.trans h0_) (by decide), Q_X1_, fun _ => rfl, fun h0_ => absurd ((hoff 4 (by kernel_rfl)).symm.trans h0_) (by decide), fun h0_ => absurd ((hoff 5 (by kernel_rfl)).symm.trans h0_) (by decide), fun h0_ => absurd ((hoff 6 (by kernel_rfl)).symm.trans h0_) (by decide), Q_X8_⟩
                refine steps_cons ?_ ?_
                ·rintro b a w' ⟨v393, v396, v399, gb402, m1_, m3_, m4_, m5_, m6_, m8_, ha, Q_HO353, Q_HO356, Q_HO359, Q_HO364, Q_HO368, Q_HO372, Q_HO378, Q_HO382, Q_BK347, Q_BK348, Q_BK361, Q_BK365, Q_BK369, Q_BK374, Q_HB, Q_HO394, Q_HO397, Q_HO400, Q_BK402, Q_GW402, Q_GE402, Q_NB347_402, Q_NB402_347, Q_NB348_402, Q_NB402_348, Q_NB361_402, Q_NB402_361, Q_NB365_402, Q_NB402_365, Q_NB369_402, Q_NB402_369, Q_NB374_402, Q_NB402_374, Q_BK402_e9, Q_X1_, Q_X3_, Q_X4_, Q_X5_, Q_X6_, Q_X8_⟩ hb_ hon hoff
                 refine ⟨_, rfl, fun K hK => ?_⟩
                 have e96 : a.tmps[96]? = some (m1_) := by rw [ha]; exact putSel_on (e := (1, 96, m1_)) 1 rfl rfl (hon 1 (by kernel_rfl)) rfl
                 rw [Q_X1_ (hon 1 (by kernel_rfl))] at e96
                 have e98 : a.tmps[98]? = some (m3_) := by rw [ha]; exact putSel_on (e := (3, 98, m3_)) 3 rfl rfl (hon 3 (by kernel_rfl)) rfl
                 rw [Q_X3_ (hon 3 (by kernel_rfl))] at e98
                 replace ha := Aside0.mk ha
                 have HO353 := Aside0.mk Q_HO353
                 have HO356 := Aside0.mk Q_HO356
                 have HO359 := Aside0.mk Q_HO359
                 have HO364 := Aside0.mk Q_HO364
                 have HO368 := Aside0.mk Q_HO368
                 have HO372 := Aside0.mk Q_HO372
                 have HO378 := Aside0.mk Q_HO378
                 have HO382 := Aside0.mk Q_HO382
                 have BK347 := Aside0.mk Q_BK347
                 have BK348 := Aside0.mk Q_BK348
                 have BK361 := Aside0.mk Q_BK361
                 have BK365 := Aside0.mk Q_BK365
                 have BK369 := Aside0.mk Q_BK369
                 have BK374 := Aside0.mk Q_BK374
                 have HB := Aside0.mk Q_HB
                 have HO394 := Sq.m (Q_HO394 (hon 1 (by kernel_rfl)))
                 have HO397 := Sq.m (Q_HO397 (hon 3 (by kernel_rfl)))
                 obtain ⟨Ao124, co124, eo124⟩ := Kd.R_slice HO394.out
                 (first | subst eo124 | (injection eo124 with f1_ f2_ f3_; have f4_ := f1_.symm; have f5_ := f3_.symm; clear f1_ f2_ f3_; subst f4_; subst f5_))
                 obtain ⟨Ao125, co125, eo125⟩ := Kd.R_slice HO397.out
                 (first | subst eo125 | (injection eo125 with f1_ f2_ f3_; have f4_ := f1_.symm; have f5_ := f3_.symm; clear f1_ f2_ f3_; subst f4_; subst f5_))
                 refine goes_ Try.func23 (by kernel_rfl) rfl #[.agg #[.slice Ao124 t392.length co124], .agg #[.slice Ao125 t395.length co125]] (by rfl) rfl rfl (by first | (simp only [List.map_toArray, List.map_cons, List.map_nil, Act.eval, Array.getD_eq_getD_getElem?, Option.getD_some, e96, e98]; done) | (simp only [List.map_toArray, List.map_cons, List.map_nil, Act.eval, Array.getD_eq_getD_getElem?, Option.getD_some, e96, e98]; rfl)) ?_
                 with_reducible refine (impl_NatAdd.calls k _ _ t392 _ _ t395 t398 t401 _ ?side1 ?side2 ?side3 ?side4 A45.out).mono ?_
                 (case side1 => repeat (first | exact (Kd.R_reads' HO394.out).2.2 | (with_reducible refine Kd.C_alloc ?_ _) | (with_reducible refine Kd.C_drewN ?_ _) | (with_reducible refine Kd.C_drew ?_)))
                 (case side2 => exact (Kd.R_reads' HO394.out).2.1)
                 (case side3 => repeat (first | exact (Kd.R_reads' HO397.out).2.2 | (with_reducible refine Kd.C_alloc ?_ _) | (with_reducible refine Kd.C_drewN ?_ _) | (with_reducible refine Kd.C_drew ?_)))
                 (case side4 => exact (Kd.R_reads' HO397.out).2.1)
                 rintro e w126 ⟨v399, rfl, ho0, hb⟩
                 refine ⟨_, rfl, ?_⟩
                 have n0_ := Sq.m (Kd.R_elder' (by apply Sq.ra; exact HO353.out) (Kd.R_base ho0) hb)
                 have n1_ := Sq.m (Kd.R_elder' (by apply Sq.ra; exact HO356.out) (Kd.R_base ho0) hb)
                 have n2_ := Sq.m (Kd.R_elder' (by apply Sq.ra; exact HO359.out) (Kd.R_base ho0) hb)
                 have n3_ := Sq.m (Kd.R_elder' (by apply Sq.ra; exact HO364.out) (Kd.R_base ho0) hb)
                 have n4_ := Sq.m (Kd.R_elder' (by apply Sq.ra; exact HO368.out) (Kd.R_base ho0) hb)
                 have n5_ := Sq.m (Kd.R_elder' (by apply Sq.ra; exact HO372.out) (Kd.R_base ho0) hb)
                 have n6_ := Sq.m (Kd.R_elder' (by apply Sq.ra; exact HO378.out) (Kd.R_base ho0) hb)
                 have n7_ := Sq.m (Kd.R_elder' (by apply Sq.ra; exact HO382.out) (Kd.R_base ho0) hb)
                 have n8_ := Sq.m (Kd.R_elder' (by apply Sq.ra; exact HO394.out) (Kd.R_base ho0) hb)
                 have n9_ := Sq.m (Kd.R_elder' (by apply Sq.ra; exact HO397.out) (Kd.R_base ho0) hb)
                 have n10_ := Sq.m (Kd.R_lower (Kd.R_new' (Kd.R_new' (Kd.R_new' (Kd.R_new' (Kd.R_new' (Kd.R_new' (Kd.R_new' (Kd.R_new' (Kd.R_new' (Kd.R_new' ho0 (Kd.R_lt (by apply Sq.ra; exact HO353.out))) (Kd.R_lt (by apply Sq.ra; exact HO356.out))) (Kd.R_lt (by apply Sq.ra; exact HO359.out))) (Kd.R_lt (by apply Sq.ra; exact HO364.out))) (Kd.R_lt (by apply Sq.ra; exact HO368.out))) (Kd.R_lt (by apply Sq.ra; exact HO372.out))) (Kd.R_lt (by apply Sq.ra; exact HO378.out))) (Kd.R_lt (by apply Sq.ra; exact HO382.out))) (Kd.R_lt (by apply Sq.ra; exact HO394.out))) (Kd.R_lt (by apply Sq.ra; exact HO397.out))) (below_size (by repeat (first | (with_reducible first | exact HB.out | apply Sq.rc | refine below_set ?_ GE347.out | refine below_set ?_ GE348.out | refine below_set ?_ GE361.out | refine below_set ?_ GE365.out | refine below_set ?_ GE369.out | refine below_set ?_ GE374.out) | exact HB.out))))
                 have n11_ := Sq.m (blk_below (g := gb347) (o := .cells #[.slice A0_0 l0_0.length c0_0] 24 (0, 0)) (by apply Sq.rb; exact BK347.out) hb)
                 have n12_ := Sq.m (blk_below (g := gb348) (o := .cells #[.slice A1_0 l1_0.length c1_0] 24 (0, 0)) (by apply Sq.rb; exact BK348.out) hb)
                 have n13_ := Sq.m (blk_below (g := gb361) (o := .cells #[.slice Ao99 t357.length co99] 26 (0, 0)) (by apply Sq.rb; exact BK361.out) hb)
                 have n14_ := Sq.m (blk_below (g := gb365) (o := .cells #[.slice Ao73 t362.length co73] 26 (0, 0)) (by apply Sq.rb; exact BK365.out) hb)
                 have n15_ := Sq.m (blk_below (g := gb369) (o := .cells #[.slice Ao82 t366.length co82] 26 (0, 0)) (by apply Sq.rb; exact BK369.out) hb)
                 have n16_ := Sq.m (blk_below (g := gb374) (o := .cells #[.slice Ao91 t370.length co91] 26 (0, 0)) (by apply Sq.rb; exact BK374.out) hb)
                 have n17_ := Sq.m (below_step (by repeat (first | (with_reducible first | exact HB.out | apply Sq.rc | refine below_set ?_ GE347.out | refine below_set ?_ GE348.out | refine below_set ?_ GE361.out | refine below_set ?_ GE365.out | refine below_set ?_ GE369.out | refine below_set ?_ GE374.out) | exact HB.out)) hb)
                 have z_BK402 := fun (h0_ : b 8 = true) (h1_ : b 9 = false) => (show w126.heap[gb402]? = some (.cells #[.slice none 0 0] 26 (0, 0)) from by first | exact (blk_below (g := gb402) (o := .cells #[.slice none 0 0] 26 (0, 0)) (by apply Sq.rb; exact (Q_BK402 h0_ h1_)) hb))
                 clear HO353
                 clear HO356
                 clear HO359
                 clear HO364
                 clear HO368
                 clear HO372
                 clear HO378
                 clear HO382
                 clear HO394
                 clear HO397
                 clear BK347
                 clear BK348
                 clear BK361
                 clear BK365
                 clear BK369
                 clear BK374
                 clear HB
                 have HO353 := n0_
                 have HO356 := n1_
                 have HO359 := n2_
                 have HO364 := n3_
                 have HO368 := n4_
                 have HO372 := n5_
                 have HO378 := n6_
                 have HO382 := n7_
                 have HO394 := n8_
                 have HO397 := n9_
                 have HO400 := n10_
                 have BK347 := n11_
                 have BK348 := n12_
                 have BK361 := n13_
                 have BK365 := n14_
                 have BK369 := n15_
                 have BK374 := n16_
                 have HB := n17_
                 clear n0_ n1_ n2_ n3_ n4_ n5_ n6_ n7_ n8_ n9_ n10_ n11_ n12_ n13_ n14_ n15_ n16_ n17_
                 (try clear hb)
                 (try clear hb2)
                 (try clear hk)
                 (try clear hi)
                 (try clear ho0)
                 refine hK.out _ _ ⟨.slice Ao124 t392.length co124, .slice Ao125 t395.length co125, v399, gb402, m1_, m3_, (.tuple #[.agg #[v399], .bool t401]), m5_, m6_, m8_, (by rw [ha.out]; exact putSel_upk 4 hb_ rfl rfl rfl), (by apply Sq.ra; exact Kd.R_mono HO353.out (fun _ hk => by first | exact True.intro | exact hk.1 | exact hk | exact ⟨hk.1.1, ⟨hk.1.2.1, ⟨hk.1.2.2.1, ⟨hk.1.2.2.2.1, ⟨hk.1.2.2.2.2, hk.2⟩⟩⟩⟩⟩ | simp only [hk, ne_eq, not_false_eq_true, and_self, and_true, true_and])), (by apply Sq.ra; exact Kd.R_mono HO356.out (fun _ hk => by first | exact True.intro | exact hk.1 | exact hk | exact ⟨hk.1.1, ⟨hk.1.2.1, ⟨hk.1.2.2.1, ⟨hk.1.2.2.2.1, ⟨hk.1.2.2.2.2, hk.2⟩⟩⟩⟩⟩ | simp only [hk, ne_eq, not_false_eq_true, and_self, and_true, true_and])), (by apply Sq.ra; exact Kd.R_mono HO359.out (fun _ hk => by first | exact True.intro | exact hk.1 | exact hk | exact ⟨hk.1.1, ⟨hk.1.2.1, ⟨hk.1.2.2.1, ⟨hk.1.2.2.2.1, ⟨hk.1.2.2.2.2, hk.2⟩⟩⟩⟩⟩ | simp only [hk, ne_eq, not_false_eq_true, and_self, and_true, true_and])), (by apply Sq.ra; exact Kd.R_mono HO364.out (fun _ hk => by first | exact True.intro | exact hk.1 | exact hk | exact ⟨hk.1.1, ⟨hk.1.2.1, ⟨hk.1.2.2.1, ⟨hk.1.2.2.2.1, ⟨hk.1.2.2.2.2.1, ⟨hk.1.2.2.2.2.2.1, ⟨hk.1.2.2.2.2.2.2, hk.2⟩⟩⟩⟩⟩⟩⟩ | simp only [hk, ne_eq, not_false_eq_true, and_self, and_true, true_and])), (by apply Sq.ra; exact Kd.R_mono HO368.out (fun _ hk => by first | exact True.intro | exact hk.1 | exact hk | exact ⟨hk.1.1, ⟨hk.1.2.1, ⟨hk.1.2.2.1, ⟨hk.1.2.2.2.1, ⟨hk.1.2.2.2.2.1, ⟨hk.1.2.2.2.2.2.1, ⟨hk.1.2.2.2.2.2.2, hk.2⟩⟩⟩⟩⟩⟩⟩ | simp only [hk, ne_eq, not_false_eq_true, and_self, and_true, true_and])), (by apply Sq.ra; exact Kd.R_mono HO372.out (fun _ hk => by first | exact True.intro | exact hk.1 | exact hk | exact ⟨hk.1.1, ⟨hk.1.2.1, ⟨hk.1.2.2.1, ⟨hk.1.2.2.2.1, ⟨hk.1.2.2.2.2.1, ⟨hk.1.2.2.2.2.2.1, ⟨hk.1.2.2.2.2.2.2, hk.2⟩⟩⟩⟩⟩⟩⟩ | simp only [hk, ne_eq, not_false_eq_true, and_self, and_true, true_and])), (by apply Sq.ra; exact Kd.R_mono HO378.out (fun _ hk => by first | exact True.intro | exact hk.1 | exact hk | exact ⟨hk.1.1, ⟨hk.1.2.1, ⟨hk.1.2.2.1, ⟨hk.1.2.2.2.1, ⟨hk.1.2.2.2.2.1, ⟨hk.1.2.2.2.2.2.1, ⟨hk.1.2.2.2.2.2.2, hk.2⟩⟩⟩⟩⟩⟩⟩ | simp only [hk, ne_eq, not_false_eq_true, and_self, and_true, true_and])), (by apply Sq.ra; exact Kd.R_mono HO382.out (fun _ hk => by first | exact True.intro | exact hk.1 | exact hk | exact ⟨hk.1.1, ⟨hk.1.2.1, ⟨hk.1.2.2.1, ⟨hk.1.2.2.2.1, ⟨hk.1.2.2.2.2.1, ⟨hk.1.2.2.2.2.2.1, ⟨hk.1.2.2.2.2.2.2, hk.2⟩⟩⟩⟩⟩⟩⟩ | simp only [hk, ne_eq, not_false_eq_true, and_self, and_true, true_and])), (by apply Sq.rb; exact BK347.out), (by apply Sq.rb; exact BK348.out), (by apply Sq.rb; exact BK361.out), (by apply Sq.rb; exact BK365.out), (by apply Sq.rb; exact BK369.out), (by apply Sq.rb; exact BK374.out), (by repeat (first | (with_reducible first | exact HB.out | apply Sq.rc | refine below_set ?_ GE347.out | refine below_set ?_ GE348.out | refine below_set ?_ GE361.out | refine below_set ?_ GE365.out | refine below_set ?_ GE369.out | refine below_set ?_ GE374.out) | exact HB.out)), fun _ => (by apply Sq.ra; exact Kd.R_mono HO394.out (fun _ hk => by first | exact True.intro | exact hk.1 | exact hk | exact ⟨hk.1.1, ⟨hk.1.2.1, ⟨hk.1.2.2.1, ⟨hk.1.2.2.2.1, ⟨hk.1.2.2.2.2.1, ⟨hk.1.2.2.2.2.2.1, ⟨hk.1.2.2.2.2.2.2.1, ⟨hk.1.2.2.2.2.2.2.2, hk.2⟩⟩⟩⟩⟩⟩⟩⟩ | simp only [hk, ne_eq, not_false_eq_true, and_self, and_true, true_and])), fun _ => (by apply Sq.ra; exact Kd.R_mono HO397.out (fun _ hk => by first | exact True.intro | exact hk.1 | exact hk | exact ⟨hk.1.1, ⟨hk.1.2.1, ⟨hk.1.2.2.1, ⟨hk.1.2.2.2.1, ⟨hk.1.2.2.2.2.1, ⟨hk.1.2.2.2.2.2.1, ⟨hk.1.2.2.2.2.2.2.1, ⟨hk.1.2.2.2.2.2.2.2, hk.2⟩⟩⟩⟩⟩⟩⟩⟩ | simp only [hk, ne_eq, not_false_eq_true, and_self, and_true, true_and])), fun _ => (by apply Sq.ra; exact Kd.R_mono HO400.out (fun _ hk => by first | exact True.intro | exact hk.1 | exact hk | exact ⟨hk.1.1.1.1.1.1.1.1.1.2, ⟨hk.1.1.1.1.1.1.1.1.2, ⟨hk.1.1.1.1.1.1.1.2, ⟨hk.1.1.1.1.1.1.2, ⟨hk.1.1.1.1.1.2, ⟨hk.1.1.1.1.2, ⟨hk.1.1.1.2, ⟨hk.1.1.2, ⟨hk.1.2, hk.2⟩⟩⟩⟩⟩⟩⟩⟩⟩ | simp only [hk, ne_eq, not_false_eq_true, and_self, and_true, true_and])), z_BK402, Q_GW402, Q_GE402, Q_NB347_402, Q_NB402_347, Q_NB348_402, Q_NB402_348, Q_NB361_402, Q_NB402_361, Q_NB365_402, Q_NB402_365, Q_NB369_402, Q_NB402_369, Q_NB374_402, Q_NB402_374, fun h0_ => absurd ((hoff 9 (by kernel_rfl)).symm.trans h0_) (by decide), Q_X1_, Q_X3_, fun _ => rfl, fun h0_ => absurd ((hoff 5 (by kernel_rfl)).symm.trans h0_) (by decide), fun h0_ => absurd ((hoff 6 (by kernel_rfl)).symm.trans h0_) (by decide), Q_X8_⟩
                refine steps_cons ?_ ?_
                ·rintro b a w' ⟨v393, v396, v399, gb402, m1_, m3_, m4_, m5_, m6_, m8_, ha, Q_HO353, Q_HO356, Q_HO359, Q_HO364, Q_HO368, Q_HO372, Q_HO378, Q_HO382, Q_BK347, Q_BK348, Q_BK361, Q_BK365, Q_BK369, Q_BK374, Q_HB, Q_HO394, Q_HO397, Q_HO400, Q_BK402, Q_GW402, Q_GE402, Q_NB347_402, Q_NB402_347, Q_NB348_402, Q_NB402_348, Q_NB361_402, Q_NB402_361, Q_NB365_402, Q_NB402_365, Q_NB369_402, Q_NB402_369, Q_NB374_402, Q_NB402_374, Q_BK402_e9, Q_X1_, Q_X3_, Q_X4_, Q_X5_, Q_X6_, Q_X8_⟩ hb_ hon hoff
                 refine ⟨_, rfl, fun K hK => ?_⟩
                 have e99 : a.tmps[99]? = some (m4_) := by rw [ha]; exact putSel_on (e := (4, 99, m4_)) 4 rfl rfl (hon 4 (by kernel_rfl)) rfl
                 rw [Q_X4_ (hon 4 (by kernel_rfl))] at e99
                 replace ha := Aside0.mk ha
                 have HO353 := Aside0.mk Q_HO353
                 have HO356 := Aside0.mk Q_HO356
                 have HO359 := Aside0.mk Q_HO359
                 have HO364 := Aside0.mk Q_HO364
                 have HO368 := Aside0.mk Q_HO368
                 have HO372 := Aside0.mk Q_HO372
                 have HO378 := Aside0.mk Q_HO378
                 have HO382 := Aside0.mk Q_HO382
                 have BK347 := Aside0.mk Q_BK347
                 have BK348 := Aside0.mk Q_BK348
                 have BK361 := Aside0.mk Q_BK361
                 have BK365 := Aside0.mk Q_BK365
                 have BK369 := Aside0.mk Q_BK369
                 have BK374 := Aside0.mk Q_BK374
                 have HB := Aside0.mk Q_HB
                 have HO394 := Sq.m (Q_HO394 (hon 1 (by kernel_rfl)))
                 have HO397 := Sq.m (Q_HO397 (hon 3 (by kernel_rfl)))
                 have HO400 := Sq.m (Q_HO400 (hon 4 (by kernel_rfl)))
                 refine value_ (w1 := w') (v := .tuple #[.agg #[v399], .bool t401]) (by rfl) rfl ?_ ?_
                 ·go_simp
                  (try simp only [i64_w])
                  try rfl
                 refine hK.out _ _ ⟨v393, v396, v399, gb402, m1_, m3_, m4_, (.tuple #[.agg #[v399], .bool t401]), m6_, m8_, (by rw [ha.out]; exact putSel_upk 5 hb_ rfl rfl rfl), Q_HO353, Q_HO356, Q_HO359, Q_HO364, Q_HO368, Q_HO372, Q_HO378, Q_HO382, Q_BK347, Q_BK348, Q_BK361, Q_BK365, Q_BK369, Q_BK374, Q_HB, Q_HO394, Q_HO397, Q_HO400, Q_BK402, Q_GW402, Q_GE402, Q_NB347_402, Q_NB402_347, Q_NB348_402, Q_NB402_348, Q_NB361_402, Q_NB402_361, Q_NB365_402, Q_NB402_365, Q_NB369_402, Q_NB402_369, Q_NB374_402, Q_NB402_374, fun h0_ => absurd ((hoff 9 (by kernel_rfl)).symm.trans h0_) (by decide), Q_X1_, Q_X3_, Q_X4_, fun _ => rfl, fun h0_ => absurd ((hoff 6 (by kernel_rfl)).symm.trans h0_) (by decide), Q_X8_⟩
                refine steps_cons ?_ ?_
                ·rintro b a w' ⟨v393, v396, v399, gb402, m1_, m3_, m4_, m5_, m6_, m8_, ha, Q_HO353, Q_HO356, Q_HO359, Q_HO364, Q_HO368, Q_HO372, Q_HO378, Q_HO382, Q_BK347, Q_BK348, Q_BK361, Q_BK365, Q_BK369, Q_BK374, Q_HB, Q_HO394, Q_HO397, Q_HO400, Q_BK402, Q_GW402, Q_GE402, Q_NB347_402, Q_NB402_347, Q_NB348_402, Q_NB402_348, Q_NB361_402, Q_NB402_361, Q_NB365_402, Q_NB402_365, Q_NB369_402, Q_NB402_369, Q_NB374_402, Q_NB402_374, Q_BK402_e9, Q_X1_, Q_X3_, Q_X4_, Q_X5_, Q_X6_, Q_X8_⟩ hb_ hon hoff
                 refine ⟨_, rfl, fun K hK => ?_⟩
                 have e94 : a.tmps[94]? = some (m5_) := by rw [ha]; exact putSel_on (e := (5, 94, m5_)) 5 rfl rfl (hon 5 (by kernel_rfl)) rfl
                 rw [Q_X5_ (hon 5 (by kernel_rfl))] at e94
                 replace ha := Aside0.mk ha
                 have HO353 := Aside0.mk Q_HO353
                 have HO356 := Aside0.mk Q_HO356
                 have HO359 := Aside0.mk Q_HO359
                 have HO364 := Aside0.mk Q_HO364
                 have HO368 := Aside0.mk Q_HO368
                 have HO372 := Aside0.mk Q_HO372
                 have HO378 := Aside0.mk Q_HO378
                 have HO382 := Aside0.mk Q_HO382
                 have BK347 := Aside0.mk Q_BK347
                 have BK348 := Aside0.mk Q_BK348
                 have BK361 := Aside0.mk Q_BK361
                 have BK365 := Aside0.mk Q_BK365
                 have BK369 := Aside0.mk Q_BK369
                 have BK374 := Aside0.mk Q_BK374
                 have HB := Aside0.mk Q_HB
                 have HO394 := Sq.m (Q_HO394 (hon 1 (by kernel_rfl)))
                 have HO397 := Sq.m (Q_HO397 (hon 3 (by kernel_rfl)))
                 have HO400 := Sq.m (Q_HO400 (hon 4 (by kernel_rfl)))
                 refine value_ (w1 := w') (v := .agg #[v399]) (by rfl) rfl ?_ ?_
                 ·go_simp
                  (try simp only [i64_w])
                  try rfl
                 refine hK.out _ _ ⟨v393, v396, v399, gb402, m1_, m3_, m4_, m5_, (.agg #[v399]), m8_, (by rw [ha.out]; exact putSel_upk 6 hb_ rfl rfl rfl), Q_HO353, Q_HO356, Q_HO359, Q_HO364, Q_HO368, Q_HO372, Q_HO378, Q_HO382, Q_BK347, Q_BK348, Q_BK361, Q_BK365, Q_BK369, Q_BK374, Q_HB, Q_HO394, Q_HO397, Q_HO400, Q_BK402, Q_GW402, Q_GE402, Q_NB347_402, Q_NB402_347, Q_NB348_402, Q_NB402_348, Q_NB361_402, Q_NB402_361, Q_NB365_402, Q_NB402_365, Q_NB369_402, Q_NB402_369, Q_NB374_402, Q_NB402_374, fun h0_ => absurd ((hoff 9 (by kernel_rfl)).symm.trans h0_) (by decide), Q_X1_, Q_X3_, Q_X4_, Q_X5_, fun _ => rfl, Q_X8_⟩
                refine steps_cons ?_ ?_
                ·rintro b a w' ⟨v393, v396, v399, gb402, m1_, m3_, m4_, m5_, m6_, m8_, ha, Q_HO353, Q_HO356, Q_HO359, Q_HO364, Q_HO368, Q_HO372, Q_HO378, Q_HO382, Q_BK347, Q_BK348, Q_BK361, Q_BK365, Q_BK369, Q_BK374, Q_HB, Q_HO394, Q_HO397, Q_HO400, Q_BK402, Q_GW402, Q_GE402, Q_NB347_402, Q_NB402_347, Q_NB348_402, Q_NB402_348, Q_NB361_402, Q_NB402_361, Q_NB365_402, Q_NB402_365, Q_NB369_402, Q_NB402_369, Q_NB374_402, Q_NB402_374, Q_BK402_e9, Q_X1_, Q_X3_, Q_X4_, Q_X5_, Q_X6_, Q_X8_⟩ hb_ hon hoff
                 refine ⟨_, rfl, fun K hK => ?_⟩
                 have e94 : a.tmps[94]? = some (m5_) := by rw [ha]; exact putSel_on (e := (5, 94, m5_)) 5 rfl rfl (hon 5 (by kernel_rfl)) rfl
                 rw [Q_X5_ (hon 5 (by kernel_rfl))] at e94
                 replace ha := Aside0.mk ha
                 have HO353 := Aside0.mk Q_HO353
                 have HO356 := Aside0.mk Q_HO356
                 have HO359 := Aside0.mk Q_HO359
                 have HO364 := Aside0.mk Q_HO364
                 have HO368 := Aside0.mk Q_HO368
                 have HO372 := Aside0.mk Q_HO372
                 have HO378 := Aside0.mk Q_HO378
                 have HO382 := Aside0.mk Q_HO382
                 have BK347 := Aside0.mk Q_BK347
                 have BK348 := Aside0.mk Q_BK348
                 have BK361 := Aside0.mk Q_BK361
                 have BK365 := Aside0.mk Q_BK365
                 have BK369 := Aside0.mk Q_BK369
                 have BK374 := Aside0.mk Q_BK374
                 have HB := Aside0.mk Q_HB
                 have HO394 := Sq.m (Q_HO394 (hon 1 (by kernel_rfl)))
                 have HO397 := Sq.m (Q_HO397 (hon 3 (by kernel_rfl)))
                 have HO400 := Sq.m (Q_HO400 (hon 4 (by kernel_rfl)))
                 refine value_ (w1 := w') (v := .bool t401) (by rfl) rfl ?_ ?_
                 ·go_simp
                  (try simp only [i64_w])
                  try rfl
                 refine hK.out _ _ ⟨v393, v396, v399, gb402, m1_, m3_, m4_, m5_, m6_, m8_, (by rw [ha.out]; exact putSel_upk 7 hb_ rfl rfl rfl), Q_HO353, Q_HO356, Q_HO359, Q_HO364, Q_HO368, Q_HO372, Q_HO378, Q_HO382, Q_BK347, Q_BK348, Q_BK361, Q_BK365, Q_BK369, Q_BK374, Q_HB, Q_HO394, Q_HO397, Q_HO400, Q_BK402, Q_GW402, Q_GE402, Q_NB347_402, Q_NB402_347, Q_NB348_402, Q_NB402_348, Q_NB361_402, Q_NB402_361, Q_NB365_402, Q_NB402_365, Q_NB369_402, Q_NB402_369, Q_NB374_402, Q_NB402_374, Q_BK402_e9, Q_X1_, Q_X3_, Q_X4_, Q_X5_, Q_X6_, Q_X8_⟩
                refine steps_cons ?_ ?_
                ·rintro b a w' ⟨v393, v396, v399, gb402, m1_, m3_, m4_, m5_, m6_, m8_, ha, Q_HO353, Q_HO356, Q_HO359, Q_HO364, Q_HO368, Q_HO372, Q_HO378, Q_HO382, Q_BK347, Q_BK348, Q_BK361, Q_BK365, Q_BK369, Q_BK374, Q_HB, Q_HO394, Q_HO397, Q_HO400, Q_BK402, Q_GW402, Q_GE402, Q_NB347_402, Q_NB402_347, Q_NB348_402, Q_NB402_348, Q_NB361_402, Q_NB402_361, Q_NB365_402, Q_NB402_365, Q_NB369_402, Q_NB402_369, Q_NB374_402, Q_NB402_374, Q_BK402_e9, Q_X1_, Q_X3_, Q_X4_, Q_X5_, Q_X6_, Q_X8_⟩ hb_ hon hoff
                 refine ⟨_, rfl, fun K hK => ?_⟩
                 replace ha := Aside0.mk ha
                 have HO353 := Aside0.mk Q_HO353
                 have HO356 := Aside0.mk Q_HO356
                 have HO359 := Aside0.mk Q_HO359
                 have HO364 := Aside0.mk Q_HO364
                 have HO368 := Aside0.mk Q_HO368
                 have HO372 := Aside0.mk Q_HO372
                 have HO378 := Aside0.mk Q_HO378
                 have HO382 := Aside0.mk Q_HO382
                 have BK347 := Aside0.mk Q_BK347
                 have BK348 := Aside0.mk Q_BK348
                 have BK361 := Aside0.mk Q_BK361
                 have BK365 := Aside0.mk Q_BK365
                 have BK369 := Aside0.mk Q_BK369
                 have BK374 := Aside0.mk Q_BK374
                 have HB := Aside0.mk Q_HB
                 refine box_step ?hg (N := 15) ?hd (cs := #[.slice none 0 0]) (t := 26) ?hr ?_; (case hd => rfl); (case hg => rfl); (case hr => first | (go_simp; done) | (go_simp; rfl))
                 intro gb402 hg w121 hbox hb
                 have n0_ := Sq.m (Kd.R_below (by apply Sq.ra; exact HO353.out) hb)
                 have n1_ := Sq.m (Kd.R_below (by apply Sq.ra; exact HO356.out) hb)
                 have n2_ := Sq.m (Kd.R_below (by apply Sq.ra; exact HO359.out) hb)
                 have n3_ := Sq.m (Kd.R_below (by apply Sq.ra; exact HO364.out) hb)
                 have n4_ := Sq.m (Kd.R_below (by apply Sq.ra; exact HO368.out) hb)
                 have n5_ := Sq.m (Kd.R_below (by apply Sq.ra; exact HO372.out) hb)
                 have n6_ := Sq.m (Kd.R_below (by apply Sq.ra; exact HO378.out) hb)
                 have n7_ := Sq.m (Kd.R_below (by apply Sq.ra; exact HO382.out) hb)
                 have n8_ := Sq.m (blk_below (g := gb347) (o := .cells #[.slice A0_0 l0_0.length c0_0] 24 (0, 0)) (by apply Sq.rb; exact BK347.out) hb)
                 have n9_ := Sq.m (blk_below (g := gb348) (o := .cells #[.slice A1_0 l1_0.length c1_0] 24 (0, 0)) (by apply Sq.rb; exact BK348.out) hb)
                 have n10_ := Sq.m (blk_below (g := gb361) (o := .cells #[.slice Ao99 t357.length co99] 26 (0, 0)) (by apply Sq.rb; exact BK361.out) hb)
                 have n11_ := Sq.m (blk_below (g := gb365) (o := .cells #[.slice Ao73 t362.length co73] 26 (0, 0)) (by apply Sq.rb; exact BK365.out) hb)
                 have n12_ := Sq.m (blk_below (g := gb369) (o := .cells #[.slice Ao82 t366.length co82] 26 (0, 0)) (by apply Sq.rb; exact BK369.out) hb)
                 have n13_ := Sq.m (blk_below (g := gb374) (o := .cells #[.slice Ao91 t370.length co91] 26 (0, 0)) (by apply Sq.rb; exact BK374.out) hb)
                 have n14_ := Sq.m (below_step (by repeat (first | (with_reducible first | exact HB.out | apply Sq.rc | refine below_set ?_ GE347.out | refine below_set ?_ GE348.out | refine below_set ?_ GE361.out | refine below_set ?_ GE365.out | refine below_set ?_ GE369.out | refine below_set ?_ GE374.out) | exact HB.out)) hb)
                 have n15_ := Sq.m (hbox)
                 have n16_ := Sq.m ((by rw [hg]; exact (below_size (by repeat (first | (with_reducible first | exact HB.out | apply Sq.rc | refine below_set ?_ GE347.out | refine below_set ?_ GE348.out | refine below_set ?_ GE361.out | refine below_set ?_ GE365.out | refine below_set ?_ GE369.out | refine below_set ?_ GE374.out) | exact HB.out))) : w.heap.size ≤ gb402))
                 have n17_ := Sq.m ((by rw [hg]; exact (below_size (by repeat (first | (with_reducible first | exact HB.out | apply Sq.rc | refine below_set ?_ GE347.out | refine below_set ?_ GE348.out | refine below_set ?_ GE361.out | refine below_set ?_ GE365.out | refine below_set ?_ GE369.out | refine below_set ?_ GE374.out) | exact HB.out))) : w.heap.size ≤ gb402))
                 have n18_ := Sq.m ((by rw [hg]; exact Nat.ne_of_lt (blk_lt (g := gb347) (o := .cells #[.slice A0_0 l0_0.length c0_0] 24 (0, 0)) (by apply Sq.rb; exact BK347.out)) : gb347 ≠ gb402))
                 have n19_ := Sq.m ((by rw [hg]; exact Nat.ne_of_gt (blk_lt (g := gb347) (o := .cells #[.slice A0_0 l0_0.length c0_0] 24 (0, 0)) (by apply Sq.rb; exact BK347.out)) : gb402 ≠ gb347))
                 have n20_ := Sq.m ((by rw [hg]; exact Nat.ne_of_lt (blk_lt (g := gb348) (o := .cells #[.slice A1_0 l1_0.length c1_0] 24 (0, 0)) (by apply Sq.rb; exact BK348.out)) : gb348 ≠ gb402))
                 have n21_ := Sq.m ((by rw [hg]; exact Nat.ne_of_gt (blk_lt (g := gb348) (o := .cells #[.slice A1_0 l1_0.length c1_0] 24 (0, 0)) (by apply Sq.rb; exact BK348.out)) : gb402 ≠ gb348))
                 have n22_ := Sq.m ((by rw [hg]; exact Nat.ne_of_lt (blk_lt (g := gb361) (o := .cells #[.slice Ao99 t357.length co99] 26 (0, 0)) (by apply Sq.rb; exact BK361.out)) : gb361 ≠ gb402))
                 have n23_ := Sq.m ((by rw [hg]; exact Nat.ne_of_gt (blk_lt (g := gb361) (o := .cells #[.slice Ao99 t357.length co99] 26 (0, 0)) (by apply Sq.rb; exact BK361.out)) : gb402 ≠ gb361))
                 have n24_ := Sq.m ((by rw [hg]; exact Nat.ne_of_lt (blk_lt (g := gb365) (o := .cells #[.slice Ao73 t362.length co73] 26 (0, 0)) (by apply Sq.rb; exact BK365.out)) : gb365 ≠ gb402))
                 have n25_ := Sq.m ((by rw [hg]; exact Nat.ne_of_gt (blk_lt (g := gb365) (o := .cells #[.slice Ao73 t362.length co73] 26 (0, 0)) (by apply Sq.rb; exact BK365.out)) : gb402 ≠ gb365))
                 have n26_ := Sq.m ((by rw [hg]; exact Nat.ne_of_lt (blk_lt (g := gb369) (o := .cells #[.slice Ao82 t366.length co82] 26 (0, 0)) (by apply Sq.rb; exact BK369.out)) : gb369 ≠ gb402))
                 have n27_ := Sq.m ((by rw [hg]; exact Nat.ne_of_gt (blk_lt (g := gb369) (o := .cells #[.slice Ao82 t366.length co82] 26 (0, 0)) (by apply Sq.rb; exact BK369.out)) : gb402 ≠ gb369))
                 have n28_ := Sq.m ((by rw [hg]; exact Nat.ne_of_lt (blk_lt (g := gb374) (o := .cells #[.slice Ao91 t370.length co91] 26 (0, 0)) (by apply Sq.rb; exact BK374.out)) : gb374 ≠ gb402))
                 have n29_ := Sq.m ((by rw [hg]; exact Nat.ne_of_gt (blk_lt (g := gb374) (o := .cells #[.slice Ao91 t370.length co91] 26 (0, 0)) (by apply Sq.rb; exact BK374.out)) : gb402 ≠ gb374))
                 have z_HO394 := fun (h0_ : b 1 = true) => (show Kd.R (Kd.int .i64) 3 w121 w.heap.size (fun k_ => some k_ ≠ (v352 : Value).ownBlock ∧ some k_ ≠ (v355 : Value).ownBlock ∧ some k_ ≠ (.slice Ao99 t357.length co99 : Value).ownBlock ∧ some k_ ≠ (.slice Ao73 t362.length co73 : Value).ownBlock ∧ some k_ ≠ (.slice Ao82 t366.length co82 : Value).ownBlock ∧ some k_ ≠ (.slice Ao91 t370.length co91 : Value).ownBlock ∧ some k_ ≠ (.slice Ao103 t376.length co103 : Value).ownBlock ∧ some k_ ≠ (.slice Ao107 t380.length co107 : Value).ownBlock) v393 t392 from by first | exact (Kd.R_below (by apply Sq.ra; exact (Q_HO394 h0_)) hb) | exact Kd.R_mono (Kd.R_below (by apply Sq.ra; exact (Q_HO394 h0_)) hb) (fun _ h_ => by first | trivial | exact h_ | exact h_.1))
                 have z_HO397 := fun (h0_ : b 3 = true) => (show Kd.R (Kd.int .i64) 3 w121 w.heap.size (fun k_ => some k_ ≠ (v352 : Value).ownBlock ∧ some k_ ≠ (v355 : Value).ownBlock ∧ some k_ ≠ (.slice Ao99 t357.length co99 : Value).ownBlock ∧ some k_ ≠ (.slice Ao73 t362.length co73 : Value).ownBlock ∧ some k_ ≠ (.slice Ao82 t366.length co82 : Value).ownBlock ∧ some k_ ≠ (.slice Ao91 t370.length co91 : Value).ownBlock ∧ some k_ ≠ (.slice Ao103 t376.length co103 : Value).ownBlock ∧ some k_ ≠ (.slice Ao107 t380.length co107 : Value).ownBlock) v396 t395 from by first | exact (Kd.R_below (by apply Sq.ra; exact (Q_HO397 h0_)) hb) | exact Kd.R_mono (Kd.R_below (by apply Sq.ra; exact (Q_HO397 h0_)) hb) (fun _ h_ => by first | trivial | exact h_ | exact h_.1))
                 have z_HO400 := fun (h0_ : b 4 = true) => (show Kd.R (Kd.int .i64) 3 w121 w.heap.size (fun k_ => some k_ ≠ (v352 : Value).ownBlock ∧ some k_ ≠ (v355 : Value).ownBlock ∧ some k_ ≠ (.slice Ao99 t357.length co99 : Value).ownBlock ∧ some k_ ≠ (.slice Ao73 t362.length co73 : Value).ownBlock ∧ some k_ ≠ (.slice Ao82 t366.length co82 : Value).ownBlock ∧ some k_ ≠ (.slice Ao91 t370.length co91 : Value).ownBlock ∧ some k_ ≠ (.slice Ao103 t376.length co103 : Value).ownBlock ∧ some k_ ≠ (.slice Ao107 t380.length co107 : Value).ownBlock) v399 t398 from by first | exact (Kd.R_below (by apply Sq.ra; exact (Q_HO400 h0_)) hb) | exact Kd.R_mono (Kd.R_below (by apply Sq.ra; exact (Q_HO400 h0_)) hb) (fun _ h_ => by first | trivial | exact h_ | exact h_.1))
                 clear HO353
                 clear HO356
                 clear HO359
                 clear HO364
                 clear HO368
                 clear HO372
                 clear HO378
                 clear HO382
                 clear BK347
                 clear BK348
                 clear BK361
                 clear BK365
                 clear BK369
                 clear BK374
                 clear HB
                 have HO353 := n0_
                 have HO356 := n1_
                 have HO359 := n2_
                 have HO364 := n3_
                 have HO368 := n4_
                 have HO372 := n5_
                 have HO378 := n6_
                 have HO382 := n7_
                 have BK347 := n8_
                 have BK348 := n9_
                 have BK361 := n10_
                 have BK365 := n11_
                 have BK369 := n12_
                 have BK374 := n13_
                 have HB := n14_
                 have BK402 := n15_
                 have GW402 := n16_
                 have GE402 := n17_
                 have NB347_402 := n18_
                 have NB402_347 := n19_
                 have NB348_402 := n20_
                 have NB402_348 := n21_
                 have NB361_402 := n22_
                 have NB402_361 := n23_
                 have NB365_402 := n24_
                 have NB402_365 := n25_
                 have NB369_402 := n26_
                 have NB402_369 := n27_
                 have NB374_402 := n28_
                 have NB402_374 := n29_
                 clear n0_ n1_ n2_ n3_ n4_ n5_ n6_ n7_ n8_ n9_ n10_ n11_ n12_ n13_ n14_ n15_ n16_ n17_ n18_ n19_ n20_ n21_ n22_ n23_ n24_ n25_ n26_ n27_ n28_ n29_
                 clear hb hbox hg
                 refine hK.out _ _ ⟨v393, v396, v399, gb402, m1_, m3_, m4_, m5_, m6_, (.pointer (some ⟨gb402, 0, none⟩)), (by rw [ha.out]; exact putSel_upk 8 hb_ rfl rfl rfl), (by apply Sq.ra; exact HO353.out), (by apply Sq.ra; exact HO356.out), (by apply Sq.ra; exact HO359.out), (by apply Sq.ra; exact HO364.out), (by apply Sq.ra; exact HO368.out), (by apply Sq.ra; exact HO372.out), (by apply Sq.ra; exact HO378.out), (by apply Sq.ra; exact HO382.out), (by apply Sq.rb; exact BK347.out), (by apply Sq.rb; exact BK348.out), (by apply Sq.rb; exact BK361.out), (by apply Sq.rb; exact BK365.out), (by apply Sq.rb; exact BK369.out), (by apply Sq.rb; exact BK374.out), (by repeat (first | (with_reducible first | exact HB.out | apply Sq.rc | refine below_set ?_ GE347.out | refine below_set ?_ GE348.out | refine below_set ?_ GE361.out | refine below_set ?_ GE365.out | refine below_set ?_ GE369.out | refine below_set ?_ GE374.out | refine below_set ?_ GE402.out) | exact HB.out)), z_HO394, z_HO397, z_HO400, fun _ _ => (by apply Sq.rb; exact BK402.out), fun _ => GW402.out, fun _ => GE402.out, fun _ => NB347_402.out, fun _ => NB402_347.out, fun _ => NB348_402.out, fun _ => NB402_348.out, fun _ => NB361_402.out, fun _ => NB402_361.out, fun _ => NB365_402.out, fun _ => NB402_365.out, fun _ => NB369_402.out, fun _ => NB402_369.out, fun _ => NB374_402.out, fun _ => NB402_374.out, fun h0_ => absurd ((hoff 9 (by kernel_rfl)).symm.trans h0_) (by decide), Q_X1_, Q_X3_, Q_X4_, Q_X5_, Q_X6_, fun _ => rfl⟩
                refine steps_cons ?_ ?_
                ·rintro b a w' ⟨v393, v396, v399, gb402, m1_, m3_, m4_, m5_, m6_, m8_, ha, Q_HO353, Q_HO356, Q_HO359, Q_HO364, Q_HO368, Q_HO372, Q_HO378, Q_HO382, Q_BK347, Q_BK348, Q_BK361, Q_BK365, Q_BK369, Q_BK374, Q_HB, Q_HO394, Q_HO397, Q_HO400, Q_BK402, Q_GW402, Q_GE402, Q_NB347_402, Q_NB402_347, Q_NB348_402, Q_NB402_348, Q_NB361_402, Q_NB402_361, Q_NB365_402, Q_NB402_365, Q_NB369_402, Q_NB402_369, Q_NB374_402, Q_NB402_374, Q_BK402_e9, Q_X1_, Q_X3_, Q_X4_, Q_X5_, Q_X6_, Q_X8_⟩ hb_ hon hoff
                 refine ⟨_, rfl, fun K hK => ?_⟩
                 have e15 : a.tmps[15]? = some (m8_) := by rw [ha]; exact putSel_on (e := (8, 15, m8_)) 8 rfl rfl (hon 8 (by kernel_rfl)) rfl
                 rw [Q_X8_ (hon 8 (by kernel_rfl))] at e15
                 have e100 : a.tmps[100]? = some (m6_) := by rw [ha]; exact putSel_on (e := (6, 100, m6_)) 6 rfl rfl (hon 6 (by kernel_rfl)) rfl
                 rw [Q_X6_ (hon 6 (by kernel_rfl))] at e100
                 replace ha := Aside0.mk ha
                 have HO353 := Aside0.mk Q_HO353
                 have HO356 := Aside0.mk Q_HO356
                 have HO359 := Aside0.mk Q_HO359
                 have HO364 := Aside0.mk Q_HO364
                 have HO368 := Aside0.mk Q_HO368
                 have HO372 := Aside0.mk Q_HO372
                 have HO378 := Aside0.mk Q_HO378
                 have HO382 := Aside0.mk Q_HO382
                 have BK347 := Aside0.mk Q_BK347
                 have BK348 := Aside0.mk Q_BK348
                 have BK361 := Aside0.mk Q_BK361
                 have BK365 := Aside0.mk Q_BK365
                 have BK369 := Aside0.mk Q_BK369
                 have BK374 := Aside0.mk Q_BK374
                 have HB := Aside0.mk Q_HB
                 have HO394 := Sq.m (Q_HO394 (hon 1 (by kernel_rfl)))
                 have HO397 := Sq.m (Q_HO397 (hon 3 (by kernel_rfl)))
                 have HO400 := Sq.m (Q_HO400 (hon 4 (by kernel_rfl)))
                 have BK402 := Sq.m (Q_BK402 (hon 8 (by kernel_rfl)) hb_)
                 have GW402 := Sq.m (Q_GW402 (hon 8 (by kernel_rfl)))
                 have GE402 := Sq.m (Q_GE402 (hon 8 (by kernel_rfl)))
                 have NB347_402 := Sq.m (Q_NB347_402 (hon 8 (by kernel_rfl)))
                 have NB402_347 := Sq.m (Q_NB402_347 (hon 8 (by kernel_rfl)))
                 have NB348_402 := Sq.m (Q_NB348_402 (hon 8 (by kernel_rfl)))
                 have NB402_348 := Sq.m (Q_NB402_348 (hon 8 (by kernel_rfl)))
                 have NB361_402 := Sq.m (Q_NB361_402 (hon 8 (by kernel_rfl)))
                 have NB402_361 := Sq.m (Q_NB402_361 (hon 8 (by kernel_rfl)))
                 have NB365_402 := Sq.m (Q_NB365_402 (hon 8 (by kernel_rfl)))
                 have NB402_365 := Sq.m (Q_NB402_365 (hon 8 (by kernel_rfl)))
                 have NB369_402 := Sq.m (Q_NB369_402 (hon 8 (by kernel_rfl)))
                 have NB402_369 := Sq.m (Q_NB402_369 (hon 8 (by kernel_rfl)))
                 have NB374_402 := Sq.m (Q_NB374_402 (hon 8 (by kernel_rfl)))
                 have NB402_374 := Sq.m (Q_NB402_374 (hon 8 (by kernel_rfl)))
                 obtain ⟨Ao128, co128, eo128⟩ := Kd.R_slice HO400.out
                 (first | subst eo128 | (injection eo128 with f1_ f2_ f3_; have f4_ := f1_.symm; have f5_ := f3_.symm; clear f1_ f2_ f3_; subst f4_; subst f5_))
                 have hs129 : w'.cell? ⟨gb402, 0, none⟩ = some (.slice none 0 0) := (blk_cell BK402.out 0).trans rfl
                 have hfs129 := blk_frozen BK402.out 0
                 have hns129_0 := NB347_402.out
                 have hns129_1 := NB348_402.out
                 have hns129_2 := NB361_402.out
                 have hns129_3 := NB365_402.out
                 have hns129_4 := NB369_402.out
                 have hns129_5 := NB374_402.out
                 have hms129_0 := NB402_347.out
                 have hms129_1 := NB402_348.out
                 have hms129_2 := NB402_361.out
                 have hms129_3 := NB402_365.out
                 have hms129_4 := NB402_369.out
                 have hms129_5 := NB402_374.out
                 refine skip_ (w1 := ?_) (by rfl) rfl ?_ ?_
                 rotate_left
                 ·go_simp
                  rfl
                 refine hK.out _ _ ⟨v393, v396, .slice Ao128 t398.length co128, gb402, m1_, m3_, m4_, m5_, m6_, m8_, (by rw [ha.out]; exact putSel_none (v := undef) rfl), (by apply Sq.ra; exact Kd.R_mono (Kd.R_far (p := ⟨gb402, 0, none⟩) (Kd.R_types HO353.out BK402.out (by decide)) (fun _ hk => hk.2) (.slice Ao128 t398.length co128)) (fun _ hk => ⟨hk.1.1, ⟨hk.1.2.1, ⟨hk.1.2.2.1, ⟨hk.1.2.2.2.1, hk.1.2.2.2.2⟩⟩⟩⟩)), (by apply Sq.ra; exact Kd.R_mono (Kd.R_far (p := ⟨gb402, 0, none⟩) (Kd.R_types HO356.out BK402.out (by decide)) (fun _ hk => hk.2) (.slice Ao128 t398.length co128)) (fun _ hk => ⟨hk.1.1, ⟨hk.1.2.1, ⟨hk.1.2.2.1, ⟨hk.1.2.2.2.1, hk.1.2.2.2.2⟩⟩⟩⟩)), (by apply Sq.ra; exact Kd.R_mono (Kd.R_far (p := ⟨gb402, 0, none⟩) (Kd.R_types HO359.out BK402.out (by decide)) (fun _ hk => hk.2) (.slice Ao128 t398.length co128)) (fun _ hk => ⟨hk.1.1, ⟨hk.1.2.1, ⟨hk.1.2.2.1, ⟨hk.1.2.2.2.1, hk.1.2.2.2.2⟩⟩⟩⟩)), (by apply Sq.ra; exact Kd.R_mono (Kd.R_far (p := ⟨gb402, 0, none⟩) (Kd.R_types HO364.out BK402.out (by decide)) (fun _ hk => hk.2) (.slice Ao128 t398.length co128)) (fun _ hk => ⟨hk.1.1, ⟨hk.1.2.1, ⟨hk.1.2.2.1, ⟨hk.1.2.2.2.1, ⟨hk.1.2.2.2.2.1, ⟨hk.1.2.2.2.2.2.1, hk.1.2.2.2.2.2.2⟩⟩⟩⟩⟩⟩)), (by apply Sq.ra; exact Kd.R_mono (Kd.R_far (p := ⟨gb402, 0, none⟩) (Kd.R_types HO368.out BK402.out (by decide)) (fun _ hk => hk.2) (.slice Ao128 t398.length co128)) (fun _ hk => ⟨hk.1.1, ⟨hk.1.2.1, ⟨hk.1.2.2.1, ⟨hk.1.2.2.2.1, ⟨hk.1.2.2.2.2.1, ⟨hk.1.2.2.2.2.2.1, hk.1.2.2.2.2.2.2⟩⟩⟩⟩⟩⟩)), (by apply Sq.ra; exact Kd.R_mono (Kd.R_far (p := ⟨gb402, 0, none⟩) (Kd.R_types HO372.out BK402.out (by decide)) (fun _ hk => hk.2) (.slice Ao128 t398.length co128)) (fun _ hk => ⟨hk.1.1, ⟨hk.1.2.1, ⟨hk.1.2.2.1, ⟨hk.1.2.2.2.1, ⟨hk.1.2.2.2.2.1, ⟨hk.1.2.2.2.2.2.1, hk.1.2.2.2.2.2.2⟩⟩⟩⟩⟩⟩)), (by apply Sq.ra; exact Kd.R_mono (Kd.R_far (p := ⟨gb402, 0, none⟩) (Kd.R_types HO378.out BK402.out (by decide)) (fun _ hk => hk.2) (.slice Ao128 t398.length co128)) (fun _ hk => ⟨hk.1.1, ⟨hk.1.2.1, ⟨hk.1.2.2.1, ⟨hk.1.2.2.2.1, ⟨hk.1.2.2.2.2.1, ⟨hk.1.2.2.2.2.2.1, hk.1.2.2.2.2.2.2⟩⟩⟩⟩⟩⟩)), (by apply Sq.ra; exact Kd.R_mono (Kd.R_far (p := ⟨gb402, 0, none⟩) (Kd.R_types HO382.out BK402.out (by decide)) (fun _ hk => hk.2) (.slice Ao128 t398.length co128)) (fun _ hk => ⟨hk.1.1, ⟨hk.1.2.1, ⟨hk.1.2.2.1, ⟨hk.1.2.2.2.1, ⟨hk.1.2.2.2.2.1, ⟨hk.1.2.2.2.2.2.1, hk.1.2.2.2.2.2.2⟩⟩⟩⟩⟩⟩)), (by apply Sq.rb; refine blk_far ?_ NB347_402.out _; apply Sq.rb; exact BK347.out), (by apply Sq.rb; refine blk_far ?_ NB348_402.out _; apply Sq.rb; exact BK348.out), (by apply Sq.rb; refine blk_far ?_ NB361_402.out _; apply Sq.rb; exact BK361.out), (by apply Sq.rb; refine blk_far ?_ NB365_402.out _; apply Sq.rb; exact BK365.out), (by apply Sq.rb; refine blk_far ?_ NB369_402.out _; apply Sq.rb; exact BK369.out), (by apply Sq.rb; refine blk_far ?_ NB374_402.out _; apply Sq.rb; exact BK374.out), (by repeat (first | (with_reducible first | exact HB.out | apply Sq.rc | refine below_set ?_ GE347.out | refine below_set ?_ GE348.out | refine below_set ?_ GE361.out | refine below_set ?_ GE365.out | refine below_set ?_ GE369.out | refine below_set ?_ GE374.out | refine below_set ?_ GE402.out) | exact HB.out)), fun _ => (by apply Sq.ra; exact Kd.R_mono (Kd.R_far (p := ⟨gb402, 0, none⟩) (Kd.R_types HO394.out BK402.out (by decide)) (fun _ hk => hk.2) (.slice Ao128 t398.length co128)) (fun _ hk => ⟨hk.1.1, ⟨hk.1.2.1, ⟨hk.1.2.2.1, ⟨hk.1.2.2.2.1, ⟨hk.1.2.2.2.2.1, ⟨hk.1.2.2.2.2.2.1, ⟨hk.1.2.2.2.2.2.2.1, hk.1.2.2.2.2.2.2.2⟩⟩⟩⟩⟩⟩⟩)), fun _ => (by apply Sq.ra; exact Kd.R_mono (Kd.R_far (p := ⟨gb402, 0, none⟩) (Kd.R_types HO397.out BK402.out (by decide)) (fun _ hk => hk.2) (.slice Ao128 t398.length co128)) (fun _ hk => ⟨hk.1.1, ⟨hk.1.2.1, ⟨hk.1.2.2.1, ⟨hk.1.2.2.2.1, ⟨hk.1.2.2.2.2.1, ⟨hk.1.2.2.2.2.2.1, ⟨hk.1.2.2.2.2.2.2.1, hk.1.2.2.2.2.2.2.2⟩⟩⟩⟩⟩⟩⟩)), fun _ => (by apply Sq.ra; exact Kd.R_mono (Kd.R_far (p := ⟨gb402, 0, none⟩) (Kd.R_types HO400.out BK402.out (by decide)) (fun _ hk => hk.2) (.slice Ao128 t398.length co128)) (fun _ hk => ⟨hk.1.1, ⟨hk.1.2.1, ⟨hk.1.2.2.1, ⟨hk.1.2.2.2.1, ⟨hk.1.2.2.2.2.1, ⟨hk.1.2.2.2.2.2.1, ⟨hk.1.2.2.2.2.2.2.1, hk.1.2.2.2.2.2.2.2⟩⟩⟩⟩⟩⟩⟩)), fun _ h1_ => absurd ((up_self b 9).symm.trans h1_) (by decide), fun _ => GW402.out, fun _ => GE402.out, fun _ => NB347_402.out, fun _ => NB402_347.out, fun _ => NB348_402.out, fun _ => NB402_348.out, fun _ => NB361_402.out, fun _ => NB402_361.out, fun _ => NB365_402.out, fun _ => NB402_365.out, fun _ => NB369_402.out, fun _ => NB402_369.out, fun _ => NB374_402.out, fun _ => NB402_374.out, fun _ => (by apply Sq.rb; refine blk_put (cs := #[.slice none 0 0]) ?_ 0 _ rfl; apply Sq.rb; exact BK402.out), Q_X1_, Q_X3_, Q_X4_, Q_X5_, Q_X6_, Q_X8_⟩
                refine steps_cons ?_ ?_
                ·rintro b a w' ⟨v393, v396, v399, gb402, m1_, m3_, m4_, m5_, m6_, m8_, ha, Q_HO353, Q_HO356, Q_HO359, Q_HO364, Q_HO368, Q_HO372, Q_HO378, Q_HO382, Q_BK347, Q_BK348, Q_BK361, Q_BK365, Q_BK369, Q_BK374, Q_HB, Q_HO394, Q_HO397, Q_HO400, Q_BK402, Q_GW402, Q_GE402, Q_NB347_402, Q_NB402_347, Q_NB348_402, Q_NB402_348, Q_NB361_402, Q_NB402_361, Q_NB365_402, Q_NB402_365, Q_NB369_402, Q_NB402_369, Q_NB374_402, Q_NB402_374, Q_BK402_e9, Q_X1_, Q_X3_, Q_X4_, Q_X5_, Q_X6_, Q_X8_⟩ hb_ hon hoff
                 refine ⟨_, rfl, fun K hK => ?_⟩
                 have e101 : a.tmps[101]? = some (.bool t401) := by rw [ha]; exact putSel_on (e := (7, 101, .bool t401)) 7 rfl rfl (hon 7 (by kernel_rfl)) rfl
                 replace ha := Aside0.mk ha
                 have HO353 := Aside0.mk Q_HO353
                 have HO356 := Aside0.mk Q_HO356
                 have HO359 := Aside0.mk Q_HO359
                 have HO364 := Aside0.mk Q_HO364
                 have HO368 := Aside0.mk Q_HO368
                 have HO372 := Aside0.mk Q_HO372
                 have HO378 := Aside0.mk Q_HO378
                 have HO382 := Aside0.mk Q_HO382
                 have BK347 := Aside0.mk Q_BK347
                 have BK348 := Aside0.mk Q_BK348
                 have BK361 := Aside0.mk Q_BK361
                 have BK365 := Aside0.mk Q_BK365
                 have BK369 := Aside0.mk Q_BK369
                 have BK374 := Aside0.mk Q_BK374
                 have HB := Aside0.mk Q_HB
                 have HO394 := Sq.m (Q_HO394 (hon 1 (by kernel_rfl)))
                 have HO397 := Sq.m (Q_HO397 (hon 3 (by kernel_rfl)))
                 have HO400 := Sq.m (Q_HO400 (hon 4 (by kernel_rfl)))
                 have GW402 := Sq.m (Q_GW402 (hon 8 (by kernel_rfl)))
                 have GE402 := Sq.m (Q_GE402 (hon 8 (by kernel_rfl)))
                 have NB347_402 := Sq.m (Q_NB347_402 (hon 8 (by kernel_rfl)))
                 have NB402_347 := Sq.m (Q_NB402_347 (hon 8 (by kernel_rfl)))
                 have NB348_402 := Sq.m (Q_NB348_402 (hon 8 (by kernel_rfl)))
                 have NB402_348 := Sq.m (Q_NB402_348 (hon 8 (by kernel_rfl)))
                 have NB361_402 := Sq.m (Q_NB361_402 (hon 8 (by kernel_rfl)))
                 have NB402_361 := Sq.m (Q_NB402_361 (hon 8 (by kernel_rfl)))
                 have NB365_402 := Sq.m (Q_NB365_402 (hon 8 (by kernel_rfl)))
                 have NB402_365 := Sq.m (Q_NB402_365 (hon 8 (by kernel_rfl)))
                 have NB369_402 := Sq.m (Q_NB369_402 (hon 8 (by kernel_rfl)))
                 have NB402_369 := Sq.m (Q_NB402_369 (hon 8 (by kernel_rfl)))
                 have NB374_402 := Sq.m (Q_NB374_402 (hon 8 (by kernel_rfl)))
                 have NB402_374 := Sq.m (Q_NB402_374 (hon 8 (by kernel_rfl)))
                 have BK402 := Sq.m (Q_BK402_e9 (hon 9 (by kernel_rfl)))
                 refine value_ (w1 := w') (v := .bool t401) (by rfl) rfl ?_ ?_
                 ·go_simp
                  (try simp only [i64_w])
                  try rfl
                 refine hK.out _ _ ⟨v393, v396, v399, gb402, m1_, m3_, m4_, m5_, m6_, m8_, (by rw [ha.out]; exact putSel_upk 9 hb_ rfl rfl rfl), Q_HO353, Q_HO356, Q_HO359, Q_HO364, Q_HO368, Q_HO372, Q_HO378, Q_HO382, Q_BK347, Q_BK348, Q_BK361, Q_BK365, Q_BK369, Q_BK374, Q_HB, Q_HO394, Q_HO397, Q_HO400, fun _ h1_ => absurd ((hon 9 (by kernel_rfl)).symm.trans h1_) (by decide), Q_GW402, Q_GE402, Q_NB347_402, Q_NB402_347, Q_NB348_402, Q_NB402_348, Q_NB361_402, Q_NB402_361, Q_NB365_402, Q_NB402_365, Q_NB369_402, Q_NB402_369, Q_NB374_402, Q_NB402_374, Q_BK402_e9, Q_X1_, Q_X3_, Q_X4_, Q_X5_, Q_X6_, Q_X8_⟩
                exact steps_nil
               rintro b a w129 hall ⟨v393, v396, v399, gb402, m1_, m3_, m4_, m5_, m6_, m8_, ha, Q_HO353, Q_HO356, Q_HO359, Q_HO364, Q_HO368, Q_HO372, Q_HO378, Q_HO382, Q_BK347, Q_BK348, Q_BK361, Q_BK365, Q_BK369, Q_BK374, Q_HB, Q_HO394, Q_HO397, Q_HO400, Q_BK402, Q_GW402, Q_GE402, Q_NB347_402, Q_NB402_347, Q_NB348_402, Q_NB402_348, Q_NB361_402, Q_NB402_361, Q_NB365_402, Q_NB402_365, Q_NB369_402, Q_NB402_369, Q_NB374_402, Q_NB402_374, Q_BK402_e9, Q_X1_, Q_X3_, Q_X4_, Q_X5_, Q_X6_, Q_X8_⟩
               clear BK347 BK348 BK361 BK365 BK369 BK374 HB HO353 HO356 HO359 HO364 HO368 HO372 HO378 HO382
               have hb0_ := hall 0 (by kernel_rfl)
               have hb1_ := hall 1 (by kernel_rfl)
               have hb2_ := hall 2 (by kernel_rfl)
               have hb3_ := hall 3 (by kernel_rfl)
               have hb4_ := hall 4 (by kernel_rfl)
               have hb5_ := hall 5 (by kernel_rfl)
               have hb6_ := hall 6 (by kernel_rfl)
               have hb7_ := hall 7 (by kernel_rfl)
               have hb8_ := hall 8 (by kernel_rfl)
               have hb9_ := hall 9 (by kernel_rfl)
               have hb10_ := hall 10 (by kernel_rfl)
               subst ha
               obtain rfl := Q_X1_ hb1_
               obtain rfl := Q_X3_ hb3_
               obtain rfl := Q_X4_ hb4_
               obtain rfl := Q_X5_ hb5_
               obtain rfl := Q_X6_ hb6_
               obtain rfl := Q_X8_ hb8_
               simp only [putSel, hb0_, hb1_, hb2_, hb3_, hb4_, hb5_, hb6_, hb7_, hb8_, hb9_, hb10_, if_true, Act.put, List.setIfInBounds_toArray, List.set_cons_zero, List.set_cons_succ]
               have HO353 := Aside0.mk Q_HO353
               clear Q_HO353
               have HO356 := Aside0.mk Q_HO356
               clear Q_HO356
               have HO359 := Aside0.mk Q_HO359
               clear Q_HO359
               have HO364 := Aside0.mk Q_HO364
               clear Q_HO364
               have HO368 := Aside0.mk Q_HO368
               clear Q_HO368
               have HO372 := Aside0.mk Q_HO372
               clear Q_HO372
               have HO378 := Aside0.mk Q_HO378
               clear Q_HO378
               have HO382 := Aside0.mk Q_HO382
               clear Q_HO382
               have BK347 := Aside0.mk Q_BK347
               clear Q_BK347
               have BK348 := Aside0.mk Q_BK348
               clear Q_BK348
               have BK361 := Aside0.mk Q_BK361
               clear Q_BK361
               have BK365 := Aside0.mk Q_BK365
               clear Q_BK365
               have BK369 := Aside0.mk Q_BK369
               clear Q_BK369
               have BK374 := Aside0.mk Q_BK374
               clear Q_BK374
               have HB := Aside0.mk Q_HB
               clear Q_HB
               have HO394 := Sq.m (Q_HO394 hb1_)
               clear Q_HO394
               have HO397 := Sq.m (Q_HO397 hb3_)
               clear Q_HO397
               have HO400 := Sq.m (Q_HO400 hb4_)
               clear Q_HO400
               clear Q_BK402
               have GW402 := Sq.m (Q_GW402 hb8_)
               clear Q_GW402
               have GE402 := Sq.m (Q_GE402 hb8_)
               clear Q_GE402
               have NB347_402 := Sq.m (Q_NB347_402 hb8_)
               clear Q_NB347_402
               have NB402_347 := Sq.m (Q_NB402_347 hb8_)
               clear Q_NB402_347
               have NB348_402 := Sq.m (Q_NB348_402 hb8_)
               clear Q_NB348_402
               have NB402_348 := Sq.m (Q_NB402_348 hb8_)
               clear Q_NB402_348
               have NB361_402 := Sq.m (Q_NB361_402 hb8_)
               clear Q_NB361_402
               have NB402_361 := Sq.m (Q_NB402_361 hb8_)
               clear Q_NB402_361
               have NB365_402 := Sq.m (Q_NB365_402 hb8_)
               clear Q_NB365_402
               have NB402_365 := Sq.m (Q_NB402_365 hb8_)
               clear Q_NB402_365
               have NB369_402 := Sq.m (Q_NB369_402 hb8_)
               clear Q_NB369_402
               have NB402_369 := Sq.m (Q_NB402_369 hb8_)
               clear Q_NB402_369
               have NB374_402 := Sq.m (Q_NB374_402 hb8_)
               clear Q_NB374_402
               have NB402_374 := Sq.m (Q_NB402_374 hb8_)
               clear Q_NB402_374
               have BK402 := Sq.m (Q_BK402_e9 hb9_)
               clear Q_BK402_e9
               clear hall hb0_ hb1_ hb2_ hb3_ hb4_ hb5_ hb6_ hb7_ hb8_ hb9_ hb10_
               have hnb130 := NB402_347.out
               have hnc130 := NB347_402.out
               have hnb131 := NB402_348.out
               have hnc131 := NB348_402.out
               have hnb132 := NB402_361.out
               have hnc132 := NB361_402.out
               have hnb133 := NB402_365.out
               have hnc133 := NB365_402.out
               have hnb134 := NB402_369.out
               have hnc134 := NB369_402.out
               have hnb135 := NB402_374.out
               have hnc135 := NB374_402.out
               have hcz136_0 : w129.cell? ⟨gb402, 0, none⟩ = some (v399) := (blk_cell BK402.out 0).trans rfl
               have hfz136_0 := blk_frozen BK402.out 0
               have hcz137_0 : w129.cell? ⟨gb361, 0, none⟩ = some (.slice Ao99 t357.length co99) := (blk_cell BK361.out 0).trans rfl
               have hfz137_0 := blk_frozen BK361.out 0
               obtain ⟨Ao138, co138, eo138⟩ := Kd.R_slice HO400.out
               subst eo138
               try go_wp2_with (first | ((with_reducible refine gate_callee (f := 19) rfl ?_); refine goesL_ (some 104) rfl rfl Try.func19 (by kernel_rfl) rfl #[.agg #[.slice Ao138 t398.length co138], .agg #[.slice Ao99 t357.length co99]] rfl (by (try simp only [List.map_toArray, List.map_cons, List.map_nil]); first | done | rfl | (simp only [List.length_drop, List.length_take]; rfl) | (simp only [i64_w, u8_w, w64_b]; rfl)) ?_; (with_reducible refine (laws_eqNat.calls k _ _ t398 _ _ t357 true _ ?side1 ?side2 ?side3 ?side4 A46.out).mono ?_); (case side1 => repeat (first | exact (Kd.R_reads' HO400.out).2.2 | (with_reducible refine Kd.C_alloc ?_ _) | (with_reducible refine Kd.C_drewN ?_ _) | (with_reducible refine Kd.C_drew ?_))); (case side2 => exact (Kd.R_reads' HO400.out).2.1); (case side3 => repeat (first | exact (Kd.R_reads' HO359.out).2.2 | (with_reducible refine Kd.C_alloc ?_ _) | (with_reducible refine Kd.C_drewN ?_ _) | (with_reducible refine Kd.C_drew ?_))); (case side4 => exact (Kd.R_reads' HO359.out).2.1); rintro e w139 ⟨rfl, hb⟩; refine ⟨_, rfl, ?_⟩; have n0_ := Sq.m (Kd.R_below (by apply Sq.ra; exact HO353.out) hb); have n1_ := Sq.m (Kd.R_below (by apply Sq.ra; exact HO356.out) hb); have n2_ := Sq.m (Kd.R_below (by apply Sq.ra; exact HO359.out) hb); have n3_ := Sq.m (Kd.R_below (by apply Sq.ra; exact HO364.out) hb); have n4_ := Sq.m (Kd.R_below (by apply Sq.ra; exact HO368.out) hb); have n5_ := Sq.m (Kd.R_below (by apply Sq.ra; exact HO372.out) hb); have n6_ := Sq.m (Kd.R_below (by apply Sq.ra; exact HO378.out) hb); have n7_ := Sq.m (Kd.R_below (by apply Sq.ra; exact HO382.out) hb); have n8_ := Sq.m (Kd.R_below (by apply Sq.ra; exact HO394.out) hb); have n9_ := Sq.m (Kd.R_below (by apply Sq.ra; exact HO397.out) hb); have n10_ := Sq.m (Kd.R_below (by apply Sq.ra; exact HO400.out) hb); have n11_ := Sq.m (blk_below (g := gb347) (o := .cells #[.slice A0_0 l0_0.length c0_0] 24 (0, 0)) (by apply Sq.rb; exact BK347.out) hb); have n12_ := Sq.m (blk_below (g := gb348) (o := .cells #[.slice A1_0 l1_0.length c1_0] 24 (0, 0)) (by apply Sq.rb; exact BK348.out) hb); have n13_ := Sq.m (blk_below (g := gb361) (o := .cells #[.slice Ao99 t357.length co99] 26 (0, 0)) (by apply Sq.rb; exact BK361.out) hb); have n14_ := Sq.m (blk_below (g := gb365) (o := .cells #[.slice Ao73 t362.length co73] 26 (0, 0)) (by apply Sq.rb; exact BK365.out) hb); have n15_ := Sq.m (blk_below (g := gb369) (o := .cells #[.slice Ao82 t366.length co82] 26 (0, 0)) (by apply Sq.rb; exact BK369.out) hb); have n16_ := Sq.m (blk_below (g := gb374) (o := .cells #[.slice Ao91 t370.length co91] 26 (0, 0)) (by apply Sq.rb; exact BK374.out) hb); have n17_ := Sq.m (blk_below (g := gb402) (o := .cells #[.slice Ao138 t398.length co138] 26 (0, 0)) (by apply Sq.rb; exact BK402.out) hb); have n18_ := Sq.m (below_step (by repeat (first | (with_reducible first | exact HB.out | apply Sq.rc | refine below_set ?_ GE347.out | refine below_set ?_ GE348.out | refine below_set ?_ GE361.out | refine below_set ?_ GE365.out | refine below_set ?_ GE369.out | refine below_set ?_ GE374.out | refine below_set ?_ GE402.out) | exact HB.out)) hb); clear HO353; clear HO356; clear HO359; clear HO364; clear HO368; clear HO372; clear HO378; clear HO382; clear HO394; clear HO397; clear HO400; clear BK347; clear BK348; clear BK361; clear BK365; clear BK369; clear BK374; clear BK402; clear HB; have HO353 := n0_; have HO356 := n1_; have HO359 := n2_; have HO364 := n3_; have HO368 := n4_; have HO372 := n5_; have HO378 := n6_; have HO382 := n7_; have HO394 := n8_; have HO397 := n9_; have HO400 := n10_; have BK347 := n11_; have BK348 := n12_; have BK361 := n13_; have BK365 := n14_; have BK369 := n15_; have BK374 := n16_; have BK402 := n17_; have HB := n18_; clear n0_ n1_ n2_ n3_ n4_ n5_ n6_ n7_ n8_ n9_ n10_ n11_ n12_ n13_ n14_ n15_ n16_ n17_ n18_; (try clear hb); (try clear hb2); (try clear hk); (try clear hi); have hcz140_0 : w139.cell? ⟨gb374, 0, none⟩ = some (.slice Ao91 t370.length co91) := (blk_cell BK374.out 0).trans rfl; have hfz140_0 := blk_frozen BK374.out 0) | ((with_reducible refine gate_callee (f := 21) rfl ?_); refine goesL_ (some 113) rfl rfl Try.func21 (by kernel_rfl) rfl #[.agg #[.slice Ao91 t390.length co91], .int .i64 1] rfl (by (try simp only [List.map_toArray, List.map_cons, List.map_nil]); first | done | (rw [show t390.length = t370.length from (Kd.R_reads' HO372.out).1.symm] <;> rfl) | rfl | (simp only [List.length_drop, List.length_take]; rfl) | (simp only [i64_w, u8_w, w64_b]; rfl)) ?_; (with_reducible refine (laws_heldNat.calls k _ _ t390 1 t404 _ ?side1 ?side2 A49.out).mono ?_); (case side1 => repeat (first | exact (Kd.R_reads' HO372.out).2.2 | (with_reducible refine Kd.C_alloc ?_ _) | (with_reducible refine Kd.C_drewN ?_ _) | (with_reducible refine Kd.C_drew ?_))); (case side2 => rw [show t390.length = t370.length from (Kd.R_reads' HO372.out).1.symm]; exact (Kd.R_reads' HO372.out).2.1); rintro e w141 ⟨rfl, hb⟩; refine ⟨_, rfl, ?_⟩; have n0_ := Sq.m (Kd.R_below (by apply Sq.ra; exact HO353.out) hb); have n1_ := Sq.m (Kd.R_below (by apply Sq.ra; exact HO356.out) hb); have n2_ := Sq.m (Kd.R_below (by apply Sq.ra; exact HO359.out) hb); have n3_ := Sq.m (Kd.R_below (by apply Sq.ra; exact HO364.out) hb); have n4_ := Sq.m (Kd.R_below (by apply Sq.ra; exact HO368.out) hb); have n5_ := Sq.m (Kd.R_below (by apply Sq.ra; exact HO372.out) hb); have n6_ := Sq.m (Kd.R_below (by apply Sq.ra; exact HO378.out) hb); have n7_ := Sq.m (Kd.R_below (by apply Sq.ra; exact HO382.out) hb); have n8_ := Sq.m (Kd.R_below (by apply Sq.ra; exact HO394.out) hb); have n9_ := Sq.m (Kd.R_below (by apply Sq.ra; exact HO397.out) hb); have n10_ := Sq.m (Kd.R_below (by apply Sq.ra; exact HO400.out) hb); have n11_ := Sq.m (blk_below (g := gb347) (o := .cells #[.slice A0_0 l0_0.length c0_0] 24 (0, 0)) (by apply Sq.rb; exact BK347.out) hb); have n12_ := Sq.m (blk_below (g := gb348) (o := .cells #[.slice A1_0 l1_0.length c1_0] 24 (0, 0)) (by apply Sq.rb; exact BK348.out) hb); have n13_ := Sq.m (blk_below (g := gb361) (o := .cells #[.slice Ao99 t357.length co99] 26 (0, 0)) (by apply Sq.rb; exact BK361.out) hb); have n14_ := Sq.m (blk_below (g := gb365) (o := .cells #[.slice Ao73 t362.length co73] 26 (0, 0)) (by apply Sq.rb; exact BK365.out) hb); have n15_ := Sq.m (blk_below (g := gb369) (o := .cells #[.slice Ao82 t366.length co82] 26 (0, 0)) (by apply Sq.rb; exact BK369.out) hb); have n16_ := Sq.m (blk_below (g := gb374) (o := .cells #[.slice Ao91 t370.length co91] 26 (0, 0)) (by apply Sq.rb; exact BK374.out) hb); have n17_ := Sq.m (blk_below (g := gb402) (o := .cells #[.slice Ao138 t398.length co138] 26 (0, 0)) (by apply Sq.rb; exact BK402.out) hb); have n18_ := Sq.m (below_step (by repeat (first | (with_reducible first | exact HB.out | apply Sq.rc | refine below_set ?_ GE347.out | refine below_set ?_ GE348.out | refine below_set ?_ GE361.out | refine below_set ?_ GE365.out | refine below_set ?_ GE369.out | refine below_set ?_ GE374.out | refine below_set ?_ GE402.out) | exact HB.out)) hb); clear HO353; clear HO356; clear HO359; clear HO364; clear HO368; clear HO372; clear HO378; clear HO382; clear HO394; clear HO397; clear HO400; clear BK347; clear BK348; clear BK361; clear BK365; clear BK369; clear BK374; clear BK402; clear HB; have HO353 := n0_; have HO356 := n1_; have HO359 := n2_; have HO364 := n3_; have HO368 := n4_; have HO372 := n5_; have HO378 := n6_; have HO382 := n7_; have HO394 := n8_; have HO397 := n9_; have HO400 := n10_; have BK347 := n11_; have BK348 := n12_; have BK361 := n13_; have BK365 := n14_; have BK369 := n15_; have BK374 := n16_; have BK402 := n17_; have HB := n18_; clear n0_ n1_ n2_ n3_ n4_ n5_ n6_ n7_ n8_ n9_ n10_ n11_ n12_ n13_ n14_ n15_ n16_ n17_ n18_; (try clear hb); (try clear hb2); (try clear hk); (try clear hi)))
               go_ret
               exact ⟨by first | rfl | (simp [errW_none, errW_some] <;> rfl) | (simp [*, errW_none, errW_some] <;> rfl), by repeat (first | (with_reducible first | exact HB.out | apply Sq.rc | refine below_set ?_ GE347.out | refine below_set ?_ GE348.out | refine below_set ?_ GE361.out | refine below_set ?_ GE365.out | refine below_set ?_ GE369.out | refine below_set ?_ GE374.out | refine below_set ?_ GE402.out) | exact HB.out)⟩
              ·rw [if_neg c51] at H
               exact absurd H (by simp)
           ·replace c47 := Bool.eq_false_iff.mpr c47
            subst c47
            have H1 : (none) = some r := by rw [if_neg (show ¬ (false = true) by decide)] at H; exact H
            clear H
            have H := H1
            clear H1
            exact absurd H (by simp)
          ·rw [if_neg c42] at H
           exact absurd H (by simp)
        ·replace c38 := Bool.eq_false_iff.mpr c38
         subst c38
         have H1 : (none) = some r := by rw [if_neg (show ¬ (false = true) by decide)] at H; exact H
         clear H
         have H := H1
         clear H1
         exact absurd H (by simp)
      ·replace c33 := Bool.eq_false_iff.mpr c33
       subst c33
       have H1 : (none) = some r := by rw [if_neg (show ¬ (false = true) by decide)] at H; exact H
       clear H
       have H := H1
       clear H1
       exact absurd H (by simp)
     ·replace c30 := Bool.eq_false_iff.mpr c30
      subst c30
      have H1 : (none) = some r := by rw [if_neg (show ¬ (false = true) by decide)] at H; exact H
      clear H
      have H := H1
      clear H1
      exact absurd H (by simp)
   ·replace c26 := Bool.eq_false_iff.mpr c26
    subst c26
    have H1 : (none) = some r := by rw [if_neg (show ¬ (false = true) by decide)] at H; exact H
    clear H
    have H := H1
    clear H1
    exact absurd H (by simp)

end Go.Proofs.Ytjepgnfgalnjhaa.Q
