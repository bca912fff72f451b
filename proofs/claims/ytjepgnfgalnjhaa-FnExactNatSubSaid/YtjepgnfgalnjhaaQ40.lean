/- The machine side of Go functions, written by a program of this session over the print of the translation. No conditions. -/
import Derived.Test.YtjepgnfgalnjhaaSq
import Derived.Test.YtjepgnfgalnjhaaQ0
import Derived.Test.YtjepgnfgalnjhaaQ2
import Derived.Test.YtjepgnfgalnjhaaQ9
import Derived.Test.YtjepgnfgalnjhaaQ21
import Derived.Test.YtjepgnfgalnjhaaQ23
import Derived.Test.YtjepgnfgalnjhaaQ25
import Derived.Test.YtjepgnfgalnjhaaQ34
import Derived.Test.YtjepgnfgalnjhaaQ39
namespace Go.Proofs.Ytjepgnfgalnjhaa.Q
open Go.RowKit Go.Proofs.YtjepgnfgalnjhaaW.PrintWords Go.Proofs.YtjepgnfgalnjhaaW.PrintLast Go.Proofs.YtjepgnfgalnjhaaW.PrintMore
attribute [local go_sem] max2_int min2_int max_two min_two max_three min_three max_four min_four   -- for this text's walks alone
set_option linter.unusedVariables false
set_option linter.unusedSimpArgs false

/-! ### laws_FnExactNatSub: function 5 -/
def laws_FnExactNatSub.f (k : Nat) (l0_0 : List Int) (l1_0 : List Int) : Option (Bool) := (laws_szNat.f l0_0 1048576).bind fun t482 => (if t482 < 0 then (some true) else ((laws_szNat.f l1_0 t482).bind fun t483 => (if t483 < 0 then (some true) else ((laws_toNat.f k l0_0).bind fun t484 => ((laws_toNat.f k l1_0).bind fun t487 => ((spec_NatSub.f k t484 t487).bind fun bt490 => ((laws_toNat.f k l0_0).bind fun t495 => ((laws_toNat.f k l1_0).bind fun t499 => ((impl_NatSub.f k t495 t499).bind fun bt503 => ((laws_eqNat.f k bt503.1 bt490.1).bind fun t508 => (if t508 = true then (if (bt503.2 != bt490.2) = true then (none) else ((laws_toNat.f k l0_0).bind fun t509 => ((laws_eqNat.f k t495 t509).bind fun t512 => (if t512 = true then ((laws_toNat.f k l1_0).bind fun t513 => ((laws_eqNat.f k t499 t513).bind fun t516 => (if t516 = true then ((laws_markNat.f k t495 1).bind fun bt517 => ((laws_markNat.f k t499 bt517.1).bind fun bt519 => (if bt519.1 < 0 then (none) else ((laws_eqNat.f k bt503.1 bt490.1).bind fun t521 => (if t521 = true then ((laws_markNat.f k bt503.1 1).bind fun bt522 => ((laws_heldNat.f k bt522.2 1).bind fun t524 => (if t524 < 0 then (none) else (if t524 = bt522.1 then ((laws_toNat.f k l0_0).bind fun t525 => ((laws_toNat.f k l1_0).bind fun t528 => ((impl_NatSub.f k t525 t528).bind fun bt531 => ((laws_eqNat.f k bt531.1 bt490.1).bind fun t536 => (if t536 = true then (if (bt531.2 != bt490.2) = true then (none) else ((laws_heldNat.f k bt522.2 1).bind fun t537 => (if t537 < 0 then (none) else (if t537 = bt522.1 then (some true) else (none))))) else (none)))))) else (none))))) else (none)))))) else (none)))) else (none))))) else (none))))))))))))
def laws_FnExactNatSub.T8 : Bool × List (List Nat × List Nat) := (true, [([], []), ([0], [0]), ([], []), ([2, 1], [2]), ([1, 3, 3], [1, 3]), ([4], [4]), ([5], [5]), ([5], [5]), ([], []), ([8, 6, 4, 0, 1, 2, 3, 4, 5, 6, 8], [6, 8]), ([7, 9, 0, 1, 2, 3, 4, 5, 6, 7, 8, 9], [7])])
def laws_FnExactNatSub.B8 : List Nat := [0, 1, 0, 7, 15, 31, 63, 63, 0, 383, 1023]
theorem laws_FnExactNatSub.tab8 : rtab .any (opsOf Try.f5 8) = laws_FnExactNatSub.T8 := by kernel_rfl
theorem laws_FnExactNatSub.bits8 : waitsOk laws_FnExactNatSub.T8.2 laws_FnExactNatSub.B8 = true := by kernel_rfl
def laws_FnExactNatSub.T31 : Bool × List (List Nat × List Nat) := (true, [([], []), ([0], [0]), ([], []), ([2, 1], [2]), ([1, 3, 3], [1, 3]), ([4], [4]), ([5], [5]), ([5], [5]), ([], []), ([8, 6, 4, 0, 1, 2, 3, 4, 5, 6, 8], [6, 8]), ([7, 9, 0, 1, 2, 3, 4, 5, 6, 7, 8, 9], [7])])
def laws_FnExactNatSub.B31 : List Nat := [0, 1, 0, 7, 15, 31, 63, 63, 0, 383, 1023]
theorem laws_FnExactNatSub.tab31 : rtab .any (opsOf Try.f5 31) = laws_FnExactNatSub.T31 := by kernel_rfl
theorem laws_FnExactNatSub.bits31 : waitsOk laws_FnExactNatSub.T31.2 laws_FnExactNatSub.B31 = true := by kernel_rfl
set_option maxHeartbeats 8000000 in
set_option maxRecDepth 100000 in
theorem laws_FnExactNatSub.calls (k : Nat) (A0_0 : Option Addr) (c0_0 : Nat) (l0_0 : List Int) (A1_0 : Option Addr) (c1_0 : Nat) (l1_0 : List Int) (r : Bool) (w : World) (hr0_0 : Kd.C (Kd.int .i64) w A0_0 l0_0.length l0_0) (hc0_0 : l0_0.length ≤ c0_0) (hr1_0 : Kd.C (Kd.int .i64) w A1_0 l1_0.length l1_0) (hc1_0 : l1_0.length ≤ c1_0) (h : laws_FnExactNatSub.f k l0_0 l1_0 = some r) :
  Calls Try.prog 5 #[.agg #[.slice A0_0 l0_0.length c0_0], .agg #[.slice A1_0 l1_0.length c1_0]] w fun e w' => e = .returned (.bool r) ∧ Below w.heap.size w w' := by
 have hu24 := Try.underlying24
 have hu26 := Try.underlying26
 have HR0_0 := Aside0.mk hr0_0
 have HC0_0 := Aside0.mk hc0_0
 clear hr0_0 hc0_0
 have HR1_0 := Aside0.mk hr1_0
 have HC1_0 := Aside0.mk hc1_0
 clear hr1_0 hc1_0
 have HB := Sq.m (Below.refl w.heap.size w)
 have H : ((laws_szNat.f l0_0 1048576).bind fun t482 => (if t482 < 0 then (some true) else ((laws_szNat.f l1_0 t482).bind fun t483 => (if t483 < 0 then (some true) else ((laws_toNat.f k l0_0).bind fun t484 => ((laws_toNat.f k l1_0).bind fun t487 => ((spec_NatSub.f k t484 t487).bind fun bt490 => ((laws_toNat.f k l0_0).bind fun t495 => ((laws_toNat.f k l1_0).bind fun t499 => ((impl_NatSub.f k t495 t499).bind fun bt503 => ((laws_eqNat.f k bt503.1 bt490.1).bind fun t508 => (if t508 = true then (if (bt503.2 != bt490.2) = true then (none) else ((laws_toNat.f k l0_0).bind fun t509 => ((laws_eqNat.f k t495 t509).bind fun t512 => (if t512 = true then ((laws_toNat.f k l1_0).bind fun t513 => ((laws_eqNat.f k t499 t513).bind fun t516 => (if t516 = true then ((laws_markNat.f k t495 1).bind fun bt517 => ((laws_markNat.f k t499 bt517.1).bind fun bt519 => (if bt519.1 < 0 then (none) else ((laws_eqNat.f k bt503.1 bt490.1).bind fun t521 => (if t521 = true then ((laws_markNat.f k bt503.1 1).bind fun bt522 => ((laws_heldNat.f k bt522.2 1).bind fun t524 => (if t524 < 0 then (none) else (if t524 = bt522.1 then ((laws_toNat.f k l0_0).bind fun t525 => ((laws_toNat.f k l1_0).bind fun t528 => ((impl_NatSub.f k t525 t528).bind fun bt531 => ((laws_eqNat.f k bt531.1 bt490.1).bind fun t536 => (if t536 = true then (if (bt531.2 != bt490.2) = true then (none) else ((laws_heldNat.f k bt522.2 1).bind fun t537 => (if t537 < 0 then (none) else (if t537 = bt522.1 then (some true) else (none))))) else (none)))))) else (none))))) else (none)))))) else (none)))) else (none))))) else (none))))))))))))) = some r := h
 clear h
 replace H := Option.bind_eq_some_iff.mp H
 obtain ⟨t482, A30, H⟩ := H
 try dsimp only at H
 have A3 := Aside0.mk A30
 clear A30
 by_cases c4 : t482 < 0
 ·rw [if_pos c4] at H
  have c4b0 : decide (t482 < 0) = true := decide_eq_true c4
  clear c4
  obtain rfl := Option.some.inj H
  go_enter Try.func5, Try.ntmps5
  go_wp2_with (first | ((with_reducible refine gate_dst (N := 2) rfl ?_); refine box_event ?hg (N := 2) ?hd (cs := #[.slice A0_0 l0_0.length c0_0]) (t := 24) ?hr ?_; (case hd => rfl); (case hg => rfl); (case hr => first | (go_simp; done) | (go_simp; rfl)); intro gb480 hg w5 hbox hb; have n0_ := Sq.m (below_step (by repeat (first | (with_reducible first | exact HB.out | apply Sq.rc) | exact HB.out)) hb); have n1_ := Sq.m (hbox); have n2_ := Sq.m ((by rw [hg]; exact (below_size (by repeat (first | (with_reducible first | exact HB.out | apply Sq.rc) | exact HB.out))) : w.heap.size ≤ gb480)); have n3_ := Sq.m ((by rw [hg]; exact (below_size (by repeat (first | (with_reducible first | exact HB.out | apply Sq.rc) | exact HB.out))) : w.heap.size ≤ gb480)); clear HB; have HB := n0_; have BK480 := n1_; have GW480 := n2_; have GE480 := n3_; clear n0_ n1_ n2_ n3_; clear hb hbox hg) | ((with_reducible refine gate_dst (N := 3) rfl ?_); refine box_event ?hg (N := 3) ?hd (cs := #[.slice A1_0 l1_0.length c1_0]) (t := 24) ?hr ?_; (case hd => rfl); (case hg => rfl); (case hr => first | (go_simp; done) | (go_simp; rfl)); intro gb481 hg w6 hbox hb; have n0_ := Sq.m (blk_below (g := gb480) (o := .cells #[.slice A0_0 l0_0.length c0_0] 24 (0, 0)) (by apply Sq.rb; exact BK480.out) hb); have n1_ := Sq.m (below_step (by repeat (first | (with_reducible first | exact HB.out | apply Sq.rc | refine below_set ?_ GE480.out) | exact HB.out)) hb); have n2_ := Sq.m (hbox); have n3_ := Sq.m ((by rw [hg]; exact (below_size (by repeat (first | (with_reducible first | exact HB.out | apply Sq.rc | refine below_set ?_ GE480.out) | exact HB.out))) : w.heap.size ≤ gb481)); have n4_ := Sq.m ((by rw [hg]; exact (below_size (by repeat (first | (with_reducible first | exact HB.out | apply Sq.rc | refine below_set ?_ GE480.out) | exact HB.out))) : w.heap.size ≤ gb481)); have n5_ := Sq.m ((by rw [hg]; exact Nat.ne_of_lt (blk_lt (g := gb480) (o := .cells #[.slice A0_0 l0_0.length c0_0] 24 (0, 0)) (by apply Sq.rb; exact BK480.out)) : gb480 ≠ gb481)); have n6_ := Sq.m ((by rw [hg]; exact Nat.ne_of_gt (blk_lt (g := gb480) (o := .cells #[.slice A0_0 l0_0.length c0_0] 24 (0, 0)) (by apply Sq.rb; exact BK480.out)) : gb481 ≠ gb480)); clear BK480; clear HB; have BK480 := n0_; have HB := n1_; have BK481 := n2_; have GW481 := n3_; have GE481 := n4_; have NB480_481 := n5_; have NB481_480 := n6_; clear n0_ n1_ n2_ n3_ n4_ n5_ n6_; clear hb hbox hg; have hnb7 := NB480_481.out; have hnc7 := NB481_480.out; have hcz8_0 : w6.cell? ⟨gb480, 0, none⟩ = some (.slice A0_0 l0_0.length c0_0) := (blk_cell BK480.out 0).trans rfl; have hfz8_0 := blk_frozen BK480.out 0) | ((with_reducible refine gate_callee (f := 15) rfl ?_); refine goesL_ (some 19) rfl rfl Try.func15 (by kernel_rfl) rfl #[.agg #[.slice A0_0 l0_0.length c0_0], .int .i64 1048576] rfl (by (try simp only [List.map_toArray, List.map_cons, List.map_nil]); first | done | rfl | (simp only [List.length_drop, List.length_take]; rfl) | (simp only [i64_w, u8_w, w64_b]; rfl)) ?_; (with_reducible refine (laws_szNat.calls _ _ l0_0 1048576 t482 _ ?side1 ?side2 A3.out).mono ?_); (case side1 => repeat (first | exact (Kd.C_below HR0_0.out HB.out) | (with_reducible refine Kd.C_alloc ?_ _) | (with_reducible refine Kd.C_drewN ?_ _) | (with_reducible refine Kd.C_drew ?_))); (case side2 => exact HC0_0.out); rintro e w9 ⟨rfl, hb⟩; refine ⟨_, rfl, ?_⟩; have n0_ := Sq.m (blk_below (g := gb480) (o := .cells #[.slice A0_0 l0_0.length c0_0] 24 (0, 0)) (by apply Sq.rb; exact BK480.out) hb); have n1_ := Sq.m (blk_below (g := gb481) (o := .cells #[.slice A1_0 l1_0.length c1_0] 24 (0, 0)) (by apply Sq.rb; exact BK481.out) hb); have n2_ := Sq.m (below_step (by repeat (first | (with_reducible first | exact HB.out | apply Sq.rc | refine below_set ?_ GE480.out | refine below_set ?_ GE481.out) | exact HB.out)) hb); clear BK480; clear BK481; clear HB; have BK480 := n0_; have BK481 := n1_; have HB := n2_; clear n0_ n1_ n2_; (try clear hb); (try clear hb2); (try clear hk); (try clear hi)))
  go_ret
  exact ⟨by first | rfl | (simp [errW_none, errW_some] <;> rfl) | (simp [*, errW_none, errW_some] <;> rfl), by repeat (first | (with_reducible first | exact HB.out | apply Sq.rc | refine below_set ?_ GE480.out | refine below_set ?_ GE481.out) | exact HB.out)⟩
 ·rw [if_neg c4] at H
  have c4b0 : decide (t482 < 0) = false := decide_eq_false c4
  clear c4
  replace H := Option.bind_eq_some_iff.mp H
  obtain ⟨t483, A100, H⟩ := H
  try dsimp only at H
  have A10 := Aside0.mk A100
  clear A100
  by_cases c11 : t483 < 0
  ·rw [if_pos c11] at H
   have c11b0 : decide (t483 < 0) = true := decide_eq_true c11
   clear c11
   obtain rfl := Option.some.inj H
   go_enter Try.func5, Try.ntmps5
   go_wp2_with (first | ((with_reducible refine gate_dst (N := 2) rfl ?_); refine box_event ?hg (N := 2) ?hd (cs := #[.slice A0_0 l0_0.length c0_0]) (t := 24) ?hr ?_; (case hd => rfl); (case hg => rfl); (case hr => first | (go_simp; done) | (go_simp; rfl)); intro gb480 hg w12 hbox hb; have n0_ := Sq.m (below_step (by repeat (first | (with_reducible first | exact HB.out | apply Sq.rc) | exact HB.out)) hb); have n1_ := Sq.m (hbox); have n2_ := Sq.m ((by rw [hg]; exact (below_size (by repeat (first | (with_reducible first | exact HB.out | apply Sq.rc) | exact HB.out))) : w.heap.size ≤ gb480)); have n3_ := Sq.m ((by rw [hg]; exact (below_size (by repeat (first | (with_reducible first | exact HB.out | apply Sq.rc) | exact HB.out))) : w.heap.size ≤ gb480)); clear HB; have HB := n0_; have BK480 := n1_; have GW480 := n2_; have GE480 := n3_; clear n0_ n1_ n2_ n3_; clear hb hbox hg) | ((with_reducible refine gate_dst (N := 3) rfl ?_); refine box_event ?hg (N := 3) ?hd (cs := #[.slice A1_0 l1_0.length c1_0]) (t := 24) ?hr ?_; (case hd => rfl); (case hg => rfl); (case hr => first | (go_simp; done) | (go_simp; rfl)); intro gb481 hg w13 hbox hb; have n0_ := Sq.m (blk_below (g := gb480) (o := .cells #[.slice A0_0 l0_0.length c0_0] 24 (0, 0)) (by apply Sq.rb; exact BK480.out) hb); have n1_ := Sq.m (below_step (by repeat (first | (with_reducible first | exact HB.out | apply Sq.rc | refine below_set ?_ GE480.out) | exact HB.out)) hb); have n2_ := Sq.m (hbox); have n3_ := Sq.m ((by rw [hg]; exact (below_size (by repeat (first | (with_reducible first | exact HB.out | apply Sq.rc | refine below_set ?_ GE480.out) | exact HB.out))) : w.heap.size ≤ gb481)); have n4_ := Sq.m ((by rw [hg]; exact (below_size (by repeat (first | (with_reducible first | exact HB.out | apply Sq.rc | refine below_set ?_ GE480.out) | exact HB.out))) : w.heap.size ≤ gb481)); have n5_ := Sq.m ((by rw [hg]; exact Nat.ne_of_lt (blk_lt (g := gb480) (o := .cells #[.slice A0_0 l0_0.length c0_0] 24 (0, 0)) (by apply Sq.rb; exact BK480.out)) : gb480 ≠ gb481)); have n6_ := Sq.m ((by rw [hg]; exact Nat.ne_of_gt (blk_lt (g := gb480) (o := .cells #[.slice A0_0 l0_0.length c0_0] 24 (0, 0)) (by apply Sq.rb; exact BK480.out)) : gb481 ≠ gb480)); clear BK480; clear HB; have BK480 := n0_; have HB := n1_; have BK481 := n2_; have GW481 := n3_; have GE481 := n4_; have NB480_481 := n5_; have NB481_480 := n6_; clear n0_ n1_ n2_ n3_ n4_ n5_ n6_; clear hb hbox hg; have hnb14 := NB480_481.out; have hnc14 := NB481_480.out; have hcz15_0 : w13.cell? ⟨gb480, 0, none⟩ = some (.slice A0_0 l0_0.length c0_0) := (blk_cell BK480.out 0).trans rfl; have hfz15_0 := blk_frozen BK480.out 0) | ((with_reducible refine gate_callee (f := 15) rfl ?_); refine goesL_ (some 19) rfl rfl Try.func15 (by kernel_rfl) rfl #[.agg #[.slice A0_0 l0_0.length c0_0], .int .i64 1048576] rfl (by (try simp only [List.map_toArray, List.map_cons, List.map_nil]); first | done | rfl | (simp only [List.length_drop, List.length_take]; rfl) | (simp only [i64_w, u8_w, w64_b]; rfl)) ?_; (with_reducible refine (laws_szNat.calls _ _ l0_0 1048576 t482 _ ?side1 ?side2 A3.out).mono ?_); (case side1 => repeat (first | exact (Kd.C_below HR0_0.out HB.out) | (with_reducible refine Kd.C_alloc ?_ _) | (with_reducible refine Kd.C_drewN ?_ _) | (with_reducible refine Kd.C_drew ?_))); (case side2 => exact HC0_0.out); rintro e w16 ⟨rfl, hb⟩; refine ⟨_, rfl, ?_⟩; have n0_ := Sq.m (blk_below (g := gb480) (o := .cells #[.slice A0_0 l0_0.length c0_0] 24 (0, 0)) (by apply Sq.rb; exact BK480.out) hb); have n1_ := Sq.m (blk_below (g := gb481) (o := .cells #[.slice A1_0 l1_0.length c1_0] 24 (0, 0)) (by apply Sq.rb; exact BK481.out) hb); have n2_ := Sq.m (below_step (by repeat (first | (with_reducible first | exact HB.out | apply Sq.rc | refine below_set ?_ GE480.out | refine below_set ?_ GE481.out) | exact HB.out)) hb); clear BK480; clear BK481; clear HB; have BK480 := n0_; have BK481 := n1_; have HB := n2_; clear n0_ n1_ n2_; (try clear hb); (try clear hb2); (try clear hk); (try clear hi); have hcz17_0 : w16.cell? ⟨gb481, 0, none⟩ = some (.slice A1_0 l1_0.length c1_0) := (blk_cell BK481.out 0).trans rfl; have hfz17_0 := blk_frozen BK481.out 0) | ((with_reducible refine gate_callee (f := 15) rfl ?_); refine goesL_ (some 24) rfl rfl Try.func15 (by kernel_rfl) rfl #[.agg #[.slice A1_0 l1_0.length c1_0], .int .i64 t482] rfl (by (try simp only [List.map_toArray, List.map_cons, List.map_nil]); first | done | rfl | (simp only [List.length_drop, List.length_take]; rfl) | (simp only [i64_w, u8_w, w64_b]; rfl)) ?_; (with_reducible refine (laws_szNat.calls _ _ l1_0 t482 t483 _ ?side1 ?side2 A10.out).mono ?_); (case side1 => repeat (first | exact (Kd.C_below HR1_0.out HB.out) | (with_reducible refine Kd.C_alloc ?_ _) | (with_reducible refine Kd.C_drewN ?_ _) | (with_reducible refine Kd.C_drew ?_))); (case side2 => exact HC1_0.out); rintro e w18 ⟨rfl, hb⟩; refine ⟨_, rfl, ?_⟩; have n0_ := Sq.m (blk_below (g := gb480) (o := .cells #[.slice A0_0 l0_0.length c0_0] 24 (0, 0)) (by apply Sq.rb; exact BK480.out) hb); have n1_ := Sq.m (blk_below (g := gb481) (o := .cells #[.slice A1_0 l1_0.length c1_0] 24 (0, 0)) (by apply Sq.rb; exact BK481.out) hb); have n2_ := Sq.m (below_step (by repeat (first | (with_reducible first | exact HB.out | apply Sq.rc | refine below_set ?_ GE480.out | refine below_set ?_ GE481.out) | exact HB.out)) hb); clear BK480; clear BK481; clear HB; have BK480 := n0_; have BK481 := n1_; have HB := n2_; clear n0_ n1_ n2_; (try clear hb); (try clear hb2); (try clear hk); (try clear hi)))
   go_ret
   exact ⟨by first | rfl | (simp [errW_none, errW_some] <;> rfl) | (simp [*, errW_none, errW_some] <;> rfl), by repeat (first | (with_reducible first | exact HB.out | apply Sq.rc | refine below_set ?_ GE480.out | refine below_set ?_ GE481.out) | exact HB.out)⟩
  ·rw [if_neg c11] at H
   have c11b0 : decide (t483 < 0) = false := decide_eq_false c11
   clear c11
   replace H := Option.bind_eq_some_iff.mp H
   obtain ⟨t484, A190, H⟩ := H
   try dsimp only at H
   have A19 := Aside0.mk A190
   clear A190
   replace H := Option.bind_eq_some_iff.mp H
   obtain ⟨t487, A200, H⟩ := H
   try dsimp only at H
   have A20 := Aside0.mk A200
   clear A200
   replace H := Option.bind_eq_some_iff.mp H
   obtain ⟨⟨t490, t493⟩, A210, H⟩ := H
   try dsimp only at H
   have A21 := Aside0.mk A210
   clear A210
   replace H := Option.bind_eq_some_iff.mp H
   obtain ⟨t495, A220, H⟩ := H
   try dsimp only at H
   have A22 := Aside0.mk A220
   clear A220
   replace H := Option.bind_eq_some_iff.mp H
   obtain ⟨t499, A230, H⟩ := H
   try dsimp only at H
   have A23 := Aside0.mk A230
   clear A230
   replace H := Option.bind_eq_some_iff.mp H
   obtain ⟨⟨t503, t506⟩, A240, H⟩ := H
   try dsimp only at H
   have A24 := Aside0.mk A240
   clear A240
   replace H := Option.bind_eq_some_iff.mp H
   obtain ⟨t508, A250, H⟩ := H
   try dsimp only at H
   have A25 := Aside0.mk A250
   clear A250
   by_cases c26 : t508 = true
   ·subst c26
    have H1 : (if (t506 != t493) = true then (none) else ((laws_toNat.f k l0_0).bind fun t509 => ((laws_eqNat.f k t495 t509).bind fun t512 => (if t512 = true then ((laws_toNat.f k l1_0).bind fun t513 => ((laws_eqNat.f k t499 t513).bind fun t516 => (if t516 = true then ((laws_markNat.f k t495 1).bind fun bt517 => ((laws_markNat.f k t499 bt517.1).bind fun bt519 => (if bt519.1 < 0 then (none) else ((laws_eqNat.f k t503 t490).bind fun t521 => (if t521 = true then ((laws_markNat.f k t503 1).bind fun bt522 => ((laws_heldNat.f k bt522.2 1).bind fun t524 => (if t524 < 0 then (none) else (if t524 = bt522.1 then ((laws_toNat.f k l0_0).bind fun t525 => ((laws_toNat.f k l1_0).bind fun t528 => ((impl_NatSub.f k t525 t528).bind fun bt531 => ((laws_eqNat.f k bt531.1 t490).bind fun t536 => (if t536 = true then (if (bt531.2 != t493) = true then (none) else ((laws_heldNat.f k bt522.2 1).bind fun t537 => (if t537 < 0 then (none) else (if t537 = bt522.1 then (some true) else (none))))) else (none)))))) else (none))))) else (none)))))) else (none)))) else (none))))) = some r := by rw [if_pos rfl] at H; exact H
    clear H
    have H := H1
    clear H1
    by_cases c27 : (t506 != t493) = true
    ·rw [if_pos c27] at H
     exact absurd H (by simp)
    ·rw [if_neg c27] at H
     have c27b0 : (t506 != t493) = false := by simpa using c27
     (try (have c27b1 : decide (t506 = t493) = true := by simpa using c27))
     (try (have c27b2 : (t506 == t493) = true := by simpa using c27))
     clear c27
     replace H := Option.bind_eq_some_iff.mp H
     obtain ⟨t509, A280, H⟩ := H
     try dsimp only at H
     have A28 := Aside0.mk A280
     clear A280
     replace H := Option.bind_eq_some_iff.mp H
     obtain ⟨t512, A290, H⟩ := H
     try dsimp only at H
     have A29 := Aside0.mk A290
     clear A290
     by_cases c30 : t512 = true
     ·subst c30
      have H1 : ((laws_toNat.f k l1_0).bind fun t513 => ((laws_eqNat.f k t499 t513).bind fun t516 => (if t516 = true then ((laws_markNat.f k t495 1).bind fun bt517 => ((laws_markNat.f k t499 bt517.1).bind fun bt519 => (if bt519.1 < 0 then (none) else ((laws_eqNat.f k t503 t490).bind fun t521 => (if t521 = true then ((laws_markNat.f k t503 1).bind fun bt522 => ((laws_heldNat.f k bt522.2 1).bind fun t524 => (if t524 < 0 then (none) else (if t524 = bt522.1 then ((laws_toNat.f k l0_0).bind fun t525 => ((laws_toNat.f k l1_0).bind fun t528 => ((impl_NatSub.f k t525 t528).bind fun bt531 => ((laws_eqNat.f k bt531.1 t490).bind fun t536 => (if t536 = true then (if (bt531.2 != t493) = true then (none) else ((laws_heldNat.f k bt522.2 1).bind fun t537 => (if t537 < 0 then (none) else (if t537 = bt522.1 then (some true) else (none))))) else (none)))))) else (none))))) else (none)))))) else (none)))) = some r := by rw [if_pos rfl] at H; exact H
      clear H
      have H := H1
      clear H1
      replace H := Option.bind_eq_some_iff.mp H
      obtain ⟨t513, A310, H⟩ := H
      try dsimp only at H
      have A31 := Aside0.mk A310
      clear A310
      replace H := Option.bind_eq_some_iff.mp H
      obtain ⟨t516, A320, H⟩ := H
      try dsimp only at H
      have A32 := Aside0.mk A320
      clear A320
      by_cases c33 : t516 = true
      ·subst c33
       have H1 : ((laws_markNat.f k t495 1).bind fun bt517 => ((laws_markNat.f k t499 bt517.1).bind fun bt519 => (if bt519.1 < 0 then (none) else ((laws_eqNat.f k t503 t490).bind fun t521 => (if t521 = true then ((laws_markNat.f k t503 1).bind fun bt522 => ((laws_heldNat.f k bt522.2 1).bind fun t524 => (if t524 < 0 then (none) else (if t524 = bt522.1 then ((laws_toNat.f k l0_0).bind fun t525 => ((laws_toNat.f k l1_0).bind fun t528 => ((impl_NatSub.f k t525 t528).bind fun bt531 => ((laws_eqNat.f k bt531.1 t490).bind fun t536 => (if t536 = true then (if (bt531.2 != t493) = true then (none) else ((laws_heldNat.f k bt522.2 1).bind fun t537 => (if t537 < 0 then (none) else (if t537 = bt522.1 then (some true) else (none))))) else (none)))))) else (none))))) else (none)))))) = some r := by rw [if_pos rfl] at H; exact H
       clear H
       have H := H1
       clear H1
       replace H := Option.bind_eq_some_iff.mp H
       obtain ⟨⟨t517, t518⟩, A340, H⟩ := H
       try dsimp only at H
       have A34 := Aside0.mk A340
       clear A340
       replace H := Option.bind_eq_some_iff.mp H
       obtain ⟨⟨t519, t520⟩, A350, H⟩ := H
       try dsimp only at H
       have A35 := Aside0.mk A350
       clear A350
       by_cases c36 : t519 < 0
       ·rw [if_pos c36] at H
        exact absurd H (by simp)
       ·rw [if_neg c36] at H
        have c36b0 : decide (t519 < 0) = false := decide_eq_false c36
        clear c36
        replace H := Option.bind_eq_some_iff.mp H
        obtain ⟨t521, A370, H⟩ := H
        try dsimp only at H
        have A37 := Aside0.mk A370
        clear A370
        by_cases c38 : t521 = true
        ·subst c38
         have H1 : ((laws_markNat.f k t503 1).bind fun bt522 => ((laws_heldNat.f k bt522.2 1).bind fun t524 => (if t524 < 0 then (none) else (if t524 = bt522.1 then ((laws_toNat.f k l0_0).bind fun t525 => ((laws_toNat.f k l1_0).bind fun t528 => ((impl_NatSub.f k t525 t528).bind fun bt531 => ((laws_eqNat.f k bt531.1 t490).bind fun t536 => (if t536 = true then (if (bt531.2 != t493) = true then (none) else ((laws_heldNat.f k bt522.2 1).bind fun t537 => (if t537 < 0 then (none) else (if t537 = bt522.1 then (some true) else (none))))) else (none)))))) else (none))))) = some r := by rw [if_pos rfl] at H; exact H
         clear H
         have H := H1
         clear H1
         replace H := Option.bind_eq_some_iff.mp H
         obtain ⟨⟨t522, t523⟩, A390, H⟩ := H
         try dsimp only at H
         have A39 := Aside0.mk A390
         clear A390
         replace H := Option.bind_eq_some_iff.mp H
         obtain ⟨t524, A400, H⟩ := H
         try dsimp only at H
         have A40 := Aside0.mk A400
         clear A400
         by_cases c41 : t524 < 0
         ·rw [if_pos c41] at H
          exact absurd H (by simp)
         ·rw [if_neg c41] at H
          have c41b0 : decide (t524 < 0) = false := decide_eq_false c41
          clear c41
          by_cases c42 : t524 = t522
          ·rw [if_pos c42] at H
           have c42b0 : (t524 == t522) = true := beq_iff_eq.mpr c42
           have c42b1 : (t524 != t522) = false := bne_eq_false_iff_eq.mpr c42
           clear c42
           replace H := Option.bind_eq_some_iff.mp H
           obtain ⟨t525, A430, H⟩ := H
           try dsimp only at H
           have A43 := Aside0.mk A430
           clear A430
           replace H := Option.bind_eq_some_iff.mp H
           obtain ⟨t528, A440, H⟩ := H
           try dsimp only at H
           have A44 := Aside0.mk A440
           clear A440
           replace H := Option.bind_eq_some_iff.mp H
           obtain ⟨⟨t531, t534⟩, A450, H⟩ := H
           try dsimp only at H
           have A45 := Aside0.mk A450
           clear A450
           replace H := Option.bind_eq_some_iff.mp H
           obtain ⟨t536, A460, H⟩ := H
           try dsimp only at H
           have A46 := Aside0.mk A460
           clear A460
           by_cases c47 : t536 = true
           ·subst c47
            have H1 : (if (t534 != t493) = true then (none) else ((laws_heldNat.f k t523 1).bind fun t537 => (if t537 < 0 then (none) else (if t537 = t522 then (some true) else (none))))) = some r := by rw [if_pos rfl] at H; exact H
            clear H
            have H := H1
            clear H1
            by_cases c48 : (t534 != t493) = true
            ·rw [if_pos c48] at H
             exact absurd H (by simp)
            ·rw [if_neg c48] at H
             have c48b0 : (t534 != t493) = false := by simpa using c48
             (try (have c48b1 : decide (t534 = t493) = true := by simpa using c48))
             (try (have c48b2 : (t534 == t493) = true := by simpa using c48))
             clear c48
             replace H := Option.bind_eq_some_iff.mp H
             obtain ⟨t537, A490, H⟩ := H
             try dsimp only at H
             have A49 := Aside0.mk A490
             clear A490
             by_cases c50 : t537 < 0
             ·rw [if_pos c50] at H
              exact absurd H (by simp)
             ·rw [if_neg c50] at H
              have c50b0 : decide (t537 < 0) = false := decide_eq_false c50
              clear c50
              by_cases c51 : t537 = t522
              ·rw [if_pos c51] at H
               have c51b0 : (t537 == t522) = true := beq_iff_eq.mpr c51
               have c51b1 : (t537 != t522) = false := bne_eq_false_iff_eq.mpr c51
               clear c51
               obtain rfl := Option.some.inj H
               go_enter Try.func5, Try.ntmps5
               try go_wp2_with (first | ((with_reducible refine gate_dst (N := 2) rfl ?_); refine box_event ?hg (N := 2) ?hd (cs := #[.slice A0_0 l0_0.length c0_0]) (t := 24) ?hr ?_; (case hd => rfl); (case hg => rfl); (case hr => first | (go_simp; done) | (go_simp; rfl)); intro gb480 hg w52 hbox hb; have n0_ := Sq.m (below_step (by repeat (first | (with_reducible first | exact HB.out | apply Sq.rc) | exact HB.out)) hb); have n1_ := Sq.m (hbox); have n2_ := Sq.m ((by rw [hg]; exact (below_size (by repeat (first | (with_reducible first | exact HB.out | apply Sq.rc) | exact HB.out))) : w.heap.size ≤ gb480)); have n3_ := Sq.m ((by rw [hg]; exact (below_size (by repeat (first | (with_reducible first | exact HB.out | apply Sq.rc) | exact HB.out))) : w.heap.size ≤ gb480)); clear HB; have HB := n0_; have BK480 := n1_; have GW480 := n2_; have GE480 := n3_; clear n0_ n1_ n2_ n3_; clear hb hbox hg) | ((with_reducible refine gate_dst (N := 3) rfl ?_); refine box_event ?hg (N := 3) ?hd (cs := #[.slice A1_0 l1_0.length c1_0]) (t := 24) ?hr ?_; (case hd => rfl); (case hg => rfl); (case hr => first | (go_simp; done) | (go_simp; rfl)); intro gb481 hg w53 hbox hb; have n0_ := Sq.m (blk_below (g := gb480) (o := .cells #[.slice A0_0 l0_0.length c0_0] 24 (0, 0)) (by apply Sq.rb; exact BK480.out) hb); have n1_ := Sq.m (below_step (by repeat (first | (with_reducible first | exact HB.out | apply Sq.rc | refine below_set ?_ GE480.out) | exact HB.out)) hb); have n2_ := Sq.m (hbox); have n3_ := Sq.m ((by rw [hg]; exact (below_size (by repeat (first | (with_reducible first | exact HB.out | apply Sq.rc | refine below_set ?_ GE480.out) | exact HB.out))) : w.heap.size ≤ gb481)); have n4_ := Sq.m ((by rw [hg]; exact (below_size (by repeat (first | (with_reducible first | exact HB.out | apply Sq.rc | refine below_set ?_ GE480.out) | exact HB.out))) : w.heap.size ≤ gb481)); have n5_ := Sq.m ((by rw [hg]; exact Nat.ne_of_lt (blk_lt (g := gb480) (o := .cells #[.slice A0_0 l0_0.length c0_0] 24 (0, 0)) (by apply Sq.rb; exact BK480.out)) : gb480 ≠ gb481)); have n6_ := Sq.m ((by rw [hg]; exact Nat.ne_of_gt (blk_lt (g := gb480) (o := .cells #[.slice A0_0 l0_0.length c0_0] 24 (0, 0)) (by apply Sq.rb; exact BK480.out)) : gb481 ≠ gb480)); clear BK480; clear HB; have BK480 := n0_; have HB := n1_; have BK481 := n2_; have GW481 := n3_; have GE481 := n4_; have NB480_481 := n5_; have NB481_480 := n6_; clear n0_ n1_ n2_ n3_ n4_ n5_ n6_; clear hb hbox hg; have hnb54 := NB480_481.out; have hnc54 := NB481_480.out; have hcz55_0 : w53.cell? ⟨gb480, 0, none⟩ = some (.slice A0_0 l0_0.length c0_0) := (blk_cell BK480.out 0).trans rfl; have hfz55_0 := blk_frozen BK480.out 0) | ((with_reducible refine gate_callee (f := 15) rfl ?_); refine goesL_ (some 19) rfl rfl Try.func15 (by kernel_rfl) rfl #[.agg #[.slice A0_0 l0_0.length c0_0], .int .i64 1048576] rfl (by (try simp only [List.map_toArray, List.map_cons, List.map_nil]); first | done | rfl | (simp only [List.length_drop, List.length_take]; rfl) | (simp only [i64_w, u8_w, w64_b]; rfl)) ?_; (with_reducible refine (laws_szNat.calls _ _ l0_0 1048576 t482 _ ?side1 ?side2 A3.out).mono ?_); (case side1 => repeat (first | exact (Kd.C_below HR0_0.out HB.out) | (with_reducible refine Kd.C_alloc ?_ _) | (with_reducible refine Kd.C_drewN ?_ _) | (with_reducible refine Kd.C_drew ?_))); (case side2 => exact HC0_0.out); rintro e w56 ⟨rfl, hb⟩; refine ⟨_, rfl, ?_⟩; have n0_ := Sq.m (blk_below (g := gb480) (o := .cells #[.slice A0_0 l0_0.length c0_0] 24 (0, 0)) (by apply Sq.rb; exact BK480.out) hb); have n1_ := Sq.m (blk_below (g := gb481) (o := .cells #[.slice A1_0 l1_0.length c1_0] 24 (0, 0)) (by apply Sq.rb; exact BK481.out) hb); have n2_ := Sq.m (below_step (by repeat (first | (with_reducible first | exact HB.out | apply Sq.rc | refine below_set ?_ GE480.out | refine below_set ?_ GE481.out) | exact HB.out)) hb); clear BK480; clear BK481; clear HB; have BK480 := n0_; have BK481 := n1_; have HB := n2_; clear n0_ n1_ n2_; (try clear hb); (try clear hb2); (try clear hk); (try clear hi); have hcz57_0 : w56.cell? ⟨gb481, 0, none⟩ = some (.slice A1_0 l1_0.length c1_0) := (blk_cell BK481.out 0).trans rfl; have hfz57_0 := blk_frozen BK481.out 0) | ((with_reducible refine gate_callee (f := 15) rfl ?_); refine goesL_ (some 24) rfl rfl Try.func15 (by kernel_rfl) rfl #[.agg #[.slice A1_0 l1_0.length c1_0], .int .i64 t482] rfl (by (try simp only [List.map_toArray, List.map_cons, List.map_nil]); first | done | rfl | (simp only [List.length_drop, List.length_take]; rfl) | (simp only [i64_w, u8_w, w64_b]; rfl)) ?_; (with_reducible refine (laws_szNat.calls _ _ l1_0 t482 t483 _ ?side1 ?side2 A10.out).mono ?_); (case side1 => repeat (first | exact (Kd.C_below HR1_0.out HB.out) | (with_reducible refine Kd.C_alloc ?_ _) | (with_reducible refine Kd.C_drewN ?_ _) | (with_reducible refine Kd.C_drew ?_))); (case side2 => exact HC1_0.out); rintro e w58 ⟨rfl, hb⟩; refine ⟨_, rfl, ?_⟩; have n0_ := Sq.m (blk_below (g := gb480) (o := .cells #[.slice A0_0 l0_0.length c0_0] 24 (0, 0)) (by apply Sq.rb; exact BK480.out) hb); have n1_ := Sq.m (blk_below (g := gb481) (o := .cells #[.slice A1_0 l1_0.length c1_0] 24 (0, 0)) (by apply Sq.rb; exact BK481.out) hb); have n2_ := Sq.m (below_step (by repeat (first | (with_reducible first | exact HB.out | apply Sq.rc | refine below_set ?_ GE480.out | refine below_set ?_ GE481.out) | exact HB.out)) hb); clear BK480; clear BK481; clear HB; have BK480 := n0_; have BK481 := n1_; have HB := n2_; clear n0_ n1_ n2_; (try clear hb); (try clear hb2); (try clear hk); (try clear hi)))
               have n0_ := Sq.m (blk_drew BK480.out)
               have n1_ := Sq.m (blk_drew BK481.out)
               have n2_ := Sq.m (below_drew1 HB.out)
               clear BK480
               clear BK481
               clear HB
               have BK480 := n0_
               have BK481 := n1_
               have HB := n2_
               clear n0_ n1_ n2_
               refine start_ (n := 11) (S := fun w' => True) (ds := []) #[false, false, false, false, false, false, false, false, false, false, false] (by kernel_rfl) rfl rfl trivial (fun hHeld => ?_); refine with_tabW laws_FnExactNatSub.tab8 laws_FnExactNatSub.bits8 (fun HT_ HW_ => ?_)
               generalize w58.drew = w59 at BK480 BK481 HB hHeld ⊢
               refine inv_at [0, 1, 2, 3, 4, 5, 6, 7, 8, 9, 10] (fun a0_ b a w' => ∃ (v485 : Value) (v488 : Value) (v491 : Value) (gb494 : Nat) (m1_ : Value) (m3_ : Value) (m4_ : Value) (m5_ : Value) (m6_ : Value) (m8_ : Value), a = putSel a0_ b [(0, 28, .agg #[.slice A0_0 l0_0.length c0_0]), (1, 29, m1_), (2, 30, .agg #[.slice A1_0 l1_0.length c1_0]), (3, 31, m3_), (4, 32, m4_), (5, 27, m5_), (6, 33, m6_), (7, 34, .bool t493), (8, 6, m8_), (10, 7, .bool t493)] ∧ (w'.heap[gb480]? = some (.cells #[.slice A0_0 l0_0.length c0_0] 24 (0, 0))) ∧ (w'.heap[gb481]? = some (.cells #[.slice A1_0 l1_0.length c1_0] 24 (0, 0))) ∧ (Below w.heap.size w w') ∧ (b 1 = true → Kd.R (Kd.int .i64) 3 w' w.heap.size (fun _ => True) v485 t484) ∧ (b 3 = true → Kd.R (Kd.int .i64) 3 w' w.heap.size (fun _ => True) v488 t487) ∧ (b 4 = true → Kd.R (Kd.int .i64) 3 w' w.heap.size (fun _ => True) v491 t490) ∧ (b 8 = true → b 9 = false → w'.heap[gb494]? = some (.cells #[.slice none 0 0] 26 (0, 0))) ∧ (b 8 = true → w.heap.size ≤ gb494) ∧ (b 8 = true → w.heap.size ≤ gb494) ∧ (b 8 = true → gb480 ≠ gb494) ∧ (b 8 = true → gb494 ≠ gb480) ∧ (b 8 = true → gb481 ≠ gb494) ∧ (b 8 = true → gb494 ≠ gb481) ∧ (b 9 = true → w'.heap[gb494]? = some (.cells #[v491] 26 (0, 0))) ∧ (b 1 = true → (m1_ : Value) = .agg #[v485]) ∧ (b 3 = true → (m3_ : Value) = .agg #[v488]) ∧ (b 4 = true → (m4_ : Value) = .tuple #[.agg #[v491], .bool t493]) ∧ (b 5 = true → (m5_ : Value) = .tuple #[.agg #[v491], .bool t493]) ∧ (b 6 = true → (m6_ : Value) = .agg #[v491]) ∧ (b 8 = true → (m8_ : Value) = .pointer (some ⟨gb494, 0, none⟩))) HT_.out HW_.out (by kernel_rfl) (by kernel_rfl) ?_ ?_ ?_
               ·exact ⟨.bool false, .bool false, .bool false, 0, .bool false, .bool false, .bool false, .bool false, .bool false, .bool false, by simp only [putSel, Bool.false_eq_true, if_false], BK480.out, BK481.out, HB.out, fun h_ => absurd h_ (by decide), fun h_ => absurd h_ (by decide), fun h_ => absurd h_ (by decide), fun h_ => absurd h_ (by decide), fun h_ => absurd h_ (by decide), fun h_ => absurd h_ (by decide), fun h_ => absurd h_ (by decide), fun h_ => absurd h_ (by decide), fun h_ => absurd h_ (by decide), fun h_ => absurd h_ (by decide), fun h_ => absurd h_ (by decide), fun h_ => absurd h_ (by decide), fun h_ => absurd h_ (by decide), fun h_ => absurd h_ (by decide), fun h_ => absurd h_ (by decide), fun h_ => absurd h_ (by decide), fun h_ => absurd h_ (by decide)⟩
               ·skip
                clear BK480 BK481 HB
                refine steps_cons ?_ ?_
                ·rintro b a w' ⟨v485, v488, v491, gb494, m1_, m3_, m4_, m5_, m6_, m8_, ha, Q_BK480, Q_BK481, Q_HB, Q_HO486, Q_HO489, Q_HO492, Q_BK494, Q_GW494, Q_GE494, Q_NB480_494, Q_NB494_480, Q_NB481_494, Q_NB494_481, Q_BK494_e9, Q_X1_, Q_X3_, Q_X4_, Q_X5_, Q_X6_, Q_X8_⟩ hb_ hon hoff
                 refine ⟨_, rfl, fun K hK => ?_⟩
                 have e2 : a.tmps[2]? = some (.pointer (some ⟨gb480, 0, none⟩)) := by rw [ha]; exact (putSel_off rfl).trans rfl
                 replace ha := Aside0.mk ha
                 have BK480 := Aside0.mk Q_BK480
                 have BK481 := Aside0.mk Q_BK481
                 have HB := Aside0.mk Q_HB
                 have hc0_ : w'.cell? ⟨gb480, 0, none⟩ = some (.slice A0_0 l0_0.length c0_0) := (blk_cell BK480.out 0).trans rfl
                 refine value_ (w1 := w') (v := .agg #[.slice A0_0 l0_0.length c0_0]) (by rfl) rfl ?_ ?_
                 ·go_simp
                  (try simp only [i64_w])
                  try rfl
                 refine hK.out _ _ ⟨v485, v488, v491, gb494, m1_, m3_, m4_, m5_, m6_, m8_, (by rw [ha.out]; exact putSel_upk 0 hb_ rfl rfl rfl), Q_BK480, Q_BK481, Q_HB, fun h0_ => absurd ((hoff 1 (by kernel_rfl)).symm.trans h0_) (by decide), fun h0_ => absurd ((hoff 3 (by kernel_rfl)).symm.trans h0_) (by decide), fun h0_ => absurd ((hoff 4 (by kernel_rfl)).symm.trans h0_) (by decide), Q_BK494, Q_GW494, Q_GE494, Q_NB480_494, Q_NB494_480, Q_NB481_494, Q_NB494_481, fun h0_ => absurd ((hoff 9 (by kernel_rfl)).symm.trans h0_) (by decide), fun h0_ => absurd ((hoff 1 (by kernel_rfl)).symm.trans h0_) (by decide), fun h0_ => absurd ((hoff 3 (by kernel_rfl)).symm.trans h0_) (by decide), fun h0_ => absurd ((hoff 4 (by kernel_rfl)).symm.trans h0_) (by decide), fun h0_ => absurd ((hoff 5 (by kernel_rfl)).symm.trans h0_) (by decide), fun h0_ => absurd ((hoff 6 (by kernel_rfl)).symm.trans h0_) (by decide), Q_X8_⟩
                refine steps_cons ?_ ?_
                ·rintro b a w' ⟨v485, v488, v491, gb494, m1_, m3_, m4_, m5_, m6_, m8_, ha, Q_BK480, Q_BK481, Q_HB, Q_HO486, Q_HO489, Q_HO492, Q_BK494, Q_GW494, Q_GE494, Q_NB480_494, Q_NB494_480, Q_NB481_494, Q_NB494_481, Q_BK494_e9, Q_X1_, Q_X3_, Q_X4_, Q_X5_, Q_X6_, Q_X8_⟩ hb_ hon hoff
                 refine ⟨_, rfl, fun K hK => ?_⟩
                 have e28 : a.tmps[28]? = some (.agg #[.slice A0_0 l0_0.length c0_0]) := by rw [ha]; exact putSel_on (e := (0, 28, .agg #[.slice A0_0 l0_0.length c0_0])) 0 rfl rfl (hon 0 (by kernel_rfl)) rfl
                 replace ha := Aside0.mk ha
                 have BK480 := Aside0.mk Q_BK480
                 have BK481 := Aside0.mk Q_BK481
                 have HB := Aside0.mk Q_HB
                 refine goes_ Try.func17 (by kernel_rfl) rfl #[.agg #[.slice A0_0 l0_0.length c0_0]] (by rfl) rfl rfl (by first | (simp only [List.map_toArray, List.map_cons, List.map_nil, Act.eval, Array.getD_eq_getD_getElem?, Option.getD_some, e28]; done) | (simp only [List.map_toArray, List.map_cons, List.map_nil, Act.eval, Array.getD_eq_getD_getElem?, Option.getD_some, e28]; rfl)) ?_
                 with_reducible refine (laws_toNat.calls k _ _ l0_0 t484 _ ?side1 ?side2 A19.out).mono ?_
                 (case side1 => repeat (first | exact (Kd.C_below HR0_0.out HB.out) | (with_reducible refine Kd.C_alloc ?_ _) | (with_reducible refine Kd.C_drewN ?_ _) | (with_reducible refine Kd.C_drew ?_)))
                 (case side2 => exact HC0_0.out)
                 rintro e w60 ⟨v485, rfl, ho0, hb⟩
                 refine ⟨_, rfl, ?_⟩
                 have n0_ := Sq.m (Kd.R_lower ho0 (below_size (by repeat (first | (with_reducible first | exact HB.out | apply Sq.rc | refine below_set ?_ GE480.out | refine below_set ?_ GE481.out) | exact HB.out))))
                 have n1_ := Sq.m (blk_below (g := gb480) (o := .cells #[.slice A0_0 l0_0.length c0_0] 24 (0, 0)) (by apply Sq.rb; exact BK480.out) hb)
                 have n2_ := Sq.m (blk_below (g := gb481) (o := .cells #[.slice A1_0 l1_0.length c1_0] 24 (0, 0)) (by apply Sq.rb; exact BK481.out) hb)
                 have n3_ := Sq.m (below_step (by repeat (first | (with_reducible first | exact HB.out | apply Sq.rc | refine below_set ?_ GE480.out | refine below_set ?_ GE481.out) | exact HB.out)) hb)
                 have z_BK494 := fun (h0_ : b 8 = true) (h1_ : b 9 = false) => (show w60.heap[gb494]? = some (.cells #[.slice none 0 0] 26 (0, 0)) from by first | exact (blk_below (g := gb494) (o := .cells #[.slice none 0 0] 26 (0, 0)) (by apply Sq.rb; exact (Q_BK494 h0_ h1_)) hb))
                 clear BK480
                 clear BK481
                 clear HB
                 have HO486 := n0_
                 have BK480 := n1_
                 have BK481 := n2_
                 have HB := n3_
                 clear n0_ n1_ n2_ n3_
                 (try clear hb)
                 (try clear hb2)
                 (try clear hk)
                 (try clear hi)
                 (try clear ho0)
                 refine hK.out _ _ ⟨v485, v488, v491, gb494, (.agg #[v485]), m3_, m4_, m5_, m6_, m8_, (by rw [ha.out]; exact putSel_upk 1 hb_ rfl rfl rfl), (by apply Sq.rb; exact BK480.out), (by apply Sq.rb; exact BK481.out), (by repeat (first | (with_reducible first | exact HB.out | apply Sq.rc | refine below_set ?_ GE480.out | refine below_set ?_ GE481.out) | exact HB.out)), fun _ => (by apply Sq.ra; exact HO486.out), fun h0_ => absurd ((hoff 3 (by kernel_rfl)).symm.trans h0_) (by decide), fun h0_ => absurd ((hoff 4 (by kernel_rfl)).symm.trans h0_) (by decide), z_BK494, Q_GW494, Q_GE494, Q_NB480_494, Q_NB494_480, Q_NB481_494, Q_NB494_481, fun h0_ => absurd ((hoff 9 (by kernel_rfl)).symm.trans h0_) (by decide), fun _ => rfl, fun h0_ => absurd ((hoff 3 (by kernel_rfl)).symm.trans h0_) (by decide), fun h0_ => absurd ((hoff 4 (by kernel_rfl)).symm.trans h0_) (by decide), fun h0_ => absurd ((hoff 5 (by kernel_rfl)).symm.trans h0_) (by decide), fun h0_ => absurd ((hoff 6 (by kernel_rfl)).symm.trans h0_) (by decide), Q_X8_⟩
                refine steps_cons ?_ ?_
                ·rintro b a w' ⟨v485, v488, v491, gb494, m1_, m3_, m4_, m5_, m6_, m8_, ha, Q_BK480, Q_BK481, Q_HB, Q_HO486, Q_HO489, Q_HO492, Q_BK494, Q_GW494, Q_GE494, Q_NB480_494, Q_NB494_480, Q_NB481_494, Q_NB494_481, Q_BK494_e9, Q_X1_, Q_X3_, Q_X4_, Q_X5_, Q_X6_, Q_X8_⟩ hb_ hon hoff
                 refine ⟨_, rfl, fun K hK => ?_⟩
                 have e3 : a.tmps[3]? = some (.pointer (some ⟨gb481, 0, none⟩)) := by rw [ha]; exact (putSel_off rfl).trans rfl
                 replace ha := Aside0.mk ha
                 have BK480 := Aside0.mk Q_BK480
                 have BK481 := Aside0.mk Q_BK481
                 have HB := Aside0.mk Q_HB
                 have hc0_ : w'.cell? ⟨gb481, 0, none⟩ = some (.slice A1_0 l1_0.length c1_0) := (blk_cell BK481.out 0).trans rfl
                 refine value_ (w1 := w') (v := .agg #[.slice A1_0 l1_0.length c1_0]) (by rfl) rfl ?_ ?_
                 ·go_simp
                  (try simp only [i64_w])
                  try rfl
                 refine hK.out _ _ ⟨v485, v488, v491, gb494, m1_, m3_, m4_, m5_, m6_, m8_, (by rw [ha.out]; exact putSel_upk 2 hb_ rfl rfl rfl), Q_BK480, Q_BK481, Q_HB, Q_HO486, fun h0_ => absurd ((hoff 3 (by kernel_rfl)).symm.trans h0_) (by decide), fun h0_ => absurd ((hoff 4 (by kernel_rfl)).symm.trans h0_) (by decide), Q_BK494, Q_GW494, Q_GE494, Q_NB480_494, Q_NB494_480, Q_NB481_494, Q_NB494_481, fun h0_ => absurd ((hoff 9 (by kernel_rfl)).symm.trans h0_) (by decide), Q_X1_, fun h0_ => absurd ((hoff 3 (by kernel_rfl)).symm.trans h0_) (by decide), fun h0_ => absurd ((hoff 4 (by kernel_rfl)).symm.trans h0_) (by decide), fun h0_ => absurd ((hoff 5 (by kernel_rfl)).symm.trans h0_) (by decide), fun h0_ => absurd ((hoff 6 (by kernel_rfl)).symm.trans h0_) (by decide), Q_X8_⟩
                refine steps_cons ?_ ?_
                ·rintro b a w' ⟨v485, v488, v491, gb494, m1_, m3_, m4_, m5_, m6_, m8_, ha, Q_BK480, Q_BK481, Q_HB, Q_HO486, Q_HO489, Q_HO492, Q_BK494, Q_GW494, Q_GE494, Q_NB480_494, Q_NB494_480, Q_NB481_494, Q_NB494_481, Q_BK494_e9, Q_X1_, Q_X3_, Q_X4_, Q_X5_, Q_X6_, Q_X8_⟩ hb_ hon hoff
                 refine ⟨_, rfl, fun K hK => ?_⟩
                 have e30 : a.tmps[30]? = some (.agg #[.slice A1_0 l1_0.length c1_0]) := by rw [ha]; exact putSel_on (e := (2, 30, .agg #[.slice A1_0 l1_0.length c1_0])) 2 rfl rfl (hon 2 (by kernel_rfl)) rfl
                 replace ha := Aside0.mk ha
                 have BK480 := Aside0.mk Q_BK480
                 have BK481 := Aside0.mk Q_BK481
                 have HB := Aside0.mk Q_HB
                 have HO486 := Sq.m (Q_HO486 (hon 1 (by kernel_rfl)))
                 refine goes_ Try.func17 (by kernel_rfl) rfl #[.agg #[.slice A1_0 l1_0.length c1_0]] (by rfl) rfl rfl (by first | (simp only [List.map_toArray, List.map_cons, List.map_nil, Act.eval, Array.getD_eq_getD_getElem?, Option.getD_some, e30]; done) | (simp only [List.map_toArray, List.map_cons, List.map_nil, Act.eval, Array.getD_eq_getD_getElem?, Option.getD_some, e30]; rfl)) ?_
                 with_reducible refine (laws_toNat.calls k _ _ l1_0 t487 _ ?side1 ?side2 A20.out).mono ?_
                 (case side1 => repeat (first | exact (Kd.C_below HR1_0.out HB.out) | (with_reducible refine Kd.C_alloc ?_ _) | (with_reducible refine Kd.C_drewN ?_ _) | (with_reducible refine Kd.C_drew ?_)))
                 (case side2 => exact HC1_0.out)
                 rintro e w62 ⟨v488, rfl, ho0, hb⟩
                 refine ⟨_, rfl, ?_⟩
                 have n0_ := Sq.m (Kd.R_elder' (by apply Sq.ra; exact HO486.out) (Kd.R_base ho0) hb)
                 have n1_ := Sq.m (Kd.R_lower (Kd.R_new' ho0 (Kd.R_lt (by apply Sq.ra; exact HO486.out))) (below_size (by repeat (first | (with_reducible first | exact HB.out | apply Sq.rc | refine below_set ?_ GE480.out | refine below_set ?_ GE481.out) | exact HB.out))))
                 have n2_ := Sq.m (blk_below (g := gb480) (o := .cells #[.slice A0_0 l0_0.length c0_0] 24 (0, 0)) (by apply Sq.rb; exact BK480.out) hb)
                 have n3_ := Sq.m (blk_below (g := gb481) (o := .cells #[.slice A1_0 l1_0.length c1_0] 24 (0, 0)) (by apply Sq.rb; exact BK481.out) hb)
                 have n4_ := Sq.m (below_step (by repeat (first | (with_reducible first | exact HB.out | apply Sq.rc | refine below_set ?_ GE480.out | refine below_set ?_ GE481.out) | exact HB.out)) hb)
                 have z_BK494 := fun (h0_ : b 8 = true) (h1_ : b 9 = false) => (show w62.heap[gb494]? = some (.cells #[.slice none 0 0] 26 (0, 0)) from by first | exact (blk_below (g := gb494) (o := .cells #[.slice none 0 0] 26 (0, 0)) (by apply Sq.rb; exact (Q_BK494 h0_ h1_)) hb))
                 clear HO486
                 clear BK480
                 clear BK481
                 clear HB
                 have HO486 := n0_
                 have HO489 := n1_
                 have BK480 := n2_
                 have BK481 := n3_
                 have HB := n4_
                 clear n0_ n1_ n2_ n3_ n4_
                 (try clear hb)
                 (try clear hb2)
                 (try clear hk)
                 (try clear hi)
                 (try clear ho0)
                 refine hK.out _ _ ⟨v485, v488, v491, gb494, m1_, (.agg #[v488]), m4_, m5_, m6_, m8_, (by rw [ha.out]; exact putSel_upk 3 hb_ rfl rfl rfl), (by apply Sq.rb; exact BK480.out), (by apply Sq.rb; exact BK481.out), (by repeat (first | (with_reducible first | exact HB.out | apply Sq.rc | refine below_set ?_ GE480.out | refine below_set ?_ GE481.out) | exact HB.out)), fun _ => (by apply Sq.ra; exact Kd.R_mono HO486.out (fun _ hk => by first | exact True.intro | exact hk.1 | exact hk | exact hk.2 | simp only [hk, ne_eq, not_false_eq_true, and_self, and_true, true_and])), fun _ => (by apply Sq.ra; exact Kd.R_mono HO489.out (fun _ hk => by first | exact True.intro | exact hk.1 | exact hk | exact hk.2 | simp only [hk, ne_eq, not_false_eq_true, and_self, and_true, true_and])), fun h0_ => absurd ((hoff 4 (by kernel_rfl)).symm.trans h0_) (by decide), z_BK494, Q_GW494, Q_GE494, Q_NB480_494, Q_NB494_480, Q_NB481_494, Q_NB494_481, fun h0_ => absurd ((hoff 9 (by kernel_rfl)).symm.trans h0_) (by decide), Q_X1_, fun _ => rfl, fun h0_ => absurd ((hoff 4 (by kernel_rfl)).symm.trans h0_) (by decide), fun h0_ => absurd ((hoff 5 (by kernel_rfl)).symm.trans h0_) (by decide), fun h0_ => absurd ((hoff 6 (by kernel_rfl)).symm.trans h0_) (by decide), Q_X8_⟩
                refine steps_cons ?_ ?_
                ·rintro b a w' ⟨v485, v488, v491, gb494, m1_, m3_, m4_, m5_, m6_, m8_, ha, Q_BK480, Q_BK481, Q_HB, Q_HO486, Q_HO489, Q_HO492, Q_BK494, Q_GW494, Q_GE494, Q_NB480_494, Q_NB494_480, Q_NB481_494, Q_NB494_481, Q_BK494_e9, Q_X1_, Q_X3_, Q_X4_, Q_X5_, Q_X6_, Q_X8_⟩ hb_ hon hoff
                 refine ⟨_, rfl, fun K hK => ?_⟩
                 have e29 : a.tmps[29]? = some (m1_) := by rw [ha]; exact putSel_on (e := (1, 29, m1_)) 1 rfl rfl (hon 1 (by kernel_rfl)) rfl
                 rw [Q_X1_ (hon 1 (by kernel_rfl))] at e29
                 have e31 : a.tmps[31]? = some (m3_) := by rw [ha]; exact putSel_on (e := (3, 31, m3_)) 3 rfl rfl (hon 3 (by kernel_rfl)) rfl
                 rw [Q_X3_ (hon 3 (by kernel_rfl))] at e31
                 replace ha := Aside0.mk ha
                 have BK480 := Aside0.mk Q_BK480
                 have BK481 := Aside0.mk Q_BK481
                 have HB := Aside0.mk Q_HB
                 have HO486 := Sq.m (Q_HO486 (hon 1 (by kernel_rfl)))
                 have HO489 := Sq.m (Q_HO489 (hon 3 (by kernel_rfl)))
                 obtain ⟨Ao63, co63, eo63⟩ := Kd.R_slice HO486.out
                 (first | subst eo63 | (injection eo63 with f1_ f2_ f3_; have f4_ := f1_.symm; have f5_ := f3_.symm; clear f1_ f2_ f3_; subst f4_; subst f5_))
                 obtain ⟨Ao64, co64, eo64⟩ := Kd.R_slice HO489.out
                 (first | subst eo64 | (injection eo64 with f1_ f2_ f3_; have f4_ := f1_.symm; have f5_ := f3_.symm; clear f1_ f2_ f3_; subst f4_; subst f5_))
                 refine goes_ Try.func24 (by kernel_rfl) rfl #[.agg #[.slice Ao63 t484.length co63], .agg #[.slice Ao64 t487.length co64]] (by rfl) rfl rfl (by first | (simp only [List.map_toArray, List.map_cons, List.map_nil, Act.eval, Array.getD_eq_getD_getElem?, Option.getD_some, e29, e31]; done) | (simp only [List.map_toArray, List.map_cons, List.map_nil, Act.eval, Array.getD_eq_getD_getElem?, Option.getD_some, e29, e31]; rfl)) ?_
                 with_reducible refine (spec_NatSub.calls k _ _ t484 _ _ t487 t490 t493 _ ?side1 ?side2 ?side3 ?side4 A21.out).mono ?_
                 (case side1 => repeat (first | exact (Kd.R_reads' HO486.out).2.2 | (with_reducible refine Kd.C_alloc ?_ _) | (with_reducible refine Kd.C_drewN ?_ _) | (with_reducible refine Kd.C_drew ?_)))
                 (case side2 => exact (Kd.R_reads' HO486.out).2.1)
                 (case side3 => repeat (first | exact (Kd.R_reads' HO489.out).2.2 | (with_reducible refine Kd.C_alloc ?_ _) | (with_reducible refine Kd.C_drewN ?_ _) | (with_reducible refine Kd.C_drew ?_)))
                 (case side4 => exact (Kd.R_reads' HO489.out).2.1)
                 rintro e w65 ⟨v491, rfl, ho0, hb⟩
                 refine ⟨_, rfl, ?_⟩
                 have n0_ := Sq.m (Kd.R_elder' (by apply Sq.ra; exact HO486.out) (Kd.R_base ho0) hb)
                 have n1_ := Sq.m (Kd.R_elder' (by apply Sq.ra; exact HO489.out) (Kd.R_base ho0) hb)
                 have n2_ := Sq.m (Kd.R_lower (Kd.R_new' (Kd.R_new' ho0 (Kd.R_lt (by apply Sq.ra; exact HO486.out))) (Kd.R_lt (by apply Sq.ra; exact HO489.out))) (below_size (by repeat (first | (with_reducible first | exact HB.out | apply Sq.rc | refine below_set ?_ GE480.out | refine below_set ?_ GE481.out) | exact HB.out))))
                 have n3_ := Sq.m (blk_below (g := gb480) (o := .cells #[.slice A0_0 l0_0.length c0_0] 24 (0, 0)) (by apply Sq.rb; exact BK480.out) hb)
                 have n4_ := Sq.m (blk_below (g := gb481) (o := .cells #[.slice A1_0 l1_0.length c1_0] 24 (0, 0)) (by apply Sq.rb; exact BK481.out) hb)
                 have n5_ := Sq.m (below_step (by repeat (first | (with_reducible first | exact HB.out | apply Sq.rc | refine below_set ?_ GE480.out | refine below_set ?_ GE481.out) | exact HB.out)) hb)
                 have z_BK494 := fun (h0_ : b 8 = true) (h1_ : b 9 = false) => (show w65.heap[gb494]? = some (.cells #[.slice none 0 0] 26 (0, 0)) from by first | exact (blk_below (g := gb494) (o := .cells #[.slice none 0 0] 26 (0, 0)) (by apply Sq.rb; exact (Q_BK494 h0_ h1_)) hb))
                 clear HO486
                 clear HO489
                 clear BK480
                 clear BK481
                 clear HB
                 have HO486 := n0_
                 have HO489 := n1_
                 have HO492 := n2_
                 have BK480 := n3_
                 have BK481 := n4_
                 have HB := n5_
                 clear n0_ n1_ n2_ n3_ n4_ n5_
                 (try clear hb)
                 (try clear hb2)
                 (try clear hk)
                 (try clear hi)
                 (try clear ho0)
                 refine hK.out _ _ ⟨.slice Ao63 t484.length co63, .slice Ao64 t487.length co64, v491, gb494, m1_, m3_, (.tuple #[.agg #[v491], .bool t493]), m5_, m6_, m8_, (by rw [ha.out]; exact putSel_upk 4 hb_ rfl rfl rfl), (by apply Sq.rb; exact BK480.out), (by apply Sq.rb; exact BK481.out), (by repeat (first | (with_reducible first | exact HB.out | apply Sq.rc | refine below_set ?_ GE480.out | refine below_set ?_ GE481.out) | exact HB.out)), fun _ => (by apply Sq.ra; exact Kd.R_mono HO486.out (fun _ hk => by first | exact True.intro | exact hk.1 | exact hk | exact hk.2 | simp only [hk, ne_eq, not_false_eq_true, and_self, and_true, true_and])), fun _ => (by apply Sq.ra; exact Kd.R_mono HO489.out (fun _ hk => by first | exact True.intro | exact hk.1 | exact hk | exact hk.2 | simp only [hk, ne_eq, not_false_eq_true, and_self, and_true, true_and])), fun _ => (by apply Sq.ra; exact Kd.R_mono HO492.out (fun _ hk => by first | exact True.intro | exact hk.1 | exact hk | exact ⟨hk.1.2, hk.2⟩ | simp only [hk, ne_eq, not_false_eq_true, and_self, and_true, true_and])), z_BK494, Q_GW494, Q_GE494, Q_NB480_494, Q_NB494_480, Q_NB481_494, Q_NB494_481, fun h0_ => absurd ((hoff 9 (by kernel_rfl)).symm.trans h0_) (by decide), Q_X1_, Q_X3_, fun _ => rfl, fun h0_ => absurd ((hoff 5 (by kernel_rfl)).symm.trans h0_) (by decide), fun h0_ => absurd ((hoff 6 (by kernel_rfl)).symm.trans h0_) (by decide), Q_X8_⟩
                refine steps_cons ?_ ?_
                ·rintro b a w' ⟨v485, v488, v491, gb494, m1_, m3_, m4_, m5_, m6_, m8_, ha, Q_BK480, Q_BK481, Q_HB, Q_HO486, Q_HO489, Q_HO492, Q_BK494, Q_GW494, Q_GE494, Q_NB480_494, Q_NB494_480, Q_NB481_494, Q_NB494_481, Q_BK494_e9, Q_X1_, Q_X3_, Q_X4_, Q_X5_, Q_X6_, Q_X8_⟩ hb_ hon hoff
                 refine ⟨_, rfl, fun K hK => ?_⟩
                 have e32 : a.tmps[32]? = some (m4_) := by rw [ha]; exact putSel_on (e := (4, 32, m4_)) 4 rfl rfl (hon 4 (by kernel_rfl)) rfl
                 rw [Q_X4_ (hon 4 (by kernel_rfl))] at e32
                 replace ha := Aside0.mk ha
                 have BK480 := Aside0.mk Q_BK480
                 have BK481 := Aside0.mk Q_BK481
                 have HB := Aside0.mk Q_HB
                 have HO486 := Sq.m (Q_HO486 (hon 1 (by kernel_rfl)))
                 have HO489 := Sq.m (Q_HO489 (hon 3 (by kernel_rfl)))
                 have HO492 := Sq.m (Q_HO492 (hon 4 (by kernel_rfl)))
                 refine value_ (w1 := w') (v := .tuple #[.agg #[v491], .bool t493]) (by rfl) rfl ?_ ?_
                 ·go_simp
                  (try simp only [i64_w])
                  try rfl
                 refine hK.out _ _ ⟨v485, v488, v491, gb494, m1_, m3_, m4_, (.tuple #[.agg #[v491], .bool t493]), m6_, m8_, (by rw [ha.out]; exact putSel_upk 5 hb_ rfl rfl rfl), Q_BK480, Q_BK481, Q_HB, Q_HO486, Q_HO489, Q_HO492, Q_BK494, Q_GW494, Q_GE494, Q_NB480_494, Q_NB494_480, Q_NB481_494, Q_NB494_481, fun h0_ => absurd ((hoff 9 (by kernel_rfl)).symm.trans h0_) (by decide), Q_X1_, Q_X3_, Q_X4_, fun _ => rfl, fun h0_ => absurd ((hoff 6 (by kernel_rfl)).symm.trans h0_) (by decide), Q_X8_⟩
                refine steps_cons ?_ ?_
                ·rintro b a w' ⟨v485, v488, v491, gb494, m1_, m3_, m4_, m5_, m6_, m8_, ha, Q_BK480, Q_BK481, Q_HB, Q_HO486, Q_HO489, Q_HO492, Q_BK494, Q_GW494, Q_GE494, Q_NB480_494, Q_NB494_480, Q_NB481_494, Q_NB494_481, Q_BK494_e9, Q_X1_, Q_X3_, Q_X4_, Q_X5_, Q_X6_, Q_X8_⟩ hb_ hon hoff
                 refine ⟨_, rfl, fun K hK => ?_⟩
                 have e27 : a.tmps[27]? = some (m5_) := by rw [ha]; exact putSel_on (e := (5, 27, m5_)) 5 rfl rfl (hon 5 (by kernel_rfl)) rfl
                 rw [Q_X5_ (hon 5 (by kernel_rfl))] at e27
                 replace ha := Aside0.mk ha
                 have BK480 := Aside0.mk Q_BK480
                 have BK481 := Aside0.mk Q_BK481
                 have HB := Aside0.mk Q_HB
                 have HO486 := Sq.m (Q_HO486 (hon 1 (by kernel_rfl)))
                 have HO489 := Sq.m (Q_HO489 (hon 3 (by kernel_rfl)))
                 have HO492 := Sq.m (Q_HO492 (hon 4 (by kernel_rfl)))
                 refine value_ (w1 := w') (v := .agg #[v491]) (by rfl) rfl ?_ ?_
                 ·go_simp
                  (try simp only [i64_w])
                  try rfl
                 refine hK.out _ _ ⟨v485, v488, v491, gb494, m1_, m3_, m4_, m5_, (.agg #[v491]), m8_, (by rw [ha.out]; exact putSel_upk 6 hb_ rfl rfl rfl), Q_BK480, Q_BK481, Q_HB, Q_HO486, Q_HO489, Q_HO492, Q_BK494, Q_GW494, Q_GE494, Q_NB480_494, Q_NB494_480, Q_NB481_494, Q_NB494_481, fun h0_ => absurd ((hoff 9 (by kernel_rfl)).symm.trans h0_) (by decide), Q_X1_, Q_X3_, Q_X4_, Q_X5_, fun _ => rfl, Q_X8_⟩
                refine steps_cons ?_ ?_
                ·rintro b a w' ⟨v485, v488, v491, gb494, m1_, m3_, m4_, m5_, m6_, m8_, ha, Q_BK480, Q_BK481, Q_HB, Q_HO486, Q_HO489, Q_HO492, Q_BK494, Q_GW494, Q_GE494, Q_NB480_494, Q_NB494_480, Q_NB481_494, Q_NB494_481, Q_BK494_e9, Q_X1_, Q_X3_, Q_X4_, Q_X5_, Q_X6_, Q_X8_⟩ hb_ hon hoff
                 refine ⟨_, rfl, fun K hK => ?_⟩
                 have e27 : a.tmps[27]? = some (m5_) := by rw [ha]; exact putSel_on (e := (5, 27, m5_)) 5 rfl rfl (hon 5 (by kernel_rfl)) rfl
                 rw [Q_X5_ (hon 5 (by kernel_rfl))] at e27
                 replace ha := Aside0.mk ha
                 have BK480 := Aside0.mk Q_BK480
                 have BK481 := Aside0.mk Q_BK481
                 have HB := Aside0.mk Q_HB
                 have HO486 := Sq.m (Q_HO486 (hon 1 (by kernel_rfl)))
                 have HO489 := Sq.m (Q_HO489 (hon 3 (by kernel_rfl)))
                 have HO492 := Sq.m (Q_HO492 (hon 4 (by kernel_rfl)))
                 refine value_ (w1 := w') (v := .bool t493) (by rfl) rfl ?_ ?_
                 ·go_simp
                  (try simp only [i64_w])
                  try rfl
                 refine hK.out _ _ ⟨v485, v488, v491, gb494, m1_, m3_, m4_, m5_, m6_, m8_, (by rw [ha.out]; exact putSel_upk 7 hb_ rfl rfl rfl), Q_BK480, Q_BK481, Q_HB, Q_HO486, Q_HO489, Q_HO492, Q_BK494, Q_GW494, Q_GE494, Q_NB480_494, Q_NB494_480, Q_NB481_494, Q_NB494_481, Q_BK494_e9, Q_X1_, Q_X3_, Q_X4_, Q_X5_, Q_X6_, Q_X8_⟩
                refine steps_cons ?_ ?_
                ·rintro b a w' ⟨v485, v488, v491, gb494, m1_, m3_, m4_, m5_, m6_, m8_, ha, Q_BK480, Q_BK481, Q_HB, Q_HO486, Q_HO489, Q_HO492, Q_BK494, Q_GW494, Q_GE494, Q_NB480_494, Q_NB494_480, Q_NB481_494, Q_NB494_481, Q_BK494_e9, Q_X1_, Q_X3_, Q_X4_, Q_X5_, Q_X6_, Q_X8_⟩ hb_ hon hoff
                 refine ⟨_, rfl, fun K hK => ?_⟩
                 replace ha := Aside0.mk ha
                 have BK480 := Aside0.mk Q_BK480
                 have BK481 := Aside0.mk Q_BK481
                 have HB := Aside0.mk Q_HB
                 refine box_step ?hg (N := 6) ?hd (cs := #[.slice none 0 0]) (t := 26) ?hr ?_; (case hd => rfl); (case hg => rfl); (case hr => first | (go_simp; done) | (go_simp; rfl))
                 intro gb494 hg w60 hbox hb
                 have n0_ := Sq.m (blk_below (g := gb480) (o := .cells #[.slice A0_0 l0_0.length c0_0] 24 (0, 0)) (by apply Sq.rb; exact BK480.out) hb)
                 have n1_ := Sq.m (blk_below (g := gb481) (o := .cells #[.slice A1_0 l1_0.length c1_0] 24 (0, 0)) (by apply Sq.rb; exact BK481.out) hb)
                 have n2_ := Sq.m (below_step (by repeat (first | (with_reducible first | exact HB.out | apply Sq.rc | refine below_set ?_ GE480.out | refine below_set ?_ GE481.out) | exact HB.out)) hb)
                 have n3_ := Sq.m (hbox)
                 have n4_ := Sq.m ((by rw [hg]; exact (below_size (by repeat (first | (with_reducible first | exact HB.out | apply Sq.rc | refine below_set ?_ GE480.out | refine below_set ?_ GE481.out) | exact HB.out))) : w.heap.size ≤ gb494))
                 have n5_ := Sq.m ((by rw [hg]; exact (below_size (by repeat (first | (with_reducible first | exact HB.out | apply Sq.rc | refine below_set ?_ GE480.out | refine below_set ?_ GE481.out) | exact HB.out))) : w.heap.size ≤ gb494))
                 have n6_ := Sq.m ((by rw [hg]; exact Nat.ne_of_lt (blk_lt (g := gb480) (o := .cells #[.slice A0_0 l0_0.length c0_0] 24 (0, 0)) (by apply Sq.rb; exact BK480.out)) : gb480 ≠ gb494))
                 have n7_ := Sq.m ((by rw [hg]; exact Nat.ne_of_gt (blk_lt (g := gb480) (o := .cells #[.slice A0_0 l0_0.length c0_0] 24 (0, 0)) (by apply Sq.rb; exact BK480.out)) : gb494 ≠ gb480))
                 have n8_ := Sq.m ((by rw [hg]; exact Nat.ne_of_lt (blk_lt (g := gb481) (o := .cells #[.slice A1_0 l1_0.length c1_0] 24 (0, 0)) (by apply Sq.rb; exact BK481.out)) : gb481 ≠ gb494))
                 have n9_ := Sq.m ((by rw [hg]; exact Nat.ne_of_gt (blk_lt (g := gb481) (o := .cells #[.slice A1_0 l1_0.length c1_0] 24 (0, 0)) (by apply Sq.rb; exact BK481.out)) : gb494 ≠ gb481))
                 have z_HO486 := fun (h0_ : b 1 = true) => (show Kd.R (Kd.int .i64) 3 w60 w.heap.size (fun _ => True) v485 t484 from by first | exact (Kd.R_below (by apply Sq.ra; exact (Q_HO486 h0_)) hb) | exact Kd.R_mono (Kd.R_below (by apply Sq.ra; exact (Q_HO486 h0_)) hb) (fun _ h_ => by first | trivial | exact h_ | exact h_.1))
                 have z_HO489 := fun (h0_ : b 3 = true) => (show Kd.R (Kd.int .i64) 3 w60 w.heap.size (fun _ => True) v488 t487 from by first | exact (Kd.R_below (by apply Sq.ra; exact (Q_HO489 h0_)) hb) | exact Kd.R_mono (Kd.R_below (by apply Sq.ra; exact (Q_HO489 h0_)) hb) (fun _ h_ => by first | trivial | exact h_ | exact h_.1))
                 have z_HO492 := fun (h0_ : b 4 = true) => (show Kd.R (Kd.int .i64) 3 w60 w.heap.size (fun _ => True) v491 t490 from by first | exact (Kd.R_below (by apply Sq.ra; exact (Q_HO492 h0_)) hb) | exact Kd.R_mono (Kd.R_below (by apply Sq.ra; exact (Q_HO492 h0_)) hb) (fun _ h_ => by first | trivial | exact h_ | exact h_.1))
                 clear BK480
                 clear BK481
                 clear HB
                 have BK480 := n0_
                 have BK481 := n1_
                 have HB := n2_
                 have BK494 := n3_
                 have GW494 := n4_
                 have GE494 := n5_
                 have NB480_494 := n6_
                 have NB494_480 := n7_
                 have NB481_494 := n8_
                 have NB494_481 := n9_
                 clear n0_ n1_ n2_ n3_ n4_ n5_ n6_ n7_ n8_ n9_
                 clear hb hbox hg
                 refine hK.out _ _ ⟨v485, v488, v491, gb494, m1_, m3_, m4_, m5_, m6_, (.pointer (some ⟨gb494, 0, none⟩)), (by rw [ha.out]; exact putSel_upk 8 hb_ rfl rfl rfl), (by apply Sq.rb; exact BK480.out), (by apply Sq.rb; exact BK481.out), (by repeat (first | (with_reducible first | exact HB.out | apply Sq.rc | refine below_set ?_ GE480.out | refine below_set ?_ GE481.out | refine below_set ?_ GE494.out) | exact HB.out)), z_HO486, z_HO489, z_HO492, fun _ _ => (by apply Sq.rb; exact BK494.out), fun _ => GW494.out, fun _ => GE494.out, fun _ => NB480_494.out, fun _ => NB494_480.out, fun _ => NB481_494.out, fun _ => NB494_481.out, fun h0_ => absurd ((hoff 9 (by kernel_rfl)).symm.trans h0_) (by decide), Q_X1_, Q_X3_, Q_X4_, Q_X5_, Q_X6_, fun _ => rfl⟩
                refine steps_cons ?_ ?_
                ·rintro b a w' ⟨v485, v488, v491, gb494, m1_, m3_, m4_, m5_, m6_, m8_, ha, Q_BK480, Q_BK481, Q_HB, Q_HO486, Q_HO489, Q_HO492, Q_BK494, Q_GW494, Q_GE494, Q_NB480_494, Q_NB494_480, Q_NB481_494, Q_NB494_481, Q_BK494_e9, Q_X1_, Q_X3_, Q_X4_, Q_X5_, Q_X6_, Q_X8_⟩ hb_ hon hoff
                 refine ⟨_, rfl, fun K hK => ?_⟩
                 have e6 : a.tmps[6]? = some (m8_) := by rw [ha]; exact putSel_on (e := (8, 6, m8_)) 8 rfl rfl (hon 8 (by kernel_rfl)) rfl
                 rw [Q_X8_ (hon 8 (by kernel_rfl))] at e6
                 have e33 : a.tmps[33]? = some (m6_) := by rw [ha]; exact putSel_on (e := (6, 33, m6_)) 6 rfl rfl (hon 6 (by kernel_rfl)) rfl
                 rw [Q_X6_ (hon 6 (by kernel_rfl))] at e33
                 replace ha := Aside0.mk ha
                 have BK480 := Aside0.mk Q_BK480
                 have BK481 := Aside0.mk Q_BK481
                 have HB := Aside0.mk Q_HB
                 have HO486 := Sq.m (Q_HO486 (hon 1 (by kernel_rfl)))
                 have HO489 := Sq.m (Q_HO489 (hon 3 (by kernel_rfl)))
                 have HO492 := Sq.m (Q_HO492 (hon 4 (by kernel_rfl)))
                 have BK494 := Sq.m (Q_BK494 (hon 8 (by kernel_rfl)) hb_)
                 have GW494 := Sq.m (Q_GW494 (hon 8 (by kernel_rfl)))
                 have GE494 := Sq.m (Q_GE494 (hon 8 (by kernel_rfl)))
                 have NB480_494 := Sq.m (Q_NB480_494 (hon 8 (by kernel_rfl)))
                 have NB494_480 := Sq.m (Q_NB494_480 (hon 8 (by kernel_rfl)))
                 have NB481_494 := Sq.m (Q_NB481_494 (hon 8 (by kernel_rfl)))
                 have NB494_481 := Sq.m (Q_NB494_481 (hon 8 (by kernel_rfl)))
                 obtain ⟨Ao67, co67, eo67⟩ := Kd.R_slice HO492.out
                 (first | subst eo67 | (injection eo67 with f1_ f2_ f3_; have f4_ := f1_.symm; have f5_ := f3_.symm; clear f1_ f2_ f3_; subst f4_; subst f5_))
                 have hs68 : w'.cell? ⟨gb494, 0, none⟩ = some (.slice none 0 0) := (blk_cell BK494.out 0).trans rfl
                 have hfs68 := blk_frozen BK494.out 0
                 have hns68_0 := NB480_494.out
                 have hns68_1 := NB481_494.out
                 have hms68_0 := NB494_480.out
                 have hms68_1 := NB494_481.out
                 refine skip_ (w1 := ?_) (by rfl) rfl ?_ ?_
                 rotate_left
                 ·go_simp
                  rfl
                 refine hK.out _ _ ⟨v485, v488, .slice Ao67 t490.length co67, gb494, m1_, m3_, m4_, m5_, m6_, m8_, (by rw [ha.out]; exact putSel_none (v := undef) rfl), (by apply Sq.rb; refine blk_far ?_ NB480_494.out _; apply Sq.rb; exact BK480.out), (by apply Sq.rb; refine blk_far ?_ NB481_494.out _; apply Sq.rb; exact BK481.out), (by repeat (first | (with_reducible first | exact HB.out | apply Sq.rc | refine below_set ?_ GE480.out | refine below_set ?_ GE481.out | refine below_set ?_ GE494.out) | exact HB.out)), fun _ => (by apply Sq.ra; exact Kd.R_mono (Kd.R_far (p := ⟨gb494, 0, none⟩) (Kd.R_types HO486.out BK494.out (by decide)) (fun _ hk => hk.2) (.slice Ao67 t490.length co67)) (fun _ hk => trivial)), fun _ => (by apply Sq.ra; exact Kd.R_mono (Kd.R_far (p := ⟨gb494, 0, none⟩) (Kd.R_types HO489.out BK494.out (by decide)) (fun _ hk => hk.2) (.slice Ao67 t490.length co67)) (fun _ hk => trivial)), fun _ => (by apply Sq.ra; exact Kd.R_mono (Kd.R_far (p := ⟨gb494, 0, none⟩) (Kd.R_types HO492.out BK494.out (by decide)) (fun _ hk => hk.2) (.slice Ao67 t490.length co67)) (fun _ hk => trivial)), fun _ h1_ => absurd ((up_self b 9).symm.trans h1_) (by decide), fun _ => GW494.out, fun _ => GE494.out, fun _ => NB480_494.out, fun _ => NB494_480.out, fun _ => NB481_494.out, fun _ => NB494_481.out, fun _ => (by apply Sq.rb; refine blk_put (cs := #[.slice none 0 0]) ?_ 0 _ rfl; apply Sq.rb; exact BK494.out), Q_X1_, Q_X3_, Q_X4_, Q_X5_, Q_X6_, Q_X8_⟩
                refine steps_cons ?_ ?_
                ·rintro b a w' ⟨v485, v488, v491, gb494, m1_, m3_, m4_, m5_, m6_, m8_, ha, Q_BK480, Q_BK481, Q_HB, Q_HO486, Q_HO489, Q_HO492, Q_BK494, Q_GW494, Q_GE494, Q_NB480_494, Q_NB494_480, Q_NB481_494, Q_NB494_481, Q_BK494_e9, Q_X1_, Q_X3_, Q_X4_, Q_X5_, Q_X6_, Q_X8_⟩ hb_ hon hoff
                 refine ⟨_, rfl, fun K hK => ?_⟩
                 have e34 : a.tmps[34]? = some (.bool t493) := by rw [ha]; exact putSel_on (e := (7, 34, .bool t493)) 7 rfl rfl (hon 7 (by kernel_rfl)) rfl
                 replace ha := Aside0.mk ha
                 have BK480 := Aside0.mk Q_BK480
                 have BK481 := Aside0.mk Q_BK481
                 have HB := Aside0.mk Q_HB
                 have HO486 := Sq.m (Q_HO486 (hon 1 (by kernel_rfl)))
                 have HO489 := Sq.m (Q_HO489 (hon 3 (by kernel_rfl)))
                 have HO492 := Sq.m (Q_HO492 (hon 4 (by kernel_rfl)))
                 have GW494 := Sq.m (Q_GW494 (hon 8 (by kernel_rfl)))
                 have GE494 := Sq.m (Q_GE494 (hon 8 (by kernel_rfl)))
                 have NB480_494 := Sq.m (Q_NB480_494 (hon 8 (by kernel_rfl)))
                 have NB494_480 := Sq.m (Q_NB494_480 (hon 8 (by kernel_rfl)))
                 have NB481_494 := Sq.m (Q_NB481_494 (hon 8 (by kernel_rfl)))
                 have NB494_481 := Sq.m (Q_NB494_481 (hon 8 (by kernel_rfl)))
                 have BK494 := Sq.m (Q_BK494_e9 (hon 9 (by kernel_rfl)))
                 refine value_ (w1 := w') (v := .bool t493) (by rfl) rfl ?_ ?_
                 ·go_simp
                  (try simp only [i64_w])
                  try rfl
                 refine hK.out _ _ ⟨v485, v488, v491, gb494, m1_, m3_, m4_, m5_, m6_, m8_, (by rw [ha.out]; exact putSel_upk 9 hb_ rfl rfl rfl), Q_BK480, Q_BK481, Q_HB, Q_HO486, Q_HO489, Q_HO492, fun _ h1_ => absurd ((hon 9 (by kernel_rfl)).symm.trans h1_) (by decide), Q_GW494, Q_GE494, Q_NB480_494, Q_NB494_480, Q_NB481_494, Q_NB494_481, Q_BK494_e9, Q_X1_, Q_X3_, Q_X4_, Q_X5_, Q_X6_, Q_X8_⟩
                exact steps_nil
               rintro b a w68 hall ⟨v485, v488, v491, gb494, m1_, m3_, m4_, m5_, m6_, m8_, ha, Q_BK480, Q_BK481, Q_HB, Q_HO486, Q_HO489, Q_HO492, Q_BK494, Q_GW494, Q_GE494, Q_NB480_494, Q_NB494_480, Q_NB481_494, Q_NB494_481, Q_BK494_e9, Q_X1_, Q_X3_, Q_X4_, Q_X5_, Q_X6_, Q_X8_⟩
               clear BK480 BK481 HB
               have hb0_ := hall 0 (by kernel_rfl)
               have hb1_ := hall 1 (by kernel_rfl)
               have hb2_ := hall 2 (by kernel_rfl)
               have hb3_ := hall 3 (by kernel_rfl)
               have hb4_ := hall 4 (by kernel_rfl)
               have hb5_ := hall 5 (by kernel_rfl)
               have hb6_ := hall 6 (by kernel_rfl)
               have hb7_ := hall 7 (by kernel_rfl)
               have hb8_ := hall 8 (by kernel_rfl)
               have hb9_ := hall 9 (by kernel_rfl)
               have hb10_ := hall 10 (by kernel_rfl)
               subst ha
               obtain rfl := Q_X1_ hb1_
               obtain rfl := Q_X3_ hb3_
               obtain rfl := Q_X4_ hb4_
               obtain rfl := Q_X5_ hb5_
               obtain rfl := Q_X6_ hb6_
               obtain rfl := Q_X8_ hb8_
               simp only [putSel, hb0_, hb1_, hb2_, hb3_, hb4_, hb5_, hb6_, hb7_, hb8_, hb9_, hb10_, if_true, Act.put, List.setIfInBounds_toArray, List.set_cons_zero, List.set_cons_succ]
               have BK480 := Aside0.mk Q_BK480
               clear Q_BK480
               have BK481 := Aside0.mk Q_BK481
               clear Q_BK481
               have HB := Aside0.mk Q_HB
               clear Q_HB
               have HO486 := Sq.m (Q_HO486 hb1_)
               clear Q_HO486
               have HO489 := Sq.m (Q_HO489 hb3_)
               clear Q_HO489
               have HO492 := Sq.m (Q_HO492 hb4_)
               clear Q_HO492
               clear Q_BK494
               have GW494 := Sq.m (Q_GW494 hb8_)
               clear Q_GW494
               have GE494 := Sq.m (Q_GE494 hb8_)
               clear Q_GE494
               have NB480_494 := Sq.m (Q_NB480_494 hb8_)
               clear Q_NB480_494
               have NB494_480 := Sq.m (Q_NB494_480 hb8_)
               clear Q_NB494_480
               have NB481_494 := Sq.m (Q_NB481_494 hb8_)
               clear Q_NB481_494
               have NB494_481 := Sq.m (Q_NB494_481 hb8_)
               clear Q_NB494_481
               have BK494 := Sq.m (Q_BK494_e9 hb9_)
               clear Q_BK494_e9
               clear hall hb0_ hb1_ hb2_ hb3_ hb4_ hb5_ hb6_ hb7_ hb8_ hb9_ hb10_
               have hnb69 := NB480_494.out
               have hnc69 := NB494_480.out
               have hcz70_0 : w68.cell? ⟨gb480, 0, none⟩ = some (.slice A0_0 l0_0.length c0_0) := (blk_cell BK480.out 0).trans rfl
               have hfz70_0 := blk_frozen BK480.out 0
               try go_wp2_with (first | ((with_reducible refine gate_callee (f := 17) rfl ?_); refine goesL_ (some 36) rfl rfl Try.func17 (by kernel_rfl) rfl #[.agg #[.slice A0_0 l0_0.length c0_0]] rfl (by (try simp only [List.map_toArray, List.map_cons, List.map_nil]); first | done | rfl | (simp only [List.length_drop, List.length_take]; rfl) | (simp only [i64_w, u8_w, w64_b]; rfl)) ?_; (with_reducible refine (laws_toNat.calls k _ _ l0_0 t495 _ ?side1 ?side2 A22.out).mono ?_); (case side1 => repeat (first | exact (Kd.C_below HR0_0.out HB.out) | (with_reducible refine Kd.C_alloc ?_ _) | (with_reducible refine Kd.C_drewN ?_ _) | (with_reducible refine Kd.C_drew ?_))); (case side2 => exact HC0_0.out); rintro e w71 ⟨v496, rfl, ho0, hb⟩; refine ⟨_, rfl, ?_⟩; have n0_ := Sq.m (Kd.R_elder' (by apply Sq.ra; exact HO486.out) (Kd.R_base ho0) hb); have n1_ := Sq.m (Kd.R_elder' (by apply Sq.ra; exact HO489.out) (Kd.R_base ho0) hb); have n2_ := Sq.m (Kd.R_elder' (by apply Sq.ra; exact HO492.out) (Kd.R_base ho0) hb); have n3_ := Sq.m (Kd.R_lower (Kd.R_new' (Kd.R_new' (Kd.R_new' ho0 (Kd.R_lt (by apply Sq.ra; exact HO486.out))) (Kd.R_lt (by apply Sq.ra; exact HO489.out))) (Kd.R_lt (by apply Sq.ra; exact HO492.out))) (below_size (by repeat (first | (with_reducible first | exact HB.out | apply Sq.rc | refine below_set ?_ GE480.out | refine below_set ?_ GE481.out | refine below_set ?_ GE494.out) | exact HB.out)))); have n4_ := Sq.m (blk_below (g := gb480) (o := .cells #[.slice A0_0 l0_0.length c0_0] 24 (0, 0)) (by apply Sq.rb; exact BK480.out) hb); have n5_ := Sq.m (blk_below (g := gb481) (o := .cells #[.slice A1_0 l1_0.length c1_0] 24 (0, 0)) (by apply Sq.rb; exact BK481.out) hb); have n6_ := Sq.m (blk_below (g := gb494) (o := .cells #[v491] 26 (0, 0)) (by apply Sq.rb; exact BK494.out) hb); have n7_ := Sq.m (below_step (by repeat (first | (with_reducible first | exact HB.out | apply Sq.rc | refine below_set ?_ GE480.out | refine below_set ?_ GE481.out | refine below_set ?_ GE494.out) | exact HB.out)) hb); clear HO486; clear HO489; clear HO492; clear BK480; clear BK481; clear BK494; clear HB; have HO486 := n0_; have HO489 := n1_; have HO492 := n2_; have HO497 := n3_; have BK480 := n4_; have BK481 := n5_; have BK494 := n6_; have HB := n7_; clear n0_ n1_ n2_ n3_ n4_ n5_ n6_ n7_; (try clear hb); (try clear hb2); (try clear hk); (try clear hi); (try clear ho0)) | ((with_reducible refine gate_dst (N := 8) rfl ?_); refine box_event ?hg (N := 8) ?hd (cs := #[.slice none 0 0]) (t := 26) ?hr ?_; (case hd => rfl); (case hg => rfl); (case hr => first | (go_simp; done) | (go_simp; rfl)); intro gb498 hg w72 hbox hb; have n0_ := Sq.m (Kd.R_below (by apply Sq.ra; exact HO486.out) hb); have n1_ := Sq.m (Kd.R_below (by apply Sq.ra; exact HO489.out) hb); have n2_ := Sq.m (Kd.R_below (by apply Sq.ra; exact HO492.out) hb); have n3_ := Sq.m (Kd.R_below (by apply Sq.ra; exact HO497.out) hb); have n4_ := Sq.m (blk_below (g := gb480) (o := .cells #[.slice A0_0 l0_0.length c0_0] 24 (0, 0)) (by apply Sq.rb; exact BK480.out) hb); have n5_ := Sq.m (blk_below (g := gb481) (o := .cells #[.slice A1_0 l1_0.length c1_0] 24 (0, 0)) (by apply Sq.rb; exact BK481.out) hb); have n6_ := Sq.m (blk_below (g := gb494) (o := .cells #[v491] 26 (0, 0)) (by apply Sq.rb; exact BK494.out) hb); have n7_ := Sq.m (below_step (by repeat (first | (with_reducible first | exact HB.out | apply Sq.rc | refine below_set ?_ GE480.out | refine below_set ?_ GE481.out | refine below_set ?_ GE494.out) | exact HB.out)) hb); have n8_ := Sq.m (hbox); have n9_ := Sq.m ((by rw [hg]; exact (below_size (by repeat (first | (with_reducible first | exact HB.out | apply Sq.rc | refine below_set ?_ GE480.out | refine below_set ?_ GE481.out | refine below_set ?_ GE494.out) | exact HB.out))) : w.heap.size ≤ gb498)); have n10_ := Sq.m ((by rw [hg]; exact (below_size (by repeat (first | (with_reducible first | exact HB.out | apply Sq.rc | refine below_set ?_ GE480.out | refine below_set ?_ GE481.out | refine below_set ?_ GE494.out) | exact HB.out))) : w.heap.size ≤ gb498)); have n11_ := Sq.m ((by rw [hg]; exact Nat.ne_of_lt (blk_lt (g := gb480) (o := .cells #[.slice A0_0 l0_0.length c0_0] 24 (0, 0)) (by apply Sq.rb; exact BK480.out)) : gb480 ≠ gb498)); have n12_ := Sq.m ((by rw [hg]; exact Nat.ne_of_gt (blk_lt (g := gb480) (o := .cells #[.slice A0_0 l0_0.length c0_0] 24 (0, 0)) (by apply Sq.rb; exact BK480.out)) : gb498 ≠ gb480)); have n13_ := Sq.m ((by rw [hg]; exact Nat.ne_of_lt (blk_lt (g := gb481) (o := .cells #[.slice A1_0 l1_0.length c1_0] 24 (0, 0)) (by apply Sq.rb; exact BK481.out)) : gb481 ≠ gb498)); have n14_ := Sq.m ((by rw [hg]; exact Nat.ne_of_gt (blk_lt (g := gb481) (o := .cells #[.slice A1_0 l1_0.length c1_0] 24 (0, 0)) (by apply Sq.rb; exact BK481.out)) : gb498 ≠ gb481)); have n15_ := Sq.m ((by rw [hg]; exact Nat.ne_of_lt (blk_lt (g := gb494) (o := .cells #[v491] 26 (0, 0)) (by apply Sq.rb; exact BK494.out)) : gb494 ≠ gb498)); have n16_ := Sq.m ((by rw [hg]; exact Nat.ne_of_gt (blk_lt (g := gb494) (o := .cells #[v491] 26 (0, 0)) (by apply Sq.rb; exact BK494.out)) : gb498 ≠ gb494)); clear HO486; clear HO489; clear HO492; clear HO497; clear BK480; clear BK481; clear BK494; clear HB; have HO486 := n0_; have HO489 := n1_; have HO492 := n2_; have HO497 := n3_; have BK480 := n4_; have BK481 := n5_; have BK494 := n6_; have HB := n7_; have BK498 := n8_; have GW498 := n9_; have GE498 := n10_; have NB480_498 := n11_; have NB498_480 := n12_; have NB481_498 := n13_; have NB498_481 := n14_; have NB494_498 := n15_; have NB498_494 := n16_; clear n0_ n1_ n2_ n3_ n4_ n5_ n6_ n7_ n8_ n9_ n10_ n11_ n12_ n13_ n14_ n15_ n16_; clear hb hbox hg; obtain ⟨Ao73, co73, eo73⟩ := Kd.R_slice HO497.out; subst eo73; have hnb74 := NB498_480.out; have hnc74 := NB480_498.out; have hnb75 := NB498_481.out; have hnc75 := NB481_498.out; have hnb76 := NB498_494.out; have hnc76 := NB494_498.out; have hcz77_0 : w72.cell? ⟨gb498, 0, none⟩ = some (.slice none 0 0) := (blk_cell BK498.out 0).trans rfl; have hfz77_0 := blk_frozen BK498.out 0; have hnb78 := NB481_494.out; have hnc78 := NB494_481.out; have hcz79_0 : w72.cell? ⟨gb481, 0, none⟩ = some (.slice A1_0 l1_0.length c1_0) := (blk_cell BK481.out 0).trans rfl; have hfz79_0 := blk_frozen BK481.out 0) | ((with_reducible refine gate_callee (f := 17) rfl ?_); refine goesL_ (some 38) rfl rfl Try.func17 (by kernel_rfl) rfl #[.agg #[.slice A1_0 l1_0.length c1_0]] rfl (by (try simp only [List.map_toArray, List.map_cons, List.map_nil]); first | done | rfl | (simp only [List.length_drop, List.length_take]; rfl) | (simp only [i64_w, u8_w, w64_b]; rfl)) ?_; (with_reducible refine (laws_toNat.calls k _ _ l1_0 t499 _ ?side1 ?side2 A23.out).mono ?_); (case side1 => exact Kd.C_below HR1_0.out (by repeat (first | (with_reducible first | exact HB.out | apply Sq.rc | refine below_set ?_ GE480.out | refine below_set ?_ GE481.out | refine below_set ?_ GE494.out | refine below_set ?_ GE498.out) | exact HB.out))); (case side2 => exact HC1_0.out); rintro e w80 ⟨v500, rfl, ho0, hb⟩; refine ⟨_, rfl, ?_⟩; have n0_ := Sq.m (Kd.R_elder' (by apply Sq.ra; exact (Kd.R_mono (Kd.R_far (p := ⟨gb498, 0, none⟩) (Kd.R_types HO486.out BK498.out (by decide)) (fun _ hk => hk.2) (.slice Ao73 t495.length co73)) (fun _ h_ => h_.1))) (Kd.R_base ho0) hb); have n1_ := Sq.m (Kd.R_elder' (by apply Sq.ra; exact (Kd.R_mono (Kd.R_far (p := ⟨gb498, 0, none⟩) (Kd.R_types HO489.out BK498.out (by decide)) (fun _ hk => hk.2) (.slice Ao73 t495.length co73)) (fun _ h_ => h_.1))) (Kd.R_base ho0) hb); have n2_ := Sq.m (Kd.R_elder' (by apply Sq.ra; exact (Kd.R_mono (Kd.R_far (p := ⟨gb498, 0, none⟩) (Kd.R_types HO492.out BK498.out (by decide)) (fun _ hk => hk.2) (.slice Ao73 t495.length co73)) (fun _ h_ => h_.1))) (Kd.R_base ho0) hb); have n3_ := Sq.m (Kd.R_elder' (by apply Sq.ra; exact (Kd.R_mono (Kd.R_far (p := ⟨gb498, 0, none⟩) (Kd.R_types HO497.out BK498.out (by decide)) (fun _ hk => hk.2) (.slice Ao73 t495.length co73)) (fun _ h_ => h_.1))) (Kd.R_base ho0) hb); have n4_ := Sq.m (Kd.R_lower (Kd.R_new' (Kd.R_new' (Kd.R_new' (Kd.R_new' ho0 (Kd.R_lt (by apply Sq.ra; exact (Kd.R_mono (Kd.R_far (p := ⟨gb498, 0, none⟩) (Kd.R_types HO486.out BK498.out (by decide)) (fun _ hk => hk.2) (.slice Ao73 t495.length co73)) (fun _ h_ => h_.1))))) (Kd.R_lt (by apply Sq.ra; exact (Kd.R_mono (Kd.R_far (p := ⟨gb498, 0, none⟩) (Kd.R_types HO489.out BK498.out (by decide)) (fun _ hk => hk.2) (.slice Ao73 t495.length co73)) (fun _ h_ => h_.1))))) (Kd.R_lt (by apply Sq.ra; exact (Kd.R_mono (Kd.R_far (p := ⟨gb498, 0, none⟩) (Kd.R_types HO492.out BK498.out (by decide)) (fun _ hk => hk.2) (.slice Ao73 t495.length co73)) (fun _ h_ => h_.1))))) (Kd.R_lt (by apply Sq.ra; exact (Kd.R_mono (Kd.R_far (p := ⟨gb498, 0, none⟩) (Kd.R_types HO497.out BK498.out (by decide)) (fun _ hk => hk.2) (.slice Ao73 t495.length co73)) (fun _ h_ => h_.1))))) (below_size (by repeat (first | (with_reducible first | exact HB.out | apply Sq.rc | refine below_set ?_ GE480.out | refine below_set ?_ GE481.out | refine below_set ?_ GE494.out | refine below_set ?_ GE498.out) | exact HB.out)))); have n5_ := Sq.m (blk_below (g := gb480) (o := .cells #[.slice A0_0 l0_0.length c0_0] 24 (0, 0)) (by apply Sq.rb; refine blk_far ?_ NB480_498.out _; apply Sq.rb; exact BK480.out) hb); have n6_ := Sq.m (blk_below (g := gb481) (o := .cells #[.slice A1_0 l1_0.length c1_0] 24 (0, 0)) (by apply Sq.rb; refine blk_far ?_ NB481_498.out _; apply Sq.rb; exact BK481.out) hb); have n7_ := Sq.m (blk_below (g := gb494) (o := .cells #[v491] 26 (0, 0)) (by apply Sq.rb; refine blk_far ?_ NB494_498.out _; apply Sq.rb; exact BK494.out) hb); have n8_ := Sq.m (blk_below (g := gb498) (o := .cells #[.slice Ao73 t495.length co73] 26 (0, 0)) (by apply Sq.rb; refine blk_put (cs := #[.slice none 0 0]) ?_ 0 _ rfl; apply Sq.rb; exact BK498.out) hb); have n9_ := Sq.m (below_step (by repeat (first | (with_reducible first | exact HB.out | apply Sq.rc | refine below_set ?_ GE480.out | refine below_set ?_ GE481.out | refine below_set ?_ GE494.out | refine below_set ?_ GE498.out) | exact HB.out)) hb); clear HO486; clear HO489; clear HO492; clear HO497; clear BK480; clear BK481; clear BK494; clear BK498; clear HB; have HO486 := n0_; have HO489 := n1_; have HO492 := n2_; have HO497 := n3_; have HO501 := n4_; have BK480 := n5_; have BK481 := n6_; have BK494 := n7_; have BK498 := n8_; have HB := n9_; clear n0_ n1_ n2_ n3_ n4_ n5_ n6_ n7_ n8_ n9_; (try clear hb); (try clear hb2); (try clear hk); (try clear hi); (try clear ho0)) | ((with_reducible refine gate_dst (N := 9) rfl ?_); refine box_event ?hg (N := 9) ?hd (cs := #[.slice none 0 0]) (t := 26) ?hr ?_; (case hd => rfl); (case hg => rfl); (case hr => first | (go_simp; done) | (go_simp; rfl)); intro gb502 hg w81 hbox hb; have n0_ := Sq.m (Kd.R_below (by apply Sq.ra; exact HO486.out) hb); have n1_ := Sq.m (Kd.R_below (by apply Sq.ra; exact HO489.out) hb); have n2_ := Sq.m (Kd.R_below (by apply Sq.ra; exact HO492.out) hb); have n3_ := Sq.m (Kd.R_below (by apply Sq.ra; exact HO497.out) hb); have n4_ := Sq.m (Kd.R_below (by apply Sq.ra; exact HO501.out) hb); have n5_ := Sq.m (blk_below (g := gb480) (o := .cells #[.slice A0_0 l0_0.length c0_0] 24 (0, 0)) (by apply Sq.rb; exact BK480.out) hb); have n6_ := Sq.m (blk_below (g := gb481) (o := .cells #[.slice A1_0 l1_0.length c1_0] 24 (0, 0)) (by apply Sq.rb; exact BK481.out) hb); have n7_ := Sq.m (blk_below (g := gb494) (o := .cells #[v491] 26 (0, 0)) (by apply Sq.rb; exact BK494.out) hb); have n8_ := Sq.m (blk_below (g := gb498) (o := .cells #[.slice Ao73 t495.length co73] 26 (0, 0)) (by apply Sq.rb; exact BK498.out) hb); have n9_ := Sq.m (below_step (by repeat (first | (with_reducible first | exact HB.out | apply Sq.rc | refine below_set ?_ GE480.out | refine below_set ?_ GE481.out | refine below_set ?_ GE494.out | refine below_set ?_ GE498.out) | exact HB.out)) hb); have n10_ := Sq.m (hbox); have n11_ := Sq.m ((by rw [hg]; exact (below_size (by repeat (first | (with_reducible first | exact HB.out | apply Sq.rc | refine below_set ?_ GE480.out | refine below_set ?_ GE481.out | refine below_set ?_ GE494.out | refine below_set ?_ GE498.out) | exact HB.out))) : w.heap.size ≤ gb502)); have n12_ := Sq.m ((by rw [hg]; exact (below_size (by repeat (first | (with_reducible first | exact HB.out | apply Sq.rc | refine below_set ?_ GE480.out | refine below_set ?_ GE481.out | refine below_set ?_ GE494.out | refine below_set ?_ GE498.out) | exact HB.out))) : w.heap.size ≤ gb502)); have n13_ := Sq.m ((by rw [hg]; exact Nat.ne_of_lt (blk_lt (g := gb480) (o := .cells #[.slice A0_0 l0_0.length c0_0] 24 (0, 0)) (by apply Sq.rb; exact BK480.out)) : gb480 ≠ gb502)); have n14_ := Sq.m ((by rw [hg]; exact Nat.ne_of_gt (blk_lt (g := gb480) (o := .cells #[.slice A0_0 l0_0.length c0_0] 24 (0, 0)) (by apply Sq.rb; exact BK480.out)) : gb502 ≠ gb480)); have n15_ := Sq.m ((by rw [hg]; exact Nat.ne_of_lt (blk_lt (g := gb481) (o := .cells #[.slice A1_0 l1_0.length c1_0] 24 (0, 0)) (by apply Sq.rb; exact BK481.out)) : gb481 ≠ gb502)); have n16_ := Sq.m ((by rw [hg]; exact Nat.ne_of_gt (blk_lt (g := gb481) (o := .cells #[.slice A1_0 l1_0.length c1_0] 24 (0, 0)) (by apply Sq.rb; exact BK481.out)) : gb502 ≠ gb481)); have n17_ := Sq.m ((by rw [hg]; exact Nat.ne_of_lt (blk_lt (g := gb494) (o := .cells #[v491] 26 (0, 0)) (by apply Sq.rb; exact BK494.out)) : gb494 ≠ gb502)); have n18_ := Sq.m ((by rw [hg]; exact Nat.ne_of_gt (blk_lt (g := gb494) (o := .cells #[v491] 26 (0, 0)) (by apply Sq.rb; exact BK494.out)) : gb502 ≠ gb494)); have n19_ := Sq.m ((by rw [hg]; exact Nat.ne_of_lt (blk_lt (g := gb498) (o := .cells #[.slice Ao73 t495.length co73] 26 (0, 0)) (by apply Sq.rb; exact BK498.out)) : gb498 ≠ gb502)); have n20_ := Sq.m ((by rw [hg]; exact Nat.ne_of_gt (blk_lt (g := gb498) (o := .cells #[.slice Ao73 t495.length co73] 26 (0, 0)) (by apply Sq.rb; exact BK498.out)) : gb502 ≠ gb498)); clear HO486; clear HO489; clear HO492; clear HO497; clear HO501; clear BK480; clear BK481; clear BK494; clear BK498; clear HB; have HO486 := n0_; have HO489 := n1_; have HO492 := n2_; have HO497 := n3_; have HO501 := n4_; have BK480 := n5_; have BK481 := n6_; have BK494 := n7_; have BK498 := n8_; have HB := n9_; have BK502 := n10_; have GW502 := n11_; have GE502 := n12_; have NB480_502 := n13_; have NB502_480 := n14_; have NB481_502 := n15_; have NB502_481 := n16_; have NB494_502 := n17_; have NB502_494 := n18_; have NB498_502 := n19_; have NB502_498 := n20_; clear n0_ n1_ n2_ n3_ n4_ n5_ n6_ n7_ n8_ n9_ n10_ n11_ n12_ n13_ n14_ n15_ n16_ n17_ n18_ n19_ n20_; clear hb hbox hg; obtain ⟨Ao82, co82, eo82⟩ := Kd.R_slice HO501.out; subst eo82; have hnb83 := NB502_480.out; have hnc83 := NB480_502.out; have hnb84 := NB502_481.out; have hnc84 := NB481_502.out; have hnb85 := NB502_494.out; have hnc85 := NB494_502.out; have hnb86 := NB502_498.out; have hnc86 := NB498_502.out; have hcz87_0 : w81.cell? ⟨gb502, 0, none⟩ = some (.slice none 0 0) := (blk_cell BK502.out 0).trans rfl; have hfz87_0 := blk_frozen BK502.out 0; have hcz88_0 : w81.cell? ⟨gb498, 0, none⟩ = some (.slice Ao73 t495.length co73) := (blk_cell BK498.out 0).trans rfl; have hfz88_0 := blk_frozen BK498.out 0) | ((with_reducible refine gate_callee (f := 25) rfl ?_); refine goesL_ (some 42) rfl rfl Try.func25 (by kernel_rfl) rfl #[.agg #[.slice Ao73 t495.length co73], .agg #[.slice Ao82 t499.length co82]] rfl (by (try simp only [List.map_toArray, List.map_cons, List.map_nil]); first | done | rfl | (simp only [List.length_drop, List.length_take]; rfl) | (simp only [i64_w, u8_w, w64_b]; rfl)) ?_; (with_reducible refine (impl_NatSub.calls k _ _ t495 _ _ t499 t503 t506 _ ?side1 ?side2 ?side3 ?side4 A24.out).mono ?_); (case side1 => refine (Kd.R_reads' (e := 3) (base := w.heap.size) (ok := fun k_ => ((((True ∧ some k_ ≠ (v485 : Value).ownBlock) ∧ some k_ ≠ (v488 : Value).ownBlock) ∧ some k_ ≠ (v491 : Value).ownBlock) ∧ some k_ ≠ (.slice Ao82 t499.length co82 : Value).ownBlock)) (n := t495.length) (c := co73) ?_).2.2; exact (by apply Sq.ra; exact (Kd.R_mono (Kd.R_far (p := ⟨gb502, 0, none⟩) (Kd.R_types HO497.out BK502.out (by decide)) (fun _ hk => hk.2) (.slice Ao82 t499.length co82)) (fun _ h_ => h_.1)))); (case side2 => exact (Kd.R_reads' HO497.out).2.1); (case side3 => refine (Kd.R_reads' (e := 3) (base := w.heap.size) (ok := fun k_ => ((((True ∧ some k_ ≠ (v485 : Value).ownBlock) ∧ some k_ ≠ (v488 : Value).ownBlock) ∧ some k_ ≠ (v491 : Value).ownBlock) ∧ some k_ ≠ (.slice Ao73 t495.length co73 : Value).ownBlock)) (n := t499.length) (c := co82) ?_).2.2; exact (by apply Sq.ra; exact (Kd.R_mono (Kd.R_far (p := ⟨gb502, 0, none⟩) (Kd.R_types HO501.out BK502.out (by decide)) (fun _ hk => hk.2) (.slice Ao82 t499.length co82)) (fun _ h_ => h_.1)))); (case side4 => exact (Kd.R_reads' HO501.out).2.1); rintro e w89 ⟨v504, rfl, ho0, hb⟩; refine ⟨_, rfl, ?_⟩; have n0_ := Sq.m (Kd.R_elder' (by apply Sq.ra; exact (Kd.R_mono (Kd.R_far (p := ⟨gb502, 0, none⟩) (Kd.R_types HO486.out BK502.out (by decide)) (fun _ hk => hk.2) (.slice Ao82 t499.length co82)) (fun _ h_ => h_.1))) (Kd.R_base ho0) hb); have n1_ := Sq.m (Kd.R_elder' (by apply Sq.ra; exact (Kd.R_mono (Kd.R_far (p := ⟨gb502, 0, none⟩) (Kd.R_types HO489.out BK502.out (by decide)) (fun _ hk => hk.2) (.slice Ao82 t499.length co82)) (fun _ h_ => h_.1))) (Kd.R_base ho0) hb); have n2_ := Sq.m (Kd.R_elder' (by apply Sq.ra; exact (Kd.R_mono (Kd.R_far (p := ⟨gb502, 0, none⟩) (Kd.R_types HO492.out BK502.out (by decide)) (fun _ hk => hk.2) (.slice Ao82 t499.length co82)) (fun _ h_ => h_.1))) (Kd.R_base ho0) hb); have n3_ := Sq.m (Kd.R_elder' (by apply Sq.ra; exact (Kd.R_mono (Kd.R_far (p := ⟨gb502, 0, none⟩) (Kd.R_types HO497.out BK502.out (by decide)) (fun _ hk => hk.2) (.slice Ao82 t499.length co82)) (fun _ h_ => h_.1))) (Kd.R_base ho0) hb); have n4_ := Sq.m (Kd.R_elder' (by apply Sq.ra; exact (Kd.R_mono (Kd.R_far (p := ⟨gb502, 0, none⟩) (Kd.R_types HO501.out BK502.out (by decide)) (fun _ hk => hk.2) (.slice Ao82 t499.length co82)) (fun _ h_ => h_.1))) (Kd.R_base ho0) hb); have n5_ := Sq.m (Kd.R_lower (Kd.R_new' (Kd.R_new' (Kd.R_new' (Kd.R_new' (Kd.R_new' ho0 (Kd.R_lt (by apply Sq.ra; exact (Kd.R_mono (Kd.R_far (p := ⟨gb502, 0, none⟩) (Kd.R_types HO486.out BK502.out (by decide)) (fun _ hk => hk.2) (.slice Ao82 t499.length co82)) (fun _ h_ => h_.1))))) (Kd.R_lt (by apply Sq.ra; exact (Kd.R_mono (Kd.R_far (p := ⟨gb502, 0, none⟩) (Kd.R_types HO489.out BK502.out (by decide)) (fun _ hk => hk.2) (.slice Ao82 t499.length co82)) (fun _ h_ => h_.1))))) (Kd.R_lt (by apply Sq.ra; exact (Kd.R_mono (Kd.R_far (p := ⟨gb502, 0, none⟩) (Kd.R_types HO492.out BK502.out (by decide)) (fun _ hk => hk.2) (.slice Ao82 t499.length co82)) (fun _ h_ => h_.1))))) (Kd.R_lt (by apply Sq.ra; exact (Kd.R_mono (Kd.R_far (p := ⟨gb502, 0, none⟩) (Kd.R_types HO497.out BK502.out (by decide)) (fun _ hk => hk.2) (.slice Ao82 t499.length co82)) (fun _ h_ => h_.1))))) (Kd.R_lt (by apply Sq.ra; exact (Kd.R_mono (Kd.R_far (p := ⟨gb502, 0, none⟩) (Kd.R_types HO501.out BK502.out (by decide)) (fun _ hk => hk.2) (.slice Ao82 t499.length co82)) (fun _ h_ => h_.1))))) (below_size (by repeat (first | (with_reducible first | exact HB.out | apply Sq.rc | refine below_set ?_ GE480.out | refine below_set ?_ GE481.out | refine below_set ?_ GE494.out | refine below_set ?_ GE498.out | refine below_set ?_ GE502.out) | exact HB.out)))); have n6_ := Sq.m (blk_below (g := gb480) (o := .cells #[.slice A0_0 l0_0.length c0_0] 24 (0, 0)) (by apply Sq.rb; refine blk_far ?_ NB480_502.out _; apply Sq.rb; exact BK480.out) hb); have n7_ := Sq.m (blk_below (g := gb481) (o := .cells #[.slice A1_0 l1_0.length c1_0] 24 (0, 0)) (by apply Sq.rb; refine blk_far ?_ NB481_502.out _; apply Sq.rb; exact BK481.out) hb); have n8_ := Sq.m (blk_below (g := gb494) (o := .cells #[v491] 26 (0, 0)) (by apply Sq.rb; refine blk_far ?_ NB494_502.out _; apply Sq.rb; exact BK494.out) hb); have n9_ := Sq.m (blk_below (g := gb498) (o := .cells #[.slice Ao73 t495.length co73] 26 (0, 0)) (by apply Sq.rb; refine blk_far ?_ NB498_502.out _; apply Sq.rb; exact BK498.out) hb); have n10_ := Sq.m (blk_below (g := gb502) (o := .cells #[.slice Ao82 t499.length co82] 26 (0, 0)) (by apply Sq.rb; refine blk_put (cs := #[.slice none 0 0]) ?_ 0 _ rfl; apply Sq.rb; exact BK502.out) hb); have n11_ := Sq.m (below_step (by repeat (first | (with_reducible first | exact HB.out | apply Sq.rc | refine below_set ?_ GE480.out | refine below_set ?_ GE481.out | refine below_set ?_ GE494.out | refine below_set ?_ GE498.out | refine below_set ?_ GE502.out) | exact HB.out)) hb); clear HO486; clear HO489; clear HO492; clear HO497; clear HO501; clear BK480; clear BK481; clear BK494; clear BK498; clear BK502; clear HB; have HO486 := n0_; have HO489 := n1_; have HO492 := n2_; have HO497 := n3_; have HO501 := n4_; have HO505 := n5_; have BK480 := n6_; have BK481 := n7_; have BK494 := n8_; have BK498 := n9_; have BK502 := n10_; have HB := n11_; clear n0_ n1_ n2_ n3_ n4_ n5_ n6_ n7_ n8_ n9_ n10_ n11_; (try clear hb); (try clear hb2); (try clear hk); (try clear hi); (try clear ho0)) | ((with_reducible refine gate_dst (N := 10) rfl ?_); refine box_event ?hg (N := 10) ?hd (cs := #[.slice none 0 0]) (t := 26) ?hr ?_; (case hd => rfl); (case hg => rfl); (case hr => first | (go_simp; done) | (go_simp; rfl)); intro gb507 hg w90 hbox hb; have n0_ := Sq.m (Kd.R_below (by apply Sq.ra; exact HO486.out) hb); have n1_ := Sq.m (Kd.R_below (by apply Sq.ra; exact HO489.out) hb); have n2_ := Sq.m (Kd.R_below (by apply Sq.ra; exact HO492.out) hb); have n3_ := Sq.m (Kd.R_below (by apply Sq.ra; exact HO497.out) hb); have n4_ := Sq.m (Kd.R_below (by apply Sq.ra; exact HO501.out) hb); have n5_ := Sq.m (Kd.R_below (by apply Sq.ra; exact HO505.out) hb); have n6_ := Sq.m (blk_below (g := gb480) (o := .cells #[.slice A0_0 l0_0.length c0_0] 24 (0, 0)) (by apply Sq.rb; exact BK480.out) hb); have n7_ := Sq.m (blk_below (g := gb481) (o := .cells #[.slice A1_0 l1_0.length c1_0] 24 (0, 0)) (by apply Sq.rb; exact BK481.out) hb); have n8_ := Sq.m (blk_below (g := gb494) (o := .cells #[v491] 26 (0, 0)) (by apply Sq.rb; exact BK494.out) hb); have n9_ := Sq.m (blk_below (g := gb498) (o := .cells #[.slice Ao73 t495.length co73] 26 (0, 0)) (by apply Sq.rb; exact BK498.out) hb); have n10_ := Sq.m (blk_below (g := gb502) (o := .cells #[.slice Ao82 t499.length co82] 26 (0, 0)) (by apply Sq.rb; exact BK502.out) hb); have n11_ := Sq.m (below_step (by repeat (first | (with_reducible first | exact HB.out | apply Sq.rc | refine below_set ?_ GE480.out | refine below_set ?_ GE481.out | refine below_set ?_ GE494.out | refine below_set ?_ GE498.out | refine below_set ?_ GE502.out) | exact HB.out)) hb); have n12_ := Sq.m (hbox); have n13_ := Sq.m ((by rw [hg]; exact (below_size (by repeat (first | (with_reducible first | exact HB.out | apply Sq.rc | refine below_set ?_ GE480.out | refine below_set ?_ GE481.out | refine below_set ?_ GE494.out | refine below_set ?_ GE498.out | refine below_set ?_ GE502.out) | exact HB.out))) : w.heap.size ≤ gb507)); have n14_ := Sq.m ((by rw [hg]; exact (below_size (by repeat (first | (with_reducible first | exact HB.out | apply Sq.rc | refine below_set ?_ GE480.out | refine below_set ?_ GE481.out | refine below_set ?_ GE494.out | refine below_set ?_ GE498.out | refine below_set ?_ GE502.out) | exact HB.out))) : w.heap.size ≤ gb507)); have n15_ := Sq.m ((by rw [hg]; exact Nat.ne_of_lt (blk_lt (g := gb480) (o := .cells #[.slice A0_0 l0_0.length c0_0] 24 (0, 0)) (by apply Sq.rb; exact BK480.out)) : gb480 ≠ gb507)); have n16_ := Sq.m ((by rw [hg]; exact Nat.ne_of_gt (blk_lt (g := gb480) (o := .cells #[.slice A0_0 l0_0.length c0_0] 24 (0, 0)) (by apply Sq.rb; exact BK480.out)) : gb507 ≠ gb480)); have n17_ := Sq.m ((by rw [hg]; exact Nat.ne_of_lt (blk_lt (g := gb481) (o := .cells #[.slice A1_0 l1_0.length c1_0] 24 (0, 0)) (by apply Sq.rb; exact BK481.out)) : gb481 ≠ gb507)); have n18_ := Sq.m ((by rw [hg]; exact Nat.ne_of_gt (blk_lt (g := gb481) (o := .cells #[.slice A1_0 l1_0.length c1_0] 24 (0, 0)) (by apply Sq.rb; exact BK481.out)) : gb507 ≠ gb481)); have n19_ := Sq.m ((by rw [hg]; exact Nat.ne_of_lt (blk_lt (g := gb494) (o := .cells #[v491] 26 (0, 0)) (by apply Sq.rb; exact BK494.out)) : gb494 ≠ gb507)); have n20_ := Sq.m ((by rw [hg]; exact Nat.ne_of_gt (blk_lt (g := gb494) (o := .cells #[v491] 26 (0, 0)) (by apply Sq.rb; exact BK494.out)) : gb507 ≠ gb494)); have n21_ := Sq.m ((by rw [hg]; exact Nat.ne_of_lt (blk_lt (g := gb498) (o := .cells #[.slice Ao73 t495.length co73] 26 (0, 0)) (by apply Sq.rb; exact BK498.out)) : gb498 ≠ gb507)); have n22_ := Sq.m ((by rw [hg]; exact Nat.ne_of_gt (blk_lt (g := gb498) (o := .cells #[.slice Ao73 t495.length co73] 26 (0, 0)) (by apply Sq.rb; exact BK498.out)) : gb507 ≠ gb498)); have n23_ := Sq.m ((by rw [hg]; exact Nat.ne_of_lt (blk_lt (g := gb502) (o := .cells #[.slice Ao82 t499.length co82] 26 (0, 0)) (by apply Sq.rb; exact BK502.out)) : gb502 ≠ gb507)); have n24_ := Sq.m ((by rw [hg]; exact Nat.ne_of_gt (blk_lt (g := gb502) (o := .cells #[.slice Ao82 t499.length co82] 26 (0, 0)) (by apply Sq.rb; exact BK502.out)) : gb507 ≠ gb502)); clear HO486; clear HO489; clear HO492; clear HO497; clear HO501; clear HO505; clear BK480; clear BK481; clear BK494; clear BK498; clear BK502; clear HB; have HO486 := n0_; have HO489 := n1_; have HO492 := n2_; have HO497 := n3_; have HO501 := n4_; have HO505 := n5_; have BK480 := n6_; have BK481 := n7_; have BK494 := n8_; have BK498 := n9_; have BK502 := n10_; have HB := n11_; have BK507 := n12_; have GW507 := n13_; have GE507 := n14_; have NB480_507 := n15_; have NB507_480 := n16_; have NB481_507 := n17_; have NB507_481 := n18_; have NB494_507 := n19_; have NB507_494 := n20_; have NB498_507 := n21_; have NB507_498 := n22_; have NB502_507 := n23_; have NB507_502 := n24_; clear n0_ n1_ n2_ n3_ n4_ n5_ n6_ n7_ n8_ n9_ n10_ n11_ n12_ n13_ n14_ n15_ n16_ n17_ n18_ n19_ n20_ n21_ n22_ n23_ n24_; clear hb hbox hg; obtain ⟨Ao91, co91, eo91⟩ := Kd.R_slice HO505.out; subst eo91; have hnb92 := NB507_480.out; have hnc92 := NB480_507.out; have hnb93 := NB507_481.out; have hnc93 := NB481_507.out; have hnb94 := NB507_494.out; have hnc94 := NB494_507.out; have hnb95 := NB507_498.out; have hnc95 := NB498_507.out; have hnb96 := NB507_502.out; have hnc96 := NB502_507.out; have hcz97_0 : w90.cell? ⟨gb507, 0, none⟩ = some (.slice none 0 0) := (blk_cell BK507.out 0).trans rfl; have hfz97_0 := blk_frozen BK507.out 0; have hcz98_0 : w90.cell? ⟨gb494, 0, none⟩ = some (v491) := (blk_cell BK494.out 0).trans rfl; have hfz98_0 := blk_frozen BK494.out 0; obtain ⟨Ao99, co99, eo99⟩ := Kd.R_slice HO492.out; subst eo99) | ((with_reducible refine gate_callee (f := 19) rfl ?_); refine goesL_ (some 47) rfl rfl Try.func19 (by kernel_rfl) rfl #[.agg #[.slice Ao91 t503.length co91], .agg #[.slice Ao99 t490.length co99]] rfl (by (try simp only [List.map_toArray, List.map_cons, List.map_nil]); first | done | rfl | (simp only [List.length_drop, List.length_take]; rfl) | (simp only [i64_w, u8_w, w64_b]; rfl)) ?_; (with_reducible refine (laws_eqNat.calls k _ _ t503 _ _ t490 true _ ?side1 ?side2 ?side3 ?side4 A25.out).mono ?_); (case side1 => refine (Kd.R_reads' (e := 3) (base := w.heap.size) (ok := fun k_ => (((((True ∧ some k_ ≠ (v485 : Value).ownBlock) ∧ some k_ ≠ (v488 : Value).ownBlock) ∧ some k_ ≠ (.slice Ao99 t490.length co99 : Value).ownBlock) ∧ some k_ ≠ (.slice Ao73 t495.length co73 : Value).ownBlock) ∧ some k_ ≠ (.slice Ao82 t499.length co82 : Value).ownBlock)) (n := t503.length) (c := co91) ?_).2.2; exact (by apply Sq.ra; exact (Kd.R_mono (Kd.R_far (p := ⟨gb507, 0, none⟩) (Kd.R_types HO505.out BK507.out (by decide)) (fun _ hk => hk.2) (.slice Ao91 t503.length co91)) (fun _ h_ => h_.1)))); (case side2 => exact (Kd.R_reads' HO505.out).2.1); (case side3 => refine (Kd.R_reads' (e := 3) (base := w.heap.size) (ok := fun k_ => (((True ∧ some k_ ≠ (.slice Ao73 t495.length co73 : Value).ownBlock) ∧ some k_ ≠ (.slice Ao82 t499.length co82 : Value).ownBlock) ∧ some k_ ≠ (.slice Ao91 t503.length co91 : Value).ownBlock)) (n := t490.length) (c := co99) ?_).2.2; exact (by apply Sq.ra; exact (Kd.R_mono (Kd.R_far (p := ⟨gb507, 0, none⟩) (Kd.R_types HO492.out BK507.out (by decide)) (fun _ hk => hk.2) (.slice Ao91 t503.length co91)) (fun _ h_ => h_.1)))); (case side4 => exact (Kd.R_reads' HO492.out).2.1); rintro e w100 ⟨rfl, hb⟩; refine ⟨_, rfl, ?_⟩; have n0_ := Sq.m (Kd.R_below (by apply Sq.ra; exact (Kd.R_mono (Kd.R_far (p := ⟨gb507, 0, none⟩) (Kd.R_types HO486.out BK507.out (by decide)) (fun _ hk => hk.2) (.slice Ao91 t503.length co91)) (fun _ h_ => h_.1))) hb); have n1_ := Sq.m (Kd.R_below (by apply Sq.ra; exact (Kd.R_mono (Kd.R_far (p := ⟨gb507, 0, none⟩) (Kd.R_types HO489.out BK507.out (by decide)) (fun _ hk => hk.2) (.slice Ao91 t503.length co91)) (fun _ h_ => h_.1))) hb); have n2_ := Sq.m (Kd.R_below (by apply Sq.ra; exact (Kd.R_mono (Kd.R_far (p := ⟨gb507, 0, none⟩) (Kd.R_types HO492.out BK507.out (by decide)) (fun _ hk => hk.2) (.slice Ao91 t503.length co91)) (fun _ h_ => h_.1))) hb); have n3_ := Sq.m (Kd.R_below (by apply Sq.ra; exact (Kd.R_mono (Kd.R_far (p := ⟨gb507, 0, none⟩) (Kd.R_types HO497.out BK507.out (by decide)) (fun _ hk => hk.2) (.slice Ao91 t503.length co91)) (fun _ h_ => h_.1))) hb); have n4_ := Sq.m (Kd.R_below (by apply Sq.ra; exact (Kd.R_mono (Kd.R_far (p := ⟨gb507, 0, none⟩) (Kd.R_types HO501.out BK507.out (by decide)) (fun _ hk => hk.2) (.slice Ao91 t503.length co91)) (fun _ h_ => h_.1))) hb); have n5_ := Sq.m (Kd.R_below (by apply Sq.ra; exact (Kd.R_mono (Kd.R_far (p := ⟨gb507, 0, none⟩) (Kd.R_types HO505.out BK507.out (by decide)) (fun _ hk => hk.2) (.slice Ao91 t503.length co91)) (fun _ h_ => h_.1))) hb); have n6_ := Sq.m (blk_below (g := gb480) (o := .cells #[.slice A0_0 l0_0.length c0_0] 24 (0, 0)) (by apply Sq.rb; refine blk_far ?_ NB480_507.out _; apply Sq.rb; exact BK480.out) hb); have n7_ := Sq.m (blk_below (g := gb481) (o := .cells #[.slice A1_0 l1_0.length c1_0] 24 (0, 0)) (by apply Sq.rb; refine blk_far ?_ NB481_507.out _; apply Sq.rb; exact BK481.out) hb); have n8_ := Sq.m (blk_below (g := gb494) (o := .cells #[.slice Ao99 t490.length co99] 26 (0, 0)) (by apply Sq.rb; refine blk_far ?_ NB494_507.out _; apply Sq.rb; exact BK494.out) hb); have n9_ := Sq.m (blk_below (g := gb498) (o := .cells #[.slice Ao73 t495.length co73] 26 (0, 0)) (by apply Sq.rb; refine blk_far ?_ NB498_507.out _; apply Sq.rb; exact BK498.out) hb); have n10_ := Sq.m (blk_below (g := gb502) (o := .cells #[.slice Ao82 t499.length co82] 26 (0, 0)) (by apply Sq.rb; refine blk_far ?_ NB502_507.out _; apply Sq.rb; exact BK502.out) hb); have n11_ := Sq.m (blk_below (g := gb507) (o := .cells #[.slice Ao91 t503.length co91] 26 (0, 0)) (by apply Sq.rb; refine blk_put (cs := #[.slice none 0 0]) ?_ 0 _ rfl; apply Sq.rb; exact BK507.out) hb); have n12_ := Sq.m (below_step (by repeat (first | (with_reducible first | exact HB.out | apply Sq.rc | refine below_set ?_ GE480.out | refine below_set ?_ GE481.out | refine below_set ?_ GE494.out | refine below_set ?_ GE498.out | refine below_set ?_ GE502.out | refine below_set ?_ GE507.out) | exact HB.out)) hb); clear HO486; clear HO489; clear HO492; clear HO497; clear HO501; clear HO505; clear BK480; clear BK481; clear BK494; clear BK498; clear BK502; clear BK507; clear HB; have HO486 := n0_; have HO489 := n1_; have HO492 := n2_; have HO497 := n3_; have HO501 := n4_; have HO505 := n5_; have BK480 := n6_; have BK481 := n7_; have BK494 := n8_; have BK498 := n9_; have BK502 := n10_; have BK507 := n11_; have HB := n12_; clear n0_ n1_ n2_ n3_ n4_ n5_ n6_ n7_ n8_ n9_ n10_ n11_ n12_; (try clear hb); (try clear hb2); (try clear hk); (try clear hi)))
               have n0_ := Sq.m (Kd.R_drew HO486.out)
               have n1_ := Sq.m (Kd.R_drew HO489.out)
               have n2_ := Sq.m (Kd.R_drew HO492.out)
               have n3_ := Sq.m (Kd.R_drew HO497.out)
               have n4_ := Sq.m (Kd.R_drew HO501.out)
               have n5_ := Sq.m (Kd.R_drew HO505.out)
               have n6_ := Sq.m (blk_drew BK480.out)
               have n7_ := Sq.m (blk_drew BK481.out)
               have n8_ := Sq.m (blk_drew BK494.out)
               have n9_ := Sq.m (blk_drew BK498.out)
               have n10_ := Sq.m (blk_drew BK502.out)
               have n11_ := Sq.m (blk_drew BK507.out)
               have n12_ := Sq.m (below_drew1 HB.out)
               clear HO486
               clear HO489
               clear HO492
               clear HO497
               clear HO501
               clear HO505
               clear BK480
               clear BK481
               clear BK494
               clear BK498
               clear BK502
               clear BK507
               clear HB
               have HO486 := n0_
               have HO489 := n1_
               have HO492 := n2_
               have HO497 := n3_
               have HO501 := n4_
               have HO505 := n5_
               have BK480 := n6_
               have BK481 := n7_
               have BK494 := n8_
               have BK498 := n9_
               have BK502 := n10_
               have BK507 := n11_
               have HB := n12_
               clear n0_ n1_ n2_ n3_ n4_ n5_ n6_ n7_ n8_ n9_ n10_ n11_ n12_
               refine start_ (n := 5) (S := fun w' => w'.cell? ⟨gb498, 0, none⟩ = some (.slice Ao73 t495.length co73) ∧ w'.cell? ⟨gb480, 0, none⟩ = some (.slice A0_0 l0_0.length c0_0)) (ds := []) #[false, false, false, false, false] (by kernel_rfl) rfl rfl ⟨(blk_cell BK498.out 0).trans rfl, (blk_cell BK480.out 0).trans rfl⟩ (fun hHeld => ?_)
               generalize w100.drew = w101 at HO486 HO489 HO492 HO497 HO501 HO505 BK480 BK481 BK494 BK498 BK502 BK507 HB hHeld ⊢
               refine take_ (i := 0) (N := some 54) (v := ?_) (a' := ?_) #[true, false, false, false, false] rfl rfl (by kernel_rfl) (fun _ _ _ h => h) (Or.inl ⟨by rfl, ?_⟩) hHeld ?_ ?_
               rotate_left
               ·rintro w' ⟨s0, s1⟩
                go_simp
                with_reducible rfl
               rotate_left
               ·simp only [Act.put, List.setIfInBounds_toArray, List.set_cons_zero, List.set_cons_succ, i64_w, i32_w, u8_w, w64_b]
                rfl
               refine take_ (i := 1) (N := some 55) (v := ?_) (a' := ?_) #[true, true, false, false, false] rfl rfl (by kernel_rfl) (fun _ _ _ h => h) (Or.inl ⟨by rfl, ?_⟩) hHeld ?_ ?_
               rotate_left
               ·rintro w' ⟨s0, s1⟩
                go_simp
                with_reducible rfl
               rotate_left
               ·simp only [Act.put, List.setIfInBounds_toArray, List.set_cons_zero, List.set_cons_succ, i64_w, i32_w, u8_w, w64_b]
                rfl
               refine one_ (i := 2) (N := some 56) #[true, true, true, false, false] rfl rfl (by kernel_rfl) (by decide) (fun K hK => ?_)
               refine goes_ Try.func17 (by kernel_rfl) rfl #[.agg #[.slice A0_0 l0_0.length c0_0]] (by rfl) rfl rfl (by (try simp only [List.map_toArray, List.map_cons, List.map_nil]); first | done | rfl | (simp only [List.length_drop, List.length_take]; rfl) | (simp only [i64_w, u8_w, w64_b]; rfl)) ?_
               with_reducible refine (laws_toNat.calls k _ _ l0_0 t509 _ ?side1 ?side2 A28.out).mono ?_
               (case side1 => repeat (first | exact (Kd.C_below HR0_0.out HB.out) | (with_reducible refine Kd.C_alloc ?_ _) | (with_reducible refine Kd.C_drewN ?_ _) | (with_reducible refine Kd.C_drew ?_)))
               (case side2 => exact HC0_0.out)
               rintro e w102 ⟨v510, rfl, ho0, hb⟩
               refine ⟨_, rfl, ?_⟩
               have n0_ := Sq.m (Kd.R_elder' (by apply Sq.ra; exact HO486.out) (Kd.R_base ho0) hb)
               have n1_ := Sq.m (Kd.R_elder' (by apply Sq.ra; exact HO489.out) (Kd.R_base ho0) hb)
               have n2_ := Sq.m (Kd.R_elder' (by apply Sq.ra; exact HO492.out) (Kd.R_base ho0) hb)
               have n3_ := Sq.m (Kd.R_elder' (by apply Sq.ra; exact HO497.out) (Kd.R_base ho0) hb)
               have n4_ := Sq.m (Kd.R_elder' (by apply Sq.ra; exact HO501.out) (Kd.R_base ho0) hb)
               have n5_ := Sq.m (Kd.R_elder' (by apply Sq.ra; exact HO505.out) (Kd.R_base ho0) hb)
               have n6_ := Sq.m (Kd.R_lower (Kd.R_new' (Kd.R_new' (Kd.R_new' (Kd.R_new' (Kd.R_new' (Kd.R_new' ho0 (Kd.R_lt (by apply Sq.ra; exact HO486.out))) (Kd.R_lt (by apply Sq.ra; exact HO489.out))) (Kd.R_lt (by apply Sq.ra; exact HO492.out))) (Kd.R_lt (by apply Sq.ra; exact HO497.out))) (Kd.R_lt (by apply Sq.ra; exact HO501.out))) (Kd.R_lt (by apply Sq.ra; exact HO505.out))) (below_size (by repeat (first | (with_reducible first | exact HB.out | apply Sq.rc | refine below_set ?_ GE480.out | refine below_set ?_ GE481.out | refine below_set ?_ GE494.out | refine below_set ?_ GE498.out | refine below_set ?_ GE502.out | refine below_set ?_ GE507.out) | exact HB.out))))
               have n7_ := Sq.m (blk_below (g := gb480) (o := .cells #[.slice A0_0 l0_0.length c0_0] 24 (0, 0)) (by apply Sq.rb; exact BK480.out) hb)
               have n8_ := Sq.m (blk_below (g := gb481) (o := .cells #[.slice A1_0 l1_0.length c1_0] 24 (0, 0)) (by apply Sq.rb; exact BK481.out) hb)
               have n9_ := Sq.m (blk_below (g := gb494) (o := .cells #[.slice Ao99 t490.length co99] 26 (0, 0)) (by apply Sq.rb; exact BK494.out) hb)
               have n10_ := Sq.m (blk_below (g := gb498) (o := .cells #[.slice Ao73 t495.length co73] 26 (0, 0)) (by apply Sq.rb; exact BK498.out) hb)
               have n11_ := Sq.m (blk_below (g := gb502) (o := .cells #[.slice Ao82 t499.length co82] 26 (0, 0)) (by apply Sq.rb; exact BK502.out) hb)
               have n12_ := Sq.m (blk_below (g := gb507) (o := .cells #[.slice Ao91 t503.length co91] 26 (0, 0)) (by apply Sq.rb; exact BK507.out) hb)
               have n13_ := Sq.m (below_step (by repeat (first | (with_reducible first | exact HB.out | apply Sq.rc | refine below_set ?_ GE480.out | refine below_set ?_ GE481.out | refine below_set ?_ GE494.out | refine below_set ?_ GE498.out | refine below_set ?_ GE502.out | refine below_set ?_ GE507.out) | exact HB.out)) hb)
               clear HO486
               clear HO489
               clear HO492
               clear HO497
               clear HO501
               clear HO505
               clear BK480
               clear BK481
               clear BK494
               clear BK498
               clear BK502
               clear BK507
               clear HB
               have HO486 := n0_
               have HO489 := n1_
               have HO492 := n2_
               have HO497 := n3_
               have HO501 := n4_
               have HO505 := n5_
               have HO511 := n6_
               have BK480 := n7_
               have BK481 := n8_
               have BK494 := n9_
               have BK498 := n10_
               have BK502 := n11_
               have BK507 := n12_
               have HB := n13_
               clear n0_ n1_ n2_ n3_ n4_ n5_ n6_ n7_ n8_ n9_ n10_ n11_ n12_ n13_
               (try clear hb)
               (try clear hb2)
               (try clear hk)
               (try clear hi)
               (try clear ho0)
               obtain ⟨Ao103, co103, eo103⟩ := Kd.R_slice HO511.out
               (first | subst eo103 | (injection eo103 with f1_ f2_ f3_; have f4_ := f1_.symm; have f5_ := f3_.symm; clear f1_ f2_ f3_; subst f4_; subst f5_))
               refine hK.out _ _ ⟨(blk_cell BK498.out 0).trans rfl, (blk_cell BK480.out 0).trans rfl⟩ (fun hHeld => ?_)
               clear hK K
               refine norm_ (a' := ?_) ?_ ?_
               rotate_left
               ·show Act.put _ (some 56) _ = _
                simp only [Act.put, List.setIfInBounds_toArray, List.set_cons_zero, List.set_cons_succ, i64_w, i32_w, u8_w, w64_b]
                rfl
               refine one_ (i := 3) (N := some 57) #[true, true, true, true, false] rfl rfl (by kernel_rfl) (by decide) (fun K hK => ?_)
               refine goes_ Try.func19 (by kernel_rfl) rfl #[.agg #[.slice Ao73 t495.length co73], .agg #[.slice Ao103 t509.length co103]] (by rfl) rfl rfl (by (try simp only [List.map_toArray, List.map_cons, List.map_nil]); first | done | rfl | (simp only [List.length_drop, List.length_take]; rfl) | (simp only [i64_w, u8_w, w64_b]; rfl)) ?_
               with_reducible refine (laws_eqNat.calls k _ _ t495 _ _ t509 true _ ?side1 ?side2 ?side3 ?side4 A29.out).mono ?_
               (case side1 => repeat (first | exact (Kd.R_reads' HO497.out).2.2 | (with_reducible refine Kd.C_alloc ?_ _) | (with_reducible refine Kd.C_drewN ?_ _) | (with_reducible refine Kd.C_drew ?_)))
               (case side2 => exact (Kd.R_reads' HO497.out).2.1)
               (case side3 => repeat (first | exact (Kd.R_reads' HO511.out).2.2 | (with_reducible refine Kd.C_alloc ?_ _) | (with_reducible refine Kd.C_drewN ?_ _) | (with_reducible refine Kd.C_drew ?_)))
               (case side4 => exact (Kd.R_reads' HO511.out).2.1)
               rintro e w104 ⟨rfl, hb⟩
               refine ⟨_, rfl, ?_⟩
               have n0_ := Sq.m (Kd.R_below (by apply Sq.ra; exact HO486.out) hb)
               have n1_ := Sq.m (Kd.R_below (by apply Sq.ra; exact HO489.out) hb)
               have n2_ := Sq.m (Kd.R_below (by apply Sq.ra; exact HO492.out) hb)
               have n3_ := Sq.m (Kd.R_below (by apply Sq.ra; exact HO497.out) hb)
               have n4_ := Sq.m (Kd.R_below (by apply Sq.ra; exact HO501.out) hb)
               have n5_ := Sq.m (Kd.R_below (by apply Sq.ra; exact HO505.out) hb)
               have n6_ := Sq.m (Kd.R_below (by apply Sq.ra; exact HO511.out) hb)
               have n7_ := Sq.m (blk_below (g := gb480) (o := .cells #[.slice A0_0 l0_0.length c0_0] 24 (0, 0)) (by apply Sq.rb; exact BK480.out) hb)
               have n8_ := Sq.m (blk_below (g := gb481) (o := .cells #[.slice A1_0 l1_0.length c1_0] 24 (0, 0)) (by apply Sq.rb; exact BK481.out) hb)
               have n9_ := Sq.m (blk_below (g := gb494) (o := .cells #[.slice Ao99 t490.length co99] 26 (0, 0)) (by apply Sq.rb; exact BK494.out) hb)
               have n10_ := Sq.m (blk_below (g := gb498) (o := .cells #[.slice Ao73 t495.length co73] 26 (0, 0)) (by apply Sq.rb; exact BK498.out) hb)
               have n11_ := Sq.m (blk_below (g := gb502) (o := .cells #[.slice Ao82 t499.length co82] 26 (0, 0)) (by apply Sq.rb; exact BK502.out) hb)
               have n12_ := Sq.m (blk_below (g := gb507) (o := .cells #[.slice Ao91 t503.length co91] 26 (0, 0)) (by apply Sq.rb; exact BK507.out) hb)
               have n13_ := Sq.m (below_step (by repeat (first | (with_reducible first | exact HB.out | apply Sq.rc | refine below_set ?_ GE480.out | refine below_set ?_ GE481.out | refine below_set ?_ GE494.out | refine below_set ?_ GE498.out | refine below_set ?_ GE502.out | refine below_set ?_ GE507.out) | exact HB.out)) hb)
               clear HO486
               clear HO489
               clear HO492
               clear HO497
               clear HO501
               clear HO505
               clear HO511
               clear BK480
               clear BK481
               clear BK494
               clear BK498
               clear BK502
               clear BK507
               clear HB
               have HO486 := n0_
               have HO489 := n1_
               have HO492 := n2_
               have HO497 := n3_
               have HO501 := n4_
               have HO505 := n5_
               have HO511 := n6_
               have BK480 := n7_
               have BK481 := n8_
               have BK494 := n9_
               have BK498 := n10_
               have BK502 := n11_
               have BK507 := n12_
               have HB := n13_
               clear n0_ n1_ n2_ n3_ n4_ n5_ n6_ n7_ n8_ n9_ n10_ n11_ n12_ n13_
               (try clear hb)
               (try clear hb2)
               (try clear hk)
               (try clear hi)
               refine hK.out _ _ ⟨(blk_cell BK498.out 0).trans rfl, (blk_cell BK480.out 0).trans rfl⟩ (fun hHeld => ?_)
               clear hK K
               refine norm_ (a' := ?_) ?_ ?_
               rotate_left
               ·show Act.put _ (some 57) _ = _
                simp only [Act.put, List.setIfInBounds_toArray, List.set_cons_zero, List.set_cons_succ, i64_w, i32_w, u8_w, w64_b]
                rfl
               refine pure_ (i := 4) (N := some 58) (v := ?_) (a' := ?_) #[true, true, true, true, true] rfl rfl (by kernel_rfl) (fun _ _ _ h => h) (Or.inl ⟨by rfl, ?_⟩) ?_ ?_
               rotate_left
               ·intro w'
                go_simp
                with_reducible rfl
               rotate_left
               ·simp only [Act.put, List.setIfInBounds_toArray, List.set_cons_zero, List.set_cons_succ, i64_w, i32_w, u8_w, w64_b]
                rfl
               refine done_ (by kernel_rfl) ?_
               try go_wp2
               have n0_ := Sq.m (Kd.R_drew HO486.out)
               have n1_ := Sq.m (Kd.R_drew HO489.out)
               have n2_ := Sq.m (Kd.R_drew HO492.out)
               have n3_ := Sq.m (Kd.R_drew HO497.out)
               have n4_ := Sq.m (Kd.R_drew HO501.out)
               have n5_ := Sq.m (Kd.R_drew HO505.out)
               have n6_ := Sq.m (Kd.R_drew HO511.out)
               have n7_ := Sq.m (blk_drew BK480.out)
               have n8_ := Sq.m (blk_drew BK481.out)
               have n9_ := Sq.m (blk_drew BK494.out)
               have n10_ := Sq.m (blk_drew BK498.out)
               have n11_ := Sq.m (blk_drew BK502.out)
               have n12_ := Sq.m (blk_drew BK507.out)
               have n13_ := Sq.m (below_drew1 HB.out)
               clear HO486
               clear HO489
               clear HO492
               clear HO497
               clear HO501
               clear HO505
               clear HO511
               clear BK480
               clear BK481
               clear BK494
               clear BK498
               clear BK502
               clear BK507
               clear HB
               have HO486 := n0_
               have HO489 := n1_
               have HO492 := n2_
               have HO497 := n3_
               have HO501 := n4_
               have HO505 := n5_
               have HO511 := n6_
               have BK480 := n7_
               have BK481 := n8_
               have BK494 := n9_
               have BK498 := n10_
               have BK502 := n11_
               have BK507 := n12_
               have HB := n13_
               clear n0_ n1_ n2_ n3_ n4_ n5_ n6_ n7_ n8_ n9_ n10_ n11_ n12_ n13_
               refine start_ (n := 5) (S := fun w' => w'.cell? ⟨gb502, 0, none⟩ = some (.slice Ao82 t499.length co82) ∧ w'.cell? ⟨gb481, 0, none⟩ = some (.slice A1_0 l1_0.length c1_0)) (ds := []) #[false, false, false, false, false] (by kernel_rfl) rfl rfl ⟨(blk_cell BK502.out 0).trans rfl, (blk_cell BK481.out 0).trans rfl⟩ (fun hHeld => ?_)
               generalize w104.drew = w105 at HO486 HO489 HO492 HO497 HO501 HO505 HO511 BK480 BK481 BK494 BK498 BK502 BK507 HB hHeld ⊢
               refine take_ (i := 0) (N := some 59) (v := ?_) (a' := ?_) #[true, false, false, false, false] rfl rfl (by kernel_rfl) (fun _ _ _ h => h) (Or.inl ⟨by rfl, ?_⟩) hHeld ?_ ?_
               rotate_left
               ·rintro w' ⟨s0, s1⟩
                go_simp
                with_reducible rfl
               rotate_left
               ·simp only [Act.put, List.setIfInBounds_toArray, List.set_cons_zero, List.set_cons_succ, i64_w, i32_w, u8_w, w64_b]
                rfl
               refine take_ (i := 1) (N := some 60) (v := ?_) (a' := ?_) #[true, true, false, false, false] rfl rfl (by kernel_rfl) (fun _ _ _ h => h) (Or.inl ⟨by rfl, ?_⟩) hHeld ?_ ?_
               rotate_left
               ·rintro w' ⟨s0, s1⟩
                go_simp
                with_reducible rfl
               rotate_left
               ·simp only [Act.put, List.setIfInBounds_toArray, List.set_cons_zero, List.set_cons_succ, i64_w, i32_w, u8_w, w64_b]
                rfl
               refine one_ (i := 2) (N := some 61) #[true, true, true, false, false] rfl rfl (by kernel_rfl) (by decide) (fun K hK => ?_)
               refine goes_ Try.func17 (by kernel_rfl) rfl #[.agg #[.slice A1_0 l1_0.length c1_0]] (by rfl) rfl rfl (by (try simp only [List.map_toArray, List.map_cons, List.map_nil]); first | done | rfl | (simp only [List.length_drop, List.length_take]; rfl) | (simp only [i64_w, u8_w, w64_b]; rfl)) ?_
               with_reducible refine (laws_toNat.calls k _ _ l1_0 t513 _ ?side1 ?side2 A31.out).mono ?_
               (case side1 => repeat (first | exact (Kd.C_below HR1_0.out HB.out) | (with_reducible refine Kd.C_alloc ?_ _) | (with_reducible refine Kd.C_drewN ?_ _) | (with_reducible refine Kd.C_drew ?_)))
               (case side2 => exact HC1_0.out)
               rintro e w106 ⟨v514, rfl, ho0, hb⟩
               refine ⟨_, rfl, ?_⟩
               have n0_ := Sq.m (Kd.R_elder' (by apply Sq.ra; exact HO486.out) (Kd.R_base ho0) hb)
               have n1_ := Sq.m (Kd.R_elder' (by apply Sq.ra; exact HO489.out) (Kd.R_base ho0) hb)
               have n2_ := Sq.m (Kd.R_elder' (by apply Sq.ra; exact HO492.out) (Kd.R_base ho0) hb)
               have n3_ := Sq.m (Kd.R_elder' (by apply Sq.ra; exact HO497.out) (Kd.R_base ho0) hb)
               have n4_ := Sq.m (Kd.R_elder' (by apply Sq.ra; exact HO501.out) (Kd.R_base ho0) hb)
               have n5_ := Sq.m (Kd.R_elder' (by apply Sq.ra; exact HO505.out) (Kd.R_base ho0) hb)
               have n6_ := Sq.m (Kd.R_elder' (by apply Sq.ra; exact HO511.out) (Kd.R_base ho0) hb)
               have n7_ := Sq.m (Kd.R_lower (Kd.R_new' (Kd.R_new' (Kd.R_new' (Kd.R_new' (Kd.R_new' (Kd.R_new' (Kd.R_new' ho0 (Kd.R_lt (by apply Sq.ra; exact HO486.out))) (Kd.R_lt (by apply Sq.ra; exact HO489.out))) (Kd.R_lt (by apply Sq.ra; exact HO492.out))) (Kd.R_lt (by apply Sq.ra; exact HO497.out))) (Kd.R_lt (by apply Sq.ra; exact HO501.out))) (Kd.R_lt (by apply Sq.ra; exact HO505.out))) (Kd.R_lt (by apply Sq.ra; exact HO511.out))) (below_size (by repeat (first | (with_reducible first | exact HB.out | apply Sq.rc | refine below_set ?_ GE480.out | refine below_set ?_ GE481.out | refine below_set ?_ GE494.out | refine below_set ?_ GE498.out | refine below_set ?_ GE502.out | refine below_set ?_ GE507.out) | exact HB.out))))
               have n8_ := Sq.m (blk_below (g := gb480) (o := .cells #[.slice A0_0 l0_0.length c0_0] 24 (0, 0)) (by apply Sq.rb; exact BK480.out) hb)
               have n9_ := Sq.m (blk_below (g := gb481) (o := .cells #[.slice A1_0 l1_0.length c1_0] 24 (0, 0)) (by apply Sq.rb; exact BK481.out) hb)
               have n10_ := Sq.m (blk_below (g := gb494) (o := .cells #[.slice Ao99 t490.length co99] 26 (0, 0)) (by apply Sq.rb; exact BK494.out) hb)
               have n11_ := Sq.m (blk_below (g := gb498) (o := .cells #[.slice Ao73 t495.length co73] 26 (0, 0)) (by apply Sq.rb; exact BK498.out) hb)
               have n12_ := Sq.m (blk_below (g := gb502) (o := .cells #[.slice Ao82 t499.length co82] 26 (0, 0)) (by apply Sq.rb; exact BK502.out) hb)
               have n13_ := Sq.m (blk_below (g := gb507) (o := .cells #[.slice Ao91 t503.length co91] 26 (0, 0)) (by apply Sq.rb; exact BK507.out) hb)
               have n14_ := Sq.m (below_step (by repeat (first | (with_reducible first | exact HB.out | apply Sq.rc | refine below_set ?_ GE480.out | refine below_set ?_ GE481.out | refine below_set ?_ GE494.out | refine below_set ?_ GE498.out | refine below_set ?_ GE502.out | refine below_set ?_ GE507.out) | exact HB.out)) hb)
               clear HO486
               clear HO489
               clear HO492
               clear HO497
               clear HO501
               clear HO505
               clear HO511
               clear BK480
               clear BK481
               clear BK494
               clear BK498
               clear BK502
               clear BK507
               clear HB
               have HO486 := n0_
               have HO489 := n1_
               have HO492 := n2_
               have HO497 := n3_
               have HO501 := n4_
               have HO505 := n5_
               have HO511 := n6_
               have HO515 := n7_
               have BK480 := n8_
               have BK481 := n9_
               have BK494 := n10_
               have BK498 := n11_
               have BK502 := n12_
               have BK507 := n13_
               have HB := n14_
               clear n0_ n1_ n2_ n3_ n4_ n5_ n6_ n7_ n8_ n9_ n10_ n11_ n12_ n13_ n14_
               (try clear hb)
               (try clear hb2)
               (try clear hk)
               (try clear hi)
               (try clear ho0)
               obtain ⟨Ao107, co107, eo107⟩ := Kd.R_slice HO515.out
               (first | subst eo107 | (injection eo107 with f1_ f2_ f3_; have f4_ := f1_.symm; have f5_ := f3_.symm; clear f1_ f2_ f3_; subst f4_; subst f5_))
               refine hK.out _ _ ⟨(blk_cell BK502.out 0).trans rfl, (blk_cell BK481.out 0).trans rfl⟩ (fun hHeld => ?_)
               clear hK K
               refine norm_ (a' := ?_) ?_ ?_
               rotate_left
               ·show Act.put _ (some 61) _ = _
                simp only [Act.put, List.setIfInBounds_toArray, List.set_cons_zero, List.set_cons_succ, i64_w, i32_w, u8_w, w64_b]
                rfl
               refine one_ (i := 3) (N := some 62) #[true, true, true, true, false] rfl rfl (by kernel_rfl) (by decide) (fun K hK => ?_)
               refine goes_ Try.func19 (by kernel_rfl) rfl #[.agg #[.slice Ao82 t499.length co82], .agg #[.slice Ao107 t513.length co107]] (by rfl) rfl rfl (by (try simp only [List.map_toArray, List.map_cons, List.map_nil]); first | done | rfl | (simp only [List.length_drop, List.length_take]; rfl) | (simp only [i64_w, u8_w, w64_b]; rfl)) ?_
               with_reducible refine (laws_eqNat.calls k _ _ t499 _ _ t513 true _ ?side1 ?side2 ?side3 ?side4 A32.out).mono ?_
               (case side1 => repeat (first | exact (Kd.R_reads' HO501.out).2.2 | (with_reducible refine Kd.C_alloc ?_ _) | (with_reducible refine Kd.C_drewN ?_ _) | (with_reducible refine Kd.C_drew ?_)))
               (case side2 => exact (Kd.R_reads' HO501.out).2.1)
               (case side3 => repeat (first | exact (Kd.R_reads' HO515.out).2.2 | (with_reducible refine Kd.C_alloc ?_ _) | (with_reducible refine Kd.C_drewN ?_ _) | (with_reducible refine Kd.C_drew ?_)))
               (case side4 => exact (Kd.R_reads' HO515.out).2.1)
               rintro e w108 ⟨rfl, hb⟩
               refine ⟨_, rfl, ?_⟩
               have n0_ := Sq.m (Kd.R_below (by apply Sq.ra; exact HO486.out) hb)
               have n1_ := Sq.m (Kd.R_below (by apply Sq.ra; exact HO489.out) hb)
               have n2_ := Sq.m (Kd.R_below (by apply Sq.ra; exact HO492.out) hb)
               have n3_ := Sq.m (Kd.R_below (by apply Sq.ra; exact HO497.out) hb)
               have n4_ := Sq.m (Kd.R_below (by apply Sq.ra; exact HO501.out) hb)
               have n5_ := Sq.m (Kd.R_below (by apply Sq.ra; exact HO505.out) hb)
               have n6_ := Sq.m (Kd.R_below (by apply Sq.ra; exact HO511.out) hb)
               have n7_ := Sq.m (Kd.R_below (by apply Sq.ra; exact HO515.out) hb)
               have n8_ := Sq.m (blk_below (g := gb480) (o := .cells #[.slice A0_0 l0_0.length c0_0] 24 (0, 0)) (by apply Sq.rb; exact BK480.out) hb)
               have n9_ := Sq.m (blk_below (g := gb481) (o := .cells #[.slice A1_0 l1_0.length c1_0] 24 (0, 0)) (by apply Sq.rb; exact BK481.out) hb)
               have n10_ := Sq.m (blk_below (g := gb494) (o := .cells #[.slice Ao99 t490.length co99] 26 (0, 0)) (by apply Sq.rb; exact BK494.out) hb)
               have n11_ := Sq.m (blk_below (g := gb498) (o := .cells #[.slice Ao73 t495.length co73] 26 (0, 0)) (by apply Sq.rb; exact BK498.out) hb)
               have n12_ := Sq.m (blk_below (g := gb502) (o := .cells #[.slice Ao82 t499.length co82] 26 (0, 0)) (by apply Sq.rb; exact BK502.out) hb)
               have n13_ := Sq.m (blk_below (g := gb507) (o := .cells #[.slice Ao91 t503.length co91] 26 (0, 0)) (by apply Sq.rb; exact BK507.out) hb)
               have n14_ := Sq.m (below_step (by repeat (first | (with_reducible first | exact HB.out | apply Sq.rc | refine below_set ?_ GE480.out | refine below_set ?_ GE481.out | refine below_set ?_ GE494.out | refine below_set ?_ GE498.out | refine below_set ?_ GE502.out | refine below_set ?_ GE507.out) | exact HB.out)) hb)
               clear HO486
               clear HO489
               clear HO492
               clear HO497
               clear HO501
               clear HO505
               clear HO511
               clear HO515
               clear BK480
               clear BK481
               clear BK494
               clear BK498
               clear BK502
               clear BK507
               clear HB
               have HO486 := n0_
               have HO489 := n1_
               have HO492 := n2_
               have HO497 := n3_
               have HO501 := n4_
               have HO505 := n5_
               have HO511 := n6_
               have HO515 := n7_
               have BK480 := n8_
               have BK481 := n9_
               have BK494 := n10_
               have BK498 := n11_
               have BK502 := n12_
               have BK507 := n13_
               have HB := n14_
               clear n0_ n1_ n2_ n3_ n4_ n5_ n6_ n7_ n8_ n9_ n10_ n11_ n12_ n13_ n14_
               (try clear hb)
               (try clear hb2)
               (try clear hk)
               (try clear hi)
               refine hK.out _ _ ⟨(blk_cell BK502.out 0).trans rfl, (blk_cell BK481.out 0).trans rfl⟩ (fun hHeld => ?_)
               clear hK K
               refine norm_ (a' := ?_) ?_ ?_
               rotate_left
               ·show Act.put _ (some 62) _ = _
                simp only [Act.put, List.setIfInBounds_toArray, List.set_cons_zero, List.set_cons_succ, i64_w, i32_w, u8_w, w64_b]
                rfl
               refine pure_ (i := 4) (N := some 63) (v := ?_) (a' := ?_) #[true, true, true, true, true] rfl rfl (by kernel_rfl) (fun _ _ _ h => h) (Or.inl ⟨by rfl, ?_⟩) ?_ ?_
               rotate_left
               ·intro w'
                go_simp
                with_reducible rfl
               rotate_left
               ·simp only [Act.put, List.setIfInBounds_toArray, List.set_cons_zero, List.set_cons_succ, i64_w, i32_w, u8_w, w64_b]
                rfl
               refine done_ (by kernel_rfl) ?_
               have hcz109_0 : w108.cell? ⟨gb498, 0, none⟩ = some (.slice Ao73 t495.length co73) := (blk_cell BK498.out 0).trans rfl
               have hfz109_0 := blk_frozen BK498.out 0
               try go_wp2_with (first | ((with_reducible refine gate_callee (f := 20) rfl ?_); refine goesL_ (some 66) rfl rfl Try.func20 (by kernel_rfl) rfl #[.agg #[.slice Ao73 t495.length co73], .int .i64 1] rfl (by (try simp only [List.map_toArray, List.map_cons, List.map_nil]); first | done | rfl | (simp only [List.length_drop, List.length_take]; rfl) | (simp only [i64_w, u8_w, w64_b]; rfl)) ?_; (with_reducible refine (laws_markNat.calls k (fun k_ => some k_ = (.slice Ao73 t495.length co73 : Value).ownBlock) (.slice Ao73 t495.length co73) t495 1 t517 t518 w _ ?side1 ?side2 A34.out).mono ?_); (case side1 => repeat (first | (with_reducible first | exact HB.out | apply Sq.rc | refine below_set ?_ GE480.out | refine below_set ?_ GE481.out | refine below_set ?_ GE494.out | refine below_set ?_ GE498.out | refine below_set ?_ GE502.out | refine below_set ?_ GE507.out) | exact HB.out)); (case side2 => exact Kd.R_tight rfl HO497.out); rintro e w110 ⟨rfl, hy0, hb, hkp⟩; refine ⟨_, rfl, ?_⟩; have n0_ := Sq.m (blk_kept (by apply Sq.rb; exact BK480.out) hkp (fun hs_ => (fun e_ => (Kd.R_ne HO497.out BK480.out (by decide)) e_) hs_)); have n1_ := Sq.m (blk_kept (by apply Sq.rb; exact BK481.out) hkp (fun hs_ => (fun e_ => (Kd.R_ne HO497.out BK481.out (by decide)) e_) hs_)); have n2_ := Sq.m (Kd.R_mono (ok' := fun k_ => some k_ ≠ (.slice Ao73 t495.length co73 : Value).ownBlock ∧ some k_ ≠ (.slice Ao82 t499.length co82 : Value).ownBlock ∧ some k_ ≠ (.slice Ao91 t503.length co91 : Value).ownBlock ∧ some k_ ≠ (.slice Ao103 t509.length co103 : Value).ownBlock ∧ some k_ ≠ (.slice Ao107 t513.length co107 : Value).ownBlock) (Kd.R_keptB (HO486.out) hkp (fun k_ hk_ hs_ => (hk_.1.1.1.1.2) hs_)) (fun k_ hk_ => ⟨hk_.1.1.1.1.1.2, hk_.1.1.1.1.2, hk_.1.1.1.2, hk_.1.1.2, hk_.1.2⟩)); have n3_ := Sq.m (Kd.R_mono (ok' := fun k_ => some k_ ≠ (.slice Ao73 t495.length co73 : Value).ownBlock ∧ some k_ ≠ (.slice Ao82 t499.length co82 : Value).ownBlock ∧ some k_ ≠ (.slice Ao91 t503.length co91 : Value).ownBlock ∧ some k_ ≠ (.slice Ao103 t509.length co103 : Value).ownBlock ∧ some k_ ≠ (.slice Ao107 t513.length co107 : Value).ownBlock) (Kd.R_keptB (HO489.out) hkp (fun k_ hk_ hs_ => (hk_.1.1.1.1.2) hs_)) (fun k_ hk_ => ⟨hk_.1.1.1.1.1.2, hk_.1.1.1.1.2, hk_.1.1.1.2, hk_.1.1.2, hk_.1.2⟩)); have n4_ := Sq.m (Kd.R_mono (ok' := fun k_ => some k_ ≠ (.slice Ao73 t495.length co73 : Value).ownBlock ∧ some k_ ≠ (.slice Ao82 t499.length co82 : Value).ownBlock ∧ some k_ ≠ (.slice Ao91 t503.length co91 : Value).ownBlock ∧ some k_ ≠ (.slice Ao103 t509.length co103 : Value).ownBlock ∧ some k_ ≠ (.slice Ao107 t513.length co107 : Value).ownBlock) (Kd.R_keptB (HO492.out) hkp (fun k_ hk_ hs_ => (hk_.1.1.1.1.2) hs_)) (fun k_ hk_ => ⟨hk_.1.1.1.1.1.2, hk_.1.1.1.1.2, hk_.1.1.1.2, hk_.1.1.2, hk_.1.2⟩)); have n5_ := Sq.m (blk_kept (by apply Sq.rb; exact BK494.out) hkp (fun hs_ => (fun e_ => (Kd.R_ne HO497.out BK494.out (by decide)) e_) hs_)); have n6_ := Sq.m (Kd.R_reok rfl hy0 (fun k_ e_ => HO497.out.1 k_ e_)); have n7_ := Sq.m (blk_kept (by apply Sq.rb; exact BK498.out) hkp (fun hs_ => (fun e_ => (Kd.R_ne HO497.out BK498.out (by decide)) e_) hs_)); have n8_ := Sq.m (Kd.R_mono (ok' := fun k_ => some k_ ≠ (v485 : Value).ownBlock ∧ some k_ ≠ (v488 : Value).ownBlock ∧ some k_ ≠ (.slice Ao99 t490.length co99 : Value).ownBlock ∧ some k_ ≠ (.slice Ao73 t495.length co73 : Value).ownBlock ∧ some k_ ≠ (.slice Ao91 t503.length co91 : Value).ownBlock ∧ some k_ ≠ (.slice Ao103 t509.length co103 : Value).ownBlock ∧ some k_ ≠ (.slice Ao107 t513.length co107 : Value).ownBlock) (Kd.R_keptB (HO501.out) hkp (fun k_ hk_ hs_ => (hk_.1.1.1.2) hs_)) (fun k_ hk_ => ⟨hk_.1.1.1.1.1.1.1.2, hk_.1.1.1.1.1.1.2, hk_.1.1.1.1.1.2, hk_.1.1.1.1.2, hk_.1.1.1.2, hk_.1.1.2, hk_.1.2⟩)); have n9_ := Sq.m (blk_kept (by apply Sq.rb; exact BK502.out) hkp (fun hs_ => (fun e_ => (Kd.R_ne HO497.out BK502.out (by decide)) e_) hs_)); have n10_ := Sq.m (Kd.R_mono (ok' := fun k_ => some k_ ≠ (v485 : Value).ownBlock ∧ some k_ ≠ (v488 : Value).ownBlock ∧ some k_ ≠ (.slice Ao99 t490.length co99 : Value).ownBlock ∧ some k_ ≠ (.slice Ao73 t495.length co73 : Value).ownBlock ∧ some k_ ≠ (.slice Ao82 t499.length co82 : Value).ownBlock ∧ some k_ ≠ (.slice Ao103 t509.length co103 : Value).ownBlock ∧ some k_ ≠ (.slice Ao107 t513.length co107 : Value).ownBlock) (Kd.R_keptB (HO505.out) hkp (fun k_ hk_ hs_ => (hk_.1.1.1.2) hs_)) (fun k_ hk_ => ⟨hk_.1.1.1.1.1.1.1.2, hk_.1.1.1.1.1.1.2, hk_.1.1.1.1.1.2, hk_.1.1.1.1.2, hk_.1.1.1.2, hk_.1.1.2, hk_.1.2⟩)); have n11_ := Sq.m (blk_kept (by apply Sq.rb; exact BK507.out) hkp (fun hs_ => (fun e_ => (Kd.R_ne HO497.out BK507.out (by decide)) e_) hs_)); have n12_ := Sq.m (Kd.R_mono (ok' := fun k_ => some k_ ≠ (v485 : Value).ownBlock ∧ some k_ ≠ (v488 : Value).ownBlock ∧ some k_ ≠ (.slice Ao99 t490.length co99 : Value).ownBlock ∧ some k_ ≠ (.slice Ao73 t495.length co73 : Value).ownBlock ∧ some k_ ≠ (.slice Ao82 t499.length co82 : Value).ownBlock ∧ some k_ ≠ (.slice Ao91 t503.length co91 : Value).ownBlock ∧ some k_ ≠ (.slice Ao107 t513.length co107 : Value).ownBlock) (Kd.R_keptB (HO511.out) hkp (fun k_ hk_ hs_ => (hk_.1.1.1.2) hs_)) (fun k_ hk_ => ⟨hk_.1.1.1.1.1.1.1.2, hk_.1.1.1.1.1.1.2, hk_.1.1.1.1.1.2, hk_.1.1.1.1.2, hk_.1.1.1.2, hk_.1.1.2, hk_.1.2⟩)); have n13_ := Sq.m (Kd.R_mono (ok' := fun k_ => some k_ ≠ (v485 : Value).ownBlock ∧ some k_ ≠ (v488 : Value).ownBlock ∧ some k_ ≠ (.slice Ao99 t490.length co99 : Value).ownBlock ∧ some k_ ≠ (.slice Ao73 t495.length co73 : Value).ownBlock ∧ some k_ ≠ (.slice Ao82 t499.length co82 : Value).ownBlock ∧ some k_ ≠ (.slice Ao91 t503.length co91 : Value).ownBlock ∧ some k_ ≠ (.slice Ao103 t509.length co103 : Value).ownBlock) (Kd.R_keptB (HO515.out) hkp (fun k_ hk_ hs_ => (hk_.1.1.1.2) hs_)) (fun k_ hk_ => ⟨hk_.1.1.1.1.1.1.1.2, hk_.1.1.1.1.1.1.2, hk_.1.1.1.1.1.2, hk_.1.1.1.1.2, hk_.1.1.1.2, hk_.1.1.2, hk_.1.2⟩)); have n14_ := Sq.m (hb); clear BK480; clear BK481; clear HO486; clear HO489; clear HO492; clear BK494; clear HO497; clear BK498; clear HO501; clear BK502; clear HO505; clear BK507; clear HO511; clear HO515; clear HB; have BK480 := n0_; have BK481 := n1_; have HO486 := n2_; have HO489 := n3_; have HO492 := n4_; have BK494 := n5_; have HO497 := n6_; have BK498 := n7_; have HO501 := n8_; have BK502 := n9_; have HO505 := n10_; have BK507 := n11_; have HO511 := n12_; have HO515 := n13_; have HB := n14_; clear n0_ n1_ n2_ n3_ n4_ n5_ n6_ n7_ n8_ n9_ n10_ n11_ n12_ n13_ n14_; (try clear hb); (try clear hkp); (try clear hy0); have hcz111_0 : w110.cell? ⟨gb502, 0, none⟩ = some (.slice Ao82 t499.length co82) := (blk_cell BK502.out 0).trans rfl; have hfz111_0 := blk_frozen BK502.out 0) | ((with_reducible refine gate_callee (f := 20) rfl ?_); refine goesL_ (some 69) rfl rfl Try.func20 (by kernel_rfl) rfl #[.agg #[.slice Ao82 t499.length co82], .int .i64 t517] rfl (by (try simp only [List.map_toArray, List.map_cons, List.map_nil]); first | done | rfl | (simp only [List.length_drop, List.length_take]; rfl) | (simp only [i64_w, u8_w, w64_b]; rfl)) ?_; (with_reducible refine (laws_markNat.calls k (fun k_ => some k_ = (.slice Ao82 t499.length co82 : Value).ownBlock) (.slice Ao82 t499.length co82) t499 t517 t519 t520 w _ ?side1 ?side2 A35.out).mono ?_); (case side1 => repeat (first | (with_reducible first | exact HB.out | apply Sq.rc | refine below_set ?_ GE480.out | refine below_set ?_ GE481.out | refine below_set ?_ GE494.out | refine below_set ?_ GE498.out | refine below_set ?_ GE502.out | refine below_set ?_ GE507.out) | exact HB.out)); (case side2 => exact Kd.R_tight rfl HO501.out); rintro e w112 ⟨rfl, hy0, hb, hkp⟩; refine ⟨_, rfl, ?_⟩; have n0_ := Sq.m (blk_kept (by apply Sq.rb; exact BK480.out) hkp (fun hs_ => (fun e_ => (Kd.R_ne HO501.out BK480.out (by decide)) e_) hs_)); have n1_ := Sq.m (blk_kept (by apply Sq.rb; exact BK481.out) hkp (fun hs_ => (fun e_ => (Kd.R_ne HO501.out BK481.out (by decide)) e_) hs_)); have n2_ := Sq.m (Kd.R_mono (ok' := fun k_ => some k_ ≠ (.slice Ao73 t495.length co73 : Value).ownBlock ∧ some k_ ≠ (.slice Ao82 t499.length co82 : Value).ownBlock ∧ some k_ ≠ (.slice Ao91 t503.length co91 : Value).ownBlock ∧ some k_ ≠ (.slice Ao103 t509.length co103 : Value).ownBlock ∧ some k_ ≠ (.slice Ao107 t513.length co107 : Value).ownBlock) (Kd.R_keptB (HO486.out) hkp (fun k_ hk_ hs_ => (hk_.2.1) hs_)) (fun k_ hk_ => ⟨hk_.1.1, hk_.1.2.1, hk_.1.2.2.1, hk_.1.2.2.2.1, hk_.1.2.2.2.2⟩)); have n3_ := Sq.m (Kd.R_mono (ok' := fun k_ => some k_ ≠ (.slice Ao73 t495.length co73 : Value).ownBlock ∧ some k_ ≠ (.slice Ao82 t499.length co82 : Value).ownBlock ∧ some k_ ≠ (.slice Ao91 t503.length co91 : Value).ownBlock ∧ some k_ ≠ (.slice Ao103 t509.length co103 : Value).ownBlock ∧ some k_ ≠ (.slice Ao107 t513.length co107 : Value).ownBlock) (Kd.R_keptB (HO489.out) hkp (fun k_ hk_ hs_ => (hk_.2.1) hs_)) (fun k_ hk_ => ⟨hk_.1.1, hk_.1.2.1, hk_.1.2.2.1, hk_.1.2.2.2.1, hk_.1.2.2.2.2⟩)); have n4_ := Sq.m (Kd.R_mono (ok' := fun k_ => some k_ ≠ (.slice Ao73 t495.length co73 : Value).ownBlock ∧ some k_ ≠ (.slice Ao82 t499.length co82 : Value).ownBlock ∧ some k_ ≠ (.slice Ao91 t503.length co91 : Value).ownBlock ∧ some k_ ≠ (.slice Ao103 t509.length co103 : Value).ownBlock ∧ some k_ ≠ (.slice Ao107 t513.length co107 : Value).ownBlock) (Kd.R_keptB (HO492.out) hkp (fun k_ hk_ hs_ => (hk_.2.1) hs_)) (fun k_ hk_ => ⟨hk_.1.1, hk_.1.2.1, hk_.1.2.2.1, hk_.1.2.2.2.1, hk_.1.2.2.2.2⟩)); have n5_ := Sq.m (blk_kept (by apply Sq.rb; exact BK494.out) hkp (fun hs_ => (fun e_ => (Kd.R_ne HO501.out BK494.out (by decide)) e_) hs_)); have n6_ := Sq.m (Kd.R_mono (ok' := fun k_ => some k_ ≠ (v485 : Value).ownBlock ∧ some k_ ≠ (v488 : Value).ownBlock ∧ some k_ ≠ (.slice Ao99 t490.length co99 : Value).ownBlock ∧ some k_ ≠ (.slice Ao82 t499.length co82 : Value).ownBlock ∧ some k_ ≠ (.slice Ao91 t503.length co91 : Value).ownBlock ∧ some k_ ≠ (.slice Ao103 t509.length co103 : Value).ownBlock ∧ some k_ ≠ (.slice Ao107 t513.length co107 : Value).ownBlock) (Kd.R_keptB (HO497.out) hkp (fun k_ hk_ hs_ => (hk_.1.1.1.2) hs_)) (fun k_ hk_ => ⟨hk_.1.1.1.1.1.1.1.2, hk_.1.1.1.1.1.1.2, hk_.1.1.1.1.1.2, hk_.1.1.1.1.2, hk_.1.1.1.2, hk_.1.1.2, hk_.1.2⟩)); have n7_ := Sq.m (blk_kept (by apply Sq.rb; exact BK498.out) hkp (fun hs_ => (fun e_ => (Kd.R_ne HO501.out BK498.out (by decide)) e_) hs_)); have n8_ := Sq.m (Kd.R_reok rfl hy0 (fun k_ e_ => HO501.out.1 k_ e_)); have n9_ := Sq.m (blk_kept (by apply Sq.rb; exact BK502.out) hkp (fun hs_ => (fun e_ => (Kd.R_ne HO501.out BK502.out (by decide)) e_) hs_)); have n10_ := Sq.m (Kd.R_mono (ok' := fun k_ => some k_ ≠ (v485 : Value).ownBlock ∧ some k_ ≠ (v488 : Value).ownBlock ∧ some k_ ≠ (.slice Ao99 t490.length co99 : Value).ownBlock ∧ some k_ ≠ (.slice Ao73 t495.length co73 : Value).ownBlock ∧ some k_ ≠ (.slice Ao82 t499.length co82 : Value).ownBlock ∧ some k_ ≠ (.slice Ao103 t509.length co103 : Value).ownBlock ∧ some k_ ≠ (.slice Ao107 t513.length co107 : Value).ownBlock) (Kd.R_keptB (HO505.out) hkp (fun k_ hk_ hs_ => (hk_.2.2.2.2.1) hs_)) (fun k_ hk_ => ⟨hk_.1.1, hk_.1.2.1, hk_.1.2.2.1, hk_.1.2.2.2.1, hk_.1.2.2.2.2.1, hk_.1.2.2.2.2.2.1, hk_.1.2.2.2.2.2.2⟩)); have n11_ := Sq.m (blk_kept (by apply Sq.rb; exact BK507.out) hkp (fun hs_ => (fun e_ => (Kd.R_ne HO501.out BK507.out (by decide)) e_) hs_)); have n12_ := Sq.m (Kd.R_mono (ok' := fun k_ => some k_ ≠ (v485 : Value).ownBlock ∧ some k_ ≠ (v488 : Value).ownBlock ∧ some k_ ≠ (.slice Ao99 t490.length co99 : Value).ownBlock ∧ some k_ ≠ (.slice Ao73 t495.length co73 : Value).ownBlock ∧ some k_ ≠ (.slice Ao82 t499.length co82 : Value).ownBlock ∧ some k_ ≠ (.slice Ao91 t503.length co91 : Value).ownBlock ∧ some k_ ≠ (.slice Ao107 t513.length co107 : Value).ownBlock) (Kd.R_keptB (HO511.out) hkp (fun k_ hk_ hs_ => (hk_.2.2.2.2.1) hs_)) (fun k_ hk_ => ⟨hk_.1.1, hk_.1.2.1, hk_.1.2.2.1, hk_.1.2.2.2.1, hk_.1.2.2.2.2.1, hk_.1.2.2.2.2.2.1, hk_.1.2.2.2.2.2.2⟩)); have n13_ := Sq.m (Kd.R_mono (ok' := fun k_ => some k_ ≠ (v485 : Value).ownBlock ∧ some k_ ≠ (v488 : Value).ownBlock ∧ some k_ ≠ (.slice Ao99 t490.length co99 : Value).ownBlock ∧ some k_ ≠ (.slice Ao73 t495.length co73 : Value).ownBlock ∧ some k_ ≠ (.slice Ao82 t499.length co82 : Value).ownBlock ∧ some k_ ≠ (.slice Ao91 t503.length co91 : Value).ownBlock ∧ some k_ ≠ (.slice Ao103 t509.length co103 : Value).ownBlock) (Kd.R_keptB (HO515.out) hkp (fun k_ hk_ hs_ => (hk_.2.2.2.2.1) hs_)) (fun k_ hk_ => ⟨hk_.1.1, hk_.1.2.1, hk_.1.2.2.1, hk_.1.2.2.2.1, hk_.1.2.2.2.2.1, hk_.1.2.2.2.2.2.1, hk_.1.2.2.2.2.2.2⟩)); have n14_ := Sq.m (hb); clear BK480; clear BK481; clear HO486; clear HO489; clear HO492; clear BK494; clear HO497; clear BK498; clear HO501; clear BK502; clear HO505; clear BK507; clear HO511; clear HO515; clear HB; have BK480 := n0_; have BK481 := n1_; have HO486 := n2_; have HO489 := n3_; have HO492 := n4_; have BK494 := n5_; have HO497 := n6_; have BK498 := n7_; have HO501 := n8_; have BK502 := n9_; have HO505 := n10_; have BK507 := n11_; have HO511 := n12_; have HO515 := n13_; have HB := n14_; clear n0_ n1_ n2_ n3_ n4_ n5_ n6_ n7_ n8_ n9_ n10_ n11_ n12_ n13_ n14_; (try clear hb); (try clear hkp); (try clear hy0); have hcz113_0 : w112.cell? ⟨gb507, 0, none⟩ = some (.slice Ao91 t503.length co91) := (blk_cell BK507.out 0).trans rfl; have hfz113_0 := blk_frozen BK507.out 0; have hcz114_0 : w112.cell? ⟨gb494, 0, none⟩ = some (.slice Ao99 t490.length co99) := (blk_cell BK494.out 0).trans rfl; have hfz114_0 := blk_frozen BK494.out 0) | (go_at_call 19; (with_reducible refine (laws_eqNat.calls k _ _ t503 _ _ t490 true _ ?side1 ?side2 ?side3 ?side4 A37.out).mono ?_); (case side1 => repeat (first | exact (Kd.R_reads' HO505.out).2.2 | (with_reducible refine Kd.C_alloc ?_ _) | (with_reducible refine Kd.C_drewN ?_ _) | (with_reducible refine Kd.C_drew ?_))); (case side2 => exact (Kd.R_reads' HO505.out).2.1); (case side3 => repeat (first | exact (Kd.R_reads' HO492.out).2.2 | (with_reducible refine Kd.C_alloc ?_ _) | (with_reducible refine Kd.C_drewN ?_ _) | (with_reducible refine Kd.C_drew ?_))); (case side4 => exact (Kd.R_reads' HO492.out).2.1); rintro e w115 ⟨rfl, hb⟩; have n0_ := Sq.m (Kd.R_below (by apply Sq.ra; exact HO486.out) hb); have n1_ := Sq.m (Kd.R_below (by apply Sq.ra; exact HO489.out) hb); have n2_ := Sq.m (Kd.R_below (by apply Sq.ra; exact HO492.out) hb); have n3_ := Sq.m (Kd.R_below (by apply Sq.ra; exact HO497.out) hb); have n4_ := Sq.m (Kd.R_below (by apply Sq.ra; exact HO501.out) hb); have n5_ := Sq.m (Kd.R_below (by apply Sq.ra; exact HO505.out) hb); have n6_ := Sq.m (Kd.R_below (by apply Sq.ra; exact HO511.out) hb); have n7_ := Sq.m (Kd.R_below (by apply Sq.ra; exact HO515.out) hb); have n8_ := Sq.m (blk_below (g := gb480) (o := .cells #[.slice A0_0 l0_0.length c0_0] 24 (0, 0)) (by apply Sq.rb; exact BK480.out) hb); have n9_ := Sq.m (blk_below (g := gb481) (o := .cells #[.slice A1_0 l1_0.length c1_0] 24 (0, 0)) (by apply Sq.rb; exact BK481.out) hb); have n10_ := Sq.m (blk_below (g := gb494) (o := .cells #[.slice Ao99 t490.length co99] 26 (0, 0)) (by apply Sq.rb; exact BK494.out) hb); have n11_ := Sq.m (blk_below (g := gb498) (o := .cells #[.slice Ao73 t495.length co73] 26 (0, 0)) (by apply Sq.rb; exact BK498.out) hb); have n12_ := Sq.m (blk_below (g := gb502) (o := .cells #[.slice Ao82 t499.length co82] 26 (0, 0)) (by apply Sq.rb; exact BK502.out) hb); have n13_ := Sq.m (blk_below (g := gb507) (o := .cells #[.slice Ao91 t503.length co91] 26 (0, 0)) (by apply Sq.rb; exact BK507.out) hb); have n14_ := Sq.m (below_step (by repeat (first | (with_reducible first | exact HB.out | apply Sq.rc | refine below_set ?_ GE480.out | refine below_set ?_ GE481.out | refine below_set ?_ GE494.out | refine below_set ?_ GE498.out | refine below_set ?_ GE502.out | refine below_set ?_ GE507.out) | exact HB.out)) hb); clear HO486; clear HO489; clear HO492; clear HO497; clear HO501; clear HO505; clear HO511; clear HO515; clear BK480; clear BK481; clear BK494; clear BK498; clear BK502; clear BK507; clear HB; have HO486 := n0_; have HO489 := n1_; have HO492 := n2_; have HO497 := n3_; have HO501 := n4_; have HO505 := n5_; have HO511 := n6_; have HO515 := n7_; have BK480 := n8_; have BK481 := n9_; have BK494 := n10_; have BK498 := n11_; have BK502 := n12_; have BK507 := n13_; have HB := n14_; clear n0_ n1_ n2_ n3_ n4_ n5_ n6_ n7_ n8_ n9_ n10_ n11_ n12_ n13_ n14_; (try clear hb); (try clear hb2); (try clear hk); (try clear hi); have hcz116_0 : w115.cell? ⟨gb507, 0, none⟩ = some (.slice Ao91 t503.length co91) := (blk_cell BK507.out 0).trans rfl; have hfz116_0 := blk_frozen BK507.out 0) | ((with_reducible refine gate_callee (f := 20) rfl ?_); refine goesL_ (some 85) rfl rfl Try.func20 (by kernel_rfl) rfl #[.agg #[.slice Ao91 t503.length co91], .int .i64 1] rfl (by (try simp only [List.map_toArray, List.map_cons, List.map_nil]); first | done | rfl | (simp only [List.length_drop, List.length_take]; rfl) | (simp only [i64_w, u8_w, w64_b]; rfl)) ?_; (with_reducible refine (laws_markNat.calls k (fun k_ => some k_ = (.slice Ao91 t503.length co91 : Value).ownBlock) (.slice Ao91 t503.length co91) t503 1 t522 t523 w _ ?side1 ?side2 A39.out).mono ?_); (case side1 => repeat (first | (with_reducible first | exact HB.out | apply Sq.rc | refine below_set ?_ GE480.out | refine below_set ?_ GE481.out | refine below_set ?_ GE494.out | refine below_set ?_ GE498.out | refine below_set ?_ GE502.out | refine below_set ?_ GE507.out) | exact HB.out)); (case side2 => exact Kd.R_tight rfl HO505.out); rintro e w117 ⟨rfl, hy0, hb, hkp⟩; refine ⟨_, rfl, ?_⟩; have n0_ := Sq.m (blk_kept (by apply Sq.rb; exact BK480.out) hkp (fun hs_ => (fun e_ => (Kd.R_ne HO505.out BK480.out (by decide)) e_) hs_)); have n1_ := Sq.m (blk_kept (by apply Sq.rb; exact BK481.out) hkp (fun hs_ => (fun e_ => (Kd.R_ne HO505.out BK481.out (by decide)) e_) hs_)); have n2_ := Sq.m (Kd.R_mono (ok' := fun k_ => some k_ ≠ (.slice Ao73 t495.length co73 : Value).ownBlock ∧ some k_ ≠ (.slice Ao82 t499.length co82 : Value).ownBlock ∧ some k_ ≠ (.slice Ao91 t503.length co91 : Value).ownBlock ∧ some k_ ≠ (.slice Ao103 t509.length co103 : Value).ownBlock ∧ some k_ ≠ (.slice Ao107 t513.length co107 : Value).ownBlock) (Kd.R_keptB (HO486.out) hkp (fun k_ hk_ hs_ => (hk_.2.2.1) hs_)) (fun k_ hk_ => ⟨hk_.1.1, hk_.1.2.1, hk_.1.2.2.1, hk_.1.2.2.2.1, hk_.1.2.2.2.2⟩)); have n3_ := Sq.m (Kd.R_mono (ok' := fun k_ => some k_ ≠ (.slice Ao73 t495.length co73 : Value).ownBlock ∧ some k_ ≠ (.slice Ao82 t499.length co82 : Value).ownBlock ∧ some k_ ≠ (.slice Ao91 t503.length co91 : Value).ownBlock ∧ some k_ ≠ (.slice Ao103 t509.length co103 : Value).ownBlock ∧ some k_ ≠ (.slice Ao107 t513.length co107 : Value).ownBlock) (Kd.R_keptB (HO489.out) hkp (fun k_ hk_ hs_ => (hk_.2.2.1) hs_)) (fun k_ hk_ => ⟨hk_.1.1, hk_.1.2.1, hk_.1.2.2.1, hk_.1.2.2.2.1, hk_.1.2.2.2.2⟩)); have n4_ := Sq.m (Kd.R_mono (ok' := fun k_ => some k_ ≠ (.slice Ao73 t495.length co73 : Value).ownBlock ∧ some k_ ≠ (.slice Ao82 t499.length co82 : Value).ownBlock ∧ some k_ ≠ (.slice Ao91 t503.length co91 : Value).ownBlock ∧ some k_ ≠ (.slice Ao103 t509.length co103 : Value).ownBlock ∧ some k_ ≠ (.slice Ao107 t513.length co107 : Value).ownBlock) (Kd.R_keptB (HO492.out) hkp (fun k_ hk_ hs_ => (hk_.2.2.1) hs_)) (fun k_ hk_ => ⟨hk_.1.1, hk_.1.2.1, hk_.1.2.2.1, hk_.1.2.2.2.1, hk_.1.2.2.2.2⟩)); have n5_ := Sq.m (blk_kept (by apply Sq.rb; exact BK494.out) hkp (fun hs_ => (fun e_ => (Kd.R_ne HO505.out BK494.out (by decide)) e_) hs_)); have n6_ := Sq.m (Kd.R_mono (ok' := fun k_ => some k_ ≠ (v485 : Value).ownBlock ∧ some k_ ≠ (v488 : Value).ownBlock ∧ some k_ ≠ (.slice Ao99 t490.length co99 : Value).ownBlock ∧ some k_ ≠ (.slice Ao82 t499.length co82 : Value).ownBlock ∧ some k_ ≠ (.slice Ao91 t503.length co91 : Value).ownBlock ∧ some k_ ≠ (.slice Ao103 t509.length co103 : Value).ownBlock ∧ some k_ ≠ (.slice Ao107 t513.length co107 : Value).ownBlock) (Kd.R_keptB (HO497.out) hkp (fun k_ hk_ hs_ => (hk_.2.2.2.2.1) hs_)) (fun k_ hk_ => ⟨hk_.1.1, hk_.1.2.1, hk_.1.2.2.1, hk_.1.2.2.2.1, hk_.1.2.2.2.2.1, hk_.1.2.2.2.2.2.1, hk_.1.2.2.2.2.2.2⟩)); have n7_ := Sq.m (blk_kept (by apply Sq.rb; exact BK498.out) hkp (fun hs_ => (fun e_ => (Kd.R_ne HO505.out BK498.out (by decide)) e_) hs_)); have n8_ := Sq.m (Kd.R_mono (ok' := fun k_ => some k_ ≠ (v485 : Value).ownBlock ∧ some k_ ≠ (v488 : Value).ownBlock ∧ some k_ ≠ (.slice Ao99 t490.length co99 : Value).ownBlock ∧ some k_ ≠ (.slice Ao73 t495.length co73 : Value).ownBlock ∧ some k_ ≠ (.slice Ao91 t503.length co91 : Value).ownBlock ∧ some k_ ≠ (.slice Ao103 t509.length co103 : Value).ownBlock ∧ some k_ ≠ (.slice Ao107 t513.length co107 : Value).ownBlock) (Kd.R_keptB (HO501.out) hkp (fun k_ hk_ hs_ => (hk_.2.2.2.2.1) hs_)) (fun k_ hk_ => ⟨hk_.1.1, hk_.1.2.1, hk_.1.2.2.1, hk_.1.2.2.2.1, hk_.1.2.2.2.2.1, hk_.1.2.2.2.2.2.1, hk_.1.2.2.2.2.2.2⟩)); have n9_ := Sq.m (blk_kept (by apply Sq.rb; exact BK502.out) hkp (fun hs_ => (fun e_ => (Kd.R_ne HO505.out BK502.out (by decide)) e_) hs_)); have n10_ := Sq.m (Kd.R_reok rfl hy0 (fun k_ e_ => HO505.out.1 k_ e_)); have n11_ := Sq.m (blk_kept (by apply Sq.rb; exact BK507.out) hkp (fun hs_ => (fun e_ => (Kd.R_ne HO505.out BK507.out (by decide)) e_) hs_)); have n12_ := Sq.m (Kd.R_mono (ok' := fun k_ => some k_ ≠ (v485 : Value).ownBlock ∧ some k_ ≠ (v488 : Value).ownBlock ∧ some k_ ≠ (.slice Ao99 t490.length co99 : Value).ownBlock ∧ some k_ ≠ (.slice Ao73 t495.length co73 : Value).ownBlock ∧ some k_ ≠ (.slice Ao82 t499.length co82 : Value).ownBlock ∧ some k_ ≠ (.slice Ao91 t503.length co91 : Value).ownBlock ∧ some k_ ≠ (.slice Ao107 t513.length co107 : Value).ownBlock) (Kd.R_keptB (HO511.out) hkp (fun k_ hk_ hs_ => (hk_.2.2.2.2.2.1) hs_)) (fun k_ hk_ => ⟨hk_.1.1, hk_.1.2.1, hk_.1.2.2.1, hk_.1.2.2.2.1, hk_.1.2.2.2.2.1, hk_.1.2.2.2.2.2.1, hk_.1.2.2.2.2.2.2⟩)); have n13_ := Sq.m (Kd.R_mono (ok' := fun k_ => some k_ ≠ (v485 : Value).ownBlock ∧ some k_ ≠ (v488 : Value).ownBlock ∧ some k_ ≠ (.slice Ao99 t490.length co99 : Value).ownBlock ∧ some k_ ≠ (.slice Ao73 t495.length co73 : Value).ownBlock ∧ some k_ ≠ (.slice Ao82 t499.length co82 : Value).ownBlock ∧ some k_ ≠ (.slice Ao91 t503.length co91 : Value).ownBlock ∧ some k_ ≠ (.slice Ao103 t509.length co103 : Value).ownBlock) (Kd.R_keptB (HO515.out) hkp (fun k_ hk_ hs_ => (hk_.2.2.2.2.2.1) hs_)) (fun k_ hk_ => ⟨hk_.1.1, hk_.1.2.1, hk_.1.2.2.1, hk_.1.2.2.2.1, hk_.1.2.2.2.2.1, hk_.1.2.2.2.2.2.1, hk_.1.2.2.2.2.2.2⟩)); have n14_ := Sq.m (hb); clear BK480; clear BK481; clear HO486; clear HO489; clear HO492; clear BK494; clear HO497; clear BK498; clear HO501; clear BK502; clear HO505; clear BK507; clear HO511; clear HO515; clear HB; have BK480 := n0_; have BK481 := n1_; have HO486 := n2_; have HO489 := n3_; have HO492 := n4_; have BK494 := n5_; have HO497 := n6_; have BK498 := n7_; have HO501 := n8_; have BK502 := n9_; have HO505 := n10_; have BK507 := n11_; have HO511 := n12_; have HO515 := n13_; have HB := n14_; clear n0_ n1_ n2_ n3_ n4_ n5_ n6_ n7_ n8_ n9_ n10_ n11_ n12_ n13_ n14_; (try clear hb); (try clear hkp); (try clear hy0); have hcz118_0 : w117.cell? ⟨gb507, 0, none⟩ = some (.slice Ao91 t503.length co91) := (blk_cell BK507.out 0).trans rfl; have hfz118_0 := blk_frozen BK507.out 0) | ((with_reducible refine gate_callee (f := 21) rfl ?_); refine goesL_ (some 88) rfl rfl Try.func21 (by kernel_rfl) rfl #[.agg #[.slice Ao91 t523.length co91], .int .i64 1] rfl (by (try simp only [List.map_toArray, List.map_cons, List.map_nil]); first | done | (rw [show t523.length = t503.length from (Kd.R_reads' HO505.out).1.symm] <;> rfl) | rfl | (simp only [List.length_drop, List.length_take]; rfl) | (simp only [i64_w, u8_w, w64_b]; rfl)) ?_; (with_reducible refine (laws_heldNat.calls k _ _ t523 1 t524 _ ?side1 ?side2 A40.out).mono ?_); (case side1 => repeat (first | exact (Kd.R_reads' HO505.out).2.2 | (with_reducible refine Kd.C_alloc ?_ _) | (with_reducible refine Kd.C_drewN ?_ _) | (with_reducible refine Kd.C_drew ?_))); (case side2 => rw [show t523.length = t503.length from (Kd.R_reads' HO505.out).1.symm]; exact (Kd.R_reads' HO505.out).2.1); rintro e w119 ⟨rfl, hb⟩; refine ⟨_, rfl, ?_⟩; have n0_ := Sq.m (Kd.R_below (by apply Sq.ra; exact HO486.out) hb); have n1_ := Sq.m (Kd.R_below (by apply Sq.ra; exact HO489.out) hb); have n2_ := Sq.m (Kd.R_below (by apply Sq.ra; exact HO492.out) hb); have n3_ := Sq.m (Kd.R_below (by apply Sq.ra; exact HO497.out) hb); have n4_ := Sq.m (Kd.R_below (by apply Sq.ra; exact HO501.out) hb); have n5_ := Sq.m (Kd.R_below (by apply Sq.ra; exact HO505.out) hb); have n6_ := Sq.m (Kd.R_below (by apply Sq.ra; exact HO511.out) hb); have n7_ := Sq.m (Kd.R_below (by apply Sq.ra; exact HO515.out) hb); have n8_ := Sq.m (blk_below (g := gb480) (o := .cells #[.slice A0_0 l0_0.length c0_0] 24 (0, 0)) (by apply Sq.rb; exact BK480.out) hb); have n9_ := Sq.m (blk_below (g := gb481) (o := .cells #[.slice A1_0 l1_0.length c1_0] 24 (0, 0)) (by apply Sq.rb; exact BK481.out) hb); have n10_ := Sq.m (blk_below (g := gb494) (o := .cells #[.slice Ao99 t490.length co99] 26 (0, 0)) (by apply Sq.rb; exact BK494.out) hb); have n11_ := Sq.m (blk_below (g := gb498) (o := .cells #[.slice Ao73 t495.length co73] 26 (0, 0)) (by apply Sq.rb; exact BK498.out) hb); have n12_ := Sq.m (blk_below (g := gb502) (o := .cells #[.slice Ao82 t499.length co82] 26 (0, 0)) (by apply Sq.rb; exact BK502.out) hb); have n13_ := Sq.m (blk_below (g := gb507) (o := .cells #[.slice Ao91 t503.length co91] 26 (0, 0)) (by apply Sq.rb; exact BK507.out) hb); have n14_ := Sq.m (below_step (by repeat (first | (with_reducible first | exact HB.out | apply Sq.rc | refine below_set ?_ GE480.out | refine below_set ?_ GE481.out | refine below_set ?_ GE494.out | refine below_set ?_ GE498.out | refine below_set ?_ GE502.out | refine below_set ?_ GE507.out) | exact HB.out)) hb); clear HO486; clear HO489; clear HO492; clear HO497; clear HO501; clear HO505; clear HO511; clear HO515; clear BK480; clear BK481; clear BK494; clear BK498; clear BK502; clear BK507; clear HB; have HO486 := n0_; have HO489 := n1_; have HO492 := n2_; have HO497 := n3_; have HO501 := n4_; have HO505 := n5_; have HO511 := n6_; have HO515 := n7_; have BK480 := n8_; have BK481 := n9_; have BK494 := n10_; have BK498 := n11_; have BK502 := n12_; have BK507 := n13_; have HB := n14_; clear n0_ n1_ n2_ n3_ n4_ n5_ n6_ n7_ n8_ n9_ n10_ n11_ n12_ n13_ n14_; (try clear hb); (try clear hb2); (try clear hk); (try clear hi)))
               have n0_ := Sq.m (Kd.R_drew HO486.out)
               have n1_ := Sq.m (Kd.R_drew HO489.out)
               have n2_ := Sq.m (Kd.R_drew HO492.out)
               have n3_ := Sq.m (Kd.R_drew HO497.out)
               have n4_ := Sq.m (Kd.R_drew HO501.out)
               have n5_ := Sq.m (Kd.R_drew HO505.out)
               have n6_ := Sq.m (Kd.R_drew HO511.out)
               have n7_ := Sq.m (Kd.R_drew HO515.out)
               have n8_ := Sq.m (blk_drew BK480.out)
               have n9_ := Sq.m (blk_drew BK481.out)
               have n10_ := Sq.m (blk_drew BK494.out)
               have n11_ := Sq.m (blk_drew BK498.out)
               have n12_ := Sq.m (blk_drew BK502.out)
               have n13_ := Sq.m (blk_drew BK507.out)
               have n14_ := Sq.m (below_drew1 HB.out)
               clear HO486
               clear HO489
               clear HO492
               clear HO497
               clear HO501
               clear HO505
               clear HO511
               clear HO515
               clear BK480
               clear BK481
               clear BK494
               clear BK498
               clear BK502
               clear BK507
               clear HB
               have HO486 := n0_
               have HO489 := n1_
               have HO492 := n2_
               have HO497 := n3_
               have HO501 := n4_
               have HO505 := n5_
               have HO511 := n6_
               have HO515 := n7_
               have BK480 := n8_
               have BK481 := n9_
               have BK494 := n10_
               have BK498 := n11_
               have BK502 := n12_
               have BK507 := n13_
               have HB := n14_
               clear n0_ n1_ n2_ n3_ n4_ n5_ n6_ n7_ n8_ n9_ n10_ n11_ n12_ n13_ n14_
               refine start_ (n := 11) (S := fun w' => True) (ds := []) #[false, false, false, false, false, false, false, false, false, false, false] (by kernel_rfl) rfl rfl trivial (fun hHeld => ?_); refine with_tabW laws_FnExactNatSub.tab31 laws_FnExactNatSub.bits31 (fun HT_ HW_ => ?_)
               generalize w119.drew = w120 at HO486 HO489 HO492 HO497 HO501 HO505 HO511 HO515 BK480 BK481 BK494 BK498 BK502 BK507 HB hHeld ⊢
               refine inv_at [0, 1, 2, 3, 4, 5, 6, 7, 8, 9, 10] (fun a0_ b a w' => ∃ (v526 : Value) (v529 : Value) (v532 : Value) (gb535 : Nat) (m1_ : Value) (m3_ : Value) (m4_ : Value) (m5_ : Value) (m6_ : Value) (m8_ : Value), a = putSel a0_ b [(0, 95, .agg #[.slice A0_0 l0_0.length c0_0]), (1, 96, m1_), (2, 97, .agg #[.slice A1_0 l1_0.length c1_0]), (3, 98, m3_), (4, 99, m4_), (5, 94, m5_), (6, 100, m6_), (7, 101, .bool t534), (8, 15, m8_), (10, 16, .bool t534)] ∧ (Kd.R (Kd.int .i64) 3 w' w.heap.size (fun k_ => some k_ ≠ (.slice Ao73 t495.length co73 : Value).ownBlock ∧ some k_ ≠ (.slice Ao82 t499.length co82 : Value).ownBlock ∧ some k_ ≠ (.slice Ao91 t503.length co91 : Value).ownBlock ∧ some k_ ≠ (.slice Ao103 t509.length co103 : Value).ownBlock ∧ some k_ ≠ (.slice Ao107 t513.length co107 : Value).ownBlock) v485 t484) ∧ (Kd.R (Kd.int .i64) 3 w' w.heap.size (fun k_ => some k_ ≠ (.slice Ao73 t495.length co73 : Value).ownBlock ∧ some k_ ≠ (.slice Ao82 t499.length co82 : Value).ownBlock ∧ some k_ ≠ (.slice Ao91 t503.length co91 : Value).ownBlock ∧ some k_ ≠ (.slice Ao103 t509.length co103 : Value).ownBlock ∧ some k_ ≠ (.slice Ao107 t513.length co107 : Value).ownBlock) v488 t487) ∧ (Kd.R (Kd.int .i64) 3 w' w.heap.size (fun k_ => some k_ ≠ (.slice Ao73 t495.length co73 : Value).ownBlock ∧ some k_ ≠ (.slice Ao82 t499.length co82 : Value).ownBlock ∧ some k_ ≠ (.slice Ao91 t503.length co91 : Value).ownBlock ∧ some k_ ≠ (.slice Ao103 t509.length co103 : Value).ownBlock ∧ some k_ ≠ (.slice Ao107 t513.length co107 : Value).ownBlock) (.slice Ao99 t490.length co99) t490) ∧ (Kd.R (Kd.int .i64) 3 w' w.heap.size (fun k_ => some k_ ≠ (v485 : Value).ownBlock ∧ some k_ ≠ (v488 : Value).ownBlock ∧ some k_ ≠ (.slice Ao99 t490.length co99 : Value).ownBlock ∧ some k_ ≠ (.slice Ao82 t499.length co82 : Value).ownBlock ∧ some k_ ≠ (.slice Ao91 t503.length co91 : Value).ownBlock ∧ some k_ ≠ (.slice Ao103 t509.length co103 : Value).ownBlock ∧ some k_ ≠ (.slice Ao107 t513.length co107 : Value).ownBlock) (.slice Ao73 t495.length co73) t518) ∧ (Kd.R (Kd.int .i64) 3 w' w.heap.size (fun k_ => some k_ ≠ (v485 : Value).ownBlock ∧ some k_ ≠ (v488 : Value).ownBlock ∧ some k_ ≠ (.slice Ao99 t490.length co99 : Value).ownBlock ∧ some k_ ≠ (.slice Ao73 t495.length co73 : Value).ownBlock ∧ some k_ ≠ (.slice Ao91 t503.length co91 : Value).ownBlock ∧ some k_ ≠ (.slice Ao103 t509.length co103 : Value).ownBlock ∧ some k_ ≠ (.slice Ao107 t513.length co107 : Value).ownBlock) (.slice Ao82 t499.length co82) t520) ∧ (Kd.R (Kd.int .i64) 3 w' w.heap.size (fun k_ => some k_ ≠ (v485 : Value).ownBlock ∧ some k_ ≠ (v488 : Value).ownBlock ∧ some k_ ≠ (.slice Ao99 t490.length co99 : Value).ownBlock ∧ some k_ ≠ (.slice Ao73 t495.length co73 : Value).ownBlock ∧ some k_ ≠ (.slice Ao82 t499.length co82 : Value).ownBlock ∧ some k_ ≠ (.slice Ao103 t509.length co103 : Value).ownBlock ∧ some k_ ≠ (.slice Ao107 t513.length co107 : Value).ownBlock) (.slice Ao91 t503.length co91) t523) ∧ (Kd.R (Kd.int .i64) 3 w' w.heap.size (fun k_ => some k_ ≠ (v485 : Value).ownBlock ∧ some k_ ≠ (v488 : Value).ownBlock ∧ some k_ ≠ (.slice Ao99 t490.length co99 : Value).ownBlock ∧ some k_ ≠ (.slice Ao73 t495.length co73 : Value).ownBlock ∧ some k_ ≠ (.slice Ao82 t499.length co82 : Value).ownBlock ∧ some k_ ≠ (.slice Ao91 t503.length co91 : Value).ownBlock ∧ some k_ ≠ (.slice Ao107 t513.length co107 : Value).ownBlock) (.slice Ao103 t509.length co103) t509) ∧ (Kd.R (Kd.int .i64) 3 w' w.heap.size (fun k_ => some k_ ≠ (v485 : Value).ownBlock ∧ some k_ ≠ (v488 : Value).ownBlock ∧ some k_ ≠ (.slice Ao99 t490.length co99 : Value).ownBlock ∧ some k_ ≠ (.slice Ao73 t495.length co73 : Value).ownBlock ∧ some k_ ≠ (.slice Ao82 t499.length co82 : Value).ownBlock ∧ some k_ ≠ (.slice Ao91 t503.length co91 : Value).ownBlock ∧ some k_ ≠ (.slice Ao103 t509.length co103 : Value).ownBlock) (.slice Ao107 t513.length co107) t513) ∧ (w'.heap[gb480]? = some (.cells #[.slice A0_0 l0_0.length c0_0] 24 (0, 0))) ∧ (w'.heap[gb481]? = some (.cells #[.slice A1_0 l1_0.length c1_0] 24 (0, 0))) ∧ (w'.heap[gb494]? = some (.cells #[.slice Ao99 t490.length co99] 26 (0, 0))) ∧ (w'.heap[gb498]? = some (.cells #[.slice Ao73 t495.length co73] 26 (0, 0))) ∧ (w'.heap[gb502]? = some (.cells #[.slice Ao82 t499.length co82] 26 (0, 0))) ∧ (w'.heap[gb507]? = some (.cells #[.slice Ao91 t503.length co91] 26 (0, 0))) ∧ (Below w.heap.size w w') ∧ (b 1 = true → Kd.R (Kd.int .i64) 3 w' w.heap.size (fun k_ => some k_ ≠ (v485 : Value).ownBlock ∧ some k_ ≠ (v488 : Value).ownBlock ∧ some k_ ≠ (.slice Ao99 t490.length co99 : Value).ownBlock ∧ some k_ ≠ (.slice Ao73 t495.length co73 : Value).ownBlock ∧ some k_ ≠ (.slice Ao82 t499.length co82 : Value).ownBlock ∧ some k_ ≠ (.slice Ao91 t503.length co91 : Value).ownBlock ∧ some k_ ≠ (.slice Ao103 t509.length co103 : Value).ownBlock ∧ some k_ ≠ (.slice Ao107 t513.length co107 : Value).ownBlock) v526 t525) ∧ (b 3 = true → Kd.R (Kd.int .i64) 3 w' w.heap.size (fun k_ => some k_ ≠ (v485 : Value).ownBlock ∧ some k_ ≠ (v488 : Value).ownBlock ∧ some k_ ≠ (.slice Ao99 t490.length co99 : Value).ownBlock ∧ some k_ ≠ (.slice Ao73 t495.length co73 : Value).ownBlock ∧ some k_ ≠ (.slice Ao82 t499.length co82 : Value).ownBlock ∧ some k_ ≠ (.slice Ao91 t503.length co91 : Value).ownBlock ∧ some k_ ≠ (.slice Ao103 t509.length co103 : Value).ownBlock ∧ some k_ ≠ (.slice Ao107 t513.length co107 : Value).ownBlock) v529 t528) ∧ (b 4 = true → Kd.R (Kd.int .i64) 3 w' w.heap.size (fun k_ => some k_ ≠ (v485 : Value).ownBlock ∧ some k_ ≠ (v488 : Value).ownBlock ∧ some k_ ≠ (.slice Ao99 t490.length co99 : Value).ownBlock ∧ some k_ ≠ (.slice Ao73 t495.length co73 : Value).ownBlock ∧ some k_ ≠ (.slice Ao82 t499.length co82 : Value).ownBlock ∧ some k_ ≠ (.slice Ao91 t503.length co91 : Value).ownBlock ∧ some k_ ≠ (.slice Ao103 t509.length co103 : Value).ownBlock ∧ some k_ ≠ (.slice Ao107 t513.length co107 : Value).ownBlock) v532 t531) ∧ (b 8 = true → b 9 = false → w'.heap[gb535]? = some (.cells #[.slice none 0 0] 26 (0, 0))) ∧ (b 8 = true → w.heap.size ≤ gb535) ∧ (b 8 = true → w.heap.size ≤ gb535) ∧ (b 8 = true → gb480 ≠ gb535) ∧ (b 8 = true → gb535 ≠ gb480) ∧ (b 8 = true → gb481 ≠ gb535) ∧ (b 8 = true → gb535 ≠ gb481) ∧ (b 8 = true → gb494 ≠ gb535) ∧ (b 8 = true → gb535 ≠ gb494) ∧ (b 8 = true → gb498 ≠ gb535) ∧ (b 8 = true → gb535 ≠ gb498) ∧ (b 8 = true → gb502 ≠ gb535) ∧ (b 8 = true → gb535 ≠ gb502) ∧ (b 8 = true → gb507 ≠ gb535) ∧ (b 8 = true → gb535 ≠ gb507) ∧ (b 9 = true → w'.heap[gb535]? = some (.cells #[v532] 26 (0, 0))) ∧ (b 1 = true → (m1_ : Value) = .agg #[v526]) ∧ (b 3 = true → (m3_ : Value) = .agg #[v529]) ∧ (b 4 = true → (m4_ : Value) = .tuple #[.agg #[v532], .bool t534]) ∧ (b 5 = true → (m5_ : Value) = .tuple #[.agg #[v532], .bool t534]) ∧ (b 6 = true → (m6_ : Value) = .agg #[v532]) ∧ (b 8 = true → (m8_ : Value) = .pointer (some ⟨gb535, 0, none⟩))) HT_.out HW_.out (by kernel_rfl) (by kernel_rfl) ?_ ?_ ?_
               ·exact ⟨.bool false, .bool false, .bool false, 0, .bool false, .bool false, .bool false, .bool false, .bool false, .bool false, by simp only [putSel, Bool.false_eq_true, if_false], HO486.out, HO489.out, HO492.out, HO497.out, HO501.out, HO505.out, HO511.out, HO515.out, BK480.out, BK481.out, BK494.out, BK498.out, BK502.out, BK507.out, HB.out, fun h_ => absurd h_ (by decide), fun h_ => absurd h_ (by decide), fun h_ => absurd h_ (by decide), fun h_ => absurd h_ (by decide), fun h_ => absurd h_ (by decide), fun h_ => absurd h_ (by decide), fun h_ => absurd h_ (by decide), fun h_ => absurd h_ (by decide), fun h_ => absurd h_ (by decide), fun h_ => absurd h_ (by decide), fun h_ => absurd h_ (by decide), fun h_ => absurd h_ (by decide), fun h_ => absurd h_ (by decide), fun h_ => absurd h_ (by decide), fun h_ => absurd h_ (by decide), fun h_ => absurd h_ (by decide), fun h_ => absurd h_ (by decide), fun h_ => absurd h_ (by decide), fun h_ => absurd h_ (by decide), fun h_ => absurd h_ (by decide), fun h_ => absurd h_ (by decide), fun h_ => absurd h_ (by decide), fun h_ => absurd h_ (by decide), fun h_ => absurd h_ (by decide), fun h_ => absurd h_ (by decide)⟩
               ·skip
                clear BK480 BK481 BK494 BK498 BK502 BK507 HB HO486 HO489 HO492 HO497 HO501 HO505 HO511 HO515
                refine steps_cons ?_ ?_
                ·rintro b a w' ⟨v526, v529, v532, gb535, m1_, m3_, m4_, m5_, m6_, m8_, ha, Q_HO486, Q_HO489, Q_HO492, Q_HO497, Q_HO501, Q_HO505, Q_HO511, Q_HO515, Q_BK480, Q_BK481, Q_BK494, Q_BK498, Q_BK502, Q_BK507, Q_HB, Q_HO527, Q_HO530, Q_HO533, Q_BK535, Q_GW535, Q_GE535, Q_NB480_535, Q_NB535_480, Q_NB481_535, Q_NB535_481, Q_NB494_535, Q_NB535_494, Q_NB498_535, Q_NB535_498, Q_NB502_535, Q_NB535_502, Q_NB507_535, Q_NB535_507, Q_BK535_e9, Q_X1_, Q_X3_, Q_X4_, Q_X5_, Q_X6_, Q_X8_⟩ hb_ hon hoff
                 refine ⟨_, rfl, fun K hK => ?_⟩
                 have e2 : a.tmps[2]? = some (.pointer (some ⟨gb480, 0, none⟩)) := by rw [ha]; exact (putSel_off rfl).trans rfl
                 replace ha := Aside0.mk ha
                 have HO486 := Aside0.mk Q_HO486
                 have HO489 := Aside0.mk Q_HO489
                 have HO492 := Aside0.mk Q_HO492
                 have HO497 := Aside0.mk Q_HO497
                 have HO501 := Aside0.mk Q_HO501
                 have HO505 := Aside0.mk Q_HO505
                 have HO511 := Aside0.mk Q_HO511
                 have HO515 := Aside0.mk Q_HO515
                 have BK480 := Aside0.mk Q_BK480
                 have BK481 := Aside0.mk Q_BK481
                 have BK494 := Aside0.mk Q_BK494
                 have BK498 := Aside0.mk Q_BK498
                 have BK502 := Aside0.mk Q_BK502
                 have BK507 := Aside0.mk Q_BK507
                 have HB := Aside0.mk Q_HB
                 have hc0_ : w'.cell? ⟨gb480, 0, none⟩ = some (.slice A0_0 l0_0.length c0_0) := (blk_cell BK480.out 0).trans rfl
                 refine value_ (w1 := w') (v := .agg #[.slice A0_0 l0_0.length c0_0]) (by rfl) rfl ?_ ?_
                 ·go_simp
                  (try simp only [i64_w])
                  try rfl
                 refine hK.out _ _ ⟨v526, v529, v532, gb535, m1_, m3_, m4_, m5_, m6_, m8_, (by rw [ha.out]; exact putSel_upk 0 hb_ rfl rfl rfl), Q_HO486, Q_HO489, Q_HO492, Q_HO497, Q_HO501, Q_HO505, Q_HO511, Q_HO515, Q_BK480, Q_BK481, Q_BK494, Q_BK498, Q_BK502, Q_BK507, Q_HB, fun h0_ => absurd ((hoff 1 (by kernel_rfl)).symm.trans h0_) (by decide), fun h0_ => absurd ((hoff 3 (by kernel_rfl)).symm.trans h0_) (by decide), fun h0_ => absurd ((hoff 4 (by kernel_rfl)).symm.trans h0_) (by decide), Q_BK535, Q_GW535, Q_GE535, Q_NB480_535, Q_NB535_480, Q_NB481_535, Q_NB535_481, Q_NB494_535, Q_NB535_494, Q_NB498_535, Q_NB535_498, Q_NB502_535, Q_NB535_502, Q_NB507_535, Q_NB535_507, fun h0_ => absurd ((hoff 9 (by kernel_rfl)).symm.trans h0_) (by decide), fun h0_ => absurd ((hoff 1 (by kernel_rfl)).symm.trans h0_) (by decide), fun h0_ => absurd ((hoff 3 (by kernel_rfl)).symm.trans h0_) (by decide), fun h0_ => absurd ((hoff 4 (by kernel_rfl)).symm.trans h0_) (by decide), fun h0_ => absurd ((hoff 5 (by kernel_rfl)).symm.trans h0_) (by decide), fun h0_ => absurd ((hoff 6 (by kernel_rfl)).symm.trans h0_) (by decide), Q_X8_⟩
                refine steps_cons ?_ ?_
                ·rintro b a w' ⟨v526, v529, v532, gb535, m1_, m3_, m4_, m5_, m6_, m8_, ha, Q_HO486, Q_HO489, Q_HO492, Q_HO497, Q_HO501, Q_HO505, Q_HO511, Q_HO515, Q_BK480, Q_BK481, Q_BK494, Q_BK498, Q_BK502, Q_BK507, Q_HB, Q_HO527, Q_HO530, Q_HO533, Q_BK535, Q_GW535, Q_GE535, Q_NB480_535, Q_NB535_480, Q_NB481_535, Q_NB535_481, Q_NB494_535, Q_NB535_494, Q_NB498_535, Q_NB535_498, Q_NB502_535, Q_NB535_502, Q_NB507_535, Q_NB535_507, Q_BK535_e9, Q_X1_, Q_X3_, Q_X4_, Q_X5_, Q_X6_, Q_X8_⟩ hb_ hon hoff
                 refine ⟨_, rfl, fun K hK => ?_⟩
                 have e95 : a.tmps[95]? = some (.agg #[.slice A0_0 l0_0.length c0_0]) := by rw [ha]; exact putSel_on (e := (0, 95, .agg #[.slice A0_0 l0_0.length c0_0])) 0 rfl rfl (hon 0 (by kernel_rfl)) rfl
                 replace ha := Aside0.mk ha
                 have HO486 := Aside0.mk Q_HO486
                 have HO489 := Aside0.mk Q_HO489
                 have HO492 := Aside0.mk Q_HO492
                 have HO497 := Aside0.mk Q_HO497
                 have HO501 := Aside0.mk Q_HO501
                 have HO505 := Aside0.mk Q_HO505
                 have HO511 := Aside0.mk Q_HO511
                 have HO515 := Aside0.mk Q_HO515
                 have BK480 := Aside0.mk Q_BK480
                 have BK481 := Aside0.mk Q_BK481
                 have BK494 := Aside0.mk Q_BK494
                 have BK498 := Aside0.mk Q_BK498
                 have BK502 := Aside0.mk Q_BK502
                 have BK507 := Aside0.mk Q_BK507
                 have HB := Aside0.mk Q_HB
                 refine goes_ Try.func17 (by kernel_rfl) rfl #[.agg #[.slice A0_0 l0_0.length c0_0]] (by rfl) rfl rfl (by first | (simp only [List.map_toArray, List.map_cons, List.map_nil, Act.eval, Array.getD_eq_getD_getElem?, Option.getD_some, e95]; done) | (simp only [List.map_toArray, List.map_cons, List.map_nil, Act.eval, Array.getD_eq_getD_getElem?, Option.getD_some, e95]; rfl)) ?_
                 with_reducible refine (laws_toNat.calls k _ _ l0_0 t525 _ ?side1 ?side2 A43.out).mono ?_
                 (case side1 => repeat (first | exact (Kd.C_below HR0_0.out HB.out) | (with_reducible refine Kd.C_alloc ?_ _) | (with_reducible refine Kd.C_drewN ?_ _) | (with_reducible refine Kd.C_drew ?_)))
                 (case side2 => exact HC0_0.out)
                 rintro e w121 ⟨v526, rfl, ho0, hb⟩
                 refine ⟨_, rfl, ?_⟩
                 have n0_ := Sq.m (Kd.R_elder' (by apply Sq.ra; exact HO486.out) (Kd.R_base ho0) hb)
                 have n1_ := Sq.m (Kd.R_elder' (by apply Sq.ra; exact HO489.out) (Kd.R_base ho0) hb)
                 have n2_ := Sq.m (Kd.R_elder' (by apply Sq.ra; exact HO492.out) (Kd.R_base ho0) hb)
                 have n3_ := Sq.m (Kd.R_elder' (by apply Sq.ra; exact HO497.out) (Kd.R_base ho0) hb)
                 have n4_ := Sq.m (Kd.R_elder' (by apply Sq.ra; exact HO501.out) (Kd.R_base ho0) hb)
                 have n5_ := Sq.m (Kd.R_elder' (by apply Sq.ra; exact HO505.out) (Kd.R_base ho0) hb)
                 have n6_ := Sq.m (Kd.R_elder' (by apply Sq.ra; exact HO511.out) (Kd.R_base ho0) hb)
                 have n7_ := Sq.m (Kd.R_elder' (by apply Sq.ra; exact HO515.out) (Kd.R_base ho0) hb)
                 have n8_ := Sq.m (Kd.R_lower (Kd.R_new' (Kd.R_new' (Kd.R_new' (Kd.R_new' (Kd.R_new' (Kd.R_new' (Kd.R_new' (Kd.R_new' ho0 (Kd.R_lt (by apply Sq.ra; exact HO486.out))) (Kd.R_lt (by apply Sq.ra; exact HO489.out))) (Kd.R_lt (by apply Sq.ra; exact HO492.out))) (Kd.R_lt (by apply Sq.ra; exact HO497.out))) (Kd.R_lt (by apply Sq.ra; exact HO501.out))) (Kd.R_lt (by apply Sq.ra; exact HO505.out))) (Kd.R_lt (by apply Sq.ra; exact HO511.out))) (Kd.R_lt (by apply Sq.ra; exact HO515.out))) (below_size (by repeat (first | (with_reducible first | exact HB.out | apply Sq.rc | refine below_set ?_ GE480.out | refine below_set ?_ GE481.out | refine below_set ?_ GE494.out | refine below_set ?_ GE498.out | refine below_set ?_ GE502.out | refine below_set ?_ GE507.out) | exact HB.out))))
                 have n9_ := Sq.m (blk_below (g := gb480) (o := .cells #[.slice A0_0 l0_0.length c0_0] 24 (0, 0)) (by apply Sq.rb; exact BK480.out) hb)
                 have n10_ := Sq.m (blk_below (g := gb481) (o := .cells #[.slice A1_0 l1_0.length c1_0] 24 (0, 0)) (by apply Sq.rb; exact BK481.out) hb)
                 have n11_ := Sq.m (blk_below (g := gb494) (o := .cells #[.slice Ao99 t490.length co99] 26 (0, 0)) (by apply Sq.rb; exact BK494.out) hb)
                 have n12_ := Sq.m (blk_below (g := gb498) (o := .cells #[.slice Ao73 t495.length co73] 26 (0, 0)) (by apply Sq.rb; exact BK498.out) hb)
                 have n13_ := Sq.m (blk_below (g := gb502) (o := .cells #[.slice Ao82 t499.length co82] 26 (0, 0)) (by apply Sq.rb; exact BK502.out) hb)
                 have n14_ := Sq.m (blk_below (g := gb507) (o := .cells #[.slice Ao91 t503.length co91] 26 (0, 0)) (by apply Sq.rb; exact BK507.out) hb)
                 have n15_ := Sq.m (below_step (by repeat (first | (with_reducible first | exact HB.out | apply Sq.rc | refine below_set ?_ GE480.out | refine below_set ?_ GE481.out | refine below_set ?_ GE494.out | refine below_set ?_ GE498.out | refine below_set ?_ GE502.out | refine below_set ?_ GE507.out) | exact HB.out)) hb)
                 have z_BK535 := fun (h0_ : b 8 = true) (h1_ : b 9 = false) => (show w121.heap[gb535]? = some (.cells #[.slice none 0 0] 26 (0, 0)) from by first | exact (blk_below (g := gb535) (o := .cells #[.slice none 0 0] 26 (0, 0)) (by apply Sq.rb; exact (Q_BK535 h0_ h1_)) hb))
                 clear HO486
                 clear HO489
                 clear HO492
                 clear HO497
                 clear HO501
                 clear HO505
                 clear HO511
                 clear HO515
                 clear BK480
                 clear BK481
                 clear BK494
                 clear BK498
                 clear BK502
                 clear BK507
                 clear HB
                 have HO486 := n0_
                 have HO489 := n1_
                 have HO492 := n2_
                 have HO497 := n3_
                 have HO501 := n4_
                 have HO505 := n5_
                 have HO511 := n6_
                 have HO515 := n7_
                 have HO527 := n8_
                 have BK480 := n9_
                 have BK481 := n10_
                 have BK494 := n11_
                 have BK498 := n12_
                 have BK502 := n13_
                 have BK507 := n14_
                 have HB := n15_
                 clear n0_ n1_ n2_ n3_ n4_ n5_ n6_ n7_ n8_ n9_ n10_ n11_ n12_ n13_ n14_ n15_
                 (try clear hb)
                 (try clear hb2)
                 (try clear hk)
                 (try clear hi)
                 (try clear ho0)
                 refine hK.out _ _ ⟨v526, v529, v532, gb535, (.agg #[v526]), m3_, m4_, m5_, m6_, m8_, (by rw [ha.out]; exact putSel_upk 1 hb_ rfl rfl rfl), (by apply Sq.ra; exact Kd.R_mono HO486.out (fun _ hk => by first | exact True.intro | exact hk.1 | exact hk | exact ⟨hk.1.1, ⟨hk.1.2.1, ⟨hk.1.2.2.1, ⟨hk.1.2.2.2.1, ⟨hk.1.2.2.2.2, hk.2⟩⟩⟩⟩⟩ | simp only [hk, ne_eq, not_false_eq_true, and_self, and_true, true_and])), (by apply Sq.ra; exact Kd.R_mono HO489.out (fun _ hk => by first | exact True.intro | exact hk.1 | exact hk | exact ⟨hk.1.1, ⟨hk.1.2.1, ⟨hk.1.2.2.1, ⟨hk.1.2.2.2.1, ⟨hk.1.2.2.2.2, hk.2⟩⟩⟩⟩⟩ | simp only [hk, ne_eq, not_false_eq_true, and_self, and_true, true_and])), (by apply Sq.ra; exact Kd.R_mono HO492.out (fun _ hk => by first | exact True.intro | exact hk.1 | exact hk | exact ⟨hk.1.1, ⟨hk.1.2.1, ⟨hk.1.2.2.1, ⟨hk.1.2.2.2.1, ⟨hk.1.2.2.2.2, hk.2⟩⟩⟩⟩⟩ | simp only [hk, ne_eq, not_false_eq_true, and_self, and_true, true_and])), (by apply Sq.ra; exact Kd.R_mono HO497.out (fun _ hk => by first | exact True.intro | exact hk.1 | exact hk | exact ⟨hk.1.1, ⟨hk.1.2.1, ⟨hk.1.2.2.1, ⟨hk.1.2.2.2.1, ⟨hk.1.2.2.2.2.1, ⟨hk.1.2.2.2.2.2.1, ⟨hk.1.2.2.2.2.2.2, hk.2⟩⟩⟩⟩⟩⟩⟩ | simp only [hk, ne_eq, not_false_eq_true, and_self, and_true, true_and])), (by apply Sq.ra; exact Kd.R_mono HO501.out (fun _ hk => by first | exact True.intro | exact hk.1 | exact hk | exact ⟨hk.1.1, ⟨hk.1.2.1, ⟨hk.1.2.2.1, ⟨hk.1.2.2.2.1, ⟨hk.1.2.2.2.2.1, ⟨hk.1.2.2.2.2.2.1, ⟨hk.1.2.2.2.2.2.2, hk.2⟩⟩⟩⟩⟩⟩⟩ | simp only [hk, ne_eq, not_false_eq_true, and_self, and_true, true_and])), (by apply Sq.ra; exact Kd.R_mono HO505.out (fun _ hk => by first | exact True.intro | exact hk.1 | exact hk | exact ⟨hk.1.1, ⟨hk.1.2.1, ⟨hk.1.2.2.1, ⟨hk.1.2.2.2.1, ⟨hk.1.2.2.2.2.1, ⟨hk.1.2.2.2.2.2.1, ⟨hk.1.2.2.2.2.2.2, hk.2⟩⟩⟩⟩⟩⟩⟩ | simp only [hk, ne_eq, not_false_eq_true, and_self, and_true, true_and])), (by apply Sq.ra; exact Kd.R_mono HO511.out (fun _ hk => by first | exact True.intro | exact hk.1 | exact hk | exact ⟨hk.1.1, ⟨hk.1.2.1, ⟨hk.1.2.2.1, ⟨hk.1.2.2.2.1, ⟨hk.1.2.2.2.2.1, ⟨hk.1.2.2.2.2.2.1, ⟨hk.1.2.2.2.2.2.2, hk.2⟩⟩⟩⟩⟩⟩⟩ | simp only [hk, ne_eq, not_false_eq_true, and_self, and_true, true_and])), (by apply Sq.ra; exact Kd.R_mono HO515.out (fun _ hk => by first | exact True.intro | exact hk.1 | exact hk | exact ⟨hk.1.1, ⟨hk.1.2.1, ⟨hk.1.2.2.1, ⟨hk.1.2.2.2.1, ⟨hk.1.2.2.2.2.1, ⟨hk.1.2.2.2.2.2.1, ⟨hk.1.2.2.2.2.2.2, hk.2⟩⟩⟩⟩⟩⟩⟩ | simp only [hk, ne_eq, not_false_eq_true, and_self, and_true, true_and])), (by apply Sq.rb; exact BK480.out), (by apply Sq.rb; exact BK481.out), (by apply Sq.rb; exact BK494.out), (by apply Sq.rb; exact BK498.out), (by apply Sq.rb; exact BK502.out), (by apply Sq.rb; exact BK507.out), (by repeat (first | (with_reducible first | exact HB.out | apply Sq.rc | refine below_set ?_ GE480.out | refine below_set ?_ GE481.out | refine below_set ?_ GE494.out | refine below_set ?_ GE498.out | refine below_set ?_ GE502.out | refine below_set ?_ GE507.out) | exact HB.out)), fun _ => (by apply Sq.ra; exact Kd.R_mono HO527.out (fun _ hk => ⟨hk.1.1.1.1.1.1.1.2, ⟨hk.1.1.1.1.1.1.2, ⟨hk.1.1.1.1.1.2, ⟨hk.1.1.1.1.2, ⟨hk.1.1.1.2, ⟨hk.1.1.2, ⟨hk.1.2, hk.2⟩⟩⟩⟩⟩⟩⟩)), fun h0_ => absurd ((hoff 3 (by kernel_rfl)).symm.trans h0_) (by decide), fun h0_ => absurd ((hoff 4 (by kernel_rfl)).symm.trans h0_) (by decide), z_BK535, Q_GW535, Q_GE535, Q_NB480_535, Q_NB535_480, Q_NB481_535, Q_NB535_481, Q_NB494_535, Q_NB535_494, Q_NB498_535, Q_NB535_498, Q_NB502_535, Q_NB535_502, Q_NB507_535, Q_NB535_507, fun h0_ => absurd ((hoff 9 (by kernel_rfl)).symm.trans h0_) (by decide), fun _ => rfl, fun h0_ => absurd ((hoff 3 (by kernel_rfl)).symm.trans h0_) (by decide), fun h0_ => absurd ((hoff 4 (by kernel_rfl)).symm.trans h0_) (by decide), fun h0_ => absurd ((hoff 5 (by kernel_rfl)).symm.trans h0_) (by decide), fun h0_ => absurd ((hoff 6 (by kernel_rfl)).symm.trans h0_) (by decide), Q_X8_⟩
                refine steps_cons ?_ ?_
                ·rintro b a w' ⟨v526, v529, v532, gb535, m1_, m3_, m4_, m5_, m6_, m8_, ha, Q_HO486, Q_HO489, Q_HO492, Q_HO497, Q_HO501, Q_HO505, Q_HO511, Q_HO515, Q_BK480, Q_BK481, Q_BK494, Q_BK498, Q_BK502, Q_BK507, Q_HB, Q_HO527, Q_HO530, Q_HO533, Q_BK535, Q_GW535, Q_GE535, Q_NB480_535, Q_NB535_480, Q_NB481_535, Q_NB535_481, Q_NB494_535, Q_NB535_494, Q_NB498_535, Q_NB535_498, Q_NB502_535, Q_NB535_502, Q_NB507_535, Q_NB535_507, Q_BK535_e9, Q_X1_, Q_X3_, Q_X4_, Q_X5_, Q_X6_, Q_X8_⟩ hb_ hon hoff
                 refine ⟨_, rfl, fun K hK => ?_⟩
                 have e3 : a.tmps[3]? = some (.pointer (some ⟨gb481, 0, none⟩)) := by rw [ha]; exact (putSel_off rfl).trans rfl
                 replace ha := Aside0.mk ha
                 have HO486 := Aside0.mk Q_HO486
                 have HO489 := Aside0.mk Q_HO489
                 have HO492 := Aside0.mk Q_HO492
                 have HO497 := Aside0.mk Q_HO497
                 have HO501 := Aside0.mk Q_HO501
                 have HO505 := Aside0.mk Q_HO505
                 have HO511 := Aside0.mk Q_HO511
                 have HO515 := Aside0.mk Q_HO515
                 have BK480 := Aside0.mk Q_BK480
                 have BK481 := Aside0.mk Q_BK481
                 have BK494 := Aside0.mk Q_BK494
                 have BK498 := Aside0.mk Q_BK498
                 have BK502 := Aside0.mk Q_BK502
                 have BK507 := Aside0.mk Q_BK507
                 have HB := Aside0.mk Q_HB
                 have hc0_ : w'.cell? ⟨gb481, 0, none⟩ = some (.slice A1_0 l1_0.length c1_0) := (blk_cell BK481.out 0).trans rfl
                 refine value_ (w1 := w') (v := .agg #[.slice A1_0 l1_0.length c1_0]) (by rfl) rfl ?_ ?_
                 ·go_simp
                  (try simp only [i64_w])
                  try rfl
                 refine hK.out _ _ ⟨v526, v529, v532, gb535, m1_, m3_, m4_, m5_, m6_, m8_, (by rw [ha.out]; exact putSel_upk 2 hb_ rfl rfl rfl), Q_HO486, Q_HO489, Q_HO492, Q_HO497, Q_HO501, Q_HO505, Q_HO511, Q_HO515, Q_BK480, Q_BK481, Q_BK494, Q_BK498, Q_BK502, Q_BK507, Q_HB, Q_HO527, fun h0_ => absurd ((hoff 3 (by kernel_rfl)).symm.trans h0_) (by decide), fun h0_ => absurd ((hoff 4 (by kernel_rfl)).symm.trans h0_) (by decide), Q_BK535, Q_GW535, Q_GE535, Q_NB480_535, Q_NB535_480, Q_NB481_535, Q_NB535_481, Q_NB494_535, Q_NB535_494, Q_NB498_535, Q_NB535_498, Q_NB502_535, Q_NB535_502, Q_NB507_535, Q_NB535_507, fun h0_ => absurd ((hoff 9 (by kernel_rfl)).symm.trans h0_) (by decide), Q_X1_, fun h0_ => absurd ((hoff 3 (by kernel_rfl)).symm.trans h0_) (by decide), fun h0_ => absurd ((hoff 4 (by kernel_rfl)).symm.trans h0_) (by decide), fun h0_ => absurd ((hoff 5 (by kernel_rfl)).symm.trans h0_) (by decide), fun h0_ => absurd ((hoff 6 (by kernel_rfl)).symm.trans h0_) (by decide), Q_X8_⟩
                refine steps_cons ?_ ?_
                ·rintro b a w' ⟨v526, v529, v532, gb535, m1_, m3_, m4_, m5_, m6_, m8_, ha, Q_HO486, Q_HO489, Q_HO492, Q_HO497, Q_HO501, Q_HO505, Q_HO511, Q_HO515, Q_BK480, Q_BK481, Q_BK494, Q_BK498, Q_BK502, Q_BK507, Q_HB, Q_HO527, Q_HO530, Q_HO533, Q_BK535, Q_GW535, Q_GE535, Q_NB480_535, Q_NB535_480, Q_NB481_535, Q_NB535_481, Q_NB494_535, Q_NB535_494, Q_NB498_535, Q_NB535_498, Q_NB502_535, Q_NB535_502, Q_NB507_535, Q_NB535_507, Q_BK535_e9, Q_X1_, Q_X3_, Q_X4_, Q_X5_, Q_X6_, Q_X8_⟩ hb_ hon hoff
                 refine ⟨_, rfl, fun K hK => ?_⟩
                 have e97 : a.tmps[97]? = some (.agg #[.slice A1_0 l1_0.length c1_0]) := by rw [ha]; exact putSel_on (e := (2, 97, .agg #[.slice A1_0 l1_0.length c1_0])) 2 rfl rfl (hon 2 (by kernel_rfl)) rfl
                 replace ha := Aside0.mk ha
                 have HO486 := Aside0.mk Q_HO486
                 have HO489 := Aside0.mk Q_HO489
                 have HO492 := Aside0.mk Q_HO492
                 have HO497 := Aside0.mk Q_HO497
                 have HO501 := Aside0.mk Q_HO501
                 have HO505 := Aside0.mk Q_HO505
                 have HO511 := Aside0.mk Q_HO511
                 have HO515 := Aside0.mk Q_HO515
                 have BK480 := Aside0.mk Q_BK480
                 have BK481 := Aside0.mk Q_BK481
                 have BK494 := Aside0.mk Q_BK494
                 have BK498 := Aside0.mk Q_BK498
                 have BK502 := Aside0.mk Q_BK502
                 have BK507 := Aside0.mk Q_BK507
                 have HB := Aside0.mk Q_HB
                 have HO527 := Sq.m (Q_HO527 (hon 1 (by kernel_rfl)))
                 refine goes_ Try.func17 (by kernel_rfl) rfl #[.agg #[.slice A1_0 l1_0.length c1_0]] (by rfl) rfl rfl (by first | (simp only [List.map_toArray, List.map_cons, List.map_nil, Act.eval, Array.getD_eq_getD_getElem?, Option.getD_some, e97]; done) | (simp only [List.map_toArray, List.map_cons, List.map_nil, Act.eval, Array.getD_eq_getD_getElem?, Option.getD_some, e97]; rfl)) ?_
                 with_reducible refine (laws_toNat.calls k _ _ l1_0 t528 _ ?side1 ?side2 A44.out).mono ?_
                 (case side1 => repeat (first | exact (Kd.C_below HR1_0.out HB.out) | (with_reducible refine Kd.C_alloc ?_ _) | (with_reducible refine Kd.C_drewN ?_ _) | (with_reducible refine Kd.C_drew ?_)))
                 (case side2 => exact HC1_0.out)
                 rintro e w123 ⟨v529, rfl, ho0, hb⟩
                 refine ⟨_, rfl, ?_⟩
                 have n0_ := Sq.m (Kd.R_elder' (by apply Sq.ra; exact HO486.out) (Kd.R_base ho0) hb)
                 have n1_ := Sq.m (Kd.R_elder' (by apply Sq.ra; exact HO489.out) (Kd.R_base ho0) hb)
                 have n2_ := Sq.m (Kd.R_elder' (by apply Sq.ra; exact HO492.out) (Kd.R_base ho0) hb)
                 have n3_ := Sq.m (Kd.R_elder' (by apply Sq.ra; exact HO497.out) (Kd.R_base ho0) hb)
                 have n4_ := Sq.m (Kd.R_elder' (by apply Sq.ra; exact HO501.out) (Kd.R_base ho0) hb)
                 have n5_ := Sq.m (Kd.R_elder' (by apply Sq.ra; exact HO505.out) (Kd.R_base ho0) hb)
                 have n6_ := Sq.m (Kd.R_elder' (by apply Sq.ra; exact HO511.out) (Kd.R_base ho0) hb)
                 have n7_ := Sq.m (Kd.R_elder' (by apply Sq.ra; exact HO515.out) (Kd.R_base ho0) hb)
                 have n8_ := Sq.m (Kd.R_elder' (by apply Sq.ra; exact HO527.out) (Kd.R_base ho0) hb)
                 have n9_ := Sq.m (Kd.R_lower (Kd.R_new' (Kd.R_new' (Kd.R_new' (Kd.R_new' (Kd.R_new' (Kd.R_new' (Kd.R_new' (Kd.R_new' (Kd.R_new' ho0 (Kd.R_lt (by apply Sq.ra; exact HO486.out))) (Kd.R_lt (by apply Sq.ra; exact HO489.out))) (Kd.R_lt (by apply Sq.ra; exact HO492.out))) (Kd.R_lt (by apply Sq.ra; exact HO497.out))) (Kd.R_lt (by apply Sq.ra; exact HO501.out))) (Kd.R_lt (by apply Sq.ra; exact HO505.out))) (Kd.R_lt (by apply Sq.ra; exact HO511.out))) (Kd.R_lt (by apply Sq.ra; exact HO515.out))) (Kd.R_lt (by apply Sq.ra; exact HO527.out))) (below_size (by repeat (first | (with_reducible first | exact HB.out | apply Sq.rc | refine below_set ?_ GE480.out | refine below_set ?_ GE481.out | refine below_set ?_ GE494.out | refine below_set ?_ GE498.out | refine below_set ?_ GE502.out | refine below_set ?_ GE507.out) | exact HB.out))))
                 have n10_ := Sq.m (blk_below (g := gb480) (o := .cells #[.slice A0_0 l0_0.length c0_0] 24 (0, 0)) (by apply Sq.rb; exact BK480.out) hb)
                 have n11_ := Sq.m (blk_below (g := gb481) (o := .cells #[.slice A1_0 l1_0.length c1_0] 24 (0, 0)) (by apply Sq.rb; exact BK481.out) hb)
                 have n12_ := Sq.m (blk_below (g := gb494) (o := .cells #[.slice Ao99 t490.length co99] 26 (0, 0)) (by apply Sq.rb; exact BK494.out) hb)
                 have n13_ := Sq.m (blk_below (g := gb498) (o := .cells #[.slice Ao73 t495.length co73] 26 (0, 0)) (by apply Sq.rb; exact BK498.out) hb)
                 have n14_ := Sq.m (blk_below (g := gb502) (o := .cells #[.slice Ao82 t499.length co82] 26 (0, 0)) (by apply Sq.rb; exact BK502.out) hb)
                 have n15_ := Sq.m (blk_below (g := gb507) (o := .cells #[.slice Ao91 t503.length co91] 26 (0, 0)) (by apply Sq.rb; exact BK507.out) hb)
                 have n16_ := Sq.m (below_step (by repeat (first | (with_reducible first | exact HB.out | apply Sq.rc | refine below_set ?_ GE480.out | refine below_set ?_ GE481.out | refine below_set ?_ GE494.out | refine below_set ?_ GE498.out | refine below_set ?_ GE502.out | refine below_set ?_ GE507.out) | exact HB.out)) hb)
                 have z_BK535 := fun (h0_ : b 8 = true) (h1_ : b 9 = false) => (show w123.heap[gb535]? = some (.cells #[.slice none 0 0] 26 (0, 0)) from by first | exact (blk_below (g := gb535) (o := .cells #[.slice none 0 0] 26 (0, 0)) (by apply Sq.rb; exact (Q_BK535 h0_ h1_)) hb))
                 clear HO486
                 clear HO489
                 clear HO492
                 clear HO497
                 clear HO501
                 clear HO505
                 clear HO511
                 clear HO515
                 clear HO527
                 clear BK480
                 clear BK481
                 clear BK494
                 clear BK498
                 clear BK502
                 clear BK507
                 clear HB
                 have HO486 := n0_
                 have HO489 := n1_
                 have HO492 := n2_
                 have HO497 := n3_
                 have HO501 := n4_
                 have HO505 := n5_
                 have HO511 := n6_
                 have HO515 := n7_
                 have HO527 := n8_
                 have HO530 := n9_
                 have BK480 := n10_
                 have BK481 := n11_
                 have BK494 := n12_
                 have BK498 := n13_
                 have BK502 := n14_
                 have BK507 := n15_
                 have HB := n16_
                 clear n0_ n1_ n2_ n3_ n4_ n5_ n6_ n7_ n8_ n9_ n10_ n11_ n12_ n13_ n14_ n15_ n16_
                 (try clear hb)
                 (try clear hb2)
                 (try clear hk)
                 (try clear hi)
                 (try clear ho0)
                 refine hK.out _ _ ⟨v526, v529, v532, gb535, m1_, (.agg #[v529]), m4_, m5_, m6_, m8_, (by rw [ha.out]; exact putSel_upk 3 hb_ rfl rfl rfl), (by apply Sq.ra; exact Kd.R_mono HO486.out (fun _ hk => by first | exact True.intro | exact hk.1 | exact hk | exact ⟨hk.1.1, ⟨hk.1.2.1, ⟨hk.1.2.2.1, ⟨hk.1.2.2.2.1, ⟨hk.1.2.2.2.2, hk.2⟩⟩⟩⟩⟩ | simp only [hk, ne_eq, not_false_eq_true, and_self, and_true, true_and])), (by apply Sq.ra; exact Kd.R_mono HO489.out (fun _ hk => by first | exact True.intro | exact hk.1 | exact hk | exact ⟨hk.1.1, ⟨hk.1.2.1, ⟨hk.1.2.2.1, ⟨hk.1.2.2.2.1, ⟨hk.1.2.2.2.2, hk.2⟩⟩⟩⟩⟩ | simp only [hk, ne_eq, not_false_eq_true, and_self, and_true, true_and])), (by apply Sq.ra; exact Kd.R_mono HO492.out (fun _ hk => by first | exact True.intro | exact hk.1 | exact hk | exact ⟨hk.1.1, ⟨hk.1.2.1, ⟨hk.1.2.2.1, ⟨hk.1.2.2.2.1, ⟨hk.1.2.2.2.2, hk.2⟩⟩⟩⟩⟩ | simp only [hk, ne_eq, not_false_eq_true, and_self, and_true, true_and])), (by apply Sq.ra; exact Kd.R_mono HO497.out (fun _ hk => by first | exact True.intro | exact hk.1 | exact hk | exact ⟨hk.1.1, ⟨hk.1.2.1, ⟨hk.1.2.2.1, ⟨hk.1.2.2.2.1, ⟨hk.1.2.2.2.2.1, ⟨hk.1.2.2.2.2.2.1, ⟨hk.1.2.2.2.2.2.2, hk.2⟩⟩⟩⟩⟩⟩⟩ | simp only [hk, ne_eq, not_false_eq_true, and_self, and_true, true_and])), (by apply Sq.ra; exact Kd.R_mono HO501.out (fun _ hk => by first | exact True.intro | exact hk.1 | exact hk | exact ⟨hk.1.1, ⟨hk.1.2.1, ⟨hk.1.2.2.1, ⟨hk.1.2.2.2.1, ⟨hk.1.2.2.2.2.1, ⟨hk.1.2.2.2.2.2.1, ⟨hk.1.2.2.2.2.2.2, hk.2⟩⟩⟩⟩⟩⟩⟩ | simp only [hk, ne_eq, not_false_eq_true, and_self, and_true, true_and])), (by apply Sq.ra; exact Kd.R_mono HO505.out (fun _ hk => by first | exact True.intro | exact hk.1 | exact hk | exact ⟨hk.1.1, ⟨hk.1.2.1, ⟨hk.1.2.2.1, ⟨hk.1.2.2.2.1, ⟨hk.1.2.2.2.2.1, ⟨hk.1.2.2.2.2.2.1, ⟨hk.1.2.2.2.2.2.2, hk.2⟩⟩⟩⟩⟩⟩⟩ | simp only [hk, ne_eq, not_false_eq_true, and_self, and_true, true_and])), (by apply Sq.ra; exact Kd.R_mono HO511.out (fun _ hk => by first | exact True.intro | exact hk.1 | exact hk | exact ⟨hk.1.1, ⟨hk.1.2.1, ⟨hk.1.2.2.1, ⟨hk.1.2.2.2.1, ⟨hk.1.2.2.2.2.1, ⟨hk.1.2.2.2.2.2.1, ⟨hk.1.2.2.2.2.2.2, hk.2⟩⟩⟩⟩⟩⟩⟩ | simp only [hk, ne_eq, not_false_eq_true, and_self, and_true, true_and])), (by apply Sq.ra; exact Kd.R_mono HO515.out (fun _ hk => by first | exact True.intro | exact hk.1 | exact hk | exact ⟨hk.1.1, ⟨hk.1.2.1, ⟨hk.1.2.2.1, ⟨hk.1.2.2.2.1, ⟨hk.1.2.2.2.2.1, ⟨hk.1.2.2.2.2.2.1, ⟨hk.1.2.2.2.2.2.2, hk.2⟩⟩⟩⟩⟩⟩⟩ | simp only [hk, ne_eq, not_false_eq_true, and_self, and_true, true_and])), (by apply Sq.rb; exact BK480.out), (by apply Sq.rb; exact BK481.out), (by apply Sq.rb; exact BK494.out), (by apply Sq.rb; exact BK498.out), (by apply Sq.rb; exact BK502.out), (by apply Sq.rb; exact BK507.out), (by repeat (first | (with_reducible first | exact HB.out | apply Sq.rc | refine below_set ?_ GE480.out | refine below_set ?_ GE481.out | refine below_set ?_ GE494.out | refine below_set ?_ GE498.out | refine below_set ?_ GE502.out | refine below_set ?_ GE507.out) | exact HB.out)), fun _ => (by apply Sq.ra; exact Kd.R_mono HO527.out (fun _ hk => by first | exact True.intro | exact hk.1 | exact hk | exact ⟨hk.1.1, ⟨hk.1.2.1, ⟨hk.1.2.2.1, ⟨hk.1.2.2.2.1, ⟨hk.1.2.2.2.2.1, ⟨hk.1.2.2.2.2.2.1, ⟨hk.1.2.2.2.2.2.2.1, ⟨hk.1.2.2.2.2.2.2.2, hk.2⟩⟩⟩⟩⟩⟩⟩⟩ | simp only [hk, ne_eq, not_false_eq_true, and_self, and_true, true_and])), fun _ => (by apply Sq.ra; exact Kd.R_mono HO530.out (fun _ hk => by first | exact True.intro | exact hk.1 | exact hk | exact ⟨hk.1.1.1.1.1.1.1.1.2, ⟨hk.1.1.1.1.1.1.1.2, ⟨hk.1.1.1.1.1.1.2, ⟨hk.1.1.1.1.1.2, ⟨hk.1.1.1.1.2, ⟨hk.1.1.1.2, ⟨hk.1.1.2, ⟨hk.1.2, hk.2⟩⟩⟩⟩⟩⟩⟩⟩ | simp only [hk, ne_eq, not_false_eq_true, and_self, and_true, true_and])), fun h0_ => absurd ((hoff 4 (by kernel_rfl)).symm.trans h0_) (by decide), z_BK535, Q_GW535, Q_GE535, Q_NB480_535, Q_NB535_480, Q_NB481_535, Q_NB535_481, Q_NB494_535, Q_NB535_494, Q_NB498_535, Q_NB535_498, Q_NB502_535, Q_NB535_502, Q_NB507_535, Q_NB535_507, fun h0_ => absurd ((hoff 9 (by kernel_rfl)).symm.trans h0_) (by decide), Q_X1_, fun _ => rfl, fun h0_ => absurd ((hoff 4 (by kernel_rfl)).symm.trans h0_) (by decide), fun h0_ => absurd ((hoff 5 (by kernel_rfl)).symm.trans h0_) (by decide), fun h0_ => absurd ((hoff 6 (by kernel_rfl)).symm.trans h0_) (by decide), Q_X8_⟩
                refine steps_cons ?_ ?_
                ·rintro b a w' ⟨v526, v529, v532, gb535, m1_, m3_, m4_, m5_, m6_, m8_, ha, Q_HO486, Q_HO489, Q_HO492, Q_HO497, Q_HO501, Q_HO505, Q_HO511, Q_HO515, Q_BK480, Q_BK481, Q_BK494, Q_BK498, Q_BK502, Q_BK507, Q_HB, Q_HO527, Q_HO530, Q_HO533, Q_BK535, Q_GW535, Q_GE535, Q_NB480_535, Q_NB535_480, Q_NB481_535, Q_NB535_481, Q_NB494_535, Q_NB535_494, Q_NB498_535, Q_NB535_498, Q_NB502_535, Q_NB535_502, Q_NB507_535, Q_NB535_507, Q_BK535_e9, Q_X1_, Q_X3_, Q_X4_, Q_X5_, Q_X6_, Q_X8_⟩ hb_ hon hoff
                 refine ⟨_, rfl, fun K hK => ?_⟩
                 have e96 : a.tmps[96]? = some (m1_) := by rw [ha]; exact putSel_on (e := (1, 96, m1_)) 1 rfl rfl (hon 1 (by kernel_rfl)) rfl
                 rw [Q_X1_ (hon 1 (by kernel_rfl))] at e96
                 have e98 : a.tmps[98]? = some (m3_) := by rw [ha]; exact putSel_on (e := (3, 98, m3_)) 3 rfl rfl (hon 3 (by kernel_rfl)) rfl
                 rw [Q_X3_ (hon 3 (by kernel_rfl))] at e98
                 replace ha := Aside0.mk ha
                 have HO486 := Aside0.mk Q_HO486
                 have HO489 := Aside0.mk Q_HO489
                 have HO492 := Aside0.mk Q_HO492
                 have HO497 := Aside0.mk Q_HO497
                 have HO501 := Aside0.mk Q_HO501
                 have HO505 := Aside0.mk Q_HO505
                 have HO511 := Aside0.mk Q_HO511
                 have HO515 := Aside0.mk Q_HO515
                 have BK480 := Aside0.mk Q_BK480
                 have BK481 := Aside0.mk Q_BK481
                 have BK494 := Aside0.mk Q_BK494
                 have BK498 := Aside0.mk Q_BK498
                 have BK502 := Aside0.mk Q_BK502
                 have BK507 := Aside0.mk Q_BK507
                 have HB := Aside0.mk Q_HB
                 have HO527 := Sq.m (Q_HO527 (hon 1 (by kernel_rfl)))
                 have HO530 := Sq.m (Q_HO530 (hon 3 (by kernel_rfl)))
                 obtain ⟨Ao124, co124, eo124⟩ := Kd.R_slice HO527.out
                 (first | subst eo124 | (injection eo124 with f1_ f2_ f3_; have f4_ := f1_.symm; have f5_ := f3_.symm; clear f1_ f2_ f3_; subst f4_; subst f5_))
                 obtain ⟨Ao125, co125, eo125⟩ := Kd.R_slice HO530.out
                 (first | subst eo125 | (injection eo125 with f1_ f2_ f3_; have f4_ := f1_.symm; have f5_ := f3_.symm; clear f1_ f2_ f3_; subst f4_; subst f5_))
                 refine goes_ Try.func25 (by kernel_rfl) rfl #[.agg #[.slice Ao124 t525.length co124], .agg #[.slice Ao125 t528.length co125]] (by rfl) rfl rfl (by first | (simp only [List.map_toArray, List.map_cons, List.map_nil, Act.eval, Array.getD_eq_getD_getElem?, Option.getD_some, e96, e98]; done) | (simp only [List.map_toArray, List.map_cons, List.map_nil, Act.eval, Array.getD_eq_getD_getElem?, Option.getD_some, e96, e98]; rfl)) ?_
                 with_reducible refine (impl_NatSub.calls k _ _ t525 _ _ t528 t531 t534 _ ?side1 ?side2 ?side3 ?side4 A45.out).mono ?_
                 (case side1 => repeat (first | exact (Kd.R_reads' HO527.out).2.2 | (with_reducible refine Kd.C_alloc ?_ _) | (with_reducible refine Kd.C_drewN ?_ _) | (with_reducible refine Kd.C_drew ?_)))
                 (case side2 => exact (Kd.R_reads' HO527.out).2.1)
                 (case side3 => repeat (first | exact (Kd.R_reads' HO530.out).2.2 | (with_reducible refine Kd.C_alloc ?_ _) | (with_reducible refine Kd.C_drewN ?_ _) | (with_reducible refine Kd.C_drew ?_)))
                 (case side4 => exact (Kd.R_reads' HO530.out).2.1)
                 rintro e w126 ⟨v532, rfl, ho0, hb⟩
                 refine ⟨_, rfl, ?_⟩
                 have n0_ := Sq.m (Kd.R_elder' (by apply Sq.ra; exact HO486.out) (Kd.R_base ho0) hb)
                 have n1_ := Sq.m (Kd.R_elder' (by apply Sq.ra; exact HO489.out) (Kd.R_base ho0) hb)
                 have n2_ := Sq.m (Kd.R_elder' (by apply Sq.ra; exact HO492.out) (Kd.R_base ho0) hb)
                 have n3_ := Sq.m (Kd.R_elder' (by apply Sq.ra; exact HO497.out) (Kd.R_base ho0) hb)
                 have n4_ := Sq.m (Kd.R_elder' (by apply Sq.ra; exact HO501.out) (Kd.R_base ho0) hb)
                 have n5_ := Sq.m (Kd.R_elder' (by apply Sq.ra; exact HO505.out) (Kd.R_base ho0) hb)
                 have n6_ := Sq.m (Kd.R_elder' (by apply Sq.ra; exact HO511.out) (Kd.R_base ho0) hb)
                 have n7_ := Sq.m (Kd.R_elder' (by apply Sq.ra; exact HO515.out) (Kd.R_base ho0) hb)
                 have n8_ := Sq.m (Kd.R_elder' (by apply Sq.ra; exact HO527.out) (Kd.R_base ho0) hb)
                 have n9_ := Sq.m (Kd.R_elder' (by apply Sq.ra; exact HO530.out) (Kd.R_base ho0) hb)
                 have n10_ := Sq.m (Kd.R_lower (Kd.R_new' (Kd.R_new' (Kd.R_new' (Kd.R_new' (Kd.R_new' (Kd.R_new' (Kd.R_new' (Kd.R_new' (Kd.R_new' (Kd.R_new' ho0 (Kd.R_lt (by apply Sq.ra; exact HO486.out))) (Kd.R_lt (by apply Sq.ra; exact HO489.out))) (Kd.R_lt (by apply Sq.ra; exact HO492.out))) (Kd.R_lt (by apply Sq.ra; exact HO497.out))) (Kd.R_lt (by apply Sq.ra; exact HO501.out))) (Kd.R_lt (by apply Sq.ra; exact HO505.out))) (Kd.R_lt (by apply Sq.ra; exact HO511.out))) (Kd.R_lt (by apply Sq.ra; exact HO515.out))) (Kd.R_lt (by apply Sq.ra; exact HO527.out))) (Kd.R_lt (by apply Sq.ra; exact HO530.out))) (below_size (by repeat (first | (with_reducible first | exact HB.out | apply Sq.rc | refine below_set ?_ GE480.out | refine below_set ?_ GE481.out | refine below_set ?_ GE494.out | refine below_set ?_ GE498.out | refine below_set ?_ GE502.out | refine below_set ?_ GE507.out) | exact HB.out))))
                 have n11_ := Sq.m (blk_below (g := gb480) (o := .cells #[.slice A0_0 l0_0.length c0_0] 24 (0, 0)) (by apply Sq.rb; exact BK480.out) hb)
                 have n12_ := Sq.m (blk_below (g := gb481) (o := .cells #[.slice A1_0 l1_0.length c1_0] 24 (0, 0)) (by apply Sq.rb; exact BK481.out) hb)
                 have n13_ := Sq.m (blk_below (g := gb494) (o := .cells #[.slice Ao99 t490.length co99] 26 (0, 0)) (by apply Sq.rb; exact BK494.out) hb)
                 have n14_ := Sq.m (blk_below (g := gb498) (o := .cells #[.slice Ao73 t495.length co73] 26 (0, 0)) (by apply Sq.rb; exact BK498.out) hb)
                 have n15_ := Sq.m (blk_below (g := gb502) (o := .cells #[.slice Ao82 t499.length co82] 26 (0, 0)) (by apply Sq.rb; exact BK502.out) hb)
                 have n16_ := Sq.m (blk_below (g := gb507) (o := .cells #[.slice Ao91 t503.length co91] 26 (0, 0)) (by apply Sq.rb; exact BK507.out) hb)
                 have n17_ := Sq.m (below_step (by repeat (first | (with_reducible first | exact HB.out | apply Sq.rc | refine below_set ?_ GE480.out | refine below_set ?_ GE481.out | refine below_set ?_ GE494.out | refine below_set ?_ GE498.out | refine below_set ?_ GE502.out | refine below_set ?_ GE507.out) | exact HB.out)) hb)
                 have z_BK535 := fun (h0_ : b 8 = true) (h1_ : b 9 = false) => (show w126.heap[gb535]? = some (.cells #[.slice none 0 0] 26 (0, 0)) from by first | exact (blk_below (g := gb535) (o := .cells #[.slice none 0 0] 26 (0, 0)) (by apply Sq.rb; exact (Q_BK535 h0_ h1_)) hb))
                 clear HO486
                 clear HO489
                 clear HO492
                 clear HO497
                 clear HO501
                 clear HO505
                 clear HO511
                 clear HO515
                 clear HO527
                 clear HO530
                 clear BK480
                 clear BK481
                 clear BK494
                 clear BK498
                 clear BK502
                 clear BK507
                 clear HB
                 have HO486 := n0_
                 have HO489 := n1_
                 have HO492 := n2_
                 have HO497 := n3_
                 have HO501 := n4_
                 have HO505 := n5_
                 have HO511 := n6_
                 have HO515 := n7_
                 have HO527 := n8_
                 have HO530 := n9_
                 have HO533 := n10_
                 have BK480 := n11_
                 have BK481 := n12_
                 have BK494 := n13_
                 have BK498 := n14_
                 have BK502 := n15_
                 have BK507 := n16_
                 have HB := n17_
                 clear n0_ n1_ n2_ n3_ n4_ n5_ n6_ n7_ n8_ n9_ n10_ n11_ n12_ n13_ n14_ n15_ n16_ n17_
                 (try clear hb)
                 (try clear hb2)
                 (try clear hk)
                 (try clear hi)
                 (try clear ho0)
                 refine hK.out _ _ ⟨.slice Ao124 t525.length co124, .slice Ao125 t528.length co125, v532, gb535, m1_, m3_, (.tuple #[.agg #[v532], .bool t534]), m5_, m6_, m8_, (by rw [ha.out]; exact putSel_upk 4 hb_ rfl rfl rfl), (by apply Sq.ra; exact Kd.R_mono HO486.out (fun _ hk => by first | exact True.intro | exact hk.1 | exact hk | exact ⟨hk.1.1, ⟨hk.1.2.1, ⟨hk.1.2.2.1, ⟨hk.1.2.2.2.1, ⟨hk.1.2.2.2.2, hk.2⟩⟩⟩⟩⟩ | simp only [hk, ne_eq, not_false_eq_true, and_self, and_true, true_and])), (by apply Sq.ra; exact Kd.R_mono HO489.out (fun _ hk => by first | exact True.intro | exact hk.1 | exact hk | exact ⟨hk.1.1, ⟨hk.1.2.1, ⟨hk.1.2.2.1, ⟨hk.1.2.2.2.1, ⟨hk.1.2.2.2.2, hk.2⟩⟩⟩⟩⟩ | simp only [hk, ne_eq, not_false_eq_true, and_self, and_true, true_and])), (by apply Sq.ra; exact Kd.R_mono HO492.out (fun _ hk => by first | exact True.intro | exact hk.1 | exact hk | exact ⟨hk.1.1, ⟨hk.1.2.1, ⟨hk.1.2.2.1, ⟨hk.1.2.2.2.1, ⟨hk.1.2.2.2.2, hk.2⟩⟩⟩⟩⟩ | simp only [hk, ne_eq, not_false_eq_true, and_self, and_true, true_and])), (by apply Sq.ra; exact Kd.R_mono HO497.out (fun _ hk => by first | exact True.intro | exact hk.1 | exact hk | exact ⟨hk.1.1, ⟨hk.1.2.1, ⟨hk.1.2.2.1, ⟨hk.1.2.2.2.1, ⟨hk.1.2.2.2.2.1, ⟨hk.1.2.2.2.2.2.1, ⟨hk.1.2.2.2.2.2.2, hk.2⟩⟩⟩⟩⟩⟩⟩ | simp only [hk, ne_eq, not_false_eq_true, and_self, and_true, true_and])), (by apply Sq.ra; exact Kd.R_mono HO501.out (fun _ hk => by first | exact True.intro | exact hk.1 | exact hk | exact ⟨hk.1.1, ⟨hk.1.2.1, ⟨hk.1.2.2.1, ⟨hk.1.2.2.2.1, ⟨hk.1.2.2.2.2.1, ⟨hk.1.2.2.2.2.2.1, ⟨hk.1.2.2.2.2.2.2, hk.2⟩⟩⟩⟩⟩⟩⟩ | simp only [hk, ne_eq, not_false_eq_true, and_self, and_true, true_and])), (by apply Sq.ra; exact Kd.R_mono HO505.out (fun _ hk => by first | exact True.intro | exact hk.1 | exact hk | exact ⟨hk.1.1, ⟨hk.1.2.1, ⟨hk.1.2.2.1, ⟨hk.1.2.2.2.1, ⟨hk.1.2.2.2.2.1, ⟨hk.1.2.2.2.2.2.1, ⟨hk.1.2.2.2.2.2.2, hk.2⟩⟩⟩⟩⟩⟩⟩ | simp only [hk, ne_eq, not_false_eq_true, and_self, and_true, true_and])), (by apply Sq.ra; exact Kd.R_mono HO511.out (fun _ hk => by first | exact True.intro | exact hk.1 | exact hk | exact ⟨hk.1.1, ⟨hk.1.2.1, ⟨hk.1.2.2.1, ⟨hk.1.2.2.2.1, ⟨hk.1.2.2.2.2.1, ⟨hk.1.2.2.2.2.2.1, ⟨hk.1.2.2.2.2.2.2, hk.2⟩⟩⟩⟩⟩⟩⟩ | simp only [hk, ne_eq, not_false_eq_true, and_self, and_true, true_and])), (by apply Sq.ra; exact Kd.R_mono HO515.out (fun _ hk => by first | exact True.intro | exact hk.1 | exact hk | exact ⟨hk.1.1, ⟨hk.1.2.1, ⟨hk.1.2.2.1, ⟨hk.1.2.2.2.1, ⟨hk.1.2.2.2.2.1, ⟨hk.1.2.2.2.2.2.1, ⟨hk.1.2.2.2.2.2.2, hk.2⟩⟩⟩⟩⟩⟩⟩ | simp only [hk, ne_eq, not_false_eq_true, and_self, and_true, true_and])), (by apply Sq.rb; exact BK480.out), (by apply Sq.rb; exact BK481.out), (by apply Sq.rb; exact BK494.out), (by apply Sq.rb; exact BK498.out), (by apply Sq.rb; exact BK502.out), (by apply Sq.rb; exact BK507.out), (by repeat (first | (with_reducible first | exact HB.out | apply Sq.rc | refine below_set ?_ GE480.out | refine below_set ?_ GE481.out | refine below_set ?_ GE494.out | refine below_set ?_ GE498.out | refine below_set ?_ GE502.out | refine below_set ?_ GE507.out) | exact HB.out)), fun _ => (by apply Sq.ra; exact Kd.R_mono HO527.out (fun _ hk => by first | exact True.intro | exact hk.1 | exact hk | exact ⟨hk.1.1, ⟨hk.1.2.1, ⟨hk.1.2.2.1, ⟨hk.1.2.2.2.1, ⟨hk.1.2.2.2.2.1, ⟨hk.1.2.2.2.2.2.1, ⟨hk.1.2.2.2.2.2.2.1, ⟨hk.1.2.2.2.2.2.2.2, hk.2⟩⟩⟩⟩⟩⟩⟩⟩ | simp only [hk, ne_eq, not_false_eq_true, and_self, and_true, true_and])), fun _ => (by apply Sq.ra; exact Kd.R_mono HO530.out (fun _ hk => by first | exact True.intro | exact hk.1 | exact hk | exact ⟨hk.1.1, ⟨hk.1.2.1, ⟨hk.1.2.2.1, ⟨hk.1.2.2.2.1, ⟨hk.1.2.2.2.2.1, ⟨hk.1.2.2.2.2.2.1, ⟨hk.1.2.2.2.2.2.2.1, ⟨hk.1.2.2.2.2.2.2.2, hk.2⟩⟩⟩⟩⟩⟩⟩⟩ | simp only [hk, ne_eq, not_false_eq_true, and_self, and_true, true_and])), fun _ => (by apply Sq.ra; exact Kd.R_mono HO533.out (fun _ hk => by first | exact True.intro | exact hk.1 | exact hk | exact ⟨hk.1.1.1.1.1.1.1.1.1.2, ⟨hk.1.1.1.1.1.1.1.1.2, ⟨hk.1.1.1.1.1.1.1.2, ⟨hk.1.1.1.1.1.1.2, ⟨hk.1.1.1.1.1.2, ⟨hk.1.1.1.1.2, ⟨hk.1.1.1.2, ⟨hk.1.1.2, ⟨hk.1.2, hk.2⟩⟩⟩⟩⟩⟩⟩⟩⟩ | simp only [hk, ne_eq, not_false_eq_true, and_self, and_true, true_and])), z_BK535, Q_GW535, Q_GE535, Q_NB480_535, Q_NB535_480, Q_NB481_535, Q_NB535_481, Q_NB494_535, Q_NB535_494, Q_NB498_535, Q_NB535_498, Q_NB502_535, Q_NB535_502, Q_NB507_535, Q_NB535_507, fun h0_ => absurd ((hoff 9 (by kernel_rfl)).symm.trans h0_) (by decide), Q_X1_, Q_X3_, fun _ => rfl, fun h0_ => absurd ((hoff 5 (by kernel_rfl)).symm.trans h0_) (by decide), fun h0_ => absurd ((hoff 6 (by kernel_rfl)).symm.trans h0_) (by decide), Q_X8_⟩
                refine steps_cons ?_ ?_
                ·rintro b a w' ⟨v526, v529, v532, gb535, m1_, m3_, m4_, m5_, m6_, m8_, ha, Q_HO486, Q_HO489, Q_HO492, Q_HO497, Q_HO501, Q_HO505, Q_HO511, Q_HO515, Q_BK480, Q_BK481, Q_BK494, Q_BK498, Q_BK502, Q_BK507, Q_HB, Q_HO527, Q_HO530, Q_HO533, Q_BK535, Q_GW535, Q_GE535, Q_NB480_535, Q_NB535_480, Q_NB481_535, Q_NB535_481, Q_NB494_535, Q_NB535_494, Q_NB498_535, Q_NB535_498, Q_NB502_535, Q_NB535_502, Q_NB507_535, Q_NB535_507, Q_BK535_e9, Q_X1_, Q_X3_, Q_X4_, Q_X5_, Q_X6_, Q_X8_⟩ hb_ hon hoff
                 refine ⟨_, rfl, fun K hK => ?_⟩
                 have e99 : a.tmps[99]? = some (m4_) := by rw [ha]; exact putSel_on (e := (4, 99, m4_)) 4 rfl rfl (hon 4 (by kernel_rfl)) rfl
                 rw [Q_X4_ (hon 4 (by kernel_rfl))] at e99
                 replace ha := Aside0.mk ha
                 have HO486 := Aside0.mk Q_HO486
                 have HO489 := Aside0.mk Q_HO489
                 have HO492 := Aside0.mk Q_HO492
                 have HO497 := Aside0.mk Q_HO497
                 have HO501 := Aside0.mk Q_HO501
                 have HO505 := Aside0.mk Q_HO505
                 have HO511 := Aside0.mk Q_HO511
                 have HO515 := Aside0.mk Q_HO515
                 have BK480 := Aside0.mk Q_BK480
                 have BK481 := Aside0.mk Q_BK481
                 have BK494 := Aside0.mk Q_BK494
                 have BK498 := Aside0.mk Q_BK498
                 have BK502 := Aside0.mk Q_BK502
                 have BK507 := Aside0.mk Q_BK507
                 have HB := Aside0.mk Q_HB
                 have HO527 := Sq.m (Q_HO527 (hon 1 (by kernel_rfl)))
                 have HO530 := Sq.m (Q_HO530 (hon 3 (by kernel_rfl)))
                 have HO533 := Sq.m (Q_HO533 (hon 4 (by kernel_rfl)))
                 refine value_ (w1 := w') (v := .tuple #[.agg #[v532], .bool t534]) (by rfl) rfl ?_ ?_
                 ·go_simp
                  (try simp only [i64_w])
                  try rfl
                 refine hK.out _ _ ⟨v526, v529, v532, gb535, m1_, m3_, m4_, (.tuple #[.agg #[v532], .bool t534]), m6_, m8_, (by rw [ha.out]; exact putSel_upk 5 hb_ rfl rfl rfl), Q_HO486, Q_HO489, Q_HO492, Q_HO497, Q_HO501, Q_HO505, Q_HO511, Q_HO515, Q_BK480, Q_BK481, Q_BK494, Q_BK498, Q_BK502, Q_BK507, Q_HB, Q_HO527, Q_HO530, Q_HO533, Q_BK535, Q_GW535, Q_GE535, Q_NB480_535, Q_NB535_480, Q_NB481_535, Q_NB535_481, Q_NB494_535, Q_NB535_494, Q_NB498_535, Q_NB535_498, Q_NB502_535, Q_NB535_502, Q_NB507_535, Q_NB535_507, fun h0_ => absurd ((hoff 9 (by kernel_rfl)).symm.trans h0_) (by decide), Q_X1_, Q_X3_, Q_X4_, fun _ => rfl, fun h0_ => absurd ((hoff 6 (by kernel_rfl)).symm.trans h0_) (by decide), Q_X8_⟩
                refine steps_cons ?_ ?_
                ·rintro b a w' ⟨v526, v529, v532, gb535, m1_, m3_, m4_, m5_, m6_, m8_, ha, Q_HO486, Q_HO489, Q_HO492, Q_HO497, Q_HO501, Q_HO505, Q_HO511, Q_HO515, Q_BK480, Q_BK481, Q_BK494, Q_BK498, Q_BK502, Q_BK507, Q_HB, Q_HO527, Q_HO530, Q_HO533, Q_BK535, Q_GW535, Q_GE535, Q_NB480_535, Q_NB535_480, Q_NB481_535, Q_NB535_481, Q_NB494_535, Q_NB535_494, Q_NB498_535, Q_NB535_498, Q_NB502_535, Q_NB535_502, Q_NB507_535, Q_NB535_507, Q_BK535_e9, Q_X1_, Q_X3_, Q_X4_, Q_X5_, Q_X6_, Q_X8_⟩ hb_ hon hoff
                 refine ⟨_, rfl, fun K hK => ?_⟩
                 have e94 : a.tmps[94]? = some (m5_) := by rw [ha]; exact putSel_on (e := (5, 94, m5_)) 5 rfl rfl (hon 5 (by kernel_rfl)) rfl
                 rw [Q_X5_ (hon 5 (by kernel_rfl))] at e94
                 replace ha := Aside0.mk ha
                 have HO486 := Aside0.mk Q_HO486
                 have HO489 := Aside0.mk Q_HO489
                 have HO492 := Aside0.mk Q_HO492
                 have HO497 := Aside0.mk Q_HO497
                 have HO501 := Aside0.mk Q_HO501
                 have HO505 := Aside0.mk Q_HO505
                 have HO511 := Aside0.mk Q_HO511
                 have HO515 := Aside0.mk Q_HO515
                 have BK480 := Aside0.mk Q_BK480
                 have BK481 := Aside0.mk Q_BK481
                 have BK494 := Aside0.mk Q_BK494
                 have BK498 := Aside0.mk Q_BK498
                 have BK502 := Aside0.mk Q_BK502
                 have BK507 := Aside0.mk Q_BK507
                 have HB := Aside0.mk Q_HB
                 have HO527 := Sq.m (Q_HO527 (hon 1 (by kernel_rfl)))
                 have HO530 := Sq.m (Q_HO530 (hon 3 (by kernel_rfl)))
                 have HO533 := Sq.m (Q_HO533 (hon 4 (by kernel_rfl)))
                 refine value_ (w1 := w') (v := .agg #[v532]) (by rfl) rfl ?_ ?_
                 ·go_simp
                  (try simp only [i64_w])
                  try rfl
                 refine hK.out _ _ ⟨v526, v529, v532, gb535, m1_, m3_, m4_, m5_, (.agg #[v532]), m8_, (by rw [ha.out]; exact putSel_upk 6 hb_ rfl rfl rfl), Q_HO486, Q_HO489, Q_HO492, Q_HO497, Q_HO501, Q_HO505, Q_HO511, Q_HO515, Q_BK480, Q_BK481, Q_BK494, Q_BK498, Q_BK502, Q_BK507, Q_HB, Q_HO527, Q_HO530, Q_HO533, Q_BK535, Q_GW535, Q_GE535, Q_NB480_535, Q_NB535_480, Q_NB481_535, Q_NB535_481, Q_NB494_535, Q_NB535_494, Q_NB498_535, Q_NB535_498, Q_NB502_535, Q_NB535_502, Q_NB507_535, Q_NB535_507, fun h0_ => absurd ((hoff 9 (by kernel_rfl)).symm.trans h0_) (by decide), Q_X1_, Q_X3_, Q_X4_, Q_X5_, fun _ => rfl, Q_X8_⟩
                refine steps_cons ?_ ?_
                ·rintro b a w' ⟨v526, v529, v532, gb535, m1_, m3_, m4_, m5_, m6_, m8_, ha, Q_HO486, Q_HO489, Q_HO492, Q_HO497, Q_HO501, Q_HO505, Q_HO511, Q_HO515, Q_BK480, Q_BK481, Q_BK494, Q_BK498, Q_BK502, Q_BK507, Q_HB, Q_HO527, Q_HO530, Q_HO533, Q_BK535, Q_GW535, Q_GE535, Q_NB480_535, Q_NB535_480, Q_NB481_535, Q_NB535_481, Q_NB494_535, Q_NB535_494, Q_NB498_535, Q_NB535_498, Q_NB502_535, Q_NB535_502, Q_NB507_535, Q_NB535_507, Q_BK535_e9, Q_X1_, Q_X3_, Q_X4_, Q_X5_, Q_X6_, Q_X8_⟩ hb_ hon hoff
                 refine ⟨_, rfl, fun K hK => ?_⟩
                 have e94 : a.tmps[94]? = some (m5_) := by rw [ha]; exact putSel_on (e := (5, 94, m5_)) 5 rfl rfl (hon 5 (by kernel_rfl)) rfl
                 rw [Q_X5_ (hon 5 (by kernel_rfl))] at e94
                 replace ha := Aside0.mk ha
                 have HO486 := Aside0.mk Q_HO486
                 have HO489 := Aside0.mk Q_HO489
                 have HO492 := Aside0.mk Q_HO492
                 have HO497 := Aside0.mk Q_HO497
                 have HO501 := Aside0.mk Q_HO501
                 have HO505 := Aside0.mk Q_HO505
                 have HO511 := Aside0.mk Q_HO511
                 have HO515 := Aside0.mk Q_HO515
                 have BK480 := Aside0.mk Q_BK480
                 have BK481 := Aside0.mk Q_BK481
                 have BK494 := Aside0.mk Q_BK494
                 have BK498 := Aside0.mk Q_BK498
                 have BK502 := Aside0.mk Q_BK502
                 have BK507 := Aside0.mk Q_BK507
                 have HB := Aside0.mk Q_HB
                 have HO527 := Sq.m (Q_HO527 (hon 1 (by kernel_rfl)))
                 have HO530 := Sq.m (Q_HO530 (hon 3 (by kernel_rfl)))
                 have HO533 := Sq.m (Q_HO533 (hon 4 (by kernel_rfl)))
                 refine value_ (w1 := w') (v := .bool t534) (by rfl) rfl ?_ ?_
                 ·go_simp
                  (try simp only [i64_w])
                  try rfl
                 refine hK.out _ _ ⟨v526, v529, v532, gb535, m1_, m3_, m4_, m5_, m6_, m8_, (by rw [ha.out]; exact putSel_upk 7 hb_ rfl rfl rfl), Q_HO486, Q_HO489, Q_HO492, Q_HO497, Q_HO501, Q_HO505, Q_HO511, Q_HO515, Q_BK480, Q_BK481, Q_BK494, Q_BK498, Q_BK502, Q_BK507, Q_HB, Q_HO527, Q_HO530, Q_HO533, Q_BK535, Q_GW535, Q_GE535, Q_NB480_535, Q_NB535_480, Q_NB481_535, Q_NB535_481, Q_NB494_535, Q_NB535_494, Q_NB498_535, Q_NB535_498, Q_NB502_535, Q_NB535_502, Q_NB507_535, Q_NB535_507, Q_BK535_e9, Q_X1_, Q_X3_, Q_X4_, Q_X5_, Q_X6_, Q_X8_⟩
                refine steps_cons ?_ ?_
                ·rintro b a w' ⟨v526, v529, v532, gb535, m1_, m3_, m4_, m5_, m6_, m8_, ha, Q_HO486, Q_HO489, Q_HO492, Q_HO497, Q_HO501, Q_HO505, Q_HO511, Q_HO515, Q_BK480, Q_BK481, Q_BK494, Q_BK498, Q_BK502, Q_BK507, Q_HB, Q_HO527, Q_HO530, Q_HO533, Q_BK535, Q_GW535, Q_GE535, Q_NB480_535, Q_NB535_480, Q_NB481_535, Q_NB535_481, Q_NB494_535, Q_NB535_494, Q_NB498_535, Q_NB535_498, Q_NB502_535, Q_NB535_502, Q_NB507_535, Q_NB535_507, Q_BK535_e9, Q_X1_, Q_X3_, Q_X4_, Q_X5_, Q_X6_, Q_X8_⟩ hb_ hon hoff
                 refine ⟨_, rfl, fun K hK => ?_⟩
                 replace ha := Aside0.mk ha
                 have HO486 := Aside0.mk Q_HO486
                 have HO489 := Aside0.mk Q_HO489
                 have HO492 := Aside0.mk Q_HO492
                 have HO497 := Aside0.mk Q_HO497
                 have HO501 := Aside0.mk Q_HO501
                 have HO505 := Aside0.mk Q_HO505
                 have HO511 := Aside0.mk Q_HO511
                 have HO515 := Aside0.mk Q_HO515
                 have BK480 := Aside0.mk Q_BK480
                 have BK481 := Aside0.mk Q_BK481
                 have BK494 := Aside0.mk Q_BK494
                 have BK498 := Aside0.mk Q_BK498
                 have BK502 := Aside0.mk Q_BK502
                 have BK507 := Aside0.mk Q_BK507
                 have HB := Aside0.mk Q_HB
                 refine box_step ?hg (N := 15) ?hd (cs := #[.slice none 0 0]) (t := 26) ?hr ?_; (case hd => rfl); (case hg => rfl); (case hr => first | (go_simp; done) | (go_simp; rfl))
                 intro gb535 hg w121 hbox hb
                 have n0_ := Sq.m (Kd.R_below (by apply Sq.ra; exact HO486.out) hb)
                 have n1_ := Sq.m (Kd.R_below (by apply Sq.ra; exact HO489.out) hb)
                 have n2_ := Sq.m (Kd.R_below (by apply Sq.ra; exact HO492.out) hb)
                 have n3_ := Sq.m (Kd.R_below (by apply Sq.ra; exact HO497.out) hb)
                 have n4_ := Sq.m (Kd.R_below (by apply Sq.ra; exact HO501.out) hb)
                 have n5_ := Sq.m (Kd.R_below (by apply Sq.ra; exact HO505.out) hb)
                 have n6_ := Sq.m (Kd.R_below (by apply Sq.ra; exact HO511.out) hb)
                 have n7_ := Sq.m (Kd.R_below (by apply Sq.ra; exact HO515.out) hb)
                 have n8_ := Sq.m (blk_below (g := gb480) (o := .cells #[.slice A0_0 l0_0.length c0_0] 24 (0, 0)) (by apply Sq.rb; exact BK480.out) hb)
                 have n9_ := Sq.m (blk_below (g := gb481) (o := .cells #[.slice A1_0 l1_0.length c1_0] 24 (0, 0)) (by apply Sq.rb; exact BK481.out) hb)
                 have n10_ := Sq.m (blk_below (g := gb494) (o := .cells #[.slice Ao99 t490.length co99] 26 (0, 0)) (by apply Sq.rb; exact BK494.out) hb)
                 have n11_ := Sq.m (blk_below (g := gb498) (o := .cells #[.slice Ao73 t495.length co73] 26 (0, 0)) (by apply Sq.rb; exact BK498.out) hb)
                 have n12_ := Sq.m (blk_below (g := gb502) (o := .cells #[.slice Ao82 t499.length co82] 26 (0, 0)) (by apply Sq.rb; exact BK502.out) hb)
                 have n13_ := Sq.m (blk_below (g := gb507) (o := .cells #[.slice Ao91 t503.length co91] 26 (0, 0)) (by apply Sq.rb; exact BK507.out) hb)
                 have n14_ := Sq.m (below_step (by repeat (first | (with_reducible first | exact HB.out | apply Sq.rc | refine below_set ?_ GE480.out | refine below_set ?_ GE481.out | refine below_set ?_ GE494.out | refine below_set ?_ GE498.out | refine below_set ?_ GE502.out | refine below_set ?_ GE507.out) | exact HB.out)) hb)
                 have n15_ := Sq.m (hbox)
                 have n16_ := Sq.m ((by rw [hg]; exact (below_size (by repeat (first | (with_reducible first | exact HB.out | apply Sq.rc | refine below_set ?_ GE480.out | refine below_set ?_ GE481.out | refine below_set ?_ GE494.out | refine below_set ?_ GE498.out | refine below_set ?_ GE502.out | refine below_set ?_ GE507.out) | exact HB.out))) : w.heap.size ≤ gb535))
                 have n17_ := Sq.m ((by rw [hg]; exact (below_size (by repeat (first | (with_reducible first | exact HB.out | apply Sq.rc | refine below_set ?_ GE480.out | refine below_set ?_ GE481.out | refine below_set ?_ GE494.out | refine below_set ?_ GE498.out | refine below_set ?_ GE502.out | refine below_set ?_ GE507.out) | exact HB.out))) : w.heap.size ≤ gb535))
                 have n18_ := Sq.m ((by rw [hg]; exact Nat.ne_of_lt (blk_lt (g := gb480) (o := .cells #[.slice A0_0 l0_0.length c0_0] 24 (0, 0)) (by apply Sq.rb; exact BK480.out)) : gb480 ≠ gb535))
                 have n19_ := Sq.m ((by rw [hg]; exact Nat.ne_of_gt (blk_lt (g := gb480) (o := .cells #[.slice A0_0 l0_0.length c0_0] 24 (0, 0)) (by apply Sq.rb; exact BK480.out)) : gb535 ≠ gb480))
                 have n20_ := Sq.m ((by rw [hg]; exact Nat.ne_of_lt (blk_lt (g := gb481) (o := .cells #[.slice A1_0 l1_0.length c1_0] 24 (0, 0)) (by apply Sq.rb; exact BK481.out)) : gb481 ≠ gb535))
                 have n21_ := Sq.m ((by rw [hg]; exact Nat.ne_of_gt (blk_lt (g := gb481) (o := .cells #[.slice A1_0 l1_0.length c1_0] 24 (0, 0)) (by apply Sq.rb; exact BK481.out)) : gb535 ≠ gb481))
                 have n22_ := Sq.m ((by rw [hg]; exact Nat.ne_of_lt (blk_lt (g := gb494) (o := .cells #[.slice Ao99 t490.length co99] 26 (0, 0)) (by apply Sq.rb; exact BK494.out)) : gb494 ≠ gb535))
                 have n23_ := Sq.m ((by rw [hg]; exact Nat.ne_of_gt (blk_lt (g := gb494) (o := .cells #[.slice Ao99 t490.length co99] 26 (0, 0)) (by apply Sq.rb; exact BK494.out)) : gb535 ≠ gb494))
                 have n24_ := Sq.m ((by rw [hg]; exact Nat.ne_of_lt (blk_lt (g := gb498) (o := .cells #[.slice Ao73 t495.length co73] 26 (0, 0)) (by apply Sq.rb; exact BK498.out)) : gb498 ≠ gb535))
                 have n25_ := Sq.m ((by rw [hg]; exact Nat.ne_of_gt (blk_lt (g := gb498) (o := .cells #[.slice Ao73 t495.length co73] 26 (0, 0)) (by apply Sq.rb; exact BK498.out)) : gb535 ≠ gb498))
                 have n26_ := Sq.m ((by rw [hg]; exact Nat.ne_of_lt (blk_lt (g := gb502) (o := .cells #[.slice Ao82 t499.length co82] 26 (0, 0)) (by apply Sq.rb; exact BK502.out)) : gb502 ≠ gb535))
                 have n27_ := Sq.m ((by rw [hg]; exact Nat.ne_of_gt (blk_lt (g := gb502) (o := .cells #[.slice Ao82 t499.length co82] 26 (0, 0)) (by apply Sq.rb; exact BK502.out)) : gb535 ≠ gb502))
                 have n28_ := Sq.m ((by rw [hg]; exact Nat.ne_of_lt (blk_lt (g := gb507) (o := .cells #[.slice Ao91 t503.length co91] 26 (0, 0)) (by apply Sq.rb; exact BK507.out)) : gb507 ≠ gb535))
                 have n29_ := Sq.m ((by rw [hg]; exact Nat.ne_of_gt (blk_lt (g := gb507) (o := .cells #[.slice Ao91 t503.length co91] 26 (0, 0)) (by apply Sq.rb; exact BK507.out)) : gb535 ≠ gb507))
                 have z_HO527 := fun (h0_ : b 1 = true) => (show Kd.R (Kd.int .i64) 3 w121 w.heap.size (fun k_ => some k_ ≠ (v485 : Value).ownBlock ∧ some k_ ≠ (v488 : Value).ownBlock ∧ some k_ ≠ (.slice Ao99 t490.length co99 : Value).ownBlock ∧ some k_ ≠ (.slice Ao73 t495.length co73 : Value).ownBlock ∧ some k_ ≠ (.slice Ao82 t499.length co82 : Value).ownBlock ∧ some k_ ≠ (.slice Ao91 t503.length co91 : Value).ownBlock ∧ some k_ ≠ (.slice Ao103 t509.length co103 : Value).ownBlock ∧ some k_ ≠ (.slice Ao107 t513.length co107 : Value).ownBlock) v526 t525 from by first | exact (Kd.R_below (by apply Sq.ra; exact (Q_HO527 h0_)) hb) | exact Kd.R_mono (Kd.R_below (by apply Sq.ra; exact (Q_HO527 h0_)) hb) (fun _ h_ => by first | trivial | exact h_ | exact h_.1))
                 have z_HO530 := fun (h0_ : b 3 = true) => (show Kd.R (Kd.int .i64) 3 w121 w.heap.size (fun k_ => some k_ ≠ (v485 : Value).ownBlock ∧ some k_ ≠ (v488 : Value).ownBlock ∧ some k_ ≠ (.slice Ao99 t490.length co99 : Value).ownBlock ∧ some k_ ≠ (.slice Ao73 t495.length co73 : Value).ownBlock ∧ some k_ ≠ (.slice Ao82 t499.length co82 : Value).ownBlock ∧ some k_ ≠ (.slice Ao91 t503.length co91 : Value).ownBlock ∧ some k_ ≠ (.slice Ao103 t509.length co103 : Value).ownBlock ∧ some k_ ≠ (.slice Ao107 t513.length co107 : Value).ownBlock) v529 t528 from by first | exact (Kd.R_below (by apply Sq.ra; exact (Q_HO530 h0_)) hb) | exact Kd.R_mono (Kd.R_below (by apply Sq.ra; exact (Q_HO530 h0_)) hb) (fun _ h_ => by first | trivial | exact h_ | exact h_.1))
                 have z_HO533 := fun (h0_ : b 4 = true) => (show Kd.R (Kd.int .i64) 3 w121 w.heap.size (fun k_ => some k_ ≠ (v485 : Value).ownBlock ∧ some k_ ≠ (v488 : Value).ownBlock ∧ some k_ ≠ (.slice Ao99 t490.length co99 : Value).ownBlock ∧ some k_ ≠ (.slice Ao73 t495.length co73 : Value).ownBlock ∧ some k_ ≠ (.slice Ao82 t499.length co82 : Value).ownBlock ∧ some k_ ≠ (.slice Ao91 t503.length co91 : Value).ownBlock ∧ some k_ ≠ (.slice Ao103 t509.length co103 : Value).ownBlock ∧ some k_ ≠ (.slice Ao107 t513.length co107 : Value).ownBlock) v532 t531 from by first | exact (Kd.R_below (by apply Sq.ra; exact (Q_HO533 h0_)) hb) | exact Kd.R_mono (Kd.R_below (by apply Sq.ra; exact (Q_HO533 h0_)) hb) (fun _ h_ => by first | trivial | exact h_ | exact h_.1))
                 clear HO486
                 clear HO489
                 clear HO492
                 clear HO497
                 clear HO501
                 clear HO505
                 clear HO511
                 clear HO515
                 clear BK480
                 clear BK481
                 clear BK494
                 clear BK498
                 clear BK502
                 clear BK507
                 clear HB
                 have HO486 := n0_
                 have HO489 := n1_
                 have HO492 := n2_
                 have HO497 := n3_
                 have HO501 := n4_
                 have HO505 := n5_
                 have HO511 := n6_
                 have HO515 := n7_
                 have BK480 := n8_
                 have BK481 := n9_
                 have BK494 := n10_
                 have BK498 := n11_
                 have BK502 := n12_
                 have BK507 := n13_
                 have HB := n14_
                 have BK535 := n15_
                 have GW535 := n16_
                 have GE535 := n17_
                 have NB480_535 := n18_
                 have NB535_480 := n19_
                 have NB481_535 := n20_
                 have NB535_481 := n21_
                 have NB494_535 := n22_
                 have NB535_494 := n23_
                 have NB498_535 := n24_
                 have NB535_498 := n25_
                 have NB502_535 := n26_
                 have NB535_502 := n27_
                 have NB507_535 := n28_
                 have NB535_507 := n29_
                 clear n0_ n1_ n2_ n3_ n4_ n5_ n6_ n7_ n8_ n9_ n10_ n11_ n12_ n13_ n14_ n15_ n16_ n17_ n18_ n19_ n20_ n21_ n22_ n23_ n24_ n25_ n26_ n27_ n28_ n29_
                 clear hb hbox hg
                 refine hK.out _ _ ⟨v526, v529, v532, gb535, m1_, m3_, m4_, m5_, m6_, (.pointer (some ⟨gb535, 0, none⟩)), (by rw [ha.out]; exact putSel_upk 8 hb_ rfl rfl rfl), (by apply Sq.ra; exact HO486.out), (by apply Sq.ra; exact HO489.out), (by apply Sq.ra; exact HO492.out), (by apply Sq.ra; exact HO497.out), (by apply Sq.ra; exact HO501.out), (by apply Sq.ra; exact HO505.out), (by apply Sq.ra; exact HO511.out), (by apply Sq.ra; exact HO515.out), (by apply Sq.rb; exact BK480.out), (by apply Sq.rb; exact BK481.out), (by apply Sq.rb; exact BK494.out), (by apply Sq.rb; exact BK498.out), (by apply Sq.rb; exact BK502.out), (by apply Sq.rb; exact BK507.out), (by repeat (first | (with_reducible first | exact HB.out | apply Sq.rc | refine below_set ?_ GE480.out | refine below_set ?_ GE481.out | refine below_set ?_ GE494.out | refine below_set ?_ GE498.out | refine below_set ?_ GE502.out | refine below_set ?_ GE507.out | refine below_set ?_ GE535.out) | exact HB.out)), z_HO527, z_HO530, z_HO533, fun _ _ => (by apply Sq.rb; exact BK535.out), fun _ => GW535.out, fun _ => GE535.out, fun _ => NB480_535.out, fun _ => NB535_480.out, fun _ => NB481_535.out, fun _ => NB535_481.out, fun _ => NB494_535.out, fun _ => NB535_494.out, fun _ => NB498_535.out, fun _ => NB535_498.out, fun _ => NB502_535.out, fun _ => NB535_502.out, fun _ => NB507_535.out, fun _ => NB535_507.out, fun h0_ => absurd ((hoff 9 (by kernel_rfl)).symm.trans h0_) (by decide), Q_X1_, Q_X3_, Q_X4_, Q_X5_, Q_X6_, fun _ => rfl⟩
                refine steps_cons ?_ ?_
                ·rintro b a w' ⟨v526, v529, v532, gb535, m1_, m3_, m4_, m5_, m6_, m8_, ha, Q_HO486, Q_HO489, Q_HO492, Q_HO497, Q_HO501, Q_HO505, Q_HO511, Q_HO515, Q_BK480, Q_BK481, Q_BK494, Q_BK498, Q_BK502, Q_BK507, Q_HB, Q_HO527, Q_HO530, Q_HO533, Q_BK535, Q_GW535, Q_GE535, Q_NB480_535, Q_NB535_480, Q_NB481_535, Q_NB535_481, Q_NB494_535, Q_NB535_494, Q_NB498_535, Q_NB535_498, Q_NB502_535, Q_NB535_502, Q_NB507_535, Q_NB535_507, Q_BK535_e9, Q_X1_, Q_X3_, Q_X4_, Q_X5_, Q_X6_, Q_X8_⟩ hb_ hon hoff
                 refine ⟨_, rfl, fun K hK => ?_⟩
                 have e15 : a.tmps[15]? = some (m8_) := by rw [ha]; exact putSel_on (e := (8, 15, m8_)) 8 rfl rfl (hon 8 (by kernel_rfl)) rfl
                 rw [Q_X8_ (hon 8 (by kernel_rfl))] at e15
                 have e100 : a.tmps[100]? = some (m6_) := by rw [ha]; exact putSel_on (e := (6, 100, m6_)) 6 rfl rfl (hon 6 (by kernel_rfl)) rfl
                 rw [Q_X6_ (hon 6 (by kernel_rfl))] at e100
                 replace ha := Aside0.mk ha
                 have HO486 := Aside0.mk Q_HO486
                 have HO489 := Aside0.mk Q_HO489
                 have HO492 := Aside0.mk Q_HO492
                 have HO497 := Aside0.mk Q_HO497
                 have HO501 := Aside0.mk Q_HO501
                 have HO505 := Aside0.mk Q_HO505
                 have HO511 := Aside0.mk Q_HO511
                 have HO515 := Aside0.mk Q_HO515
                 have BK480 := Aside0.mk Q_BK480
                 have BK481 := Aside0.mk Q_BK481
                 have BK494 := Aside0.mk Q_BK494
                 have BK498 := Aside0.mk Q_BK498
                 have BK502 := Aside0.mk Q_BK502
                 have BK507 := Aside0.mk Q_BK507
                 have HB := Aside0.mk Q_HB
                 have HO527 := Sq.m (Q_HO527 (hon 1 (by kernel_rfl)))
                 have HO530 := Sq.m (Q_HO530 (hon 3 (by kernel_rfl)))
                 have HO533 := Sq.m (Q_HO533 (hon 4 (by kernel_rfl)))
                 have BK535 := Sq.m (Q_BK535 (hon 8 (by kernel_rfl)) hb_)
                 have GW535 := Sq.m (Q_GW535 (hon 8 (by kernel_rfl)))
                 have GE535 := Sq.m (Q_GE535 (hon 8 (by kernel_rfl)))
                 have NB480_535 := Sq.m (Q_NB480_535 (hon 8 (by kernel_rfl)))
                 have NB535_480 := Sq.m (Q_NB535_480 (hon 8 (by kernel_rfl)))
                 have NB481_535 := Sq.m (Q_NB481_535 (hon 8 (by kernel_rfl)))
                 have NB535_481 := Sq.m (Q_NB535_481 (hon 8 (by kernel_rfl)))
                 have NB494_535 := Sq.m (Q_NB494_535 (hon 8 (by kernel_rfl)))
                 have NB535_494 := Sq.m (Q_NB535_494 (hon 8 (by kernel_rfl)))
                 have NB498_535 := Sq.m (Q_NB498_535 (hon 8 (by kernel_rfl)))
                 have NB535_498 := Sq.m (Q_NB535_498 (hon 8 (by kernel_rfl)))
                 have NB502_535 := Sq.m (Q_NB502_535 (hon 8 (by kernel_rfl)))
                 have NB535_502 := Sq.m (Q_NB535_502 (hon 8 (by kernel_rfl)))
                 have NB507_535 := Sq.m (Q_NB507_535 (hon 8 (by kernel_rfl)))
                 have NB535_507 := Sq.m (Q_NB535_507 (hon 8 (by kernel_rfl)))
                 obtain ⟨Ao128, co128, eo128⟩ := Kd.R_slice HO533.out
                 (first | subst eo128 | (injection eo128 with f1_ f2_ f3_; have f4_ := f1_.symm; have f5_ := f3_.symm; clear f1_ f2_ f3_; subst f4_; subst f5_))
                 have hs129 : w'.cell? ⟨gb535, 0, none⟩ = some (.slice none 0 0) := (blk_cell BK535.out 0).trans rfl
                 have hfs129 := blk_frozen BK535.out 0
                 have hns129_0 := NB480_535.out
                 have hns129_1 := NB481_535.out
                 have hns129_2 := NB494_535.out
                 have hns129_3 := NB498_535.out
                 have hns129_4 := NB502_535.out
                 have hns129_5 := NB507_535.out
                 have hms129_0 := NB535_480.out
                 have hms129_1 := NB535_481.out
                 have hms129_2 := NB535_494.out
                 have hms129_3 := NB535_498.out
                 have hms129_4 := NB535_502.out
                 have hms129_5 := NB535_507.out
                 refine skip_ (w1 := ?_) (by rfl) rfl ?_ ?_
                 rotate_left
                 ·go_simp
                  rfl
                 refine hK.out _ _ ⟨v526, v529, .slice Ao128 t531.length co128, gb535, m1_, m3_, m4_, m5_, m6_, m8_, (by rw [ha.out]; exact putSel_none (v := undef) rfl), (by apply Sq.ra; exact Kd.R_mono (Kd.R_far (p := ⟨gb535, 0, none⟩) (Kd.R_types HO486.out BK535.out (by decide)) (fun _ hk => hk.2) (.slice Ao128 t531.length co128)) (fun _ hk => ⟨hk.1.1, ⟨hk.1.2.1, ⟨hk.1.2.2.1, ⟨hk.1.2.2.2.1, hk.1.2.2.2.2⟩⟩⟩⟩)), (by apply Sq.ra; exact Kd.R_mono (Kd.R_far (p := ⟨gb535, 0, none⟩) (Kd.R_types HO489.out BK535.out (by decide)) (fun _ hk => hk.2) (.slice Ao128 t531.length co128)) (fun _ hk => ⟨hk.1.1, ⟨hk.1.2.1, ⟨hk.1.2.2.1, ⟨hk.1.2.2.2.1, hk.1.2.2.2.2⟩⟩⟩⟩)), (by apply Sq.ra; exact Kd.R_mono (Kd.R_far (p := ⟨gb535, 0, none⟩) (Kd.R_types HO492.out BK535.out (by decide)) (fun _ hk => hk.2) (.slice Ao128 t531.length co128)) (fun _ hk => ⟨hk.1.1, ⟨hk.1.2.1, ⟨hk.1.2.2.1, ⟨hk.1.2.2.2.1, hk.1.2.2.2.2⟩⟩⟩⟩)), (by apply Sq.ra; exact Kd.R_mono (Kd.R_far (p := ⟨gb535, 0, none⟩) (Kd.R_types HO497.out BK535.out (by decide)) (fun _ hk => hk.2) (.slice Ao128 t531.length co128)) (fun _ hk => ⟨hk.1.1, ⟨hk.1.2.1, ⟨hk.1.2.2.1, ⟨hk.1.2.2.2.1, ⟨hk.1.2.2.2.2.1, ⟨hk.1.2.2.2.2.2.1, hk.1.2.2.2.2.2.2⟩⟩⟩⟩⟩⟩)), (by apply Sq.ra; exact Kd.R_mono (Kd.R_far (p := ⟨gb535, 0, none⟩) (Kd.R_types HO501.out BK535.out (by decide)) (fun _ hk => hk.2) (.slice Ao128 t531.length co128)) (fun _ hk => ⟨hk.1.1, ⟨hk.1.2.1, ⟨hk.1.2.2.1, ⟨hk.1.2.2.2.1, ⟨hk.1.2.2.2.2.1, ⟨hk.1.2.2.2.2.2.1, hk.1.2.2.2.2.2.2⟩⟩⟩⟩⟩⟩)), (by apply Sq.ra; exact Kd.R_mono (Kd.R_far (p := ⟨gb535, 0, none⟩) (Kd.R_types HO505.out BK535.out (by decide)) (fun _ hk => hk.2) (.slice Ao128 t531.length co128)) (fun _ hk => ⟨hk.1.1, ⟨hk.1.2.1, ⟨hk.1.2.2.1, ⟨hk.1.2.2.2.1, ⟨hk.1.2.2.2.2.1, ⟨hk.1.2.2.2.2.2.1, hk.1.2.2.2.2.2.2⟩⟩⟩⟩⟩⟩)), (by apply Sq.ra; exact Kd.R_mono (Kd.R_far (p := ⟨gb535, 0, none⟩) (Kd.R_types HO511.out BK535.out (by decide)) (fun _ hk => hk.2) (.slice Ao128 t531.length co128)) (fun _ hk => ⟨hk.1.1, ⟨hk.1.2.1, ⟨hk.1.2.2.1, ⟨hk.1.2.2.2.1, ⟨hk.1.2.2.2.2.1, ⟨hk.1.2.2.2.2.2.1, hk.1.2.2.2.2.2.2⟩⟩⟩⟩⟩⟩)), (by apply Sq.ra; exact Kd.R_mono (Kd.R_far (p := ⟨gb535, 0, none⟩) (Kd.R_types HO515.out BK535.out (by decide)) (fun _ hk => hk.2) (.slice Ao128 t531.length co128)) (fun _ hk => ⟨hk.1.1, ⟨hk.1.2.1, ⟨hk.1.2.2.1, ⟨hk.1.2.2.2.1, ⟨hk.1.2.2.2.2.1, ⟨hk.1.2.2.2.2.2.1, hk.1.2.2.2.2.2.2⟩⟩⟩⟩⟩⟩)), (by apply Sq.rb; refine blk_far ?_ NB480_535.out _; apply Sq.rb; exact BK480.out), (by apply Sq.rb; refine blk_far ?_ NB481_535.out _; apply Sq.rb; exact BK481.out), (by apply Sq.rb; refine blk_far ?_ NB494_535.out _; apply Sq.rb; exact BK494.out), (by apply Sq.rb; refine blk_far ?_ NB498_535.out _; apply Sq.rb; exact BK498.out), (by apply Sq.rb; refine blk_far ?_ NB502_535.out _; apply Sq.rb; exact BK502.out), (by apply Sq.rb; refine blk_far ?_ NB507_535.out _; apply Sq.rb; exact BK507.out), (by repeat (first | (with_reducible first | exact HB.out | apply Sq.rc | refine below_set ?_ GE480.out | refine below_set ?_ GE481.out | refine below_set ?_ GE494.out | refine below_set ?_ GE498.out | refine below_set ?_ GE502.out | refine below_set ?_ GE507.out | refine below_set ?_ GE535.out) | exact HB.out)), fun _ => (by apply Sq.ra; exact Kd.R_mono (Kd.R_far (p := ⟨gb535, 0, none⟩) (Kd.R_types HO527.out BK535.out (by decide)) (fun _ hk => hk.2) (.slice Ao128 t531.length co128)) (fun _ hk => ⟨hk.1.1, ⟨hk.1.2.1, ⟨hk.1.2.2.1, ⟨hk.1.2.2.2.1, ⟨hk.1.2.2.2.2.1, ⟨hk.1.2.2.2.2.2.1, ⟨hk.1.2.2.2.2.2.2.1, hk.1.2.2.2.2.2.2.2⟩⟩⟩⟩⟩⟩⟩)), fun _ => (by apply Sq.ra; exact Kd.R_mono (Kd.R_far (p := ⟨gb535, 0, none⟩) (Kd.R_types HO530.out BK535.out (by decide)) (fun _ hk => hk.2) (.slice Ao128 t531.length co128)) (fun _ hk => ⟨hk.1.1, ⟨hk.1.2.1, ⟨hk.1.2.2.1, ⟨hk.1.2.2.2.1, ⟨hk.1.2.2.2.2.1, ⟨hk.1.2.2.2.2.2.1, ⟨hk.1.2.2.2.2.2.2.1, hk.1.2.2.2.2.2.2.2⟩⟩⟩⟩⟩⟩⟩)), fun _ => (by apply Sq.ra; exact Kd.R_mono (Kd.R_far (p := ⟨gb535, 0, none⟩) (Kd.R_types HO533.out BK535.out (by decide)) (fun _ hk => hk.2) (.slice Ao128 t531.length co128)) (fun _ hk => ⟨hk.1.1, ⟨hk.1.2.1, ⟨hk.1.2.2.1, ⟨hk.1.2.2.2.1, ⟨hk.1.2.2.2.2.1, ⟨hk.1.2.2.2.2.2.1, ⟨hk.1.2.2.2.2.2.2.1, hk.1.2.2.2.2.2.2.2⟩⟩⟩⟩⟩⟩⟩)), fun _ h1_ => absurd ((up_self b 9).symm.trans h1_) (by decide), fun _ => GW535.out, fun _ => GE535.out, fun _ => NB480_535.out, fun _ => NB535_480.out, fun _ => NB481_535.out, fun _ => NB535_481.out, fun _ => NB494_535.out, fun _ => NB535_494.out, fun _ => NB498_535.out, fun _ => NB535_498.out, fun _ => NB502_535.out, fun _ => NB535_502.out, fun _ => NB507_535.out, fun _ => NB535_507.out, fun _ => (by apply Sq.rb; refine blk_put (cs := #[.slice none 0 0]) ?_ 0 _ rfl; apply Sq.rb; exact BK535.out), Q_X1_, Q_X3_, Q_X4_, Q_X5_, Q_X6_, Q_X8_⟩
                refine steps_cons ?_ ?_
                ·rintro b a w' ⟨v526, v529, v532, gb535, m1_, m3_, m4_, m5_, m6_, m8_, ha, Q_HO486, Q_HO489, Q_HO492, Q_HO497, Q_HO501, Q_HO505, Q_HO511, Q_HO515, Q_BK480, Q_BK481, Q_BK494, Q_BK498, Q_BK502, Q_BK507, Q_HB, Q_HO527, Q_HO530, Q_HO533, Q_BK535, Q_GW535, Q_GE535, Q_NB480_535, Q_NB535_480, Q_NB481_535, Q_NB535_481, Q_NB494_535, Q_NB535_494, Q_NB498_535, Q_NB535_498, Q_NB502_535, Q_NB535_502, Q_NB507_535, Q_NB535_507, Q_BK535_e9, Q_X1_, Q_X3_, Q_X4_, Q_X5_, Q_X6_, Q_X8_⟩ hb_ hon hoff
                 refine ⟨_, rfl, fun K hK => ?_⟩
                 have e101 : a.tmps[101]? = some (.bool t534) := by rw [ha]; exact putSel_on (e := (7, 101, .bool t534)) 7 rfl rfl (hon 7 (by kernel_rfl)) rfl
                 replace ha := Aside0.mk ha
                 have HO486 := Aside0.mk Q_HO486
                 have HO489 := Aside0.mk Q_HO489
                 have HO492 := Aside0.mk Q_HO492
                 have HO497 := Aside0.mk Q_HO497
                 have HO501 := Aside0.mk Q_HO501
                 have HO505 := Aside0.mk Q_HO505
                 have HO511 := Aside0.mk Q_HO511
                 have HO515 := Aside0.mk Q_HO515
                 have BK480 := Aside0.mk Q_BK480
                 have BK481 := Aside0.mk Q_BK481
                 have BK494 := Aside0.mk Q_BK494
                 have BK498 := Aside0.mk Q_BK498
                 have BK502 := Aside0.mk Q_BK502
                 have BK507 := Aside0.mk Q_BK507
                 have HB := Aside0.mk Q_HB
                 have HO527 := Sq.m (Q_HO527 (hon 1 (by kernel_rfl)))
                 have HO530 := Sq.m (Q_HO530 (hon 3 (by kernel_rfl)))
                 have HO533 := Sq.m (Q_HO533 (hon 4 (by kernel_rfl)))
                 have GW535 := Sq.m (Q_GW535 (hon 8 (by kernel_rfl)))
                 have GE535 := Sq.m (Q_GE535 (hon 8 (by kernel_rfl)))
                 have NB480_535 := Sq.m (Q_NB480_535 (hon 8 (by kernel_rfl)))
                 have NB535_480 := Sq.m (Q_NB535_480 (hon 8 (by kernel_rfl)))
                 have NB481_535 := Sq.m (Q_NB481_535 (hon 8 (by kernel_rfl)))
                 have NB535_481 := Sq.m (Q_NB535_481 (hon 8 (by kernel_rfl)))
                 have NB494_535 := Sq.m (Q_NB494_535 (hon 8 (by kernel_rfl)))
                 have NB535_494 := Sq.m (Q_NB535_494 (hon 8 (by kernel_rfl)))
                 have NB498_535 := Sq.m (Q_NB498_535 (hon 8 (by kernel_rfl)))
                 have NB535_498 := Sq.m (Q_NB535_498 (hon 8 (by kernel_rfl)))
                 have NB502_535 := Sq.m (Q_NB502_535 (hon 8 (by kernel_rfl)))
                 have NB535_502 := Sq.m (Q_NB535_502 (hon 8 (by kernel_rfl)))
                 have NB507_535 := Sq.m (Q_NB507_535 (hon 8 (by kernel_rfl)))
                 have NB535_507 := Sq.m (Q_NB535_507 (hon 8 (by kernel_rfl)))
                 have BK535 := Sq.m (Q_BK535_e9 (hon 9 (by kernel_rfl)))
                 refine value_ (w1 := w') (v := .bool t534) (by rfl) rfl ?_ ?_
                 ·go_simp
                  (try simp only [i64_w])
                  try rfl
                 refine hK.out _ _ ⟨v526, v529, v532, gb535, m1_, m3_, m4_, m5_, m6_, m8_, (by rw [ha.out]; exact putSel_upk 9 hb_ rfl rfl rfl), Q_HO486, Q_HO489, Q_HO492, Q_HO497, Q_HO501, Q_HO505, Q_HO511, Q_HO515, Q_BK480, Q_BK481, Q_BK494, Q_BK498, Q_BK502, Q_BK507, Q_HB, Q_HO527, Q_HO530, Q_HO533, fun _ h1_ => absurd ((hon 9 (by kernel_rfl)).symm.trans h1_) (by decide), Q_GW535, Q_GE535, Q_NB480_535, Q_NB535_480, Q_NB481_535, Q_NB535_481, Q_NB494_535, Q_NB535_494, Q_NB498_535, Q_NB535_498, Q_NB502_535, Q_NB535_502, Q_NB507_535, Q_NB535_507, Q_BK535_e9, Q_X1_, Q_X3_, Q_X4_, Q_X5_, Q_X6_, Q_X8_⟩
                exact steps_nil
               rintro b a w129 hall ⟨v526, v529, v532, gb535, m1_, m3_, m4_, m5_, m6_, m8_, ha, Q_HO486, Q_HO489, Q_HO492, Q_HO497, Q_HO501, Q_HO505, Q_HO511, Q_HO515, Q_BK480, Q_BK481, Q_BK494, Q_BK498, Q_BK502, Q_BK507, Q_HB, Q_HO527, Q_HO530, Q_HO533, Q_BK535, Q_GW535, Q_GE535, Q_NB480_535, Q_NB535_480, Q_NB481_535, Q_NB535_481, Q_NB494_535, Q_NB535_494, Q_NB498_535, Q_NB535_498, Q_NB502_535, Q_NB535_502, Q_NB507_535, Q_NB535_507, Q_BK535_e9, Q_X1_, Q_X3_, Q_X4_, Q_X5_, Q_X6_, Q_X8_⟩
               clear BK480 BK481 BK494 BK498 BK502 BK507 HB HO486 HO489 HO492 HO497 HO501 HO505 HO511 HO515
               have hb0_ := hall 0 (by kernel_rfl)
               have hb1_ := hall 1 (by kernel_rfl)
               have hb2_ := hall 2 (by kernel_rfl)
               have hb3_ := hall 3 (by kernel_rfl)
               have hb4_ := hall 4 (by kernel_rfl)
               have hb5_ := hall 5 (by kernel_rfl)
               have hb6_ := hall 6 (by kernel_rfl)
               have hb7_ := hall 7 (by kernel_rfl)
               have hb8_ := hall 8 (by kernel_rfl)
               have hb9_ := hall 9 (by kernel_rfl)
               have hb10_ := hall 10 (by kernel_rfl)
               subst ha
               obtain rfl := Q_X1_ hb1_
               obtain rfl := Q_X3_ hb3_
               obtain rfl := Q_X4_ hb4_
               obtain rfl := Q_X5_ hb5_
               obtain rfl := Q_X6_ hb6_
               obtain rfl := Q_X8_ hb8_
               simp only [putSel, hb0_, hb1_, hb2_, hb3_, hb4_, hb5_, hb6_, hb7_, hb8_, hb9_, hb10_, if_true, Act.put, List.setIfInBounds_toArray, List.set_cons_zero, List.set_cons_succ]
               have HO486 := Aside0.mk Q_HO486
               clear Q_HO486
               have HO489 := Aside0.mk Q_HO489
               clear Q_HO489
               have HO492 := Aside0.mk Q_HO492
               clear Q_HO492
               have HO497 := Aside0.mk Q_HO497
               clear Q_HO497
               have HO501 := Aside0.mk Q_HO501
               clear Q_HO501
               have HO505 := Aside0.mk Q_HO505
               clear Q_HO505
               have HO511 := Aside0.mk Q_HO511
               clear Q_HO511
               have HO515 := Aside0.mk Q_HO515
               clear Q_HO515
               have BK480 := Aside0.mk Q_BK480
               clear Q_BK480
               have BK481 := Aside0.mk Q_BK481
               clear Q_BK481
               have BK494 := Aside0.mk Q_BK494
               clear Q_BK494
               have BK498 := Aside0.mk Q_BK498
               clear Q_BK498
               have BK502 := Aside0.mk Q_BK502
               clear Q_BK502
               have BK507 := Aside0.mk Q_BK507
               clear Q_BK507
               have HB := Aside0.mk Q_HB
               clear Q_HB
               have HO527 := Sq.m (Q_HO527 hb1_)
               clear Q_HO527
               have HO530 := Sq.m (Q_HO530 hb3_)
               clear Q_HO530
               have HO533 := Sq.m (Q_HO533 hb4_)
               clear Q_HO533
               clear Q_BK535
               have GW535 := Sq.m (Q_GW535 hb8_)
               clear Q_GW535
               have GE535 := Sq.m (Q_GE535 hb8_)
               clear Q_GE535
               have NB480_535 := Sq.m (Q_NB480_535 hb8_)
               clear Q_NB480_535
               have NB535_480 := Sq.m (Q_NB535_480 hb8_)
               clear Q_NB535_480
               have NB481_535 := Sq.m (Q_NB481_535 hb8_)
               clear Q_NB481_535
               have NB535_481 := Sq.m (Q_NB535_481 hb8_)
               clear Q_NB535_481
               have NB494_535 := Sq.m (Q_NB494_535 hb8_)
               clear Q_NB494_535
               have NB535_494 := Sq.m (Q_NB535_494 hb8_)
               clear Q_NB535_494
               have NB498_535 := Sq.m (Q_NB498_535 hb8_)
               clear Q_NB498_535
               have NB535_498 := Sq.m (Q_NB535_498 hb8_)
               clear Q_NB535_498
               have NB502_535 := Sq.m (Q_NB502_535 hb8_)
               clear Q_NB502_535
               have NB535_502 := Sq.m (Q_NB535_502 hb8_)
               clear Q_NB535_502
               have NB507_535 := Sq.m (Q_NB507_535 hb8_)
               clear Q_NB507_535
               have NB535_507 := Sq.m (Q_NB535_507 hb8_)
               clear Q_NB535_507
               have BK535 := Sq.m (Q_BK535_e9 hb9_)
               clear Q_BK535_e9
               clear hall hb0_ hb1_ hb2_ hb3_ hb4_ hb5_ hb6_ hb7_ hb8_ hb9_ hb10_
               have hnb130 := NB535_480.out
               have hnc130 := NB480_535.out
               have hnb131 := NB535_481.out
               have hnc131 := NB481_535.out
               have hnb132 := NB535_494.out
               have hnc132 := NB494_535.out
               have hnb133 := NB535_498.out
               have hnc133 := NB498_535.out
               have hnb134 := NB535_502.out
               have hnc134 := NB502_535.out
               have hnb135 := NB535_507.out
               have hnc135 := NB507_535.out
               have hcz136_0 : w129.cell? ⟨gb535, 0, none⟩ = some (v532) := (blk_cell BK535.out 0).trans rfl
               have hfz136_0 := blk_frozen BK535.out 0
               have hcz137_0 : w129.cell? ⟨gb494, 0, none⟩ = some (.slice Ao99 t490.length co99) := (blk_cell BK494.out 0).trans rfl
               have hfz137_0 := blk_frozen BK494.out 0
               obtain ⟨Ao138, co138, eo138⟩ := Kd.R_slice HO533.out
               subst eo138
               try go_wp2_with (first | ((with_reducible refine gate_callee (f := 19) rfl ?_); refine goesL_ (some 104) rfl rfl Try.func19 (by kernel_rfl) rfl #[.agg #[.slice Ao138 t531.length co138], .agg #[.slice Ao99 t490.length co99]] rfl (by (try simp only [List.map_toArray, List.map_cons, List.map_nil]); first | done | rfl | (simp only [List.length_drop, List.length_take]; rfl) | (simp only [i64_w, u8_w, w64_b]; rfl)) ?_; (with_reducible refine (laws_eqNat.calls k _ _ t531 _ _ t490 true _ ?side1 ?side2 ?side3 ?side4 A46.out).mono ?_); (case side1 => repeat (first | exact (Kd.R_reads' HO533.out).2.2 | (with_reducible refine Kd.C_alloc ?_ _) | (with_reducible refine Kd.C_drewN ?_ _) | (with_reducible refine Kd.C_drew ?_))); (case side2 => exact (Kd.R_reads' HO533.out).2.1); (case side3 => repeat (first | exact (Kd.R_reads' HO492.out).2.2 | (with_reducible refine Kd.C_alloc ?_ _) | (with_reducible refine Kd.C_drewN ?_ _) | (with_reducible refine Kd.C_drew ?_))); (case side4 => exact (Kd.R_reads' HO492.out).2.1); rintro e w139 ⟨rfl, hb⟩; refine ⟨_, rfl, ?_⟩; have n0_ := Sq.m (Kd.R_below (by apply Sq.ra; exact HO486.out) hb); have n1_ := Sq.m (Kd.R_below (by apply Sq.ra; exact HO489.out) hb); have n2_ := Sq.m (Kd.R_below (by apply Sq.ra; exact HO492.out) hb); have n3_ := Sq.m (Kd.R_below (by apply Sq.ra; exact HO497.out) hb); have n4_ := Sq.m (Kd.R_below (by apply Sq.ra; exact HO501.out) hb); have n5_ := Sq.m (Kd.R_below (by apply Sq.ra; exact HO505.out) hb); have n6_ := Sq.m (Kd.R_below (by apply Sq.ra; exact HO511.out) hb); have n7_ := Sq.m (Kd.R_below (by apply Sq.ra; exact HO515.out) hb); have n8_ := Sq.m (Kd.R_below (by apply Sq.ra; exact HO527.out) hb); have n9_ := Sq.m (Kd.R_below (by apply Sq.ra; exact HO530.out) hb); have n10_ := Sq.m (Kd.R_below (by apply Sq.ra; exact HO533.out) hb); have n11_ := Sq.m (blk_below (g := gb480) (o := .cells #[.slice A0_0 l0_0.length c0_0] 24 (0, 0)) (by apply Sq.rb; exact BK480.out) hb); have n12_ := Sq.m (blk_below (g := gb481) (o := .cells #[.slice A1_0 l1_0.length c1_0] 24 (0, 0)) (by apply Sq.rb; exact BK481.out) hb); have n13_ := Sq.m (blk_below (g := gb494) (o := .cells #[.slice Ao99 t490.length co99] 26 (0, 0)) (by apply Sq.rb; exact BK494.out) hb); have n14_ := Sq.m (blk_below (g := gb498) (o := .cells #[.slice Ao73 t495.length co73] 26 (0, 0)) (by apply Sq.rb; exact BK498.out) hb); have n15_ := Sq.m (blk_below (g := gb502) (o := .cells #[.slice Ao82 t499.length co82] 26 (0, 0)) (by apply Sq.rb; exact BK502.out) hb); have n16_ := Sq.m (blk_below (g := gb507) (o := .cells #[.slice Ao91 t503.length co91] 26 (0, 0)) (by apply Sq.rb; exact BK507.out) hb); have n17_ := Sq.m (blk_below (g := gb535) (o := .cells #[.slice Ao138 t531.length co138] 26 (0, 0)) (by apply Sq.rb; exact BK535.out) hb); have n18_ := Sq.m (below_step (by repeat (first | (with_reducible first | exact HB.out | apply Sq.rc | refine below_set ?_ GE480.out | refine below_set ?_ GE481.out | refine below_set ?_ GE494.out | refine below_set ?_ GE498.out | refine below_set ?_ GE502.out | refine below_set ?_ GE507.out | refine below_set ?_ GE535.out) | exact HB.out)) hb); clear HO486; clear HO489; clear HO492; clear HO497; clear HO501; clear HO505; clear HO511; clear HO515; clear HO527; clear HO530; clear HO533; clear BK480; clear BK481; clear BK494; clear BK498; clear BK502; clear BK507; clear BK535; clear HB; have HO486 := n0_; have HO489 := n1_; have HO492 := n2_; have HO497 := n3_; have HO501 := n4_; have HO505 := n5_; have HO511 := n6_; have HO515 := n7_; have HO527 := n8_; have HO530 := n9_; have HO533 := n10_; have BK480 := n11_; have BK481 := n12_; have BK494 := n13_; have BK498 := n14_; have BK502 := n15_; have BK507 := n16_; have BK535 := n17_; have HB := n18_; clear n0_ n1_ n2_ n3_ n4_ n5_ n6_ n7_ n8_ n9_ n10_ n11_ n12_ n13_ n14_ n15_ n16_ n17_ n18_; (try clear hb); (try clear hb2); (try clear hk); (try clear hi); have hcz140_0 : w139.cell? ⟨gb507, 0, none⟩ = some (.slice Ao91 t503.length co91) := (blk_cell BK507.out 0).trans rfl; have hfz140_0 := blk_frozen BK507.out 0) | ((with_reducible refine gate_callee (f := 21) rfl ?_); refine goesL_ (some 113) rfl rfl Try.func21 (by kernel_rfl) rfl #[.agg #[.slice Ao91 t523.length co91], .int .i64 1] rfl (by (try simp only [List.map_toArray, List.map_cons, List.map_nil]); first | done | (rw [show t523.length = t503.length from (Kd.R_reads' HO505.out).1.symm] <;> rfl) | rfl | (simp only [List.length_drop, List.length_take]; rfl) | (simp only [i64_w, u8_w, w64_b]; rfl)) ?_; (with_reducible refine (laws_heldNat.calls k _ _ t523 1 t537 _ ?side1 ?side2 A49.out).mono ?_); (case side1 => repeat (first | exact (Kd.R_reads' HO505.out).2.2 | (with_reducible refine Kd.C_alloc ?_ _) | (with_reducible refine Kd.C_drewN ?_ _) | (with_reducible refine Kd.C_drew ?_))); (case side2 => rw [show t523.length = t503.length from (Kd.R_reads' HO505.out).1.symm]; exact (Kd.R_reads' HO505.out).2.1); rintro e w141 ⟨rfl, hb⟩; refine ⟨_, rfl, ?_⟩; have n0_ := Sq.m (Kd.R_below (by apply Sq.ra; exact HO486.out) hb); have n1_ := Sq.m (Kd.R_below (by apply Sq.ra; exact HO489.out) hb); have n2_ := Sq.m (Kd.R_below (by apply Sq.ra; exact HO492.out) hb); have n3_ := Sq.m (Kd.R_below (by apply Sq.ra; exact HO497.out) hb); have n4_ := Sq.m (Kd.R_below (by apply Sq.ra; exact HO501.out) hb); have n5_ := Sq.m (Kd.R_below (by apply Sq.ra; exact HO505.out) hb); have n6_ := Sq.m (Kd.R_below (by apply Sq.ra; exact HO511.out) hb); have n7_ := Sq.m (Kd.R_below (by apply Sq.ra; exact HO515.out) hb); have n8_ := Sq.m (Kd.R_below (by apply Sq.ra; exact HO527.out) hb); have n9_ := Sq.m (Kd.R_below (by apply Sq.ra; exact HO530.out) hb); have n10_ := Sq.m (Kd.R_below (by apply Sq.ra; exact HO533.out) hb); have n11_ := Sq.m (blk_below (g := gb480) (o := .cells #[.slice A0_0 l0_0.length c0_0] 24 (0, 0)) (by apply Sq.rb; exact BK480.out) hb); have n12_ := Sq.m (blk_below (g := gb481) (o := .cells #[.slice A1_0 l1_0.length c1_0] 24 (0, 0)) (by apply Sq.rb; exact BK481.out) hb); have n13_ := Sq.m (blk_below (g := gb494) (o := .cells #[.slice Ao99 t490.length co99] 26 (0, 0)) (by apply Sq.rb; exact BK494.out) hb); have n14_ := Sq.m (blk_below (g := gb498) (o := .cells #[.slice Ao73 t495.length co73] 26 (0, 0)) (by apply Sq.rb; exact BK498.out) hb); have n15_ := Sq.m (blk_below (g := gb502) (o := .cells #[.slice Ao82 t499.length co82] 26 (0, 0)) (by apply Sq.rb; exact BK502.out) hb); have n16_ := Sq.m (blk_below (g := gb507) (o := .cells #[.slice Ao91 t503.length co91] 26 (0, 0)) (by apply Sq.rb; exact BK507.out) hb); have n17_ := Sq.m (blk_below (g := gb535) (o := .cells #[.slice Ao138 t531.length co138] 26 (0, 0)) (by apply Sq.rb; exact BK535.out) hb); have n18_ := Sq.m (below_step (by repeat (first | (with_reducible first | exact HB.out | apply Sq.rc | refine below_set ?_ GE480.out | refine below_set ?_ GE481.out | refine below_set ?_ GE494.out | refine below_set ?_ GE498.out | refine below_set ?_ GE502.out | refine below_set ?_ GE507.out | refine below_set ?_ GE535.out) | exact HB.out)) hb); clear HO486; clear HO489; clear HO492; clear HO497; clear HO501; clear HO505; clear HO511; clear HO515; clear HO527; clear HO530; clear HO533; clear BK480; clear BK481; clear BK494; clear BK498; clear BK502; clear BK507; clear BK535; clear HB; have HO486 := n0_; have HO489 := n1_; have HO492 := n2_; have HO497 := n3_; have HO501 := n4_; have HO505 := n5_; have HO511 := n6_; have HO515 := n7_; have HO527 := n8_; have HO530 := n9_; have HO533 := n10_; have BK480 := n11_; have BK481 := n12_; have BK494 := n13_; have BK498 := n14_; have BK502 := n15_; have BK507 := n16_; have BK535 := n17_; have HB := n18_; clear n0_ n1_ n2_ n3_ n4_ n5_ n6_ n7_ n8_ n9_ n10_ n11_ n12_ n13_ n14_ n15_ n16_ n17_ n18_; (try clear hb); (try clear hb2); (try clear hk); (try clear hi)))
               go_ret
               exact ⟨by first | rfl | (simp [errW_none, errW_some] <;> rfl) | (simp [*, errW_none, errW_some] <;> rfl), by repeat (first | (with_reducible first | exact HB.out | apply Sq.rc | refine below_set ?_ GE480.out | refine below_set ?_ GE481.out | refine below_set ?_ GE494.out | refine below_set ?_ GE498.out | refine below_set ?_ GE502.out | refine below_set ?_ GE507.out | refine below_set ?_ GE535.out) | exact HB.out)⟩
              ·rw [if_neg c51] at H
               exact absurd H (by simp)
           ·replace c47 := Bool.eq_false_iff.mpr c47
            subst c47
            have H1 : (none) = some r := by rw [if_neg (show ¬ (false = true) by decide)] at H; exact H
            clear H
            have H := H1
            clear H1
            exact absurd H (by simp)
          ·rw [if_neg c42] at H
           exact absurd H (by simp)
        ·replace c38 := Bool.eq_false_iff.mpr c38
         subst c38
         have H1 : (none) = some r := by rw [if_neg (show ¬ (false = true) by decide)] at H; exact H
         clear H
         have H := H1
         clear H1
         exact absurd H (by simp)
      ·replace c33 := Bool.eq_false_iff.mpr c33
       subst c33
       have H1 : (none) = some r := by rw [if_neg (show ¬ (false = true) by decide)] at H; exact H
       clear H
       have H := H1
       clear H1
       exact absurd H (by simp)
     ·replace c30 := Bool.eq_false_iff.mpr c30
      subst c30
      have H1 : (none) = some r := by rw [if_neg (show ¬ (false = true) by decide)] at H; exact H
      clear H
      have H := H1
      clear H1
      exact absurd H (by simp)
   ·replace c26 := Bool.eq_false_iff.mpr c26
    subst c26
    have H1 : (none) = some r := by rw [if_neg (show ¬ (false = true) by decide)] at H; exact H
    clear H
    have H := H1
    clear H1
    exact absurd H (by simp)

end Go.Proofs.Ytjepgnfgalnjhaa.Q
