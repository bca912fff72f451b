/- The machine side of Go functions, written by a program of this session over the print of the translation. No conditions. -/
import Derived.Test.YtjepgnfgalnjhaaSq
import Derived.Test.YtjepgnfgalnjhaaQ0
import Derived.Test.YtjepgnfgalnjhaaQ2
import Derived.Test.YtjepgnfgalnjhaaQ7
import Derived.Test.YtjepgnfgalnjhaaQ9
import Derived.Test.YtjepgnfgalnjhaaQ19
import Derived.Test.YtjepgnfgalnjhaaQ21
import Derived.Test.YtjepgnfgalnjhaaQ23
import Derived.Test.YtjepgnfgalnjhaaQ25
namespace Go.Proofs.Ytjepgnfgalnjhaa.Q
open Go.RowKit Go.Proofs.YtjepgnfgalnjhaaW.PrintWords Go.Proofs.YtjepgnfgalnjhaaW.PrintLast Go.Proofs.YtjepgnfgalnjhaaW.PrintMore
attribute [local go_sem] max2_int min2_int max_two min_two max_three min_three max_four min_four   -- for this text's walks alone
set_option linter.unusedVariables false
set_option linter.unusedSimpArgs false

/-! ### laws_FnExactNatMul: function 3 -/
def laws_FnExactNatMul.f (k : Nat) (l0_0 : List Int) (l1_0 : List Int) : Option (Bool) := (laws_szNat.f l0_0 1048576).bind fun t213 => (if t213 < 0 then (some true) else ((laws_szNat.f l1_0 t213).bind fun t214 => (if t214 < 0 then (some true) else ((laws_toNat.f k l0_0).bind fun t215 => ((laws_toNat.f k l1_0).bind fun t218 => ((spec_NatMul.f k t215 t218).bind fun bt221 => ((laws_toNat.f k l0_0).bind fun t226 => ((laws_toNat.f k l1_0).bind fun t230 => ((impl_NatMul.f k t226 t230).bind fun bt234 => ((laws_eqNat.f k bt234.1 bt221.1).bind fun t239 => (if t239 = true then (if (bt234.2 != bt221.2) = true then (none) else ((laws_toNat.f k l0_0).bind fun t240 => ((laws_eqNat.f k t226 t240).bind fun t243 => (if t243 = true then ((laws_toNat.f k l1_0).bind fun t244 => ((laws_eqNat.f k t230 t244).bind fun t247 => (if t247 = true then ((laws_markNat.f k t226 1).bind fun bt248 => ((laws_markNat.f k t230 bt248.1).bind fun bt250 => (if bt250.1 < 0 then (none) else ((laws_eqNat.f k bt234.1 bt221.1).bind fun t252 => (if t252 = true then ((laws_markNat.f k bt234.1 1).bind fun bt253 => ((laws_heldNat.f k bt253.2 1).bind fun t255 => (if t255 < 0 then (none) else (if t255 = bt253.1 then ((laws_toNat.f k l0_0).bind fun t256 => ((laws_toNat.f k l1_0).bind fun t259 => ((impl_NatMul.f k t256 t259).bind fun bt262 => ((laws_eqNat.f k bt262.1 bt221.1).bind fun t267 => (if t267 = true then (if (bt262.2 != bt221.2) = true then (none) else ((laws_heldNat.f k bt253.2 1).bind fun t268 => (if t268 < 0 then (none) else (if t268 = bt253.1 then (some true) else (none))))) else (none)))))) else (none))))) else (none)))))) else (none)))) else (none))))) else (none))))))))))))
def laws_FnExactNatMul.T8 : Bool × List (List Nat × List Nat) := (true, [([], []), ([0], [0]), ([], []), ([2, 1], [2]), ([1, 3, 3], [1, 3]), ([4], [4]), ([5], [5]), ([5], [5]), ([], []), ([8, 6, 4, 0, 1, 2, 3, 4, 5, 6, 8], [6, 8]), ([7, 9, 0, 1, 2, 3, 4, 5, 6, 7, 8, 9], [7])])
def laws_FnExactNatMul.B8 : List Nat := [0, 1, 0, 7, 15, 31, 63, 63, 0, 383, 1023]
theorem laws_FnExactNatMul.tab8 : rtab .any (opsOf Try.f3 8) = laws_FnExactNatMul.T8 := by kernel_rfl
theorem laws_FnExactNatMul.bits8 : waitsOk laws_FnExactNatMul.T8.2 laws_FnExactNatMul.B8 = true := by kernel_rfl
def laws_FnExactNatMul.T31 : Bool × List (List Nat × List Nat) := (true, [([], []), ([0], [0]), ([], []), ([2, 1], [2]), ([1, 3, 3], [1, 3]), ([4], [4]), ([5], [5]), ([5], [5]), ([], []), ([8, 6, 4, 0, 1, 2, 3, 4, 5, 6, 8], [6, 8]), ([7, 9, 0, 1, 2, 3, 4, 5, 6, 7, 8, 9], [7])])
def laws_FnExactNatMul.B31 : List Nat := [0, 1, 0, 7, 15, 31, 63, 63, 0, 383, 1023]
theorem laws_FnExactNatMul.tab31 : rtab .any (opsOf Try.f3 31) = laws_FnExactNatMul.T31 := by kernel_rfl
theorem laws_FnExactNatMul.bits31 : waitsOk laws_FnExactNatMul.T31.2 laws_FnExactNatMul.B31 = true := by kernel_rfl
set_option maxHeartbeats 8000000 in
set_option maxRecDepth 100000 in
theorem laws_FnExactNatMul.calls (k : Nat) (A0_0 : Option Addr) (c0_0 : Nat) (l0_0 : List Int) (A1_0 : Option Addr) (c1_0 : Nat) (l1_0 : List Int) (r : Bool) (w : World) (hr0_0 : Kd.C (Kd.int .i64) w A0_0 l0_0.length l0_0) (hc0_0 : l0_0.length ≤ c0_0) (hr1_0 : Kd.C (Kd.int .i64) w A1_0 l1_0.length l1_0) (hc1_0 : l1_0.length ≤ c1_0) (h : laws_FnExactNatMul.f k l0_0 l1_0 = some r) :
  Calls Try.prog 3 #[.agg #[.slice A0_0 l0_0.length c0_0], .agg #[.slice A1_0 l1_0.length c1_0]] w fun e w' => e = .returned (.bool r) ∧ Below w.heap.size w w' := by
 have hu24 := Try.underlying24
 have hu26 := Try.underlying26
 have HR0_0 := Aside0.mk hr0_0
 have HC0_0 := Aside0.mk hc0_0
 clear hr0_0 hc0_0
 have HR1_0 := Aside0.mk hr1_0
 have HC1_0 := Aside0.mk hc1_0
 clear hr1_0 hc1_0
 have HB := Sq.m (Below.refl w.heap.size w)
 have H : ((laws_szNat.f l0_0 1048576).bind fun t213 => (if t213 < 0 then (some true) else ((laws_szNat.f l1_0 t213).bind fun t214 => (if t214 < 0 then (some true) else ((laws_toNat.f k l0_0).bind fun t215 => ((laws_toNat.f k l1_0).bind fun t218 => ((spec_NatMul.f k t215 t218).bind fun bt221 => ((laws_toNat.f k l0_0).bind fun t226 => ((laws_toNat.f k l1_0).bind fun t230 => ((impl_NatMul.f k t226 t230).bind fun bt234 => ((laws_eqNat.f k bt234.1 bt221.1).bind fun t239 => (if t239 = true then (if (bt234.2 != bt221.2) = true then (none) else ((laws_toNat.f k l0_0).bind fun t240 => ((laws_eqNat.f k t226 t240).bind fun t243 => (if t243 = true then ((laws_toNat.f k l1_0).bind fun t244 => ((laws_eqNat.f k t230 t244).bind fun t247 => (if t247 = true then ((laws_markNat.f k t226 1).bind fun bt248 => ((laws_markNat.f k t230 bt248.1).bind fun bt250 => (if bt250.1 < 0 then (none) else ((laws_eqNat.f k bt234.1 bt221.1).bind fun t252 => (if t252 = true then ((laws_markNat.f k bt234.1 1).bind fun bt253 => ((laws_heldNat.f k bt253.2 1).bind fun t255 => (if t255 < 0 then (none) else (if t255 = bt253.1 then ((laws_toNat.f k l0_0).bind fun t256 => ((laws_toNat.f k l1_0).bind fun t259 => ((impl_NatMul.f k t256 t259).bind fun bt262 => ((laws_eqNat.f k bt262.1 bt221.1).bind fun t267 => (if t267 = true then (if (bt262.2 != bt221.2) = true then (none) else ((laws_heldNat.f k bt253.2 1).bind fun t268 => (if t268 < 0 then (none) else (if t268 = bt253.1 then (some true) else (none))))) else (none)))))) else (none))))) else (none)))))) else (none)))) else (none))))) else (none))))))))))))) = some r := h
 clear h
 replace H := Option.bind_eq_some_iff.mp H
 obtain ⟨t213, A30, H⟩ := H
 try dsimp only at H
 have A3 := Aside0.mk A30
 clear A30
 by_cases c4 : t213 < 0
 ·rw [if_pos c4] at H
  have c4b0 : decide (t213 < 0) = true := decide_eq_true c4
  clear c4
  obtain rfl := Option.some.inj H
  go_enter Try.func3, Try.ntmps3
  go_wp2_with (first | ((with_reducible refine gate_dst (N := 2) rfl ?_); refine box_event ?hg (N := 2) ?hd (cs := #[.slice A0_0 l0_0.length c0_0]) (t := 24) ?hr ?_; (case hd => rfl); (case hg => rfl); (case hr => first | (go_simp; done) | (go_simp; rfl)); intro gb211 hg w5 hbox hb; have n0_ := Sq.m (below_step (by repeat (first | (with_reducible first | exact HB.out | apply Sq.rc) | exact HB.out)) hb); have n1_ := Sq.m (hbox); have n2_ := Sq.m ((by rw [hg]; exact (below_size (by repeat (first | (with_reducible first | exact HB.out | apply Sq.rc) | exact HB.out))) : w.heap.size ≤ gb211)); have n3_ := Sq.m ((by rw [hg]; exact (below_size (by repeat (first | (with_reducible first | exact HB.out | apply Sq.rc) | exact HB.out))) : w.heap.size ≤ gb211)); clear HB; have HB := n0_; have BK211 := n1_; have GW211 := n2_; have GE211 := n3_; clear n0_ n1_ n2_ n3_; clear hb hbox hg) | ((with_reducible refine gate_dst (N := 3) rfl ?_); refine box_event ?hg (N := 3) ?hd (cs := #[.slice A1_0 l1_0.length c1_0]) (t := 24) ?hr ?_; (case hd => rfl); (case hg => rfl); (case hr => first | (go_simp; done) | (go_simp; rfl)); intro gb212 hg w6 hbox hb; have n0_ := Sq.m (blk_below (g := gb211) (o := .cells #[.slice A0_0 l0_0.length c0_0] 24 (0, 0)) (by apply Sq.rb; exact BK211.out) hb); have n1_ := Sq.m (below_step (by repeat (first | (with_reducible first | exact HB.out | apply Sq.rc | refine below_set ?_ GE211.out) | exact HB.out)) hb); have n2_ := Sq.m (hbox); have n3_ := Sq.m ((by rw [hg]; exact (below_size (by repeat (first | (with_reducible first | exact HB.out | apply Sq.rc | refine below_set ?_ GE211.out) | exact HB.out))) : w.heap.size ≤ gb212)); have n4_ := Sq.m ((by rw [hg]; exact (below_size (by repeat (first | (with_reducible first | exact HB.out | apply Sq.rc | refine below_set ?_ GE211.out) | exact HB.out))) : w.heap.size ≤ gb212)); have n5_ := Sq.m ((by rw [hg]; exact Nat.ne_of_lt (blk_lt (g := gb211) (o := .cells #[.slice A0_0 l0_0.length c0_0] 24 (0, 0)) (by apply Sq.rb; exact BK211.out)) : gb211 ≠ gb212)); have n6_ := Sq.m ((by rw [hg]; exact Nat.ne_of_gt (blk_lt (g := gb211) (o := .cells #[.slice A0_0 l0_0.length c0_0] 24 (0, 0)) (by apply Sq.rb; exact BK211.out)) : gb212 ≠ gb211)); clear BK211; clear HB; have BK211 := n0_; have HB := n1_; have BK212 := n2_; have GW212 := n3_; have GE212 := n4_; have NB211_212 := n5_; have NB212_211 := n6_; clear n0_ n1_ n2_ n3_ n4_ n5_ n6_; clear hb hbox hg; have hnb7 := NB211_212.out; have hnc7 := NB212_211.out; have hcz8_0 : w6.cell? ⟨gb211, 0, none⟩ = some (.slice A0_0 l0_0.length c0_0) := (blk_cell BK211.out 0).trans rfl; have hfz8_0 := blk_frozen BK211.out 0) | ((with_reducible refine gate_callee (f := 15) rfl ?_); refine goesL_ (some 19) rfl rfl Try.func15 (by kernel_rfl) rfl #[.agg #[.slice A0_0 l0_0.length c0_0], .int .i64 1048576] rfl (by (try simp only [List.map_toArray, List.map_cons, List.map_nil]); first | done | rfl | (simp only [List.length_drop, List.length_take]; rfl) | (simp only [i64_w, u8_w, w64_b]; rfl)) ?_; (with_reducible refine (laws_szNat.calls _ _ l0_0 1048576 t213 _ ?side1 ?side2 A3.out).mono ?_); (case side1 => repeat (first | exact (Kd.C_below HR0_0.out HB.out) | (with_reducible refine Kd.C_alloc ?_ _) | (with_reducible refine Kd.C_drewN ?_ _) | (with_reducible refine Kd.C_drew ?_))); (case side2 => exact HC0_0.out); rintro e w9 ⟨rfl, hb⟩; refine ⟨_, rfl, ?_⟩; have n0_ := Sq.m (blk_below (g := gb211) (o := .cells #[.slice A0_0 l0_0.length c0_0] 24 (0, 0)) (by apply Sq.rb; exact BK211.out) hb); have n1_ := Sq.m (blk_below (g := gb212) (o := .cells #[.slice A1_0 l1_0.length c1_0] 24 (0, 0)) (by apply Sq.rb; exact BK212.out) hb); have n2_ := Sq.m (below_step (by repeat (first | (with_reducible first | exact HB.out | apply Sq.rc | refine below_set ?_ GE211.out | refine below_set ?_ GE212.out) | exact HB.out)) hb); clear BK211; clear BK212; clear HB; have BK211 := n0_; have BK212 := n1_; have HB := n2_; clear n0_ n1_ n2_; (try clear hb); (try clear hb2); (try clear hk); (try clear hi)))
  go_ret
  exact ⟨by first | rfl | (simp [errW_none, errW_some] <;> rfl) | (simp [*, errW_none, errW_some] <;> rfl), by repeat (first | (with_reducible first | exact HB.out | apply Sq.rc | refine below_set ?_ GE211.out | refine below_set ?_ GE212.out) | exact HB.out)⟩
 ·rw [if_neg c4] at H
  have c4b0 : decide (t213 < 0) = false := decide_eq_false c4
  clear c4
  replace H := Option.bind_eq_some_iff.mp H
  obtain ⟨t214, A100, H⟩ := H
  try dsimp only at H
  have A10 := Aside0.mk A100
  clear A100
  by_cases c11 : t214 < 0
  ·rw [if_pos c11] at H
   have c11b0 : decide (t214 < 0) = true := decide_eq_true c11
   clear c11
   obtain rfl := Option.some.inj H
   go_enter Try.func3, Try.ntmps3
   go_wp2_with (first | ((with_reducible refine gate_dst (N := 2) rfl ?_); refine box_event ?hg (N := 2) ?hd (cs := #[.slice A0_0 l0_0.length c0_0]) (t := 24) ?hr ?_; (case hd => rfl); (case hg => rfl); (case hr => first | (go_simp; done) | (go_simp; rfl)); intro gb211 hg w12 hbox hb; have n0_ := Sq.m (below_step (by repeat (first | (with_reducible first | exact HB.out | apply Sq.rc) | exact HB.out)) hb); have n1_ := Sq.m (hbox); have n2_ := Sq.m ((by rw [hg]; exact (below_size (by repeat (first | (with_reducible first | exact HB.out | apply Sq.rc) | exact HB.out))) : w.heap.size ≤ gb211)); have n3_ := Sq.m ((by rw [hg]; exact (below_size (by repeat (first | (with_reducible first | exact HB.out | apply Sq.rc) | exact HB.out))) : w.heap.size ≤ gb211)); clear HB; have HB := n0_; have BK211 := n1_; have GW211 := n2_; have GE211 := n3_; clear n0_ n1_ n2_ n3_; clear hb hbox hg) | ((with_reducible refine gate_dst (N := 3) rfl ?_); refine box_event ?hg (N := 3) ?hd (cs := #[.slice A1_0 l1_0.length c1_0]) (t := 24) ?hr ?_; (case hd => rfl); (case hg => rfl); (case hr => first | (go_simp; done) | (go_simp; rfl)); intro gb212 hg w13 hbox hb; have n0_ := Sq.m (blk_below (g := gb211) (o := .cells #[.slice A0_0 l0_0.length c0_0] 24 (0, 0)) (by apply Sq.rb; exact BK211.out) hb); have n1_ := Sq.m (below_step (by repeat (first | (with_reducible first | exact HB.out | apply Sq.rc | refine below_set ?_ GE211.out) | exact HB.out)) hb); have n2_ := Sq.m (hbox); have n3_ := Sq.m ((by rw [hg]; exact (below_size (by repeat (first | (with_reducible first | exact HB.out | apply Sq.rc | refine below_set ?_ GE211.out) | exact HB.out))) : w.heap.size ≤ gb212)); have n4_ := Sq.m ((by rw [hg]; exact (below_size (by repeat (first | (with_reducible first | exact HB.out | apply Sq.rc | refine below_set ?_ GE211.out) | exact HB.out))) : w.heap.size ≤ gb212)); have n5_ := Sq.m ((by rw [hg]; exact Nat.ne_of_lt (blk_lt (g := gb211) (o := .cells #[.slice A0_0 l0_0.length c0_0] 24 (0, 0)) (by apply Sq.rb; exact BK211.out)) : gb211 ≠ gb212)); have n6_ := Sq.m ((by rw [hg]; exact Nat.ne_of_gt (blk_lt (g := gb211) (o := .cells #[.slice A0_0 l0_0.length c0_0] 24 (0, 0)) (by apply Sq.rb; exact BK211.out)) : gb212 ≠ gb211)); clear BK211; clear HB; have BK211 := n0_; have HB := n1_; have BK212 := n2_; have GW212 := n3_; have GE212 := n4_; have NB211_212 := n5_; have NB212_211 := n6_; clear n0_ n1_ n2_ n3_ n4_ n5_ n6_; clear hb hbox hg; have hnb14 := NB211_212.out; have hnc14 := NB212_211.out; have hcz15_0 : w13.cell? ⟨gb211, 0, none⟩ = some (.slice A0_0 l0_0.length c0_0) := (blk_cell BK211.out 0).trans rfl; have hfz15_0 := blk_frozen BK211.out 0) | ((with_reducible refine gate_callee (f := 15) rfl ?_); refine goesL_ (some 19) rfl rfl Try.func15 (by kernel_rfl) rfl #[.agg #[.slice A0_0 l0_0.length c0_0], .int .i64 1048576] rfl (by (try simp only [List.map_toArray, List.map_cons, List.map_nil]); first | done | rfl | (simp only [List.length_drop, List.length_take]; rfl) | (simp only [i64_w, u8_w, w64_b]; rfl)) ?_; (with_reducible refine (laws_szNat.calls _ _ l0_0 1048576 t213 _ ?side1 ?side2 A3.out).mono ?_); (case side1 => repeat (first | exact (Kd.C_below HR0_0.out HB.out) | (with_reducible refine Kd.C_alloc ?_ _) | (with_reducible refine Kd.C_drewN ?_ _) | (with_reducible refine Kd.C_drew ?_))); (case side2 => exact HC0_0.out); rintro e w16 ⟨rfl, hb⟩; refine ⟨_, rfl, ?_⟩; have n0_ := Sq.m (blk_below (g := gb211) (o := .cells #[.slice A0_0 l0_0.length c0_0] 24 (0, 0)) (by apply Sq.rb; exact BK211.out) hb); have n1_ := Sq.m (blk_below (g := gb212) (o := .cells #[.slice A1_0 l1_0.length c1_0] 24 (0, 0)) (by apply Sq.rb; exact BK212.out) hb); have n2_ := Sq.m (below_step (by repeat (first | (with_reducible first | exact HB.out | apply Sq.rc | refine below_set ?_ GE211.out | refine below_set ?_ GE212.out) | exact HB.out)) hb); clear BK211; clear BK212; clear HB; have BK211 := n0_; have BK212 := n1_; have HB := n2_; clear n0_ n1_ n2_; (try clear hb); (try clear hb2); (try clear hk); (try clear hi); have hcz17_0 : w16.cell? ⟨gb212, 0, none⟩ = some (.slice A1_0 l1_0.length c1_0) := (blk_cell BK212.out 0).trans rfl; have hfz17_0 := blk_frozen BK212.out 0) | ((with_reducible refine gate_callee (f := 15) rfl ?_); refine goesL_ (some 24) rfl rfl Try.func15 (by kernel_rfl) rfl #[.agg #[.slice A1_0 l1_0.length c1_0], .int .i64 t213] rfl (by (try simp only [List.map_toArray, List.map_cons, List.map_nil]); first | done | rfl | (simp only [List.length_drop, List.length_take]; rfl) | (simp only [i64_w, u8_w, w64_b]; rfl)) ?_; (with_reducible refine (laws_szNat.calls _ _ l1_0 t213 t214 _ ?side1 ?side2 A10.out).mono ?_); (case side1 => repeat (first | exact (Kd.C_below HR1_0.out HB.out) | (with_reducible refine Kd.C_alloc ?_ _) | (with_reducible refine Kd.C_drewN ?_ _) | (with_reducible refine Kd.C_drew ?_))); (case side2 => exact HC1_0.out); rintro e w18 ⟨rfl, hb⟩; refine ⟨_, rfl, ?_⟩; have n0_ := Sq.m (blk_below (g := gb211) (o := .cells #[.slice A0_0 l0_0.length c0_0] 24 (0, 0)) (by apply Sq.rb; exact BK211.out) hb); have n1_ := Sq.m (blk_below (g := gb212) (o := .cells #[.slice A1_0 l1_0.length c1_0] 24 (0, 0)) (by apply Sq.rb; exact BK212.out) hb); have n2_ := Sq.m (below_step (by repeat (first | (with_reducible first | exact HB.out | apply Sq.rc | refine below_set ?_ GE211.out | refine below_set ?_ GE212.out) | exact HB.out)) hb); clear BK211; clear BK212; clear HB; have BK211 := n0_; have BK212 := n1_; have HB := n2_; clear n0_ n1_ n2_; (try clear hb); (try clear hb2); (try clear hk); (try clear hi)))
   go_ret
   exact ⟨by first | rfl | (simp [errW_none, errW_some] <;> rfl) | (simp [*, errW_none, errW_some] <;> rfl), by repeat (first | (with_reducible first | exact HB.out | apply Sq.rc | refine below_set ?_ GE211.out | refine below_set ?_ GE212.out) | exact HB.out)⟩
  ·rw [if_neg c11] at H
   have c11b0 : decide (t214 < 0) = false := decide_eq_false c11
   clear c11
   replace H := Option.bind_eq_some_iff.mp H
   obtain ⟨t215, A190, H⟩ := H
   try dsimp only at H
   have A19 := Aside0.mk A190
   clear A190
   replace H := Option.bind_eq_some_iff.mp H
   obtain ⟨t218, A200, H⟩ := H
   try dsimp only at H
   have A20 := Aside0.mk A200
   clear A200
   replace H := Option.bind_eq_some_iff.mp H
   obtain ⟨⟨t221, t224⟩, A210, H⟩ := H
   try dsimp only at H
   have A21 := Aside0.mk A210
   clear A210
   replace H := Option.bind_eq_some_iff.mp H
   obtain ⟨t226, A220, H⟩ := H
   try dsimp only at H
   have A22 := Aside0.mk A220
   clear A220
   replace H := Option.bind_eq_some_iff.mp H
   obtain ⟨t230, A230, H⟩ := H
   try dsimp only at H
   have A23 := Aside0.mk A230
   clear A230
   replace H := Option.bind_eq_some_iff.mp H
   obtain ⟨⟨t234, t237⟩, A240, H⟩ := H
   try dsimp only at H
   have A24 := Aside0.mk A240
   clear A240
   replace H := Option.bind_eq_some_iff.mp H
   obtain ⟨t239, A250, H⟩ := H
   try dsimp only at H
   have A25 := Aside0.mk A250
   clear A250
   by_cases c26 : t239 = true
   ·subst c26
    have H1 : (if (t237 != t224) = true then (none) else ((laws_toNat.f k l0_0).bind fun t240 => ((laws_eqNat.f k t226 t240).bind fun t243 => (if t243 = true then ((laws_toNat.f k l1_0).bind fun t244 => ((laws_eqNat.f k t230 t244).bind fun t247 => (if t247 = true then ((laws_markNat.f k t226 1).bind fun bt248 => ((laws_markNat.f k t230 bt248.1).bind fun bt250 => (if bt250.1 < 0 then (none) else ((laws_eqNat.f k t234 t221).bind fun t252 => (if t252 = true then ((laws_markNat.f k t234 1).bind fun bt253 => ((laws_heldNat.f k bt253.2 1).bind fun t255 => (if t255 < 0 then (none) else (if t255 = bt253.1 then ((laws_toNat.f k l0_0).bind fun t256 => ((laws_toNat.f k l1_0).bind fun t259 => ((impl_NatMul.f k t256 t259).bind fun bt262 => ((laws_eqNat.f k bt262.1 t221).bind fun t267 => (if t267 = true then (if (bt262.2 != t224) = true then (none) else ((laws_heldNat.f k bt253.2 1).bind fun t268 => (if t268 < 0 then (none) else (if t268 = bt253.1 then (some true) else (none))))) else (none)))))) else (none))))) else (none)))))) else (none)))) else (none))))) = some r := by rw [if_pos rfl] at H; exact H
    clear H
    have H := H1
    clear H1
    by_cases c27 : (t237 != t224) = true
    ·rw [if_pos c27] at H
     exact absurd H (by simp)
    ·rw [if_neg c27] at H
     have c27b0 : (t237 != t224) = false := by simpa using c27
     (try (have c27b1 : decide (t237 = t224) = true := by simpa using c27))
     (try (have c27b2 : (t237 == t224) = true := by simpa using c27))
     clear c27
     replace H := Option.bind_eq_some_iff.mp H
     obtain ⟨t240, A280, H⟩ := H
     try dsimp only at H
     have A28 := Aside0.mk A280
     clear A280
     replace H := Option.bind_eq_some_iff.mp H
     obtain ⟨t243, A290, H⟩ := H
     try dsimp only at H
     have A29 := Aside0.mk A290
     clear A290
     by_cases c30 : t243 = true
     ·subst c30
      have H1 : ((laws_toNat.f k l1_0).bind fun t244 => ((laws_eqNat.f k t230 t244).bind fun t247 => (if t247 = true then ((laws_markNat.f k t226 1).bind fun bt248 => ((laws_markNat.f k t230 bt248.1).bind fun bt250 => (if bt250.1 < 0 then (none) else ((laws_eqNat.f k t234 t221).bind fun t252 => (if t252 = true then ((laws_markNat.f k t234 1).bind fun bt253 => ((laws_heldNat.f k bt253.2 1).bind fun t255 => (if t255 < 0 then (none) else (if t255 = bt253.1 then ((laws_toNat.f k l0_0).bind fun t256 => ((laws_toNat.f k l1_0).bind fun t259 => ((impl_NatMul.f k t256 t259).bind fun bt262 => ((laws_eqNat.f k bt262.1 t221).bind fun t267 => (if t267 = true then (if (bt262.2 != t224) = true then (none) else ((laws_heldNat.f k bt253.2 1).bind fun t268 => (if t268 < 0 then (none) else (if t268 = bt253.1 then (some true) else (none))))) else (none)))))) else (none))))) else (none)))))) else (none)))) = some r := by rw [if_pos rfl] at H; exact H
      clear H
      have H := H1
      clear H1
      replace H := Option.bind_eq_some_iff.mp H
      obtain ⟨t244, A310, H⟩ := H
      try dsimp only at H
      have A31 := Aside0.mk A310
      clear A310
      replace H := Option.bind_eq_some_iff.mp H
      obtain ⟨t247, A320, H⟩ := H
      try dsimp only at H
      have A32 := Aside0.mk A320
      clear A320
      by_cases c33 : t247 = true
      ·subst c33
       have H1 : ((laws_markNat.f k t226 1).bind fun bt248 => ((laws_markNat.f k t230 bt248.1).bind fun bt250 => (if bt250.1 < 0 then (none) else ((laws_eqNat.f k t234 t221).bind fun t252 => (if t252 = true then ((laws_markNat.f k t234 1).bind fun bt253 => ((laws_heldNat.f k bt253.2 1).bind fun t255 => (if t255 < 0 then (none) else (if t255 = bt253.1 then ((laws_toNat.f k l0_0).bind fun t256 => ((laws_toNat.f k l1_0).bind fun t259 => ((impl_NatMul.f k t256 t259).bind fun bt262 => ((laws_eqNat.f k bt262.1 t221).bind fun t267 => (if t267 = true then (if (bt262.2 != t224) = true then (none) else ((laws_heldNat.f k bt253.2 1).bind fun t268 => (if t268 < 0 then (none) else (if t268 = bt253.1 then (some true) else (none))))) else (none)))))) else (none))))) else (none)))))) = some r := by rw [if_pos rfl] at H; exact H
       clear H
       have H := H1
       clear H1
       replace H := Option.bind_eq_some_iff.mp H
       obtain ⟨⟨t248, t249⟩, A340, H⟩ := H
       try dsimp only at H
       have A34 := Aside0.mk A340
       clear A340
       replace H := Option.bind_eq_some_iff.mp H
       obtain ⟨⟨t250, t251⟩, A350, H⟩ := H
       try dsimp only at H
       have A35 := Aside0.mk A350
       clear A350
       by_cases c36 : t250 < 0
       ·rw [if_pos c36] at H
        exact absurd H (by simp)
       ·rw [if_neg c36] at H
        have c36b0 : decide (t250 < 0) = false := decide_eq_false c36
        clear c36
        replace H := Option.bind_eq_some_iff.mp H
        obtain ⟨t252, A370, H⟩ := H
        try dsimp only at H
        have A37 := Aside0.mk A370
        clear A370
        by_cases c38 : t252 = true
        ·subst c38
         have H1 : ((laws_markNat.f k t234 1).bind fun bt253 => ((laws_heldNat.f k bt253.2 1).bind fun t255 => (if t255 < 0 then (none) else (if t255 = bt253.1 then ((laws_toNat.f k l0_0).bind fun t256 => ((laws_toNat.f k l1_0).bind fun t259 => ((impl_NatMul.f k t256 t259).bind fun bt262 => ((laws_eqNat.f k bt262.1 t221).bind fun t267 => (if t267 = true then (if (bt262.2 != t224) = true then (none) else ((laws_heldNat.f k bt253.2 1).bind fun t268 => (if t268 < 0 then (none) else (if t268 = bt253.1 then (some true) else (none))))) else (none)))))) else (none))))) = some r := by rw [if_pos rfl] at H; exact H
         clear H
         have H := H1
         clear H1
         replace H := Option.bind_eq_some_iff.mp H
         obtain ⟨⟨t253, t254⟩, A390, H⟩ := H
         try dsimp only at H
         have A39 := Aside0.mk A390
         clear A390
         replace H := Option.bind_eq_some_iff.mp H
         obtain ⟨t255, A400, H⟩ := H
         try dsimp only at H
         have A40 := Aside0.mk A400
         clear A400
         by_cases c41 : t255 < 0
         ·rw [if_pos c41] at H
          exact absurd H (by simp)
         ·rw [if_neg c41] at H
          have c41b0 : decide (t255 < 0) = false := decide_eq_false c41
          clear c41
          by_cases c42 : t255 = t253
          ·rw [if_pos c42] at H
           have c42b0 : (t255 == t253) = true := beq_iff_eq.mpr c42
           have c42b1 : (t255 != t253) = false := bne_eq_false_iff_eq.mpr c42
           clear c42
           replace H := Option.bind_eq_some_iff.mp H
           obtain ⟨t256, A430, H⟩ := H
           try dsimp only at H
           have A43 := Aside0.mk A430
           clear A430
           replace H := Option.bind_eq_some_iff.mp H
           obtain ⟨t259, A440, H⟩ := H
           try dsimp only at H
           have A44 := Aside0.mk A440
           clear A440
           replace H := Option.bind_eq_some_iff.mp H
           obtain ⟨⟨t262, t265⟩, A450, H⟩ := H
           try dsimp only at H
           have A45 := Aside0.mk A450
           clear A450
           replace H := Option.bind_eq_some_iff.mp H
           obtain ⟨t267, A460, H⟩ := H
           try dsimp only at H
           have A46 := Aside0.mk A460
           clear A460
           by_cases c47 : t267 = true
           ·subst c47
            have H1 : (if (t265 != t224) = true then (none) else ((laws_heldNat.f k t254 1).bind fun t268 => (if t268 < 0 then (none) else (if t268 = t253 then (some true) else (none))))) = some r := by rw [if_pos rfl] at H; exact H
            clear H
            have H := H1
            clear H1
            by_cases c48 : (t265 != t224) = true
            ·rw [if_pos c48] at H
             exact absurd H (by simp)
            ·rw [if_neg c48] at H
             have c48b0 : (t265 != t224) = false := by simpa using c48
             (try (have c48b1 : decide (t265 = t224) = true := by simpa using c48))
             (try (have c48b2 : (t265 == t224) = true := by simpa using c48))
             clear c48
             replace H := Option.bind_eq_some_iff.mp H
             obtain ⟨t268, A490, H⟩ := H
             try dsimp only at H
             have A49 := Aside0.mk A490
             clear A490
             by_cases c50 : t268 < 0
             ·rw [if_pos c50] at H
              exact absurd H (by simp)
             ·rw [if_neg c50] at H
              have c50b0 : decide (t268 < 0) = false := decide_eq_false c50
              clear c50
              by_cases c51 : t268 = t253
              ·rw [if_pos c51] at H
               have c51b0 : (t268 == t253) = true := beq_iff_eq.mpr c51
               have c51b1 : (t268 != t253) = false := bne_eq_false_iff_eq.mpr c51
               clear c51
               obtain rfl := Option.some.inj H
               go_enter Try.func3, Try.ntmps3
               try go_wp2_with (first | ((with_reducible refine gate_dst (N := 2) rfl ?_); refine box_event ?hg (N := 2) ?hd (cs := #[.slice A0_0 l0_0.length c0_0]) (t := 24) ?hr ?_; (case hd => rfl); (case hg => rfl); (case hr => first | (go_simp; done) | (go_simp; rfl)); intro gb211 hg w52 hbox hb; have n0_ := Sq.m (below_step (by repeat (first | (with_reducible first | exact HB.out | apply Sq.rc) | exact HB.out)) hb); have n1_ := Sq.m (hbox); have n2_ := Sq.m ((by rw [hg]; exact (below_size (by repeat (first | (with_reducible first | exact HB.out | apply Sq.rc) | exact HB.out))) : w.heap.size ≤ gb211)); have n3_ := Sq.m ((by rw [hg]; exact (below_size (by repeat (first | (with_reducible first | exact HB.out | apply Sq.rc) | exact HB.out))) : w.heap.size ≤ gb211)); clear HB; have HB := n0_; have BK211 := n1_; have GW211 := n2_; have GE211 := n3_; clear n0_ n1_ n2_ n3_; clear hb hbox hg) | ((with_reducible refine gate_dst (N := 3) rfl ?_); refine box_event ?hg (N := 3) ?hd (cs := #[.slice A1_0 l1_0.length c1_0]) (t := 24) ?hr ?_; (case hd => rfl); (case hg => rfl); (case hr => first | (go_simp; done) | (go_simp; rfl)); intro gb212 hg w53 hbox hb; have n0_ := Sq.m (blk_below (g := gb211) (o := .cells #[.slice A0_0 l0_0.length c0_0] 24 (0, 0)) (by apply Sq.rb; exact BK211.out) hb); have n1_ := Sq.m (below_step (by repeat (first | (with_reducible first | exact HB.out | apply Sq.rc | refine below_set ?_ GE211.out) | exact HB.out)) hb); have n2_ := Sq.m (hbox); have n3_ := Sq.m ((by rw [hg]; exact (below_size (by repeat (first | (with_reducible first | exact HB.out | apply Sq.rc | refine below_set ?_ GE211.out) | exact HB.out))) : w.heap.size ≤ gb212)); have n4_ := Sq.m ((by rw [hg]; exact (below_size (by repeat (first | (with_reducible first | exact HB.out | apply Sq.rc | refine below_set ?_ GE211.out) | exact HB.out))) : w.heap.size ≤ gb212)); have n5_ := Sq.m ((by rw [hg]; exact Nat.ne_of_lt (blk_lt (g := gb211) (o := .cells #[.slice A0_0 l0_0.length c0_0] 24 (0, 0)) (by apply Sq.rb; exact BK211.out)) : gb211 ≠ gb212)); have n6_ := Sq.m ((by rw [hg]; exact Nat.ne_of_gt (blk_lt (g := gb211) (o := .cells #[.slice A0_0 l0_0.length c0_0] 24 (0, 0)) (by apply Sq.rb; exact BK211.out)) : gb212 ≠ gb211)); clear BK211; clear HB; have BK211 := n0_; have HB := n1_; have BK212 := n2_; have GW212 := n3_; have GE212 := n4_; have NB211_212 := n5_; have NB212_211 := n6_; clear n0_ n1_ n2_ n3_ n4_ n5_ n6_; clear hb hbox hg; have hnb54 := NB211_212.out; have hnc54 := NB212_211.out; have hcz55_0 : w53.cell? ⟨gb211, 0, none⟩ = some (.slice A0_0 l0_0.length c0_0) := (blk_cell BK211.out 0).trans rfl; have hfz55_0 := blk_frozen BK211.out 0) | ((with_reducible refine gate_callee (f := 15) rfl ?_); refine goesL_ (some 19) rfl rfl Try.func15 (by kernel_rfl) rfl #[.agg #[.slice A0_0 l0_0.length c0_0], .int .i64 1048576] rfl (by (try simp only [List.map_toArray, List.map_cons, List.map_nil]); first | done | rfl | (simp only [List.length_drop, List.length_take]; rfl) | (simp only [i64_w, u8_w, w64_b]; rfl)) ?_; (with_reducible refine (laws_szNat.calls _ _ l0_0 1048576 t213 _ ?side1 ?side2 A3.out).mono ?_); (case side1 => repeat (first | exact (Kd.C_below HR0_0.out HB.out) | (with_reducible refine Kd.C_alloc ?_ _) | (with_reducible refine Kd.C_drewN ?_ _) | (with_reducible refine Kd.C_drew ?_))); (case side2 => exact HC0_0.out); rintro e w56 ⟨rfl, hb⟩; refine ⟨_, rfl, ?_⟩; have n0_ := Sq.m (blk_below (g := gb211) (o := .cells #[.slice A0_0 l0_0.length c0_0] 24 (0, 0)) (by apply Sq.rb; exact BK211.out) hb); have n1_ := Sq.m (blk_below (g := gb212) (o := .cells #[.slice A1_0 l1_0.length c1_0] 24 (0, 0)) (by apply Sq.rb; exact BK212.out) hb); have n2_ := Sq.m (below_step (by repeat (first | (with_reducible first | exact HB.out | apply Sq.rc | refine below_set ?_ GE211.out | refine below_set ?_ GE212.out) | exact HB.out)) hb); clear BK211; clear BK212; clear HB; have BK211 := n0_; have BK212 := n1_; have HB := n2_; clear n0_ n1_ n2_; (try clear hb); (try clear hb2); (try clear hk); (try clear hi); have hcz57_0 : w56.cell? ⟨gb212, 0, none⟩ = some (.slice A1_0 l1_0.length c1_0) := (blk_cell BK212.out 0).trans rfl; have hfz57_0 := blk_frozen BK212.out 0) | ((with_reducible refine gate_callee (f := 15) rfl ?_); refine goesL_ (some 24) rfl rfl Try.func15 (by kernel_rfl) rfl #[.agg #[.slice A1_0 l1_0.length c1_0], .int .i64 t213] rfl (by (try simp only [List.map_toArray, List.map_cons, List.map_nil]); first | done | rfl | (simp only [List.length_drop, List.length_take]; rfl) | (simp only [i64_w, u8_w, w64_b]; rfl)) ?_; (with_reducible refine (laws_szNat.calls _ _ l1_0 t213 t214 _ ?side1 ?side2 A10.out).mono ?_); (case side1 => repeat (first | exact (Kd.C_below HR1_0.out HB.out) | (with_reducible refine Kd.C_alloc ?_ _) | (with_reducible refine Kd.C_drewN ?_ _) | (with_reducible refine Kd.C_drew ?_))); (case side2 => exact HC1_0.out); rintro e w58 ⟨rfl, hb⟩; refine ⟨_, rfl, ?_⟩; have n0_ := Sq.m (blk_below (g := gb211) (o := .cells #[.slice A0_0 l0_0.length c0_0] 24 (0, 0)) (by apply Sq.rb; exact BK211.out) hb); have n1_ := Sq.m (blk_below (g := gb212) (o := .cells #[.slice A1_0 l1_0.length c1_0] 24 (0, 0)) (by apply Sq.rb; exact BK212.out) hb); have n2_ := Sq.m (below_step (by repeat (first | (with_reducible first | exact HB.out | apply Sq.rc | refine below_set ?_ GE211.out | refine below_set ?_ GE212.out) | exact HB.out)) hb); clear BK211; clear BK212; clear HB; have BK211 := n0_; have BK212 := n1_; have HB := n2_; clear n0_ n1_ n2_; (try clear hb); (try clear hb2); (try clear hk); (try clear hi)))
               have n0_ := Sq.m (blk_drew BK211.out)
               have n1_ := Sq.m (blk_drew BK212.out)
               have n2_ := Sq.m (below_drew1 HB.out)
               clear BK211
               clear BK212
               clear HB
               have BK211 := n0_
               have BK212 := n1_
               have HB := n2_
               clear n0_ n1_ n2_
               refine start_ (n := 11) (S := fun w' => True) (ds := []) #[false, false, false, false, false, false, false, false, false, false, false] (by kernel_rfl) rfl rfl trivial (fun hHeld => ?_); refine with_tabW laws_FnExactNatMul.tab8 laws_FnExactNatMul.bits8 (fun HT_ HW_ => ?_)
               generalize w58.drew = w59 at BK211 BK212 HB hHeld ⊢
               refine inv_at [0, 1, 2, 3, 4, 5, 6, 7, 8, 9, 10] (fun a0_ b a w' => ∃ (v216 : Value) (v219 : Value) (v222 : Value) (gb225 : Nat) (m1_ : Value) (m3_ : Value) (m4_ : Value) (m5_ : Value) (m6_ : Value) (m8_ : Value), a = putSel a0_ b [(0, 28, .agg #[.slice A0_0 l0_0.length c0_0]), (1, 29, m1_), (2, 30, .agg #[.slice A1_0 l1_0.length c1_0]), (3, 31, m3_), (4, 32, m4_), (5, 27, m5_), (6, 33, m6_), (7, 34, .bool t224), (8, 6, m8_), (10, 7, .bool t224)] ∧ (w'.heap[gb211]? = some (.cells #[.slice A0_0 l0_0.length c0_0] 24 (0, 0))) ∧ (w'.heap[gb212]? = some (.cells #[.slice A1_0 l1_0.length c1_0] 24 (0, 0))) ∧ (Below w.heap.size w w') ∧ (b 1 = true → Kd.R (Kd.int .i64) 3 w' w.heap.size (fun _ => True) v216 t215) ∧ (b 3 = true → Kd.R (Kd.int .i64) 3 w' w.heap.size (fun _ => True) v219 t218) ∧ (b 4 = true → Kd.R (Kd.int .i64) 3 w' w.heap.size (fun _ => True) v222 t221) ∧ (b 8 = true → b 9 = false → w'.heap[gb225]? = some (.cells #[.slice none 0 0] 26 (0, 0))) ∧ (b 8 = true → w.heap.size ≤ gb225) ∧ (b 8 = true → w.heap.size ≤ gb225) ∧ (b 8 = true → gb211 ≠ gb225) ∧ (b 8 = true → gb225 ≠ gb211) ∧ (b 8 = true → gb212 ≠ gb225) ∧ (b 8 = true → gb225 ≠ gb212) ∧ (b 9 = true → w'.heap[gb225]? = some (.cells #[v222] 26 (0, 0))) ∧ (b 1 = true → (m1_ : Value) = .agg #[v216]) ∧ (b 3 = true → (m3_ : Value) = .agg #[v219]) ∧ (b 4 = true → (m4_ : Value) = .tuple #[.agg #[v222], .bool t224]) ∧ (b 5 = true → (m5_ : Value) = .tuple #[.agg #[v222], .bool t224]) ∧ (b 6 = true → (m6_ : Value) = .agg #[v222]) ∧ (b 8 = true → (m8_ : Value) = .pointer (some ⟨gb225, 0, none⟩))) HT_.out HW_.out (by kernel_rfl) (by kernel_rfl) ?_ ?_ ?_
               ·exact ⟨.bool false, .bool false, .bool false, 0, .bool false, .bool false, .bool false, .bool false, .bool false, .bool false, by simp only [putSel, Bool.false_eq_true, if_false], BK211.out, BK212.out, HB.out, fun h_ => absurd h_ (by decide), fun h_ => absurd h_ (by decide), fun h_ => absurd h_ (by decide), fun h_ => absurd h_ (by decide), fun h_ => absurd h_ (by decide), fun h_ => absurd h_ (by decide), fun h_ => absurd h_ (by decide), fun h_ => absurd h_ (by decide), fun h_ => absurd h_ (by decide), fun h_ => absurd h_ (by decide), fun h_ => absurd h_ (by decide), fun h_ => absurd h_ (by decide), fun h_ => absurd h_ (by decide), fun h_ => absurd h_ (by decide), fun h_ => absurd h_ (by decide), fun h_ => absurd h_ (by decide), fun h_ => absurd h_ (by decide)⟩
               ·skip
                clear BK211 BK212 HB
                refine steps_cons ?_ ?_
                ·rintro b a w' ⟨v216, v219, v222, gb225, m1_, m3_, m4_, m5_, m6_, m8_, ha, Q_BK211, Q_BK212, Q_HB, Q_HO217, Q_HO220, Q_HO223, Q_BK225, Q_GW225, Q_GE225, Q_NB211_225, Q_NB225_211, Q_NB212_225, Q_NB225_212, Q_BK225_e9, Q_X1_, Q_X3_, Q_X4_, Q_X5_, Q_X6_, Q_X8_⟩ hb_ hon hoff
                 refine ⟨_, rfl, fun K hK => ?_⟩
                 have e2 : a.tmps[2]? = some (.pointer (some ⟨gb211, 0, none⟩)) := by rw [ha]; exact (putSel_off rfl).trans rfl
                 replace ha := Aside0.mk ha
                 have BK211 := Aside0.mk Q_BK211
                 have BK212 := Aside0.mk Q_BK212
                 have HB := Aside0.mk Q_HB
                 have hc0_ : w'.cell? ⟨gb211, 0, none⟩ = some (.slice A0_0 l0_0.length c0_0) := (blk_cell BK211.out 0).trans rfl
                 refine value_ (w1 := w') (v := .agg #[.slice A0_0 l0_0.length c0_0]) (by rfl) rfl ?_ ?_
                 ·go_simp
                  (try simp only [i64_w])
                  try rfl
                 refine hK.out _ _ ⟨v216, v219, v222, gb225, m1_, m3_, m4_, m5_, m6_, m8_, (by rw [ha.out]; exact putSel_upk 0 hb_ rfl rfl rfl), Q_BK211, Q_BK212, Q_HB, fun h0_ => absurd ((hoff 1 (by kernel_rfl)).symm.trans h0_) (by decide), fun h0_ => absurd ((hoff 3 (by kernel_rfl)).symm.trans h0_) (by decide), fun h0_ => absurd ((hoff 4 (by kernel_rfl)).symm.trans h0_) (by decide), Q_BK225, Q_GW225, Q_GE225, Q_NB211_225, Q_NB225_211, Q_NB212_225, Q_NB225_212, fun h0_ => absurd ((hoff 9 (by kernel_rfl)).symm.trans h0_) (by decide), fun h0_ => absurd ((hoff 1 (by kernel_rfl)).symm.trans h0_) (by decide), fun h0_ => absurd ((hoff 3 (by kernel_rfl)).symm.trans h0_) (by decide), fun h0_ => absurd ((hoff 4 (by kernel_rfl)).symm.trans h0_) (by decide), fun h0_ => absurd ((hoff 5 (by kernel_rfl)).symm.trans h0_) (by decide), fun h0_ => absurd ((hoff 6 (by kernel_rfl)).symm.trans h0_) (by decide), Q_X8_⟩
                refine steps_cons ?_ ?_
                ·rintro b a w' ⟨v216, v219, v222, gb225, m1_, m3_, m4_, m5_, m6_, m8_, ha, Q_BK211, Q_BK212, Q_HB, Q_HO217, Q_HO220, Q_HO223, Q_BK225, Q_GW225, Q_GE225, Q_NB211_225, Q_NB225_211, Q_NB212_225, Q_NB225_212, Q_BK225_e9, Q_X1_, Q_X3_, Q_X4_, Q_X5_, Q_X6_, Q_X8_⟩ hb_ hon hoff
                 refine ⟨_, rfl, fun K hK => ?_⟩
                 have e28 : a.tmps[28]? = some (.agg #[.slice A0_0 l0_0.length c0_0]) := by rw [ha]; exact putSel_on (e := (0, 28, .agg #[.slice A0_0 l0_0.length c0_0])) 0 rfl rfl (hon 0 (by kernel_rfl)) rfl
                 replace ha := Aside0.mk ha
                 have BK211 := Aside0.mk Q_BK211
                 have BK212 := Aside0.mk Q_BK212
                 have HB := Aside0.mk Q_HB
                 refine goes_ Try.func17 (by kernel_rfl) rfl #[.agg #[.slice A0_0 l0_0.length c0_0]] (by rfl) rfl rfl (by first | (simp only [List.map_toArray, List.map_cons, List.map_nil, Act.eval, Array.getD_eq_getD_getElem?, Option.getD_some, e28]; done) | (simp only [List.map_toArray, List.map_cons, List.map_nil, Act.eval, Array.getD_eq_getD_getElem?, Option.getD_some, e28]; rfl)) ?_
                 with_reducible refine (laws_toNat.calls k _ _ l0_0 t215 _ ?side1 ?side2 A19.out).mono ?_
                 (case side1 => repeat (first | exact (Kd.C_below HR0_0.out HB.out) | (with_reducible refine Kd.C_alloc ?_ _) | (with_reducible refine Kd.C_drewN ?_ _) | (with_reducible refine Kd.C_drew ?_)))
                 (case side2 => exact HC0_0.out)
                 rintro e w60 ⟨v216, rfl, ho0, hb⟩
                 refine ⟨_, rfl, ?_⟩
                 have n0_ := Sq.m (Kd.R_lower ho0 (below_size (by repeat (first | (with_reducible first | exact HB.out | apply Sq.rc | refine below_set ?_ GE211.out | refine below_set ?_ GE212.out) | exact HB.out))))
                 have n1_ := Sq.m (blk_below (g := gb211) (o := .cells #[.slice A0_0 l0_0.length c0_0] 24 (0, 0)) (by apply Sq.rb; exact BK211.out) hb)
                 have n2_ := Sq.m (blk_below (g := gb212) (o := .cells #[.slice A1_0 l1_0.length c1_0] 24 (0, 0)) (by apply Sq.rb; exact BK212.out) hb)
                 have n3_ := Sq.m (below_step (by repeat (first | (with_reducible first | exact HB.out | apply Sq.rc | refine below_set ?_ GE211.out | refine below_set ?_ GE212.out) | exact HB.out)) hb)
                 have z_BK225 := fun (h0_ : b 8 = true) (h1_ : b 9 = false) => (show w60.heap[gb225]? = some (.cells #[.slice none 0 0] 26 (0, 0)) from by first | exact (blk_below (g := gb225) (o := .cells #[.slice none 0 0] 26 (0, 0)) (by apply Sq.rb; exact (Q_BK225 h0_ h1_)) hb))
                 clear BK211
                 clear BK212
                 clear HB
                 have HO217 := n0_
                 have BK211 := n1_
                 have BK212 := n2_
                 have HB := n3_
                 clear n0_ n1_ n2_ n3_
                 (try clear hb)
                 (try clear hb2)
                 (try clear hk)
                 (try clear hi)
                 (try clear ho0)
                 refine hK.out _ _ ⟨v216, v219, v222, gb225, (.agg #[v216]), m3_, m4_, m5_, m6_, m8_, (by rw [ha.out]; exact putSel_upk 1 hb_ rfl rfl rfl), (by apply Sq.rb; exact BK211.out), (by apply Sq.rb; exact BK212.out), (by repeat (first | (with_reducible first | exact HB.out | apply Sq.rc | refine below_set ?_ GE211.out | refine below_set ?_ GE212.out) | exact HB.out)), fun _ => (by apply Sq.ra; exact HO217.out), fun h0_ => absurd ((hoff 3 (by kernel_rfl)).symm.trans h0_) (by decide), fun h0_ => absurd ((hoff 4 (by kernel_rfl)).symm.trans h0_) (by decide), z_BK225, Q_GW225, Q_GE225, Q_NB211_225, Q_NB225_211, Q_NB212_225, Q_NB225_212, fun h0_ => absurd ((hoff 9 (by kernel_rfl)).symm.trans h0_) (by decide), fun _ => rfl, fun h0_ => absurd ((hoff 3 (by kernel_rfl)).symm.trans h0_) (by decide), fun h0_ => absurd ((hoff 4 (by kernel_rfl)).symm.trans h0_) (by decide), fun h0_ => absurd ((hoff 5 (by kernel_rfl)).symm.trans h0_) (by decide), fun h0_ => absurd ((hoff 6 (by kernel_rfl)).symm.trans h0_) (by decide), Q_X8_⟩
                refine steps_cons ?_ ?_
                ·rintro b a w' ⟨v216, v219, v222, gb225, m1_, m3_, m4_, m5_, m6_, m8_, ha, Q_BK211, Q_BK212, Q_HB, Q_HO217, Q_HO220, Q_HO223, Q_BK225, Q_GW225, Q_GE225, Q_NB211_225, Q_NB225_211, Q_NB212_225, Q_NB225_212, Q_BK225_e9, Q_X1_, Q_X3_, Q_X4_, Q_X5_, Q_X6_, Q_X8_⟩ hb_ hon hoff
                 refine ⟨_, rfl, fun K hK => ?_⟩
                 have e3 : a.tmps[3]? = some (.pointer (some ⟨gb212, 0, none⟩)) := by rw [ha]; exact (putSel_off rfl).trans rfl
                 replace ha := Aside0.mk ha
                 have BK211 := Aside0.mk Q_BK211
                 have BK212 := Aside0.mk Q_BK212
                 have HB := Aside0.mk Q_HB
                 have hc0_ : w'.cell? ⟨gb212, 0, none⟩ = some (.slice A1_0 l1_0.length c1_0) := (blk_cell BK212.out 0).trans rfl
                 refine value_ (w1 := w') (v := .agg #[.slice A1_0 l1_0.length c1_0]) (by rfl) rfl ?_ ?_
                 ·go_simp
                  (try simp only [i64_w])
                  try rfl
                 refine hK.out _ _ ⟨v216, v219, v222, gb225, m1_, m3_, m4_, m5_, m6_, m8_, (by rw [ha.out]; exact putSel_upk 2 hb_ rfl rfl rfl), Q_BK211, Q_BK212, Q_HB, Q_HO217, fun h0_ => absurd ((hoff 3 (by kernel_rfl)).symm.trans h0_) (by decide), fun h0_ => absurd ((hoff 4 (by kernel_rfl)).symm.trans h0_) (by decide), Q_BK225, Q_GW225, Q_GE225, Q_NB211_225, Q_NB225_211, Q_NB212_225, Q_NB225_212, fun h0_ => absurd ((hoff 9 (by kernel_rfl)).symm.trans h0_) (by decide), Q_X1_, fun h0_ => absurd ((hoff 3 (by kernel_rfl)).symm.trans h0_) (by decide), fun h0_ => absurd ((hoff 4 (by kernel_rfl)).symm.trans h0_) (by decide), fun h0_ => absurd ((hoff 5 (by kernel_rfl)).symm.trans h0_) (by decide), fun h0_ => absurd ((hoff 6 (by kernel_rfl)).symm.trans h0_) (by decide), Q_X8_⟩
                refine steps_cons ?_ ?_
                ·rintro b a w' ⟨v216, v219, v222, gb225, m1_, m3_, m4_, m5_, m6_, m8_, ha, Q_BK211, Q_BK212, Q_HB, Q_HO217, Q_HO220, Q_HO223, Q_BK225, Q_GW225, Q_GE225, Q_NB211_225, Q_NB225_211, Q_NB212_225, Q_NB225_212, Q_BK225_e9, Q_X1_, Q_X3_, Q_X4_, Q_X5_, Q_X6_, Q_X8_⟩ hb_ hon hoff
                 refine ⟨_, rfl, fun K hK => ?_⟩
                 have e30 : a.tmps[30]? = some (.agg #[.slice A1_0 l1_0.length c1_0]) := by rw [ha]; exact putSel_on (e := (2, 30, .agg #[.slice A1_0 l1_0.length c1_0])) 2 rfl rfl (hon 2 (by kernel_rfl)) rfl
                 replace ha := Aside0.mk ha
                 have BK211 := Aside0.mk Q_BK211
                 have BK212 := Aside0.mk Q_BK212
                 have HB := Aside0.mk Q_HB
                 have HO217 := Sq.m (Q_HO217 (hon 1 (by kernel_rfl)))
                 refine goes_ Try.func17 (by kernel_rfl) rfl #[.agg #[.slice A1_0 l1_0.length c1_0]] (by rfl) rfl rfl (by first | (simp only [List.map_toArray, List.map_cons, List.map_nil, Act.eval, Array.getD_eq_getD_getElem?, Option.getD_some, e30]; done) | (simp only [List.map_toArray, List.map_cons, List.map_nil, Act.eval, Array.getD_eq_getD_getElem?, Option.getD_some, e30]; rfl)) ?_
                 with_reducible refine (laws_toNat.calls k _ _ l1_0 t218 _ ?side1 ?side2 A20.out).mono ?_
                 (case side1 => repeat (first | exact (Kd.C_below HR1_0.out HB.out) | (with_reducible refine Kd.C_alloc ?_ _) | (with_reducible refine Kd.C_drewN ?_ _) | (with_reducible refine Kd.C_drew ?_)))
                 (case side2 => exact HC1_0.out)
                 rintro e w62 ⟨v219, rfl, ho0, hb⟩
                 refine ⟨_, rfl, ?_⟩
                 have n0_ := Sq.m (Kd.R_elder' (by apply Sq.ra; exact HO217.out) (Kd.R_base ho0) hb)
                 have n1_ := Sq.m (Kd.R_lower (Kd.R_new' ho0 (Kd.R_lt (by apply Sq.ra; exact HO217.out))) (below_size (by repeat (first | (with_reducible first | exact HB.out | apply Sq.rc | refine below_set ?_ GE211.out | refine below_set ?_ GE212.out) | exact HB.out))))
                 have n2_ := Sq.m (blk_below (g := gb211) (o := .cells #[.slice A0_0 l0_0.length c0_0] 24 (0, 0)) (by apply Sq.rb; exact BK211.out) hb)
                 have n3_ := Sq.m (blk_below (g := gb212) (o := .cells #[.slice A1_0 l1_0.length c1_0] 24 (0, 0)) (by apply Sq.rb; exact BK212.out) hb)
                 have n4_ := Sq.m (below_step (by repeat (first | (with_reducible first | exact HB.out | apply Sq.rc | refine below_set ?_ GE211.out | refine below_set ?_ GE212.out) | exact HB.out)) hb)
                 have z_BK225 := fun (h0_ : b 8 = true) (h1_ : b 9 = false) => (show w62.heap[gb225]? = some (.cells #[.slice none 0 0] 26 (0, 0)) from by first | exact (blk_below (g := gb225) (o := .cells #[.slice none 0 0] 26 (0, 0)) (by apply Sq.rb; exact (Q_BK225 h0_ h1_)) hb))
                 clear HO217
                 clear BK211
                 clear BK212
                 clear HB
                 have HO217 := n0_
                 have HO220 := n1_
                 have BK211 := n2_
                 have BK212 := n3_
                 have HB := n4_
                 clear n0_ n1_ n2_ n3_ n4_
                 (try clear hb)
                 (try clear hb2)
                 (try clear hk)
                 (try clear hi)
                 (try clear ho0)
                 refine hK.out _ _ ⟨v216, v219, v222, gb225, m1_, (.agg #[v219]), m4_, m5_, m6_, m8_, (by rw [ha.out]; exact putSel_upk 3 hb_ rfl rfl rfl), (by apply Sq.rb; exact BK211.out), (by apply Sq.rb; exact BK212.out), (by repeat (first | (with_reducible first | exact HB.out | apply Sq.rc | refine below_set ?_ GE211.out | refine below_set ?_ GE212.out) | exact HB.out)), fun _ => (by apply Sq.ra; exact Kd.R_mono HO217.out (fun _ hk => by first | exact True.intro | exact hk.1 | exact hk | exact hk.2 | simp only [hk, ne_eq, not_false_eq_true, and_self, and_true, true_and])), fun _ => (by apply Sq.ra; exact Kd.R_mono HO220.out (fun _ hk => by first | exact True.intro | exact hk.1 | exact hk | exact hk.2 | simp only [hk, ne_eq, not_false_eq_true, and_self, and_true, true_and])), fun h0_ => absurd ((hoff 4 (by kernel_rfl)).symm.trans h0_) (by decide), z_BK225, Q_GW225, Q_GE225, Q_NB211_225, Q_NB225_211, Q_NB212_225, Q_NB225_212, fun h0_ => absurd ((hoff 9 (by kernel_rfl)).symm.trans h0_) (by decide), Q_X1_, fun _ => rfl, fun h0_ => absurd ((hoff 4 (by kernel_rfl)).symm.trans h0_) (by decide), fun h0_ => absurd ((hoff 5 (by kernel_rfl)).symm.trans h0_) (by decide), fun h0_ => absurd ((hoff 6 (by kernel_rfl)).symm.trans h0_) (by decide), Q_X8_⟩
                refine steps_cons ?_ ?_
                ·rintro b a w' ⟨v216, v219, v222, gb225, m1_, m3_, m4_, m5_, m6_, m8_, ha, Q_BK211, Q_BK212, Q_HB, Q_HO217, Q_HO220, Q_HO223, Q_BK225, Q_GW225, Q_GE225, Q_NB211_225, Q_NB225_211, Q_NB212_225, Q_NB225_212, Q_BK225_e9, Q_X1_, Q_X3_, Q_X4_, Q_X5_, Q_X6_, Q_X8_⟩ hb_ hon hoff
                 refine ⟨_, rfl, fun K hK => ?_⟩
                 have e29 : a.tmps[29]? = some (m1_) := by rw [ha]; exact putSel_on (e := (1, 29, m1_)) 1 rfl rfl (hon 1 (by kernel_rfl)) rfl
                 rw [Q_X1_ (hon 1 (by kernel_rfl))] at e29
                 have e31 : a.tmps[31]? = some (m3_) := by rw [ha]; exact putSel_on (e := (3, 31, m3_)) 3 rfl rfl (hon 3 (by kernel_rfl)) rfl
                 rw [Q_X3_ (hon 3 (by kernel_rfl))] at e31
                 replace ha := Aside0.mk ha
                 have BK211 := Aside0.mk Q_BK211
                 have BK212 := Aside0.mk Q_BK212
                 have HB := Aside0.mk Q_HB
                 have HO217 := Sq.m (Q_HO217 (hon 1 (by kernel_rfl)))
                 have HO220 := Sq.m (Q_HO220 (hon 3 (by kernel_rfl)))
                 obtain ⟨Ao63, co63, eo63⟩ := Kd.R_slice HO217.out
                 (first | subst eo63 | (injection eo63 with f1_ f2_ f3_; have f4_ := f1_.symm; have f5_ := f3_.symm; clear f1_ f2_ f3_; subst f4_; subst f5_))
                 obtain ⟨Ao64, co64, eo64⟩ := Kd.R_slice HO220.out
                 (first | subst eo64 | (injection eo64 with f1_ f2_ f3_; have f4_ := f1_.symm; have f5_ := f3_.symm; clear f1_ f2_ f3_; subst f4_; subst f5_))
                 refine goes_ Try.func16 (by kernel_rfl) rfl #[.agg #[.slice Ao63 t215.length co63], .agg #[.slice Ao64 t218.length co64]] (by rfl) rfl rfl (by first | (simp only [List.map_toArray, List.map_cons, List.map_nil, Act.eval, Array.getD_eq_getD_getElem?, Option.getD_some, e29, e31]; done) | (simp only [List.map_toArray, List.map_cons, List.map_nil, Act.eval, Array.getD_eq_getD_getElem?, Option.getD_some, e29, e31]; rfl)) ?_
                 with_reducible refine (spec_NatMul.calls k _ _ t215 _ _ t218 t221 t224 _ ?side1 ?side2 ?side3 ?side4 A21.out).mono ?_
                 (case side1 => repeat (first | exact (Kd.R_reads' HO217.out).2.2 | (with_reducible refine Kd.C_alloc ?_ _) | (with_reducible refine Kd.C_drewN ?_ _) | (with_reducible refine Kd.C_drew ?_)))
                 (case side2 => exact (Kd.R_reads' HO217.out).2.1)
                 (case side3 => repeat (first | exact (Kd.R_reads' HO220.out).2.2 | (with_reducible refine Kd.C_alloc ?_ _) | (with_reducible refine Kd.C_drewN ?_ _) | (with_reducible refine Kd.C_drew ?_)))
                 (case side4 => exact (Kd.R_reads' HO220.out).2.1)
                 rintro e w65 ⟨v222, rfl, ho0, hb⟩
                 refine ⟨_, rfl, ?_⟩
                 have n0_ := Sq.m (Kd.R_elder' (by apply Sq.ra; exact HO217.out) (Kd.R_base ho0) hb)
                 have n1_ := Sq.m (Kd.R_elder' (by apply Sq.ra; exact HO220.out) (Kd.R_base ho0) hb)
                 have n2_ := Sq.m (Kd.R_lower (Kd.R_new' (Kd.R_new' ho0 (Kd.R_lt (by apply Sq.ra; exact HO217.out))) (Kd.R_lt (by apply Sq.ra; exact HO220.out))) (below_size (by repeat (first | (with_reducible first | exact HB.out | apply Sq.rc | refine below_set ?_ GE211.out | refine below_set ?_ GE212.out) | exact HB.out))))
                 have n3_ := Sq.m (blk_below (g := gb211) (o := .cells #[.slice A0_0 l0_0.length c0_0] 24 (0, 0)) (by apply Sq.rb; exact BK211.out) hb)
                 have n4_ := Sq.m (blk_below (g := gb212) (o := .cells #[.slice A1_0 l1_0.length c1_0] 24 (0, 0)) (by apply Sq.rb; exact BK212.out) hb)
                 have n5_ := Sq.m (below_step (by repeat (first | (with_reducible first | exact HB.out | apply Sq.rc | refine below_set ?_ GE211.out | refine below_set ?_ GE212.out) | exact HB.out)) hb)
                 have z_BK225 := fun (h0_ : b 8 = true) (h1_ : b 9 = false) => (show w65.heap[gb225]? = some (.cells #[.slice none 0 0] 26 (0, 0)) from by first | exact (blk_below (g := gb225) (o := .cells #[.slice none 0 0] 26 (0, 0)) (by apply Sq.rb; exact (Q_BK225 h0_ h1_)) hb))
                 clear HO217
                 clear HO220
                 clear BK211
                 clear BK212
                 clear HB
                 have HO217 := n0_
                 have HO220 := n1_
                 have HO223 := n2_
                 have BK211 := n3_
                 have BK212 := n4_
                 have HB := n5_
                 clear n0_ n1_ n2_ n3_ n4_ n5_
                 (try clear hb)
                 (try clear hb2)
                 (try clear hk)
                 (try clear hi)
                 (try clear ho0)
                 refine hK.out _ _ ⟨.slice Ao63 t215.length co63, .slice Ao64 t218.length co64, v222, gb225, m1_, m3_, (.tuple #[.agg #[v222], .bool t224]), m5_, m6_, m8_, (by rw [ha.out]; exact putSel_upk 4 hb_ rfl rfl rfl), (by apply Sq.rb; exact BK211.out), (by apply Sq.rb; exact BK212.out), (by repeat (first | (with_reducible first | exact HB.out | apply Sq.rc | refine below_set ?_ GE211.out | refine below_set ?_ GE212.out) | exact HB.out)), fun _ => (by apply Sq.ra; exact Kd.R_mono HO217.out (fun _ hk => by first | exact True.intro | exact hk.1 | exact hk | exact hk.2 | simp only [hk, ne_eq, not_false_eq_true, and_self, and_true, true_and])), fun _ => (by apply Sq.ra; exact Kd.R_mono HO220.out (fun _ hk => by first | exact True.intro | exact hk.1 | exact hk | exact hk.2 | simp only [hk, ne_eq, not_false_eq_true, and_self, and_true, true_and])), fun _ => (by apply Sq.ra; exact Kd.R_mono HO223.out (fun _ hk => by first | exact True.intro | exact hk.1 | exact hk | exact ⟨hk.1.2, hk.2⟩ | simp only [hk, ne_eq, not_false_eq_true, and_self, and_true, true_and])), z_BK225, Q_GW225, Q_GE225, Q_NB211_225, Q_NB225_211, Q_NB212_225, Q_NB225_212, fun h0_ => absurd ((hoff 9 (by kernel_rfl)).symm.trans h0_) (by decide), Q_X1_, Q_X3_, fun _ => rfl, fun h0_ => absurd ((hoff 5 (by kernel_rfl)).symm.trans h0_) (by decide), fun h0_ => absurd ((hoff 6 (by kernel_rfl)).symm.trans h0_) (by decide), Q_X8_⟩
                refine steps_cons ?_ ?_
                ·rintro b a w' ⟨v216, v219, v222, gb225, m1_, m3_, m4_, m5_, m6_, m8_, ha, Q_BK211, Q_BK212, Q_HB, Q_HO217, Q_HO220, Q_HO223, Q_BK225, Q_GW225, Q_GE225, Q_NB211_225, Q_NB225_211, Q_NB212_225, Q_NB225_212, Q_BK225_e9, Q_X1_, Q_X3_, Q_X4_, Q_X5_, Q_X6_, Q_X8_⟩ hb_ hon hoff
                 refine ⟨_, rfl, fun K hK => ?_⟩
                 have e32 : a.tmps[32]? = some (m4_) := by rw [ha]; exact putSel_on (e := (4, 32, m4_)) 4 rfl rfl (hon 4 (by kernel_rfl)) rfl
                 rw [Q_X4_ (hon 4 (by kernel_rfl))] at e32
                 replace ha := Aside0.mk ha
                 have BK211 := Aside0.mk Q_BK211
                 have BK212 := Aside0.mk Q_BK212
                 have HB := Aside0.mk Q_HB
                 have HO217 := Sq.m (Q_HO217 (hon 1 (by kernel_rfl)))
                 have HO220 := Sq.m (Q_HO220 (hon 3 (by kernel_rfl)))
                 have HO223 := Sq.m (Q_HO223 (hon 4 (by kernel_rfl)))
                 refine value_ (w1 := w') (v := .tuple #[.agg #[v222], .bool t224]) (by rfl) rfl ?_ ?_
                 ·go_simp
                  (try simp only [i64_w])
                  try rfl
                 refine hK.out _ _ ⟨v216, v219, v222, gb225, m1_, m3_, m4_, (.tuple #[.agg #[v222], .bool t224]), m6_, m8_, (by rw [ha.out]; exact putSel_upk 5 hb_ rfl rfl rfl), Q_BK211, Q_BK212, Q_HB, Q_HO217, Q_HO220, Q_HO223, Q_BK225, Q_GW225, Q_GE225, Q_NB211_225, Q_NB225_211, Q_NB212_225, Q_NB225_212, fun h0_ => absurd ((hoff 9 (by kernel_rfl)).symm.trans h0_) (by decide), Q_X1_, Q_X3_, Q_X4_, fun _ => rfl, fun h0_ => absurd ((hoff 6 (by kernel_rfl)).symm.trans h0_) (by decide), Q_X8_⟩
                refine steps_cons ?_ ?_
                ·rintro b a w' ⟨v216, v219, v222, gb225, m1_, m3_, m4_, m5_, m6_, m8_, ha, Q_BK211, Q_BK212, Q_HB, Q_HO217, Q_HO220, Q_HO223, Q_BK225, Q_GW225, Q_GE225, Q_NB211_225, Q_NB225_211, Q_NB212_225, Q_NB225_212, Q_BK225_e9, Q_X1_, Q_X3_, Q_X4_, Q_X5_, Q_X6_, Q_X8_⟩ hb_ hon hoff
                 refine ⟨_, rfl, fun K hK => ?_⟩
                 have e27 : a.tmps[27]? = some (m5_) := by rw [ha]; exact putSel_on (e := (5, 27, m5_)) 5 rfl rfl (hon 5 (by kernel_rfl)) rfl
                 rw [Q_X5_ (hon 5 (by kernel_rfl))] at e27
                 replace ha := Aside0.mk ha
                 have BK211 := Aside0.mk Q_BK211
                 have BK212 := Aside0.mk Q_BK212
                 have HB := Aside0.mk Q_HB
                 have HO217 := Sq.m (Q_HO217 (hon 1 (by kernel_rfl)))
                 have HO220 := Sq.m (Q_HO220 (hon 3 (by kernel_rfl)))
                 have HO223 := Sq.m (Q_HO223 (hon 4 (by kernel_rfl)))
                 refine value_ (w1 := w') (v := .agg #[v222]) (by rfl) rfl ?_ ?_
                 ·go_simp
                  (try simp only [i64_w])
                  try rfl
                 refine hK.out _ _ ⟨v216, v219, v222, gb225, m1_, m3_, m4_, m5_, (.agg #[v222]), m8_, (by rw [ha.out]; exact putSel_upk 6 hb_ rfl rfl rfl), Q_BK211, Q_BK212, Q_HB, Q_HO217, Q_HO220, Q_HO223, Q_BK225, Q_GW225, Q_GE225, Q_NB211_225, Q_NB225_211, Q_NB212_225, Q_NB225_212, fun h0_ => absurd ((hoff 9 (by kernel_rfl)).symm.trans h0_) (by decide), Q_X1_, Q_X3_, Q_X4_, Q_X5_, fun _ => rfl, Q_X8_⟩
                refine steps_cons ?_ ?_
                ·rintro b a w' ⟨v216, v219, v222, gb225, m1_, m3_, m4_, m5_, m6_, m8_, ha, Q_BK211, Q_BK212, Q_HB, Q_HO217, Q_HO220, Q_HO223, Q_BK225, Q_GW225, Q_GE225, Q_NB211_225, Q_NB225_211, Q_NB212_225, Q_NB225_212, Q_BK225_e9, Q_X1_, Q_X3_, Q_X4_, Q_X5_, Q_X6_, Q_X8_⟩ hb_ hon hoff
                 refine ⟨_, rfl, fun K hK => ?_⟩
                 have e27 : a.tmps[27]? = some (m5_) := by rw [ha]; exact putSel_on (e := (5, 27, m5_)) 5 rfl rfl (hon 5 (by kernel_rfl)) rfl
                 rw [Q_X5_ (hon 5 (by kernel_rfl))] at e27
                 replace ha := Aside0.mk ha
                 have BK211 := Aside0.mk Q_BK211
                 have BK212 := Aside0.mk Q_BK212
                 have HB := Aside0.mk Q_HB
                 have HO217 := Sq.m (Q_HO217 (hon 1 (by kernel_rfl)))
                 have HO220 := Sq.m (Q_HO220 (hon 3 (by kernel_rfl)))
                 have HO223 := Sq.m (Q_HO223 (hon 4 (by kernel_rfl)))
                 refine value_ (w1 := w') (v := .bool t224) (by rfl) rfl ?_ ?_
                 ·go_simp
                  (try simp only [i64_w])
                  try rfl
                 refine hK.out _ _ ⟨v216, v219, v222, gb225, m1_, m3_, m4_, m5_, m6_, m8_, (by rw [ha.out]; exact putSel_upk 7 hb_ rfl rfl rfl), Q_BK211, Q_BK212, Q_HB, Q_HO217, Q_HO220, Q_HO223, Q_BK225, Q_GW225, Q_GE225, Q_NB211_225, Q_NB225_211, Q_NB212_225, Q_NB225_212, Q_BK225_e9, Q_X1_, Q_X3_, Q_X4_, Q_X5_, Q_X6_, Q_X8_⟩
                refine steps_cons ?_ ?_
                ·rintro b a w' ⟨v216, v219, v222, gb225, m1_, m3_, m4_, m5_, m6_, m8_, ha, Q_BK211, Q_BK212, Q_HB, Q_HO217, Q_HO220, Q_HO223, Q_BK225, Q_GW225, Q_GE225, Q_NB211_225, Q_NB225_211, Q_NB212_225, Q_NB225_212, Q_BK225_e9, Q_X1_, Q_X3_, Q_X4_, Q_X5_, Q_X6_, Q_X8_⟩ hb_ hon hoff
                 refine ⟨_, rfl, fun K hK => ?_⟩
                 replace ha := Aside0.mk ha
                 have BK211 := Aside0.mk Q_BK211
                 have BK212 := Aside0.mk Q_BK212
                 have HB := Aside0.mk Q_HB
                 refine box_step ?hg (N := 6) ?hd (cs := #[.slice none 0 0]) (t := 26) ?hr ?_; (case hd => rfl); (case hg => rfl); (case hr => first | (go_simp; done) | (go_simp; rfl))
                 intro gb225 hg w60 hbox hb
                 have n0_ := Sq.m (blk_below (g := gb211) (o := .cells #[.slice A0_0 l0_0.length c0_0] 24 (0, 0)) (by apply Sq.rb; exact BK211.out) hb)
                 have n1_ := Sq.m (blk_below (g := gb212) (o := .cells #[.slice A1_0 l1_0.length c1_0] 24 (0, 0)) (by apply Sq.rb; exact BK212.out) hb)
                 have n2_ := Sq.m (below_step (by repeat (first | (with_reducible first | exact HB.out | apply Sq.rc | refine below_set ?_ GE211.out | refine below_set ?_ GE212.out) | exact HB.out)) hb)
                 have n3_ := Sq.m (hbox)
                 have n4_ := Sq.m ((by rw [hg]; exact (below_size (by repeat (first | (with_reducible first | exact HB.out | apply Sq.rc | refine below_set ?_ GE211.out | refine below_set ?_ GE212.out) | exact HB.out))) : w.heap.size ≤ gb225))
                 have n5_ := Sq.m ((by rw [hg]; exact (below_size (by repeat (first | (with_reducible first | exact HB.out | apply Sq.rc | refine below_set ?_ GE211.out | refine below_set ?_ GE212.out) | exact HB.out))) : w.heap.size ≤ gb225))
                 have n6_ := Sq.m ((by rw [hg]; exact Nat.ne_of_lt (blk_lt (g := gb211) (o := .cells #[.slice A0_0 l0_0.length c0_0] 24 (0, 0)) (by apply Sq.rb; exact BK211.out)) : gb211 ≠ gb225))
                 have n7_ := Sq.m ((by rw [hg]; exact Nat.ne_of_gt (blk_lt (g := gb211) (o := .cells #[.slice A0_0 l0_0.length c0_0] 24 (0, 0)) (by apply Sq.rb; exact BK211.out)) : gb225 ≠ gb211))
                 have n8_ := Sq.m ((by rw [hg]; exact Nat.ne_of_lt (blk_lt (g := gb212) (o := .cells #[.slice A1_0 l1_0.length c1_0] 24 (0, 0)) (by apply Sq.rb; exact BK212.out)) : gb212 ≠ gb225))
                 have n9_ := Sq.m ((by rw [hg]; exact Nat.ne_of_gt (blk_lt (g := gb212) (o := .cells #[.slice A1_0 l1_0.length c1_0] 24 (0, 0)) (by apply Sq.rb; exact BK212.out)) : gb225 ≠ gb212))
                 have z_HO217 := fun (h0_ : b 1 = true) => (show Kd.R (Kd.int .i64) 3 w60 w.heap.size (fun _ => True) v216 t215 from by first | exact (Kd.R_below (by apply Sq.ra; exact (Q_HO217 h0_)) hb) | exact Kd.R_mono (Kd.R_below (by apply Sq.ra; exact (Q_HO217 h0_)) hb) (fun _ h_ => by first | trivial | exact h_ | exact h_.1))
                 have z_HO220 := fun (h0_ : b 3 = true) => (show Kd.R (Kd.int .i64) 3 w60 w.heap.size (fun _ => True) v219 t218 from by first | exact (Kd.R_below (by apply Sq.ra; exact (Q_HO220 h0_)) hb) | exact Kd.R_mono (Kd.R_below (by apply Sq.ra; exact (Q_HO220 h0_)) hb) (fun _ h_ => by first | trivial | exact h_ | exact h_.1))
                 have z_HO223 := fun (h0_ : b 4 = true) => (show Kd.R (Kd.int .i64) 3 w60 w.heap.size (fun _ => True) v222 t221 from by first | exact (Kd.R_below (by apply Sq.ra; exact (Q_HO223 h0_)) hb) | exact Kd.R_mono (Kd.R_below (by apply Sq.ra; exact (Q_HO223 h0_)) hb) (fun _ h_ => by first | trivial | exact h_ | exact h_.1))
                 clear BK211
                 clear BK212
                 clear HB
                 have BK211 := n0_
                 have BK212 := n1_
                 have HB := n2_
                 have BK225 := n3_
                 have GW225 := n4_
                 have GE225 := n5_
                 have NB211_225 := n6_
                 have NB225_211 := n7_
                 have NB212_225 := n8_
                 have NB225_212 := n9_
                 clear n0_ n1_ n2_ n3_ n4_ n5_ n6_ n7_ n8_ n9_
                 clear hb hbox hg
                 refine hK.out _ _ ⟨v216, v219, v222, gb225, m1_, m3_, m4_, m5_, m6_, (.pointer (some ⟨gb225, 0, none⟩)), (by rw [ha.out]; exact putSel_upk 8 hb_ rfl rfl rfl), (by apply Sq.rb; exact BK211.out), (by apply Sq.rb; exact BK212.out), (by repeat (first | (with_reducible first | exact HB.out | apply Sq.rc | refine below_set ?_ GE211.out | refine below_set ?_ GE212.out | refine below_set ?_ GE225.out) | exact HB.out)), z_HO217, z_HO220, z_HO223, fun _ _ => (by apply Sq.rb; exact BK225.out), fun _ => GW225.out, fun _ => GE225.out, fun _ => NB211_225.out, fun _ => NB225_211.out, fun _ => NB212_225.out, fun _ => NB225_212.out, fun h0_ => absurd ((hoff 9 (by kernel_rfl)).symm.trans h0_) (by decide), Q_X1_, Q_X3_, Q_X4_, Q_X5_, Q_X6_, fun _ => rfl⟩
                refine steps_cons ?_ ?_
                ·rintro b a w' ⟨v216, v219, v222, gb225, m1_, m3_, m4_, m5_, m6_, m8_, ha, Q_BK211, Q_BK212, Q_HB, Q_HO217, Q_HO220, Q_HO223, Q_BK225, Q_GW225, Q_GE225, Q_NB211_225, Q_NB225_211, Q_NB212_225, Q_NB225_212, Q_BK225_e9, Q_X1_, Q_X3_, Q_X4_, Q_X5_, Q_X6_, Q_X8_⟩ hb_ hon hoff
                 refine ⟨_, rfl, fun K hK => ?_⟩
                 have e6 : a.tmps[6]? = some (m8_) := by rw [ha]; exact putSel_on (e := (8, 6, m8_)) 8 rfl rfl (hon 8 (by kernel_rfl)) rfl
                 rw [Q_X8_ (hon 8 (by kernel_rfl))] at e6
                 have e33 : a.tmps[33]? = some (m6_) := by rw [ha]; exact putSel_on (e := (6, 33, m6_)) 6 rfl rfl (hon 6 (by kernel_rfl)) rfl
                 rw [Q_X6_ (hon 6 (by kernel_rfl))] at e33
                 replace ha := Aside0.mk ha
                 have BK211 := Aside0.mk Q_BK211
                 have BK212 := Aside0.mk Q_BK212
                 have HB := Aside0.mk Q_HB
                 have HO217 := Sq.m (Q_HO217 (hon 1 (by kernel_rfl)))
                 have HO220 := Sq.m (Q_HO220 (hon 3 (by kernel_rfl)))
                 have HO223 := Sq.m (Q_HO223 (hon 4 (by kernel_rfl)))
                 have BK225 := Sq.m (Q_BK225 (hon 8 (by kernel_rfl)) hb_)
                 have GW225 := Sq.m (Q_GW225 (hon 8 (by kernel_rfl)))
                 have GE225 := Sq.m (Q_GE225 (hon 8 (by kernel_rfl)))
                 have NB211_225 := Sq.m (Q_NB211_225 (hon 8 (by kernel_rfl)))
                 have NB225_211 := Sq.m (Q_NB225_211 (hon 8 (by kernel_rfl)))
                 have NB212_225 := Sq.m (Q_NB212_225 (hon 8 (by kernel_rfl)))
                 have NB225_212 := Sq.m (Q_NB225_212 (hon 8 (by kernel_rfl)))
                 obtain ⟨Ao67, co67, eo67⟩ := Kd.R_slice HO223.out
                 (first | subst eo67 | (injection eo67 with f1_ f2_ f3_; have f4_ := f1_.symm; have f5_ := f3_.symm; clear f1_ f2_ f3_; subst f4_; subst f5_))
                 have hs68 : w'.cell? ⟨gb225, 0, none⟩ = some (.slice none 0 0) := (blk_cell BK225.out 0).trans rfl
                 have hfs68 := blk_frozen BK225.out 0
                 have hns68_0 := NB211_225.out
                 have hns68_1 := NB212_225.out
                 have hms68_0 := NB225_211.out
                 have hms68_1 := NB225_212.out
                 refine skip_ (w1 := ?_) (by rfl) rfl ?_ ?_
                 rotate_left
                 ·go_simp
                  rfl
                 refine hK.out _ _ ⟨v216, v219, .slice Ao67 t221.length co67, gb225, m1_, m3_, m4_, m5_, m6_, m8_, (by rw [ha.out]; exact putSel_none (v := undef) rfl), (by apply Sq.rb; refine blk_far ?_ NB211_225.out _; apply Sq.rb; exact BK211.out), (by apply Sq.rb; refine blk_far ?_ NB212_225.out _; apply Sq.rb; exact BK212.out), (by repeat (first | (with_reducible first | exact HB.out | apply Sq.rc | refine below_set ?_ GE211.out | refine below_set ?_ GE212.out | refine below_set ?_ GE225.out) | exact HB.out)), fun _ => (by apply Sq.ra; exact Kd.R_mono (Kd.R_far (p := ⟨gb225, 0, none⟩) (Kd.R_types HO217.out BK225.out (by decide)) (fun _ hk => hk.2) (.slice Ao67 t221.length co67)) (fun _ hk => trivial)), fun _ => (by apply Sq.ra; exact Kd.R_mono (Kd.R_far (p := ⟨gb225, 0, none⟩) (Kd.R_types HO220.out BK225.out (by decide)) (fun _ hk => hk.2) (.slice Ao67 t221.length co67)) (fun _ hk => trivial)), fun _ => (by apply Sq.ra; exact Kd.R_mono (Kd.R_far (p := ⟨gb225, 0, none⟩) (Kd.R_types HO223.out BK225.out (by decide)) (fun _ hk => hk.2) (.slice Ao67 t221.length co67)) (fun _ hk => trivial)), fun _ h1_ => absurd ((up_self b 9).symm.trans h1_) (by decide), fun _ => GW225.out, fun _ => GE225.out, fun _ => NB211_225.out, fun _ => NB225_211.out, fun _ => NB212_225.out, fun _ => NB225_212.out, fun _ => (by apply Sq.rb; refine blk_put (cs := #[.slice none 0 0]) ?_ 0 _ rfl; apply Sq.rb; exact BK225.out), Q_X1_, Q_X3_, Q_X4_, Q_X5_, Q_X6_, Q_X8_⟩
                refine steps_cons ?_ ?_
                ·rintro b a w' ⟨v216, v219, v222, gb225, m1_, m3_, m4_, m5_, m6_, m8_, ha, Q_BK211, Q_BK212, Q_HB, Q_HO217, Q_HO220, Q_HO223, Q_BK225, Q_GW225, Q_GE225, Q_NB211_225, Q_NB225_211, Q_NB212_225, Q_NB225_212, Q_BK225_e9, Q_X1_, Q_X3_, Q_X4_, Q_X5_, Q_X6_, Q_X8_⟩ hb_ hon hoff
                 refine ⟨_, rfl, fun K hK => ?_⟩
                 have e34 : a.tmps[34]? = some (.bool t224) := by rw [ha]; exact putSel_on (e := (7, 34, .bool t224)) 7 rfl rfl (hon 7 (by kernel_rfl)) rfl
                 replace ha := Aside0.mk ha
                 have BK211 := Aside0.mk Q_BK211
                 have BK212 := Aside0.mk Q_BK212
                 have HB := Aside0.mk Q_HB
                 have HO217 := Sq.m (Q_HO217 (hon 1 (by kernel_rfl)))
                 have HO220 := Sq.m (Q_HO220 (hon 3 (by kernel_rfl)))
                 have HO223 := Sq.m (Q_HO223 (hon 4 (by kernel_rfl)))
                 have GW225 := Sq.m (Q_GW225 (hon 8 (by kernel_rfl)))
                 have GE225 := Sq.m (Q_GE225 (hon 8 (by kernel_rfl)))
                 have NB211_225 := Sq.m (Q_NB211_225 (hon 8 (by kernel_rfl)))
                 have NB225_211 := Sq.m (Q_NB225_211 (hon 8 (by kernel_rfl)))
                 have NB212_225 := Sq.m (Q_NB212_225 (hon 8 (by kernel_rfl)))
                 have NB225_212 := Sq.m (Q_NB225_212 (hon 8 (by kernel_rfl)))
                 have BK225 := Sq.m (Q_BK225_e9 (hon 9 (by kernel_rfl)))
                 refine value_ (w1 := w') (v := .bool t224) (by rfl) rfl ?_ ?_
                 ·go_simp
                  (try simp only [i64_w])
                  try rfl
                 refine hK.out _ _ ⟨v216, v219, v222, gb225, m1_, m3_, m4_, m5_, m6_, m8_, (by rw [ha.out]; exact putSel_upk 9 hb_ rfl rfl rfl), Q_BK211, Q_BK212, Q_HB, Q_HO217, Q_HO220, Q_HO223, fun _ h1_ => absurd ((hon 9 (by kernel_rfl)).symm.trans h1_) (by decide), Q_GW225, Q_GE225, Q_NB211_225, Q_NB225_211, Q_NB212_225, Q_NB225_212, Q_BK225_e9, Q_X1_, Q_X3_, Q_X4_, Q_X5_, Q_X6_, Q_X8_⟩
                exact steps_nil
               rintro b a w68 hall ⟨v216, v219, v222, gb225, m1_, m3_, m4_, m5_, m6_, m8_, ha, Q_BK211, Q_BK212, Q_HB, Q_HO217, Q_HO220, Q_HO223, Q_BK225, Q_GW225, Q_GE225, Q_NB211_225, Q_NB225_211, Q_NB212_225, Q_NB225_212, Q_BK225_e9, Q_X1_, Q_X3_, Q_X4_, Q_X5_, Q_X6_, Q_X8_⟩
               clear BK211 BK212 HB
               have hb0_ := hall 0 (by kernel_rfl)
               have hb1_ := hall 1 (by kernel_rfl)
               have hb2_ := hall 2 (by kernel_rfl)
               have hb3_ := hall 3 (by kernel_rfl)
               have hb4_ := hall 4 (by kernel_rfl)
               have hb5_ := hall 5 (by kernel_rfl)
               have hb6_ := hall 6 (by kernel_rfl)
               have hb7_ := hall 7 (by kernel_rfl)
               have hb8_ := hall 8 (by kernel_rfl)
               have hb9_ := hall 9 (by kernel_rfl)
               have hb10_ := hall 10 (by kernel_rfl)
               subst ha
               obtain rfl := Q_X1_ hb1_
               obtain rfl := Q_X3_ hb3_
               obtain rfl := Q_X4_ hb4_
               obtain rfl := Q_X5_ hb5_
               obtain rfl := Q_X6_ hb6_
               obtain rfl := Q_X8_ hb8_
               simp only [putSel, hb0_, hb1_, hb2_, hb3_, hb4_, hb5_, hb6_, hb7_, hb8_, hb9_, hb10_, if_true, Act.put, List.setIfInBounds_toArray, List.set_cons_zero, List.set_cons_succ]
               have BK211 := Aside0.mk Q_BK211
               clear Q_BK211
               have BK212 := Aside0.mk Q_BK212
               clear Q_BK212
               have HB := Aside0.mk Q_HB
               clear Q_HB
               have HO217 := Sq.m (Q_HO217 hb1_)
               clear Q_HO217
               have HO220 := Sq.m (Q_HO220 hb3_)
               clear Q_HO220
               have HO223 := Sq.m (Q_HO223 hb4_)
               clear Q_HO223
               clear Q_BK225
               have GW225 := Sq.m (Q_GW225 hb8_)
               clear Q_GW225
               have GE225 := Sq.m (Q_GE225 hb8_)
               clear Q_GE225
               have NB211_225 := Sq.m (Q_NB211_225 hb8_)
               clear Q_NB211_225
               have NB225_211 := Sq.m (Q_NB225_211 hb8_)
               clear Q_NB225_211
               have NB212_225 := Sq.m (Q_NB212_225 hb8_)
               clear Q_NB212_225
               have NB225_212 := Sq.m (Q_NB225_212 hb8_)
               clear Q_NB225_212
               have BK225 := Sq.m (Q_BK225_e9 hb9_)
               clear Q_BK225_e9
               clear hall hb0_ hb1_ hb2_ hb3_ hb4_ hb5_ hb6_ hb7_ hb8_ hb9_ hb10_
               have hnb69 := NB211_225.out
               have hnc69 := NB225_211.out
               have hcz70_0 : w68.cell? ⟨gb211, 0, none⟩ = some (.slice A0_0 l0_0.length c0_0) := (blk_cell BK211.out 0).trans rfl
               have hfz70_0 := blk_frozen BK211.out 0
               try go_wp2_with (first | ((with_reducible refine gate_callee (f := 17) rfl ?_); refine goesL_ (some 36) rfl rfl Try.func17 (by kernel_rfl) rfl #[.agg #[.slice A0_0 l0_0.length c0_0]] rfl (by (try simp only [List.map_toArray, List.map_cons, List.map_nil]); first | done | rfl | (simp only [List.length_drop, List.length_take]; rfl) | (simp only [i64_w, u8_w, w64_b]; rfl)) ?_; (with_reducible refine (laws_toNat.calls k _ _ l0_0 t226 _ ?side1 ?side2 A22.out).mono ?_); (case side1 => repeat (first | exact (Kd.C_below HR0_0.out HB.out) | (with_reducible refine Kd.C_alloc ?_ _) | (with_reducible refine Kd.C_drewN ?_ _) | (with_reducible refine Kd.C_drew ?_))); (case side2 => exact HC0_0.out); rintro e w71 ⟨v227, rfl, ho0, hb⟩; refine ⟨_, rfl, ?_⟩; have n0_ := Sq.m (Kd.R_elder' (by apply Sq.ra; exact HO217.out) (Kd.R_base ho0) hb); have n1_ := Sq.m (Kd.R_elder' (by apply Sq.ra; exact HO220.out) (Kd.R_base ho0) hb); have n2_ := Sq.m (Kd.R_elder' (by apply Sq.ra; exact HO223.out) (Kd.R_base ho0) hb); have n3_ := Sq.m (Kd.R_lower (Kd.R_new' (Kd.R_new' (Kd.R_new' ho0 (Kd.R_lt (by apply Sq.ra; exact HO217.out))) (Kd.R_lt (by apply Sq.ra; exact HO220.out))) (Kd.R_lt (by apply Sq.ra; exact HO223.out))) (below_size (by repeat (first | (with_reducible first | exact HB.out | apply Sq.rc | refine below_set ?_ GE211.out | refine below_set ?_ GE212.out | refine below_set ?_ GE225.out) | exact HB.out)))); have n4_ := Sq.m (blk_below (g := gb211) (o := .cells #[.slice A0_0 l0_0.length c0_0] 24 (0, 0)) (by apply Sq.rb; exact BK211.out) hb); have n5_ := Sq.m (blk_below (g := gb212) (o := .cells #[.slice A1_0 l1_0.length c1_0] 24 (0, 0)) (by apply Sq.rb; exact BK212.out) hb); have n6_ := Sq.m (blk_below (g := gb225) (o := .cells #[v222] 26 (0, 0)) (by apply Sq.rb; exact BK225.out) hb); have n7_ := Sq.m (below_step (by repeat (first | (with_reducible first | exact HB.out | apply Sq.rc | refine below_set ?_ GE211.out | refine below_set ?_ GE212.out | refine below_set ?_ GE225.out) | exact HB.out)) hb); clear HO217; clear HO220; clear HO223; clear BK211; clear BK212; clear BK225; clear HB; have HO217 := n0_; have HO220 := n1_; have HO223 := n2_; have HO228 := n3_; have BK211 := n4_; have BK212 := n5_; have BK225 := n6_; have HB := n7_; clear n0_ n1_ n2_ n3_ n4_ n5_ n6_ n7_; (try clear hb); (try clear hb2); (try clear hk); (try clear hi); (try clear ho0)) | ((with_reducible refine gate_dst (N := 8) rfl ?_); refine box_event ?hg (N := 8) ?hd (cs := #[.slice none 0 0]) (t := 26) ?hr ?_; (case hd => rfl); (case hg => rfl); (case hr => first | (go_simp; done) | (go_simp; rfl)); intro gb229 hg w72 hbox hb; have n0_ := Sq.m (Kd.R_below (by apply Sq.ra; exact HO217.out) hb); have n1_ := Sq.m (Kd.R_below (by apply Sq.ra; exact HO220.out) hb); have n2_ := Sq.m (Kd.R_below (by apply Sq.ra; exact HO223.out) hb); have n3_ := Sq.m (Kd.R_below (by apply Sq.ra; exact HO228.out) hb); have n4_ := Sq.m (blk_below (g := gb211) (o := .cells #[.slice A0_0 l0_0.length c0_0] 24 (0, 0)) (by apply Sq.rb; exact BK211.out) hb); have n5_ := Sq.m (blk_below (g := gb212) (o := .cells #[.slice A1_0 l1_0.length c1_0] 24 (0, 0)) (by apply Sq.rb; exact BK212.out) hb); have n6_ := Sq.m (blk_below (g := gb225) (o := .cells #[v222] 26 (0, 0)) (by apply Sq.rb; exact BK225.out) hb); have n7_ := Sq.m (below_step (by repeat (first | (with_reducible first | exact HB.out | apply Sq.rc | refine below_set ?_ GE211.out | refine below_set ?_ GE212.out | refine below_set ?_ GE225.out) | exact HB.out)) hb); have n8_ := Sq.m (hbox); have n9_ := Sq.m ((by rw [hg]; exact (below_size (by repeat (first | (with_reducible first | exact HB.out | apply Sq.rc | refine below_set ?_ GE211.out | refine below_set ?_ GE212.out | refine below_set ?_ GE225.out) | exact HB.out))) : w.heap.size ≤ gb229)); have n10_ := Sq.m ((by rw [hg]; exact (below_size (by repeat (first | (with_reducible first | exact HB.out | apply Sq.rc | refine below_set ?_ GE211.out | refine below_set ?_ GE212.out | refine below_set ?_ GE225.out) | exact HB.out))) : w.heap.size ≤ gb229)); have n11_ := Sq.m ((by rw [hg]; exact Nat.ne_of_lt (blk_lt (g := gb211) (o := .cells #[.slice A0_0 l0_0.length c0_0] 24 (0, 0)) (by apply Sq.rb; exact BK211.out)) : gb211 ≠ gb229)); have n12_ := Sq.m ((by rw [hg]; exact Nat.ne_of_gt (blk_lt (g := gb211) (o := .cells #[.slice A0_0 l0_0.length c0_0] 24 (0, 0)) (by apply Sq.rb; exact BK211.out)) : gb229 ≠ gb211)); have n13_ := Sq.m ((by rw [hg]; exact Nat.ne_of_lt (blk_lt (g := gb212) (o := .cells #[.slice A1_0 l1_0.length c1_0] 24 (0, 0)) (by apply Sq.rb; exact BK212.out)) : gb212 ≠ gb229)); have n14_ := Sq.m ((by rw [hg]; exact Nat.ne_of_gt (blk_lt (g := gb212) (o := .cells #[.slice A1_0 l1_0.length c1_0] 24 (0, 0)) (by apply Sq.rb; exact BK212.out)) : gb229 ≠ gb212)); have n15_ := Sq.m ((by rw [hg]; exact Nat.ne_of_lt (blk_lt (g := gb225) (o := .cells #[v222] 26 (0, 0)) (by apply Sq.rb; exact BK225.out)) : gb225 ≠ gb229)); have n16_ := Sq.m ((by rw [hg]; exact Nat.ne_of_gt (blk_lt (g := gb225) (o := .cells #[v222] 26 (0, 0)) (by apply Sq.rb; exact BK225.out)) : gb229 ≠ gb225)); clear HO217; clear HO220; clear HO223; clear HO228; clear BK211; clear BK212; clear BK225; clear HB; have HO217 := n0_; have HO220 := n1_; have HO223 := n2_; have HO228 := n3_; have BK211 := n4_; have BK212 := n5_; have BK225 := n6_; have HB := n7_; have BK229 := n8_; have GW229 := n9_; have GE229 := n10_; have NB211_229 := n11_; have NB229_211 := n12_; have NB212_229 := n13_; have NB229_212 := n14_; have NB225_229 := n15_; have NB229_225 := n16_; clear n0_ n1_ n2_ n3_ n4_ n5_ n6_ n7_ n8_ n9_ n10_ n11_ n12_ n13_ n14_ n15_ n16_; clear hb hbox hg; obtain ⟨Ao73, co73, eo73⟩ := Kd.R_slice HO228.out; subst eo73; have hnb74 := NB229_211.out; have hnc74 := NB211_229.out; have hnb75 := NB229_212.out; have hnc75 := NB212_229.out; have hnb76 := NB229_225.out; have hnc76 := NB225_229.out; have hcz77_0 : w72.cell? ⟨gb229, 0, none⟩ = some (.slice none 0 0) := (blk_cell BK229.out 0).trans rfl; have hfz77_0 := blk_frozen BK229.out 0; have hnb78 := NB212_225.out; have hnc78 := NB225_212.out; have hcz79_0 : w72.cell? ⟨gb212, 0, none⟩ = some (.slice A1_0 l1_0.length c1_0) := (blk_cell BK212.out 0).trans rfl; have hfz79_0 := blk_frozen BK212.out 0) | ((with_reducible refine gate_callee (f := 17) rfl ?_); refine goesL_ (some 38) rfl rfl Try.func17 (by kernel_rfl) rfl #[.agg #[.slice A1_0 l1_0.length c1_0]] rfl (by (try simp only [List.map_toArray, List.map_cons, List.map_nil]); first | done | rfl | (simp only [List.length_drop, List.length_take]; rfl) | (simp only [i64_w, u8_w, w64_b]; rfl)) ?_; (with_reducible refine (laws_toNat.calls k _ _ l1_0 t230 _ ?side1 ?side2 A23.out).mono ?_); (case side1 => exact Kd.C_below HR1_0.out (by repeat (first | (with_reducible first | exact HB.out | apply Sq.rc | refine below_set ?_ GE211.out | refine below_set ?_ GE212.out | refine below_set ?_ GE225.out | refine below_set ?_ GE229.out) | exact HB.out))); (case side2 => exact HC1_0.out); rintro e w80 ⟨v231, rfl, ho0, hb⟩; refine ⟨_, rfl, ?_⟩; have n0_ := Sq.m (Kd.R_elder' (by apply Sq.ra; exact (Kd.R_mono (Kd.R_far (p := ⟨gb229, 0, none⟩) (Kd.R_types HO217.out BK229.out (by decide)) (fun _ hk => hk.2) (.slice Ao73 t226.length co73)) (fun _ h_ => h_.1))) (Kd.R_base ho0) hb); have n1_ := Sq.m (Kd.R_elder' (by apply Sq.ra; exact (Kd.R_mono (Kd.R_far (p := ⟨gb229, 0, none⟩) (Kd.R_types HO220.out BK229.out (by decide)) (fun _ hk => hk.2) (.slice Ao73 t226.length co73)) (fun _ h_ => h_.1))) (Kd.R_base ho0) hb); have n2_ := Sq.m (Kd.R_elder' (by apply Sq.ra; exact (Kd.R_mono (Kd.R_far (p := ⟨gb229, 0, none⟩) (Kd.R_types HO223.out BK229.out (by decide)) (fun _ hk => hk.2) (.slice Ao73 t226.length co73)) (fun _ h_ => h_.1))) (Kd.R_base ho0) hb); have n3_ := Sq.m (Kd.R_elder' (by apply Sq.ra; exact (Kd.R_mono (Kd.R_far (p := ⟨gb229, 0, none⟩) (Kd.R_types HO228.out BK229.out (by decide)) (fun _ hk => hk.2) (.slice Ao73 t226.length co73)) (fun _ h_ => h_.1))) (Kd.R_base ho0) hb); have n4_ := Sq.m (Kd.R_lower (Kd.R_new' (Kd.R_new' (Kd.R_new' (Kd.R_new' ho0 (Kd.R_lt (by apply Sq.ra; exact (Kd.R_mono (Kd.R_far (p := ⟨gb229, 0, none⟩) (Kd.R_types HO217.out BK229.out (by decide)) (fun _ hk => hk.2) (.slice Ao73 t226.length co73)) (fun _ h_ => h_.1))))) (Kd.R_lt (by apply Sq.ra; exact (Kd.R_mono (Kd.R_far (p := ⟨gb229, 0, none⟩) (Kd.R_types HO220.out BK229.out (by decide)) (fun _ hk => hk.2) (.slice Ao73 t226.length co73)) (fun _ h_ => h_.1))))) (Kd.R_lt (by apply Sq.ra; exact (Kd.R_mono (Kd.R_far (p := ⟨gb229, 0, none⟩) (Kd.R_types HO223.out BK229.out (by decide)) (fun _ hk => hk.2) (.slice Ao73 t226.length co73)) (fun _ h_ => h_.1))))) (Kd.R_lt (by apply Sq.ra; exact (Kd.R_mono (Kd.R_far (p := ⟨gb229, 0, none⟩) (Kd.R_types HO228.out BK229.out (by decide)) (fun _ hk => hk.2) (.slice Ao73 t226.length co73)) (fun _ h_ => h_.1))))) (below_size (by repeat (first | (with_reducible first | exact HB.out | apply Sq.rc | refine below_set ?_ GE211.out | refine below_set ?_ GE212.out | refine below_set ?_ GE225.out | refine below_set ?_ GE229.out) | exact HB.out)))); have n5_ := Sq.m (blk_below (g := gb211) (o := .cells #[.slice A0_0 l0_0.length c0_0] 24 (0, 0)) (by apply Sq.rb; refine blk_far ?_ NB211_229.out _; apply Sq.rb; exact BK211.out) hb); have n6_ := Sq.m (blk_below (g := gb212) (o := .cells #[.slice A1_0 l1_0.length c1_0] 24 (0, 0)) (by apply Sq.rb; refine blk_far ?_ NB212_229.out _; apply Sq.rb; exact BK212.out) hb); have n7_ := Sq.m (blk_below (g := gb225) (o := .cells #[v222] 26 (0, 0)) (by apply Sq.rb; refine blk_far ?_ NB225_229.out _; apply Sq.rb; exact BK225.out) hb); have n8_ := Sq.m (blk_below (g := gb229) (o := .cells #[.slice Ao73 t226.length co73] 26 (0, 0)) (by apply Sq.rb; refine blk_put (cs := #[.slice none 0 0]) ?_ 0 _ rfl; apply Sq.rb; exact BK229.out) hb); have n9_ := Sq.m (below_step (by repeat (first | (with_reducible first | exact HB.out | apply Sq.rc | refine below_set ?_ GE211.out | refine below_set ?_ GE212.out | refine below_set ?_ GE225.out | refine below_set ?_ GE229.out) | exact HB.out)) hb); clear HO217; clear HO220; clear HO223; clear HO228; clear BK211; clear BK212; clear BK225; clear BK229; clear HB; have HO217 := n0_; have HO220 := n1_; have HO223 := n2_; have HO228 := n3_; have HO232 := n4_; have BK211 := n5_; have BK212 := n6_; have BK225 := n7_; have BK229 := n8_; have HB := n9_; clear n0_ n1_ n2_ n3_ n4_ n5_ n6_ n7_ n8_ n9_; (try clear hb); (try clear hb2); (try clear hk); (try clear hi); (try clear ho0)) | ((with_reducible refine gate_dst (N := 9) rfl ?_); refine box_event ?hg (N := 9) ?hd (cs := #[.slice none 0 0]) (t := 26) ?hr ?_; (case hd => rfl); (case hg => rfl); (case hr => first | (go_simp; done) | (go_simp; rfl)); intro gb233 hg w81 hbox hb; have n0_ := Sq.m (Kd.R_below (by apply Sq.ra; exact HO217.out) hb); have n1_ := Sq.m (Kd.R_below (by apply Sq.ra; exact HO220.out) hb); have n2_ := Sq.m (Kd.R_below (by apply Sq.ra; exact HO223.out) hb); have n3_ := Sq.m (Kd.R_below (by apply Sq.ra; exact HO228.out) hb); have n4_ := Sq.m (Kd.R_below (by apply Sq.ra; exact HO232.out) hb); have n5_ := Sq.m (blk_below (g := gb211) (o := .cells #[.slice A0_0 l0_0.length c0_0] 24 (0, 0)) (by apply Sq.rb; exact BK211.out) hb); have n6_ := Sq.m (blk_below (g := gb212) (o := .cells #[.slice A1_0 l1_0.length c1_0] 24 (0, 0)) (by apply Sq.rb; exact BK212.out) hb); have n7_ := Sq.m (blk_below (g := gb225) (o := .cells #[v222] 26 (0, 0)) (by apply Sq.rb; exact BK225.out) hb); have n8_ := Sq.m (blk_below (g := gb229) (o := .cells #[.slice Ao73 t226.length co73] 26 (0, 0)) (by apply Sq.rb; exact BK229.out) hb); have n9_ := Sq.m (below_step (by repeat (first | (with_reducible first | exact HB.out | apply Sq.rc | refine below_set ?_ GE211.out | refine below_set ?_ GE212.out | refine below_set ?_ GE225.out | refine below_set ?_ GE229.out) | exact HB.out)) hb); have n10_ := Sq.m (hbox); have n11_ := Sq.m ((by rw [hg]; exact (below_size (by repeat (first | (with_reducible first | exact HB.out | apply Sq.rc | refine below_set ?_ GE211.out | refine below_set ?_ GE212.out | refine below_set ?_ GE225.out | refine below_set ?_ GE229.out) | exact HB.out))) : w.heap.size ≤ gb233)); have n12_ := Sq.m ((by rw [hg]; exact (below_size (by repeat (first | (with_reducible first | exact HB.out | apply Sq.rc | refine below_set ?_ GE211.out | refine below_set ?_ GE212.out | refine below_set ?_ GE225.out | refine below_set ?_ GE229.out) | exact HB.out))) : w.heap.size ≤ gb233)); have n13_ := Sq.m ((by rw [hg]; exact Nat.ne_of_lt (blk_lt (g := gb211) (o := .cells #[.slice A0_0 l0_0.length c0_0] 24 (0, 0)) (by apply Sq.rb; exact BK211.out)) : gb211 ≠ gb233)); have n14_ := Sq.m ((by rw [hg]; exact Nat.ne_of_gt (blk_lt (g := gb211) (o := .cells #[.slice A0_0 l0_0.length c0_0] 24 (0, 0)) (by apply Sq.rb; exact BK211.out)) : gb233 ≠ gb211)); have n15_ := Sq.m ((by rw [hg]; exact Nat.ne_of_lt (blk_lt (g := gb212) (o := .cells #[.slice A1_0 l1_0.length c1_0] 24 (0, 0)) (by apply Sq.rb; exact BK212.out)) : gb212 ≠ gb233)); have n16_ := Sq.m ((by rw [hg]; exact Nat.ne_of_gt (blk_lt (g := gb212) (o := .cells #[.slice A1_0 l1_0.length c1_0] 24 (0, 0)) (by apply Sq.rb; exact BK212.out)) : gb233 ≠ gb212)); have n17_ := Sq.m ((by rw [hg]; exact Nat.ne_of_lt (blk_lt (g := gb225) (o := .cells #[v222] 26 (0, 0)) (by apply Sq.rb; exact BK225.out)) : gb225 ≠ gb233)); have n18_ := Sq.m ((by rw [hg]; exact Nat.ne_of_gt (blk_lt (g := gb225) (o := .cells #[v222] 26 (0, 0)) (by apply Sq.rb; exact BK225.out)) : gb233 ≠ gb225)); have n19_ := Sq.m ((by rw [hg]; exact Nat.ne_of_lt (blk_lt (g := gb229) (o := .cells #[.slice Ao73 t226.length co73] 26 (0, 0)) (by apply Sq.rb; exact BK229.out)) : gb229 ≠ gb233)); have n20_ := Sq.m ((by rw [hg]; exact Nat.ne_of_gt (blk_lt (g := gb229) (o := .cells #[.slice Ao73 t226.length co73] 26 (0, 0)) (by apply Sq.rb; exact BK229.out)) : gb233 ≠ gb229)); clear HO217; clear HO220; clear HO223; clear HO228; clear HO232; clear BK211; clear BK212; clear BK225; clear BK229; clear HB; have HO217 := n0_; have HO220 := n1_; have HO223 := n2_; have HO228 := n3_; have HO232 := n4_; have BK211 := n5_; have BK212 := n6_; have BK225 := n7_; have BK229 := n8_; have HB := n9_; have BK233 := n10_; have GW233 := n11_; have GE233 := n12_; have NB211_233 := n13_; have NB233_211 := n14_; have NB212_233 := n15_; have NB233_212 := n16_; have NB225_233 := n17_; have NB233_225 := n18_; have NB229_233 := n19_; have NB233_229 := n20_; clear n0_ n1_ n2_ n3_ n4_ n5_ n6_ n7_ n8_ n9_ n10_ n11_ n12_ n13_ n14_ n15_ n16_ n17_ n18_ n19_ n20_; clear hb hbox hg; obtain ⟨Ao82, co82, eo82⟩ := Kd.R_slice HO232.out; subst eo82; have hnb83 := NB233_211.out; have hnc83 := NB211_233.out; have hnb84 := NB233_212.out; have hnc84 := NB212_233.out; have hnb85 := NB233_225.out; have hnc85 := NB225_233.out; have hnb86 := NB233_229.out; have hnc86 := NB229_233.out; have hcz87_0 : w81.cell? ⟨gb233, 0, none⟩ = some (.slice none 0 0) := (blk_cell BK233.out 0).trans rfl; have hfz87_0 := blk_frozen BK233.out 0; have hcz88_0 : w81.cell? ⟨gb229, 0, none⟩ = some (.slice Ao73 t226.length co73) := (blk_cell BK229.out 0).trans rfl; have hfz88_0 := blk_frozen BK229.out 0) | ((with_reducible refine gate_callee (f := 18) rfl ?_); refine goesL_ (some 42) rfl rfl Try.func18 (by kernel_rfl) rfl #[.agg #[.slice Ao73 t226.length co73], .agg #[.slice Ao82 t230.length co82]] rfl (by (try simp only [List.map_toArray, List.map_cons, List.map_nil]); first | done | rfl | (simp only [List.length_drop, List.length_take]; rfl) | (simp only [i64_w, u8_w, w64_b]; rfl)) ?_; (with_reducible refine (impl_NatMul.calls k _ _ t226 _ _ t230 t234 t237 _ ?side1 ?side2 ?side3 ?side4 A24.out).mono ?_); (case side1 => refine (Kd.R_reads' (e := 3) (base := w.heap.size) (ok := fun k_ => ((((True ∧ some k_ ≠ (v216 : Value).ownBlock) ∧ some k_ ≠ (v219 : Value).ownBlock) ∧ some k_ ≠ (v222 : Value).ownBlock) ∧ some k_ ≠ (.slice Ao82 t230.length co82 : Value).ownBlock)) (n := t226.length) (c := co73) ?_).2.2; exact (by apply Sq.ra; exact (Kd.R_mono (Kd.R_far (p := ⟨gb233, 0, none⟩) (Kd.R_types HO228.out BK233.out (by decide)) (fun _ hk => hk.2) (.slice Ao82 t230.length co82)) (fun _ h_ => h_.1)))); (case side2 => exact (Kd.R_reads' HO228.out).2.1); (case side3 => refine (Kd.R_reads' (e := 3) (base := w.heap.size) (ok := fun k_ => ((((True ∧ some k_ ≠ (v216 : Value).ownBlock) ∧ some k_ ≠ (v219 : Value).ownBlock) ∧ some k_ ≠ (v222 : Value).ownBlock) ∧ some k_ ≠ (.slice Ao73 t226.length co73 : Value).ownBlock)) (n := t230.length) (c := co82) ?_).2.2; exact (by apply Sq.ra; exact (Kd.R_mono (Kd.R_far (p := ⟨gb233, 0, none⟩) (Kd.R_types HO232.out BK233.out (by decide)) (fun _ hk => hk.2) (.slice Ao82 t230.length co82)) (fun _ h_ => h_.1)))); (case side4 => exact (Kd.R_reads' HO232.out).2.1); rintro e w89 ⟨v235, rfl, ho0, hb⟩; refine ⟨_, rfl, ?_⟩; have n0_ := Sq.m (Kd.R_elder' (by apply Sq.ra; exact (Kd.R_mono (Kd.R_far (p := ⟨gb233, 0, none⟩) (Kd.R_types HO217.out BK233.out (by decide)) (fun _ hk => hk.2) (.slice Ao82 t230.length co82)) (fun _ h_ => h_.1))) (Kd.R_base ho0) hb); have n1_ := Sq.m (Kd.R_elder' (by apply Sq.ra; exact (Kd.R_mono (Kd.R_far (p := ⟨gb233, 0, none⟩) (Kd.R_types HO220.out BK233.out (by decide)) (fun _ hk => hk.2) (.slice Ao82 t230.length co82)) (fun _ h_ => h_.1))) (Kd.R_base ho0) hb); have n2_ := Sq.m (Kd.R_elder' (by apply Sq.ra; exact (Kd.R_mono (Kd.R_far (p := ⟨gb233, 0, none⟩) (Kd.R_types HO223.out BK233.out (by decide)) (fun _ hk => hk.2) (.slice Ao82 t230.length co82)) (fun _ h_ => h_.1))) (Kd.R_base ho0) hb); have n3_ := Sq.m (Kd.R_elder' (by apply Sq.ra; exact (Kd.R_mono (Kd.R_far (p := ⟨gb233, 0, none⟩) (Kd.R_types HO228.out BK233.out (by decide)) (fun _ hk => hk.2) (.slice Ao82 t230.length co82)) (fun _ h_ => h_.1))) (Kd.R_base ho0) hb); have n4_ := Sq.m (Kd.R_elder' (by apply Sq.ra; exact (Kd.R_mono (Kd.R_far (p := ⟨gb233, 0, none⟩) (Kd.R_types HO232.out BK233.out (by decide)) (fun _ hk => hk.2) (.slice Ao82 t230.length co82)) (fun _ h_ => h_.1))) (Kd.R_base ho0) hb); have n5_ := Sq.m (Kd.R_lower (Kd.R_new' (Kd.R_new' (Kd.R_new' (Kd.R_new' (Kd.R_new' ho0 (Kd.R_lt (by apply Sq.ra; exact (Kd.R_mono (Kd.R_far (p := ⟨gb233, 0, none⟩) (Kd.R_types HO217.out BK233.out (by decide)) (fun _ hk => hk.2) (.slice Ao82 t230.length co82)) (fun _ h_ => h_.1))))) (Kd.R_lt (by apply Sq.ra; exact (Kd.R_mono (Kd.R_far (p := ⟨gb233, 0, none⟩) (Kd.R_types HO220.out BK233.out (by decide)) (fun _ hk => hk.2) (.slice Ao82 t230.length co82)) (fun _ h_ => h_.1))))) (Kd.R_lt (by apply Sq.ra; exact (Kd.R_mono (Kd.R_far (p := ⟨gb233, 0, none⟩) (Kd.R_types HO223.out BK233.out (by decide)) (fun _ hk => hk.2) (.slice Ao82 t230.length co82)) (fun _ h_ => h_.1))))) (Kd.R_lt (by apply Sq.ra; exact (Kd.R_mono (Kd.R_far (p := ⟨gb233, 0, none⟩) (Kd.R_types HO228.out BK233.out (by decide)) (fun _ hk => hk.2) (.slice Ao82 t230.length co82)) (fun _ h_ => h_.1))))) (Kd.R_lt (by apply Sq.ra; exact (Kd.R_mono (Kd.R_far (p := ⟨gb233, 0, none⟩) (Kd.R_types HO232.out BK233.out (by decide)) (fun _ hk => hk.2) (.slice Ao82 t230.length co82)) (fun _ h_ => h_.1))))) (below_size (by repeat (first | (with_reducible first | exact HB.out | apply Sq.rc | refine below_set ?_ GE211.out | refine below_set ?_ GE212.out | refine below_set ?_ GE225.out | refine below_set ?_ GE229.out | refine below_set ?_ GE233.out) | exact HB.out)))); have n6_ := Sq.m (blk_below (g := gb211) (o := .cells #[.slice A0_0 l0_0.length c0_0] 24 (0, 0)) (by apply Sq.rb; refine blk_far ?_ NB211_233.out _; apply Sq.rb; exact BK211.out) hb); have n7_ := Sq.m (blk_below (g := gb212) (o := .cells #[.slice A1_0 l1_0.length c1_0] 24 (0, 0)) (by apply Sq.rb; refine blk_far ?_ NB212_233.out _; apply Sq.rb; exact BK212.out) hb); have n8_ := Sq.m (blk_below (g := gb225) (o := .cells #[v222] 26 (0, 0)) (by apply Sq.rb; refine blk_far ?_ NB225_233.out _; apply Sq.rb; exact BK225.out) hb); have n9_ := Sq.m (blk_below (g := gb229) (o := .cells #[.slice Ao73 t226.length co73] 26 (0, 0)) (by apply Sq.rb; refine blk_far ?_ NB229_233.out _; apply Sq.rb; exact BK229.out) hb); have n10_ := Sq.m (blk_below (g := gb233) (o := .cells #[.slice Ao82 t230.length co82] 26 (0, 0)) (by apply Sq.rb; refine blk_put (cs := #[.slice none 0 0]) ?_ 0 _ rfl; apply Sq.rb; exact BK233.out) hb); have n11_ := Sq.m (below_step (by repeat (first | (with_reducible first | exact HB.out | apply Sq.rc | refine below_set ?_ GE211.out | refine below_set ?_ GE212.out | refine below_set ?_ GE225.out | refine below_set ?_ GE229.out | refine below_set ?_ GE233.out) | exact HB.out)) hb); clear HO217; clear HO220; clear HO223; clear HO228; clear HO232; clear BK211; clear BK212; clear BK225; clear BK229; clear BK233; clear HB; have HO217 := n0_; have HO220 := n1_; have HO223 := n2_; have HO228 := n3_; have HO232 := n4_; have HO236 := n5_; have BK211 := n6_; have BK212 := n7_; have BK225 := n8_; have BK229 := n9_; have BK233 := n10_; have HB := n11_; clear n0_ n1_ n2_ n3_ n4_ n5_ n6_ n7_ n8_ n9_ n10_ n11_; (try clear hb); (try clear hb2); (try clear hk); (try clear hi); (try clear ho0)) | ((with_reducible refine gate_dst (N := 10) rfl ?_); refine box_event ?hg (N := 10) ?hd (cs := #[.slice none 0 0]) (t := 26) ?hr ?_; (case hd => rfl); (case hg => rfl); (case hr => first | (go_simp; done) | (go_simp; rfl)); intro gb238 hg w90 hbox hb; have n0_ := Sq.m (Kd.R_below (by apply Sq.ra; exact HO217.out) hb); have n1_ := Sq.m (Kd.R_below (by apply Sq.ra; exact HO220.out) hb); have n2_ := Sq.m (Kd.R_below (by apply Sq.ra; exact HO223.out) hb); have n3_ := Sq.m (Kd.R_below (by apply Sq.ra; exact HO228.out) hb); have n4_ := Sq.m (Kd.R_below (by apply Sq.ra; exact HO232.out) hb); have n5_ := Sq.m (Kd.R_below (by apply Sq.ra; exact HO236.out) hb); have n6_ := Sq.m (blk_below (g := gb211) (o := .cells #[.slice A0_0 l0_0.length c0_0] 24 (0, 0)) (by apply Sq.rb; exact BK211.out) hb); have n7_ := Sq.m (blk_below (g := gb212) (o := .cells #[.slice A1_0 l1_0.length c1_0] 24 (0, 0)) (by apply Sq.rb; exact BK212.out) hb); have n8_ := Sq.m (blk_below (g := gb225) (o := .cells #[v222] 26 (0, 0)) (by apply Sq.rb; exact BK225.out) hb); have n9_ := Sq.m (blk_below (g := gb229) (o := .cells #[.slice Ao73 t226.length co73] 26 (0, 0)) (by apply Sq.rb; exact BK229.out) hb); have n10_ := Sq.m (blk_below (g := gb233) (o := .cells #[.slice Ao82 t230.length co82] 26 (0, 0)) (by apply Sq.rb; exact BK233.out) hb); have n11_ := Sq.m (below_step (by repeat (first | (with_reducible first | exact HB.out | apply Sq.rc | refine below_set ?_ GE211.out | refine below_set ?_ GE212.out | refine below_set ?_ GE225.out | refine below_set ?_ GE229.out | refine below_set ?_ GE233.out) | exact HB.out)) hb); have n12_ := Sq.m (hbox); have n13_ := Sq.m ((by rw [hg]; exact (below_size (by repeat (first | (with_reducible first | exact HB.out | apply Sq.rc | refine below_set ?_ GE211.out | refine below_set ?_ GE212.out | refine below_set ?_ GE225.out | refine below_set ?_ GE229.out | refine below_set ?_ GE233.out) | exact HB.out))) : w.heap.size ≤ gb238)); have n14_ := Sq.m ((by rw [hg]; exact (below_size (by repeat (first | (with_reducible first | exact HB.out | apply Sq.rc | refine below_set ?_ GE211.out | refine below_set ?_ GE212.out | refine below_set ?_ GE225.out | refine below_set ?_ GE229.out | refine below_set ?_ GE233.out) | exact HB.out))) : w.heap.size ≤ gb238)); have n15_ := Sq.m ((by rw [hg]; exact Nat.ne_of_lt (blk_lt (g := gb211) (o := .cells #[.slice A0_0 l0_0.length c0_0] 24 (0, 0)) (by apply Sq.rb; exact BK211.out)) : gb211 ≠ gb238)); have n16_ := Sq.m ((by rw [hg]; exact Nat.ne_of_gt (blk_lt (g := gb211) (o := .cells #[.slice A0_0 l0_0.length c0_0] 24 (0, 0)) (by apply Sq.rb; exact BK211.out)) : gb238 ≠ gb211)); have n17_ := Sq.m ((by rw [hg]; exact Nat.ne_of_lt (blk_lt (g := gb212) (o := .cells #[.slice A1_0 l1_0.length c1_0] 24 (0, 0)) (by apply Sq.rb; exact BK212.out)) : gb212 ≠ gb238)); have n18_ := Sq.m ((by rw [hg]; exact Nat.ne_of_gt (blk_lt (g := gb212) (o := .cells #[.slice A1_0 l1_0.length c1_0] 24 (0, 0)) (by apply Sq.rb; exact BK212.out)) : gb238 ≠ gb212)); have n19_ := Sq.m ((by rw [hg]; exact Nat.ne_of_lt (blk_lt (g := gb225) (o := .cells #[v222] 26 (0, 0)) (by apply Sq.rb; exact BK225.out)) : gb225 ≠ gb238)); have n20_ := Sq.m ((by rw [hg]; exact Nat.ne_of_gt (blk_lt (g := gb225) (o := .cells #[v222] 26 (0, 0)) (by apply Sq.rb; exact BK225.out)) : gb238 ≠ gb225)); have n21_ := Sq.m ((by rw [hg]; exact Nat.ne_of_lt (blk_lt (g := gb229) (o := .cells #[.slice Ao73 t226.length co73] 26 (0, 0)) (by apply Sq.rb; exact BK229.out)) : gb229 ≠ gb238)); have n22_ := Sq.m ((by rw [hg]; exact Nat.ne_of_gt (blk_lt (g := gb229) (o := .cells #[.slice Ao73 t226.length co73] 26 (0, 0)) (by apply Sq.rb; exact BK229.out)) : gb238 ≠ gb229)); have n23_ := Sq.m ((by rw [hg]; exact Nat.ne_of_lt (blk_lt (g := gb233) (o := .cells #[.slice Ao82 t230.length co82] 26 (0, 0)) (by apply Sq.rb; exact BK233.out)) : gb233 ≠ gb238)); have n24_ := Sq.m ((by rw [hg]; exact Nat.ne_of_gt (blk_lt (g := gb233) (o := .cells #[.slice Ao82 t230.length co82] 26 (0, 0)) (by apply Sq.rb; exact BK233.out)) : gb238 ≠ gb233)); clear HO217; clear HO220; clear HO223; clear HO228; clear HO232; clear HO236; clear BK211; clear BK212; clear BK225; clear BK229; clear BK233; clear HB; have HO217 := n0_; have HO220 := n1_; have HO223 := n2_; have HO228 := n3_; have HO232 := n4_; have HO236 := n5_; have BK211 := n6_; have BK212 := n7_; have BK225 := n8_; have BK229 := n9_; have BK233 := n10_; have HB := n11_; have BK238 := n12_; have GW238 := n13_; have GE238 := n14_; have NB211_238 := n15_; have NB238_211 := n16_; have NB212_238 := n17_; have NB238_212 := n18_; have NB225_238 := n19_; have NB238_225 := n20_; have NB229_238 := n21_; have NB238_229 := n22_; have NB233_238 := n23_; have NB238_233 := n24_; clear n0_ n1_ n2_ n3_ n4_ n5_ n6_ n7_ n8_ n9_ n10_ n11_ n12_ n13_ n14_ n15_ n16_ n17_ n18_ n19_ n20_ n21_ n22_ n23_ n24_; clear hb hbox hg; obtain ⟨Ao91, co91, eo91⟩ := Kd.R_slice HO236.out; subst eo91; have hnb92 := NB238_211.out; have hnc92 := NB211_238.out; have hnb93 := NB238_212.out; have hnc93 := NB212_238.out; have hnb94 := NB238_225.out; have hnc94 := NB225_238.out; have hnb95 := NB238_229.out; have hnc95 := NB229_238.out; have hnb96 := NB238_233.out; have hnc96 := NB233_238.out; have hcz97_0 : w90.cell? ⟨gb238, 0, none⟩ = some (.slice none 0 0) := (blk_cell BK238.out 0).trans rfl; have hfz97_0 := blk_frozen BK238.out 0; have hcz98_0 : w90.cell? ⟨gb225, 0, none⟩ = some (v222) := (blk_cell BK225.out 0).trans rfl; have hfz98_0 := blk_frozen BK225.out 0; obtain ⟨Ao99, co99, eo99⟩ := Kd.R_slice HO223.out; subst eo99) | ((with_reducible refine gate_callee (f := 19) rfl ?_); refine goesL_ (some 47) rfl rfl Try.func19 (by kernel_rfl) rfl #[.agg #[.slice Ao91 t234.length co91], .agg #[.slice Ao99 t221.length co99]] rfl (by (try simp only [List.map_toArray, List.map_cons, List.map_nil]); first | done | rfl | (simp only [List.length_drop, List.length_take]; rfl) | (simp only [i64_w, u8_w, w64_b]; rfl)) ?_; (with_reducible refine (laws_eqNat.calls k _ _ t234 _ _ t221 true _ ?side1 ?side2 ?side3 ?side4 A25.out).mono ?_); (case side1 => refine (Kd.R_reads' (e := 3) (base := w.heap.size) (ok := fun k_ => (((((True ∧ some k_ ≠ (v216 : Value).ownBlock) ∧ some k_ ≠ (v219 : Value).ownBlock) ∧ some k_ ≠ (.slice Ao99 t221.length co99 : Value).ownBlock) ∧ some k_ ≠ (.slice Ao73 t226.length co73 : Value).ownBlock) ∧ some k_ ≠ (.slice Ao82 t230.length co82 : Value).ownBlock)) (n := t234.length) (c := co91) ?_).2.2; exact (by apply Sq.ra; exact (Kd.R_mono (Kd.R_far (p := ⟨gb238, 0, none⟩) (Kd.R_types HO236.out BK238.out (by decide)) (fun _ hk => hk.2) (.slice Ao91 t234.length co91)) (fun _ h_ => h_.1)))); (case side2 => exact (Kd.R_reads' HO236.out).2.1); (case side3 => refine (Kd.R_reads' (e := 3) (base := w.heap.size) (ok := fun k_ => (((True ∧ some k_ ≠ (.slice Ao73 t226.length co73 : Value).ownBlock) ∧ some k_ ≠ (.slice Ao82 t230.length co82 : Value).ownBlock) ∧ some k_ ≠ (.slice Ao91 t234.length co91 : Value).ownBlock)) (n := t221.length) (c := co99) ?_).2.2; exact (by apply Sq.ra; exact (Kd.R_mono (Kd.R_far (p := ⟨gb238, 0, none⟩) (Kd.R_types HO223.out BK238.out (by decide)) (fun _ hk => hk.2) (.slice Ao91 t234.length co91)) (fun _ h_ => h_.1)))); (case side4 => exact (Kd.R_reads' HO223.out).2.1); rintro e w100 ⟨rfl, hb⟩; refine ⟨_, rfl, ?_⟩; have n0_ := Sq.m (Kd.R_below (by apply Sq.ra; exact (Kd.R_mono (Kd.R_far (p := ⟨gb238, 0, none⟩) (Kd.R_types HO217.out BK238.out (by decide)) (fun _ hk => hk.2) (.slice Ao91 t234.length co91)) (fun _ h_ => h_.1))) hb); have n1_ := Sq.m (Kd.R_below (by apply Sq.ra; exact (Kd.R_mono (Kd.R_far (p := ⟨gb238, 0, none⟩) (Kd.R_types HO220.out BK238.out (by decide)) (fun _ hk => hk.2) (.slice Ao91 t234.length co91)) (fun _ h_ => h_.1))) hb); have n2_ := Sq.m (Kd.R_below (by apply Sq.ra; exact (Kd.R_mono (Kd.R_far (p := ⟨gb238, 0, none⟩) (Kd.R_types HO223.out BK238.out (by decide)) (fun _ hk => hk.2) (.slice Ao91 t234.length co91)) (fun _ h_ => h_.1))) hb); have n3_ := Sq.m (Kd.R_below (by apply Sq.ra; exact (Kd.R_mono (Kd.R_far (p := ⟨gb238, 0, none⟩) (Kd.R_types HO228.out BK238.out (by decide)) (fun _ hk => hk.2) (.slice Ao91 t234.length co91)) (fun _ h_ => h_.1))) hb); have n4_ := Sq.m (Kd.R_below (by apply Sq.ra; exact (Kd.R_mono (Kd.R_far (p := ⟨gb238, 0, none⟩) (Kd.R_types HO232.out BK238.out (by decide)) (fun _ hk => hk.2) (.slice Ao91 t234.length co91)) (fun _ h_ => h_.1))) hb); have n5_ := Sq.m (Kd.R_below (by apply Sq.ra; exact (Kd.R_mono (Kd.R_far (p := ⟨gb238, 0, none⟩) (Kd.R_types HO236.out BK238.out (by decide)) (fun _ hk => hk.2) (.slice Ao91 t234.length co91)) (fun _ h_ => h_.1))) hb); have n6_ := Sq.m (blk_below (g := gb211) (o := .cells #[.slice A0_0 l0_0.length c0_0] 24 (0, 0)) (by apply Sq.rb; refine blk_far ?_ NB211_238.out _; apply Sq.rb; exact BK211.out) hb); have n7_ := Sq.m (blk_below (g := gb212) (o := .cells #[.slice A1_0 l1_0.length c1_0] 24 (0, 0)) (by apply Sq.rb; refine blk_far ?_ NB212_238.out _; apply Sq.rb; exact BK212.out) hb); have n8_ := Sq.m (blk_below (g := gb225) (o := .cells #[.slice Ao99 t221.length co99] 26 (0, 0)) (by apply Sq.rb; refine blk_far ?_ NB225_238.out _; apply Sq.rb; exact BK225.out) hb); have n9_ := Sq.m (blk_below (g := gb229) (o := .cells #[.slice Ao73 t226.length co73] 26 (0, 0)) (by apply Sq.rb; refine blk_far ?_ NB229_238.out _; apply Sq.rb; exact BK229.out) hb); have n10_ := Sq.m (blk_below (g := gb233) (o := .cells #[.slice Ao82 t230.length co82] 26 (0, 0)) (by apply Sq.rb; refine blk_far ?_ NB233_238.out _; apply Sq.rb; exact BK233.out) hb); have n11_ := Sq.m (blk_below (g := gb238) (o := .cells #[.slice Ao91 t234.length co91] 26 (0, 0)) (by apply Sq.rb; refine blk_put (cs := #[.slice none 0 0]) ?_ 0 _ rfl; apply Sq.rb; exact BK238.out) hb); have n12_ := Sq.m (below_step (by repeat (first | (with_reducible first | exact HB.out | apply Sq.rc | refine below_set ?_ GE211.out | refine below_set ?_ GE212.out | refine below_set ?_ GE225.out | refine below_set ?_ GE229.out | refine below_set ?_ GE233.out | refine below_set ?_ GE238.out) | exact HB.out)) hb); clear HO217; clear HO220; clear HO223; clear HO228; clear HO232; clear HO236; clear BK211; clear BK212; clear BK225; clear BK229; clear BK233; clear BK238; clear HB; have HO217 := n0_; have HO220 := n1_; have HO223 := n2_; have HO228 := n3_; have HO232 := n4_; have HO236 := n5_; have BK211 := n6_; have BK212 := n7_; have BK225 := n8_; have BK229 := n9_; have BK233 := n10_; have BK238 := n11_; have HB := n12_; clear n0_ n1_ n2_ n3_ n4_ n5_ n6_ n7_ n8_ n9_ n10_ n11_ n12_; (try clear hb); (try clear hb2); (try clear hk); (try clear hi)))
               have n0_ := Sq.m (Kd.R_drew HO217.out)
               have n1_ := Sq.m (Kd.R_drew HO220.out)
               have n2_ := Sq.m (Kd.R_drew HO223.out)
               have n3_ := Sq.m (Kd.R_drew HO228.out)
               have n4_ := Sq.m (Kd.R_drew HO232.out)
               have n5_ := Sq.m (Kd.R_drew HO236.out)
               have n6_ := Sq.m (blk_drew BK211.out)
               have n7_ := Sq.m (blk_drew BK212.out)
               have n8_ := Sq.m (blk_drew BK225.out)
               have n9_ := Sq.m (blk_drew BK229.out)
               have n10_ := Sq.m (blk_drew BK233.out)
               have n11_ := Sq.m (blk_drew BK238.out)
               have n12_ := Sq.m (below_drew1 HB.out)
               clear HO217
               clear HO220
               clear HO223
               clear HO228
               clear HO232
               clear HO236
               clear BK211
               clear BK212
               clear BK225
               clear BK229
               clear BK233
               clear BK238
               clear HB
               have HO217 := n0_
               have HO220 := n1_
               have HO223 := n2_
               have HO228 := n3_
               have HO232 := n4_
               have HO236 := n5_
               have BK211 := n6_
               have BK212 := n7_
               have BK225 := n8_
               have BK229 := n9_
               have BK233 := n10_
               have BK238 := n11_
               have HB := n12_
               clear n0_ n1_ n2_ n3_ n4_ n5_ n6_ n7_ n8_ n9_ n10_ n11_ n12_
               refine start_ (n := 5) (S := fun w' => w'.cell? ⟨gb229, 0, none⟩ = some (.slice Ao73 t226.length co73) ∧ w'.cell? ⟨gb211, 0, none⟩ = some (.slice A0_0 l0_0.length c0_0)) (ds := []) #[false, false, false, false, false] (by kernel_rfl) rfl rfl ⟨(blk_cell BK229.out 0).trans rfl, (blk_cell BK211.out 0).trans rfl⟩ (fun hHeld => ?_)
               generalize w100.drew = w101 at HO217 HO220 HO223 HO228 HO232 HO236 BK211 BK212 BK225 BK229 BK233 BK238 HB hHeld ⊢
               refine take_ (i := 0) (N := some 54) (v := ?_) (a' := ?_) #[true, false, false, false, false] rfl rfl (by kernel_rfl) (fun _ _ _ h => h) (Or.inl ⟨by rfl, ?_⟩) hHeld ?_ ?_
               rotate_left
               ·rintro w' ⟨s0, s1⟩
                go_simp
                with_reducible rfl
               rotate_left
               ·simp only [Act.put, List.setIfInBounds_toArray, List.set_cons_zero, List.set_cons_succ, i64_w, i32_w, u8_w, w64_b]
                rfl
               refine take_ (i := 1) (N := some 55) (v := ?_) (a' := ?_) #[true, true, false, false, false] rfl rfl (by kernel_rfl) (fun _ _ _ h => h) (Or.inl ⟨by rfl, ?_⟩) hHeld ?_ ?_
               rotate_left
               ·rintro w' ⟨s0, s1⟩
                go_simp
                with_reducible rfl
               rotate_left
               ·simp only [Act.put, List.setIfInBounds_toArray, List.set_cons_zero, List.set_cons_succ, i64_w, i32_w, u8_w, w64_b]
                rfl
               refine one_ (i := 2) (N := some 56) #[true, true, true, false, false] rfl rfl (by kernel_rfl) (by decide) (fun K hK => ?_)
               refine goes_ Try.func17 (by kernel_rfl) rfl #[.agg #[.slice A0_0 l0_0.length c0_0]] (by rfl) rfl rfl (by (try simp only [List.map_toArray, List.map_cons, List.map_nil]); first | done | rfl | (simp only [List.length_drop, List.length_take]; rfl) | (simp only [i64_w, u8_w, w64_b]; rfl)) ?_
               with_reducible refine (laws_toNat.calls k _ _ l0_0 t240 _ ?side1 ?side2 A28.out).mono ?_
               (case side1 => repeat (first | exact (Kd.C_below HR0_0.out HB.out) | (with_reducible refine Kd.C_alloc ?_ _) | (with_reducible refine Kd.C_drewN ?_ _) | (with_reducible refine Kd.C_drew ?_)))
               (case side2 => exact HC0_0.out)
               rintro e w102 ⟨v241, rfl, ho0, hb⟩
               refine ⟨_, rfl, ?_⟩
               have n0_ := Sq.m (Kd.R_elder' (by apply Sq.ra; exact HO217.out) (Kd.R_base ho0) hb)
               have n1_ := Sq.m (Kd.R_elder' (by apply Sq.ra; exact HO220.out) (Kd.R_base ho0) hb)
               have n2_ := Sq.m (Kd.R_elder' (by apply Sq.ra; exact HO223.out) (Kd.R_base ho0) hb)
               have n3_ := Sq.m (Kd.R_elder' (by apply Sq.ra; exact HO228.out) (Kd.R_base ho0) hb)
               have n4_ := Sq.m (Kd.R_elder' (by apply Sq.ra; exact HO232.out) (Kd.R_base ho0) hb)
               have n5_ := Sq.m (Kd.R_elder' (by apply Sq.ra; exact HO236.out) (Kd.R_base ho0) hb)
               have n6_ := Sq.m (Kd.R_lower (Kd.R_new' (Kd.R_new' (Kd.R_new' (Kd.R_new' (Kd.R_new' (Kd.R_new' ho0 (Kd.R_lt (by apply Sq.ra; exact HO217.out))) (Kd.R_lt (by apply Sq.ra; exact HO220.out))) (Kd.R_lt (by apply Sq.ra; exact HO223.out))) (Kd.R_lt (by apply Sq.ra; exact HO228.out))) (Kd.R_lt (by apply Sq.ra; exact HO232.out))) (Kd.R_lt (by apply Sq.ra; exact HO236.out))) (below_size (by repeat (first | (with_reducible first | exact HB.out | apply Sq.rc | refine below_set ?_ GE211.out | refine below_set ?_ GE212.out | refine below_set ?_ GE225.out | refine below_set ?_ GE229.out | refine below_set ?_ GE233.out | refine below_set ?_ GE238.out) | exact HB.out))))
               have n7_ := Sq.m (blk_below (g := gb211) (o := .cells #[.slice A0_0 l0_0.length c0_0] 24 (0, 0)) (by apply Sq.rb; exact BK211.out) hb)
               have n8_ := Sq.m (blk_below (g := gb212) (o := .cells #[.slice A1_0 l1_0.length c1_0] 24 (0, 0)) (by apply Sq.rb; exact BK212.out) hb)
               have n9_ := Sq.m (blk_below (g := gb225) (o := .cells #[.slice Ao99 t221.length co99] 26 (0, 0)) (by apply Sq.rb; exact BK225.out) hb)
               have n10_ := Sq.m (blk_below (g := gb229) (o := .cells #[.slice Ao73 t226.length co73] 26 (0, 0)) (by apply Sq.rb; exact BK229.out) hb)
               have n11_ := Sq.m (blk_below (g := gb233) (o := .cells #[.slice Ao82 t230.length co82] 26 (0, 0)) (by apply Sq.rb; exact BK233.out) hb)
               have n12_ := Sq.m (blk_below (g := gb238) (o := .cells #[.slice Ao91 t234.length co91] 26 (0, 0)) (by apply Sq.rb; exact BK238.out) hb)
               have n13_ := Sq.m (below_step (by repeat (first | (with_reducible first | exact HB.out | apply Sq.rc | refine below_set ?_ GE211.out | refine below_set ?_ GE212.out | refine below_set ?_ GE225.out | refine below_set ?_ GE229.out | refine below_set ?_ GE233.out | refine below_set ?_ GE238.out) | exact HB.out)) hb)
               clear HO217
               clear HO220
               clear HO223
               clear HO228
               clear HO232
               clear HO236
               clear BK211
               clear BK212
               clear BK225
               clear BK229
               clear BK233
               clear BK238
               clear HB
               have HO217 := n0_
               have HO220 := n1_
               have HO223 := n2_
               have HO228 := n3_
               have HO232 := n4_
               have HO236 := n5_
               have HO242 := n6_
               have BK211 := n7_
               have BK212 := n8_
               have BK225 := n9_
               have BK229 := n10_
               have BK233 := n11_
               have BK238 := n12_
               have HB := n13_
               clear n0_ n1_ n2_ n3_ n4_ n5_ n6_ n7_ n8_ n9_ n10_ n11_ n12_ n13_
               (try clear hb)
               (try clear hb2)
               (try clear hk)
               (try clear hi)
               (try clear ho0)
               obtain ⟨Ao103, co103, eo103⟩ := Kd.R_slice HO242.out
               (first | subst eo103 | (injection eo103 with f1_ f2_ f3_; have f4_ := f1_.symm; have f5_ := f3_.symm; clear f1_ f2_ f3_; subst f4_; subst f5_))
               refine hK.out _ _ ⟨(blk_cell BK229.out 0).trans rfl, (blk_cell BK211.out 0).trans rfl⟩ (fun hHeld => ?_)
               clear hK K
               refine norm_ (a' := ?_) ?_ ?_
               rotate_left
               ·show Act.put _ (some 56) _ = _
                simp only [Act.put, List.setIfInBounds_toArray, List.set_cons_zero, List.set_cons_succ, i64_w, i32_w, u8_w, w64_b]
                rfl
               refine one_ (i := 3) (N := some 57) #[true, true, true, true, false] rfl rfl (by kernel_rfl) (by decide) (fun K hK => ?_)
               refine goes_ Try.func19 (by kernel_rfl) rfl #[.agg #[.slice Ao73 t226.length co73], .agg #[.slice Ao103 t240.length co103]] (by rfl) rfl rfl (by (try simp only [List.map_toArray, List.map_cons, List.map_nil]); first | done | rfl | (simp only [List.length_drop, List.length_take]; rfl) | (simp only [i64_w, u8_w, w64_b]; rfl)) ?_
               with_reducible refine (laws_eqNat.calls k _ _ t226 _ _ t240 true _ ?side1 ?side2 ?side3 ?side4 A29.out).mono ?_
               (case side1 => repeat (first | exact (Kd.R_reads' HO228.out).2.2 | (with_reducible refine Kd.C_alloc ?_ _) | (with_reducible refine Kd.C_drewN ?_ _) | (with_reducible refine Kd.C_drew ?_)))
               (case side2 => exact (Kd.R_reads' HO228.out).2.1)
               (case side3 => repeat (first | exact (Kd.R_reads' HO242.out).2.2 | (with_reducible refine Kd.C_alloc ?_ _) | (with_reducible refine Kd.C_drewN ?_ _) | (with_reducible refine Kd.C_drew ?_)))
               (case side4 => exact (Kd.R_reads' HO242.out).2.1)
               rintro e w104 ⟨rfl, hb⟩
               refine ⟨_, rfl, ?_⟩
               have n0_ := Sq.m (Kd.R_below (by apply Sq.ra; exact HO217.out) hb)
               have n1_ := Sq.m (Kd.R_below (by apply Sq.ra; exact HO220.out) hb)
               have n2_ := Sq.m (Kd.R_below (by apply Sq.ra; exact HO223.out) hb)
               have n3_ := Sq.m (Kd.R_below (by apply Sq.ra; exact HO228.out) hb)
               have n4_ := Sq.m (Kd.R_below (by apply Sq.ra; exact HO232.out) hb)
               have n5_ := Sq.m (Kd.R_below (by apply Sq.ra; exact HO236.out) hb)
               have n6_ := Sq.m (Kd.R_below (by apply Sq.ra; exact HO242.out) hb)
               have n7_ := Sq.m (blk_below (g := gb211) (o := .cells #[.slice A0_0 l0_0.length c0_0] 24 (0, 0)) (by apply Sq.rb; exact BK211.out) hb)
               have n8_ := Sq.m (blk_below (g := gb212) (o := .cells #[.slice A1_0 l1_0.length c1_0] 24 (0, 0)) (by apply Sq.rb; exact BK212.out) hb)
               have n9_ := Sq.m (blk_below (g := gb225) (o := .cells #[.slice Ao99 t221.length co99] 26 (0, 0)) (by apply Sq.rb; exact BK225.out) hb)
               have n10_ := Sq.m (blk_below (g := gb229) (o := .cells #[.slice Ao73 t226.length co73] 26 (0, 0)) (by apply Sq.rb; exact BK229.out) hb)
               have n11_ := Sq.m (blk_below (g := gb233) (o := .cells #[.slice Ao82 t230.length co82] 26 (0, 0)) (by apply Sq.rb; exact BK233.out) hb)
               have n12_ := Sq.m (blk_below (g := gb238) (o := .cells #[.slice Ao91 t234.length co91] 26 (0, 0)) (by apply Sq.rb; exact BK238.out) hb)
               have n13_ := Sq.m (below_step (by repeat (first | (with_reducible first | exact HB.out | apply Sq.rc | refine below_set ?_ GE211.out | refine below_set ?_ GE212.out | refine below_set ?_ GE225.out | refine below_set ?_ GE229.out | refine below_set ?_ GE233.out | refine below_set ?_ GE238.out) | exact HB.out)) hb)
               clear HO217
               clear HO220
               clear HO223
               clear HO228
               clear HO232
               clear HO236
               clear HO242
               clear BK211
               clear BK212
               clear BK225
               clear BK229
               clear BK233
               clear BK238
               clear HB
               have HO217 := n0_
               have HO220 := n1_
               have HO223 := n2_
               have HO228 := n3_
               have HO232 := n4_
               have HO236 := n5_
               have HO242 := n6_
               have BK211 := n7_
               have BK212 := n8_
               have BK225 := n9_
               have BK229 := n10_
               have BK233 := n11_
               have BK238 := n12_
               have HB := n13_
               clear n0_ n1_ n2_ n3_ n4_ n5_ n6_ n7_ n8_ n9_ n10_ n11_ n12_ n13_
               (try clear hb)
               (try clear hb2)
               (try clear hk)
               (try clear hi)
               refine hK.out _ _ ⟨(blk_cell BK229.out 0).trans rfl, (blk_cell BK211.out 0).trans rfl⟩ (fun hHeld => ?_)
               clear hK K
               refine norm_ (a' := ?_) ?_ ?_
               rotate_left
               ·show Act.put _ (some 57) _ = _
                simp only [Act.put, List.setIfInBounds_toArray, List.set_cons_zero, List.set_cons_succ, i64_w, i32_w, u8_w, w64_b]
                rfl
               refine pure_ (i := 4) (N := some 58) (v := ?_) (a' := ?_) #[true, true, true, true, true] rfl rfl (by kernel_rfl) (fun _ _ _ h => h) (Or.inl ⟨by rfl, ?_⟩) ?_ ?_
               rotate_left
               ·intro w'
                go_simp
                with_reducible rfl
               rotate_left
               ·simp only [Act.put, List.setIfInBounds_toArray, List.set_cons_zero, List.set_cons_succ, i64_w, i32_w, u8_w, w64_b]
                rfl
               refine done_ (by kernel_rfl) ?_
               try go_wp2
               have n0_ := Sq.m (Kd.R_drew HO217.out)
               have n1_ := Sq.m (Kd.R_drew HO220.out)
               have n2_ := Sq.m (Kd.R_drew HO223.out)
               have n3_ := Sq.m (Kd.R_drew HO228.out)
               have n4_ := Sq.m (Kd.R_drew HO232.out)
               have n5_ := Sq.m (Kd.R_drew HO236.out)
               have n6_ := Sq.m (Kd.R_drew HO242.out)
               have n7_ := Sq.m (blk_drew BK211.out)
               have n8_ := Sq.m (blk_drew BK212.out)
               have n9_ := Sq.m (blk_drew BK225.out)
               have n10_ := Sq.m (blk_drew BK229.out)
               have n11_ := Sq.m (blk_drew BK233.out)
               have n12_ := Sq.m (blk_drew BK238.out)
               have n13_ := Sq.m (below_drew1 HB.out)
               clear HO217
               clear HO220
               clear HO223
               clear HO228
               clear HO232
               clear HO236
               clear HO242
               clear BK211
               clear BK212
               clear BK225
               clear BK229
               clear BK233
               clear BK238
               clear HB
               have HO217 := n0_
               have HO220 := n1_
               have HO223 := n2_
               have HO228 := n3_
               have HO232 := n4_
               have HO236 := n5_
               have HO242 := n6_
               have BK211 := n7_
               have BK212 := n8_
               have BK225 := n9_
               have BK229 := n10_
               have BK233 := n11_
               have BK238 := n12_
               have HB := n13_
               clear n0_ n1_ n2_ n3_ n4_ n5_ n6_ n7_ n8_ n9_ n10_ n11_ n12_ n13_
               refine start_ (n := 5) (S := fun w' => w'.cell? ⟨gb233, 0, none⟩ = some (.slice Ao82 t230.length co82) ∧ w'.cell? ⟨gb212, 0, none⟩ = some (.slice A1_0 l1_0.length c1_0)) (ds := []) #[false, false, false, false, false] (by kernel_rfl) rfl rfl ⟨(blk_cell BK233.out 0).trans rfl, (blk_cell BK212.out 0).trans rfl⟩ (fun hHeld => ?_)
               generalize w104.drew = w105 at HO217 HO220 HO223 HO228 HO232 HO236 HO242 BK211 BK212 BK225 BK229 BK233 BK238 HB hHeld ⊢
               refine take_ (i := 0) (N := some 59) (v := ?_) (a' := ?_) #[true, false, false, false, false] rfl rfl (by kernel_rfl) (fun _ _ _ h => h) (Or.inl ⟨by rfl, ?_⟩) hHeld ?_ ?_
               rotate_left
               ·rintro w' ⟨s0, s1⟩
                go_simp
                with_reducible rfl
               rotate_left
               ·simp only [Act.put, List.setIfInBounds_toArray, List.set_cons_zero, List.set_cons_succ, i64_w, i32_w, u8_w, w64_b]
                rfl
               refine take_ (i := 1) (N := some 60) (v := ?_) (a' := ?_) #[true, true, false, false, false] rfl rfl (by kernel_rfl) (fun _ _ _ h => h) (Or.inl ⟨by rfl, ?_⟩) hHeld ?_ ?_
               rotate_left
               ·rintro w' ⟨s0, s1⟩
                go_simp
                with_reducible rfl
               rotate_left
               ·simp only [Act.put, List.setIfInBounds_toArray, List.set_cons_zero, List.set_cons_succ, i64_w, i32_w, u8_w, w64_b]
                rfl
               refine one_ (i := 2) (N := some 61) #[true, true, true, false, false] rfl rfl (by kernel_rfl) (by decide) (fun K hK => ?_)
               refine goes_ Try.func17 (by kernel_rfl) rfl #[.agg #[.slice A1_0 l1_0.length c1_0]] (by rfl) rfl rfl (by (try simp only [List.map_toArray, List.map_cons, List.map_nil]); first | done | rfl | (simp only [List.length_drop, List.length_take]; rfl) | (simp only [i64_w, u8_w, w64_b]; rfl)) ?_
               with_reducible refine (laws_toNat.calls k _ _ l1_0 t244 _ ?side1 ?side2 A31.out).mono ?_
               (case side1 => repeat (first | exact (Kd.C_below HR1_0.out HB.out) | (with_reducible refine Kd.C_alloc ?_ _) | (with_reducible refine Kd.C_drewN ?_ _) | (with_reducible refine Kd.C_drew ?_)))
               (case side2 => exact HC1_0.out)
               rintro e w106 ⟨v245, rfl, ho0, hb⟩
               refine ⟨_, rfl, ?_⟩
               have n0_ := Sq.m (Kd.R_elder' (by apply Sq.ra; exact HO217.out) (Kd.R_base ho0) hb)
               have n1_ := Sq.m (Kd.R_elder' (by apply Sq.ra; exact HO220.out) (Kd.R_base ho0) hb)
               have n2_ := Sq.m (Kd.R_elder' (by apply Sq.ra; exact HO223.out) (Kd.R_base ho0) hb)
               have n3_ := Sq.m (Kd.R_elder' (by apply Sq.ra; exact HO228.out) (Kd.R_base ho0) hb)
               have n4_ := Sq.m (Kd.R_elder' (by apply Sq.ra; exact HO232.out) (Kd.R_base ho0) hb)
               have n5_ := Sq.m (Kd.R_elder' (by apply Sq.ra; exact HO236.out) (Kd.R_base ho0) hb)
               have n6_ := Sq.m (Kd.R_elder' (by apply Sq.ra; exact HO242.out) (Kd.R_base ho0) hb)
               have n7_ := Sq.m (Kd.R_lower (Kd.R_new' (Kd.R_new' (Kd.R_new' (Kd.R_new' (Kd.R_new' (Kd.R_new' (Kd.R_new' ho0 (Kd.R_lt (by apply Sq.ra; exact HO217.out))) (Kd.R_lt (by apply Sq.ra; exact HO220.out))) (Kd.R_lt (by apply Sq.ra; exact HO223.out))) (Kd.R_lt (by apply Sq.ra; exact HO228.out))) (Kd.R_lt (by apply Sq.ra; exact HO232.out))) (Kd.R_lt (by apply Sq.ra; exact HO236.out))) (Kd.R_lt (by apply Sq.ra; exact HO242.out))) (below_size (by repeat (first | (with_reducible first | exact HB.out | apply Sq.rc | refine below_set ?_ GE211.out | refine below_set ?_ GE212.out | refine below_set ?_ GE225.out | refine below_set ?_ GE229.out | refine below_set ?_ GE233.out | refine below_set ?_ GE238.out) | exact HB.out))))
               have n8_ := Sq.m (blk_below (g := gb211) (o := .cells #[.slice A0_0 l0_0.length c0_0] 24 (0, 0)) (by apply Sq.rb; exact BK211.out) hb)
               have n9_ := Sq.m (blk_below (g := gb212) (o := .cells #[.slice A1_0 l1_0.length c1_0] 24 (0, 0)) (by apply Sq.rb; exact BK212.out) hb)
               have n10_ := Sq.m (blk_below (g := gb225) (o := .cells #[.slice Ao99 t221.length co99] 26 (0, 0)) (by apply Sq.rb; exact BK225.out) hb)
               have n11_ := Sq.m (blk_below (g := gb229) (o := .cells #[.slice Ao73 t226.length co73] 26 (0, 0)) (by apply Sq.rb; exact BK229.out) hb)
               have n12_ := Sq.m (blk_below (g := gb233) (o := .cells #[.slice Ao82 t230.length co82] 26 (0, 0)) (by apply Sq.rb; exact BK233.out) hb)
               have n13_ := Sq.m (blk_below (g := gb238) (o := .cells #[.slice Ao91 t234.length co91] 26 (0, 0)) (by apply Sq.rb; exact BK238.out) hb)
               have n14_ := Sq.m (below_step (by repeat (first | (with_reducible first | exact HB.out | apply Sq.rc | refine below_set ?_ GE211.out | refine below_set ?_ GE212.out | refine below_set ?_ GE225.out | refine below_set ?_ GE229.out | refine below_set ?_ GE233.out | refine below_set ?_ GE238.out) | exact HB.out)) hb)
               clear HO217
               clear HO220
               clear HO223
               clear HO228
               clear HO232
               clear HO236
               clear HO242
               clear BK211
               clear BK212
               clear BK225
               clear BK229
               clear BK233
               clear BK238
               clear HB
               have HO217 := n0_
               have HO220 := n1_
               have HO223 := n2_
               have HO228 := n3_
               have HO232 := n4_
               have HO236 := n5_
               have HO242 := n6_
               have HO246 := n7_
               have BK211 := n8_
               have BK212 := n9_
               have BK225 := n10_
               have BK229 := n11_
               have BK233 := n12_
               have BK238 := n13_
               have HB := n14_
               clear n0_ n1_ n2_ n3_ n4_ n5_ n6_ n7_ n8_ n9_ n10_ n11_ n12_ n13_ n14_
               (try clear hb)
               (try clear hb2)
               (try clear hk)
               (try clear hi)
               (try clear ho0)
               obtain ⟨Ao107, co107, eo107⟩ := Kd.R_slice HO246.out
               (first | subst eo107 | (injection eo107 with f1_ f2_ f3_; have f4_ := f1_.symm; have f5_ := f3_.symm; clear f1_ f2_ f3_; subst f4_; subst f5_))
               refine hK.out _ _ ⟨(blk_cell BK233.out 0).trans rfl, (blk_cell BK212.out 0).trans rfl⟩ (fun hHeld => ?_)
               clear hK K
               refine norm_ (a' := ?_) ?_ ?_
               rotate_left
               ·show Act.put _ (some 61) _ = _
                simp only [Act.put, List.setIfInBounds_toArray, List.set_cons_zero, List.set_cons_succ, i64_w, i32_w, u8_w, w64_b]
                rfl
               refine one_ (i := 3) (N := some 62) #[true, true, true, true, false] rfl rfl (by kernel_rfl) (by decide) (fun K hK => ?_)
               refine goes_ Try.func19 (by kernel_rfl) rfl #[.agg #[.slice Ao82 t230.length co82], .agg #[.slice Ao107 t244.length co107]] (by rfl) rfl rfl (by (try simp only [List.map_toArray, List.map_cons, List.map_nil]); first | done | rfl | (simp only [List.length_drop, List.length_take]; rfl) | (simp only [i64_w, u8_w, w64_b]; rfl)) ?_
               with_reducible refine (laws_eqNat.calls k _ _ t230 _ _ t244 true _ ?side1 ?side2 ?side3 ?side4 A32.out).mono ?_
               (case side1 => repeat (first | exact (Kd.R_reads' HO232.out).2.2 | (with_reducible refine Kd.C_alloc ?_ _) | (with_reducible refine Kd.C_drewN ?_ _) | (with_reducible refine Kd.C_drew ?_)))
               (case side2 => exact (Kd.R_reads' HO232.out).2.1)
               (case side3 => repeat (first | exact (Kd.R_reads' HO246.out).2.2 | (with_reducible refine Kd.C_alloc ?_ _) | (with_reducible refine Kd.C_drewN ?_ _) | (with_reducible refine Kd.C_drew ?_)))
               (case side4 => exact (Kd.R_reads' HO246.out).2.1)
               rintro e w108 ⟨rfl, hb⟩
               refine ⟨_, rfl, ?_⟩
               have n0_ := Sq.m (Kd.R_below (by apply Sq.ra; exact HO217.out) hb)
               have n1_ := Sq.m (Kd.R_below (by apply Sq.ra; exact HO220.out) hb)
               have n2_ := Sq.m (Kd.R_below (by apply Sq.ra; exact HO223.out) hb)
               have n3_ := Sq.m (Kd.R_below (by apply Sq.ra; exact HO228.out) hb)
               have n4_ := Sq.m (Kd.R_below (by apply Sq.ra; exact HO232.out) hb)
               have n5_ := Sq.m (Kd.R_below (by apply Sq.ra; exact HO236.out) hb)
               have n6_ := Sq.m (Kd.R_below (by apply Sq.ra; exact HO242.out) hb)
               have n7_ := Sq.m (Kd.R_below (by apply Sq.ra; exact HO246.out) hb)
               have n8_ := Sq.m (blk_below (g := gb211) (o := .cells #[.slice A0_0 l0_0.length c0_0] 24 (0, 0)) (by apply Sq.rb; exact BK211.out) hb)
               have n9_ := Sq.m (blk_below (g := gb212) (o := .cells #[.slice A1_0 l1_0.length c1_0] 24 (0, 0)) (by apply Sq.rb; exact BK212.out) hb)
               have n10_ := Sq.m (blk_below (g := gb225) (o := .cells #[.slice Ao99 t221.length co99] 26 (0, 0)) (by apply Sq.rb; exact BK225.out) hb)
               have n11_ := Sq.m (blk_below (g := gb229) (o := .cells #[.slice Ao73 t226.length co73] 26 (0, 0)) (by apply Sq.rb; exact BK229.out) hb)
               have n12_ := Sq.m (blk_below (g := gb233) (o := .cells #[.slice Ao82 t230.length co82] 26 (0, 0)) (by apply Sq.rb; exact BK233.out) hb)
               have n13_ := Sq.m (blk_below (g := gb238) (o := .cells #[.slice Ao91 t234.length co91] 26 (0, 0)) (by apply Sq.rb; exact BK238.out) hb)
               have n14_ := Sq.m (below_step (by repeat (first | (with_reducible first | exact HB.out | apply Sq.rc | refine below_set ?_ GE211.out | refine below_set ?_ GE212.out | refine below_set ?_ GE225.out | refine below_set ?_ GE229.out | refine below_set ?_ GE233.out | refine below_set ?_ GE238.out) | exact HB.out)) hb)
               clear HO217
               clear HO220
               clear HO223
               clear HO228
               clear HO232
               clear HO236
               clear HO242
               clear HO246
               clear BK211
               clear BK212
               clear BK225
               clear BK229
               clear BK233
               clear BK238
               clear HB
               have HO217 := n0_
               have HO220 := n1_
               have HO223 := n2_
               have HO228 := n3_
               have HO232 := n4_
               have HO236 := n5_
               have HO242 := n6_
               have HO246 := n7_
               have BK211 := n8_
               have BK212 := n9_
               have BK225 := n10_
               have BK229 := n11_
               have BK233 := n12_
               have BK238 := n13_
               have HB := n14_
               clear n0_ n1_ n2_ n3_ n4_ n5_ n6_ n7_ n8_ n9_ n10_ n11_ n12_ n13_ n14_
               (try clear hb)
               (try clear hb2)
               (try clear hk)
               (try clear hi)
               refine hK.out _ _ ⟨(blk_cell BK233.out 0).trans rfl, (blk_cell BK212.out 0).trans rfl⟩ (fun hHeld => ?_)
               clear hK K
               refine norm_ (a' := ?_) ?_ ?_
               rotate_left
               ·show Act.put _ (some 62) _ = _
                simp only [Act.put, List.setIfInBounds_toArray, List.set_cons_zero, List.set_cons_succ, i64_w, i32_w, u8_w, w64_b]
                rfl
               refine pure_ (i := 4) (N := some 63) (v := ?_) (a' := ?_) #[true, true, true, true, true] rfl rfl (by kernel_rfl) (fun _ _ _ h => h) (Or.inl ⟨by rfl, ?_⟩) ?_ ?_
               rotate_left
               ·intro w'
                go_simp
                with_reducible rfl
               rotate_left
               ·simp only [Act.put, List.setIfInBounds_toArray, List.set_cons_zero, List.set_cons_succ, i64_w, i32_w, u8_w, w64_b]
                rfl
               refine done_ (by kernel_rfl) ?_
               have hcz109_0 : w108.cell? ⟨gb229, 0, none⟩ = some (.slice Ao73 t226.length co73) := (blk_cell BK229.out 0).trans rfl
               have hfz109_0 := blk_frozen BK229.out 0
               try go_wp2_with (first | ((with_reducible refine gate_callee (f := 20) rfl ?_); refine goesL_ (some 66) rfl rfl Try.func20 (by kernel_rfl) rfl #[.agg #[.slice Ao73 t226.length co73], .int .i64 1] rfl (by (try simp only [List.map_toArray, List.map_cons, List.map_nil]); first | done | rfl | (simp only [List.length_drop, List.length_take]; rfl) | (simp only [i64_w, u8_w, w64_b]; rfl)) ?_; (with_reducible refine (laws_markNat.calls k (fun k_ => some k_ = (.slice Ao73 t226.length co73 : Value).ownBlock) (.slice Ao73 t226.length co73) t226 1 t248 t249 w _ ?side1 ?side2 A34.out).mono ?_); (case side1 => repeat (first | (with_reducible first | exact HB.out | apply Sq.rc | refine below_set ?_ GE211.out | refine below_set ?_ GE212.out | refine below_set ?_ GE225.out | refine below_set ?_ GE229.out | refine below_set ?_ GE233.out | refine below_set ?_ GE238.out) | exact HB.out)); (case side2 => exact Kd.R_tight rfl HO228.out); rintro e w110 ⟨rfl, hy0, hb, hkp⟩; refine ⟨_, rfl, ?_⟩; have n0_ := Sq.m (blk_kept (by apply Sq.rb; exact BK211.out) hkp (fun hs_ => (fun e_ => (Kd.R_ne HO228.out BK211.out (by decide)) e_) hs_)); have n1_ := Sq.m (blk_kept (by apply Sq.rb; exact BK212.out) hkp (fun hs_ => (fun e_ => (Kd.R_ne HO228.out BK212.out (by decide)) e_) hs_)); have n2_ := Sq.m (Kd.R_mono (ok' := fun k_ => some k_ ≠ (.slice Ao73 t226.length co73 : Value).ownBlock ∧ some k_ ≠ (.slice Ao82 t230.length co82 : Value).ownBlock ∧ some k_ ≠ (.slice Ao91 t234.length co91 : Value).ownBlock ∧ some k_ ≠ (.slice Ao103 t240.length co103 : Value).ownBlock ∧ some k_ ≠ (.slice Ao107 t244.length co107 : Value).ownBlock) (Kd.R_keptB (HO217.out) hkp (fun k_ hk_ hs_ => (hk_.1.1.1.1.2) hs_)) (fun k_ hk_ => ⟨hk_.1.1.1.1.1.2, hk_.1.1.1.1.2, hk_.1.1.1.2, hk_.1.1.2, hk_.1.2⟩)); have n3_ := Sq.m (Kd.R_mono (ok' := fun k_ => some k_ ≠ (.slice Ao73 t226.length co73 : Value).ownBlock ∧ some k_ ≠ (.slice Ao82 t230.length co82 : Value).ownBlock ∧ some k_ ≠ (.slice Ao91 t234.length co91 : Value).ownBlock ∧ some k_ ≠ (.slice Ao103 t240.length co103 : Value).ownBlock ∧ some k_ ≠ (.slice Ao107 t244.length co107 : Value).ownBlock) (Kd.R_keptB (HO220.out) hkp (fun k_ hk_ hs_ => (hk_.1.1.1.1.2) hs_)) (fun k_ hk_ => ⟨hk_.1.1.1.1.1.2, hk_.1.1.1.1.2, hk_.1.1.1.2, hk_.1.1.2, hk_.1.2⟩)); have n4_ := Sq.m (Kd.R_mono (ok' := fun k_ => some k_ ≠ (.slice Ao73 t226.length co73 : Value).ownBlock ∧ some k_ ≠ (.slice Ao82 t230.length co82 : Value).ownBlock ∧ some k_ ≠ (.slice Ao91 t234.length co91 : Value).ownBlock ∧ some k_ ≠ (.slice Ao103 t240.length co103 : Value).ownBlock ∧ some k_ ≠ (.slice Ao107 t244.length co107 : Value).ownBlock) (Kd.R_keptB (HO223.out) hkp (fun k_ hk_ hs_ => (hk_.1.1.1.1.2) hs_)) (fun k_ hk_ => ⟨hk_.1.1.1.1.1.2, hk_.1.1.1.1.2, hk_.1.1.1.2, hk_.1.1.2, hk_.1.2⟩)); have n5_ := Sq.m (blk_kept (by apply Sq.rb; exact BK225.out) hkp (fun hs_ => (fun e_ => (Kd.R_ne HO228.out BK225.out (by decide)) e_) hs_)); have n6_ := Sq.m (Kd.R_reok rfl hy0 (fun k_ e_ => HO228.out.1 k_ e_)); have n7_ := Sq.m (blk_kept (by apply Sq.rb; exact BK229.out) hkp (fun hs_ => (fun e_ => (Kd.R_ne HO228.out BK229.out (by decide)) e_) hs_)); have n8_ := Sq.m (Kd.R_mono (ok' := fun k_ => some k_ ≠ (v216 : Value).ownBlock ∧ some k_ ≠ (v219 : Value).ownBlock ∧ some k_ ≠ (.slice Ao99 t221.length co99 : Value).ownBlock ∧ some k_ ≠ (.slice Ao73 t226.length co73 : Value).ownBlock ∧ some k_ ≠ (.slice Ao91 t234.length co91 : Value).ownBlock ∧ some k_ ≠ (.slice Ao103 t240.length co103 : Value).ownBlock ∧ some k_ ≠ (.slice Ao107 t244.length co107 : Value).ownBlock) (Kd.R_keptB (HO232.out) hkp (fun k_ hk_ hs_ => (hk_.1.1.1.2) hs_)) (fun k_ hk_ => ⟨hk_.1.1.1.1.1.1.1.2, hk_.1.1.1.1.1.1.2, hk_.1.1.1.1.1.2, hk_.1.1.1.1.2, hk_.1.1.1.2, hk_.1.1.2, hk_.1.2⟩)); have n9_ := Sq.m (blk_kept (by apply Sq.rb; exact BK233.out) hkp (fun hs_ => (fun e_ => (Kd.R_ne HO228.out BK233.out (by decide)) e_) hs_)); have n10_ := Sq.m (Kd.R_mono (ok' := fun k_ => some k_ ≠ (v216 : Value).ownBlock ∧ some k_ ≠ (v219 : Value).ownBlock ∧ some k_ ≠ (.slice Ao99 t221.length co99 : Value).ownBlock ∧ some k_ ≠ (.slice Ao73 t226.length co73 : Value).ownBlock ∧ some k_ ≠ (.slice Ao82 t230.length co82 : Value).ownBlock ∧ some k_ ≠ (.slice Ao103 t240.length co103 : Value).ownBlock ∧ some k_ ≠ (.slice Ao107 t244.length co107 : Value).ownBlock) (Kd.R_keptB (HO236.out) hkp (fun k_ hk_ hs_ => (hk_.1.1.1.2) hs_)) (fun k_ hk_ => ⟨hk_.1.1.1.1.1.1.1.2, hk_.1.1.1.1.1.1.2, hk_.1.1.1.1.1.2, hk_.1.1.1.1.2, hk_.1.1.1.2, hk_.1.1.2, hk_.1.2⟩)); have n11_ := Sq.m (blk_kept (by apply Sq.rb; exact BK238.out) hkp (fun hs_ => (fun e_ => (Kd.R_ne HO228.out BK238.out (by decide)) e_) hs_)); have n12_ := Sq.m (Kd.R_mono (ok' := fun k_ => some k_ ≠ (v216 : Value).ownBlock ∧ some k_ ≠ (v219 : Value).ownBlock ∧ some k_ ≠ (.slice Ao99 t221.length co99 : Value).ownBlock ∧ some k_ ≠ (.slice Ao73 t226.length co73 : Value).ownBlock ∧ some k_ ≠ (.slice Ao82 t230.length co82 : Value).ownBlock ∧ some k_ ≠ (.slice Ao91 t234.length co91 : Value).ownBlock ∧ some k_ ≠ (.slice Ao107 t244.length co107 : Value).ownBlock) (Kd.R_keptB (HO242.out) hkp (fun k_ hk_ hs_ => (hk_.1.1.1.2) hs_)) (fun k_ hk_ => ⟨hk_.1.1.1.1.1.1.1.2, hk_.1.1.1.1.1.1.2, hk_.1.1.1.1.1.2, hk_.1.1.1.1.2, hk_.1.1.1.2, hk_.1.1.2, hk_.1.2⟩)); have n13_ := Sq.m (Kd.R_mono (ok' := fun k_ => some k_ ≠ (v216 : Value).ownBlock ∧ some k_ ≠ (v219 : Value).ownBlock ∧ some k_ ≠ (.slice Ao99 t221.length co99 : Value).ownBlock ∧ some k_ ≠ (.slice Ao73 t226.length co73 : Value).ownBlock ∧ some k_ ≠ (.slice Ao82 t230.length co82 : Value).ownBlock ∧ some k_ ≠ (.slice Ao91 t234.length co91 : Value).ownBlock ∧ some k_ ≠ (.slice Ao103 t240.length co103 : Value).ownBlock) (Kd.R_keptB (HO246.out) hkp (fun k_ hk_ hs_ => (hk_.1.1.1.2) hs_)) (fun k_ hk_ => ⟨hk_.1.1.1.1.1.1.1.2, hk_.1.1.1.1.1.1.2, hk_.1.1.1.1.1.2, hk_.1.1.1.1.2, hk_.1.1.1.2, hk_.1.1.2, hk_.1.2⟩)); have n14_ := Sq.m (hb); clear BK211; clear BK212; clear HO217; clear HO220; clear HO223; clear BK225; clear HO228; clear BK229; clear HO232; clear BK233; clear HO236; clear BK238; clear HO242; clear HO246; clear HB; have BK211 := n0_; have BK212 := n1_; have HO217 := n2_; have HO220 := n3_; have HO223 := n4_; have BK225 := n5_; have HO228 := n6_; have BK229 := n7_; have HO232 := n8_; have BK233 := n9_; have HO236 := n10_; have BK238 := n11_; have HO242 := n12_; have HO246 := n13_; have HB := n14_; clear n0_ n1_ n2_ n3_ n4_ n5_ n6_ n7_ n8_ n9_ n10_ n11_ n12_ n13_ n14_; (try clear hb); (try clear hkp); (try clear hy0); have hcz111_0 : w110.cell? ⟨gb233, 0, none⟩ = some (.slice Ao82 t230.length co82) := (blk_cell BK233.out 0).trans rfl; have hfz111_0 := blk_frozen BK233.out 0) | ((with_reducible refine gate_callee (f := 20) rfl ?_); refine goesL_ (some 69) rfl rfl Try.func20 (by kernel_rfl) rfl #[.agg #[.slice Ao82 t230.length co82], .int .i64 t248] rfl (by (try simp only [List.map_toArray, List.map_cons, List.map_nil]); first | done | rfl | (simp only [List.length_drop, List.length_take]; rfl) | (simp only [i64_w, u8_w, w64_b]; rfl)) ?_; (with_reducible refine (laws_markNat.calls k (fun k_ => some k_ = (.slice Ao82 t230.length co82 : Value).ownBlock) (.slice Ao82 t230.length co82) t230 t248 t250 t251 w _ ?side1 ?side2 A35.out).mono ?_); (case side1 => repeat (first | (with_reducible first | exact HB.out | apply Sq.rc | refine below_set ?_ GE211.out | refine below_set ?_ GE212.out | refine below_set ?_ GE225.out | refine below_set ?_ GE229.out | refine below_set ?_ GE233.out | refine below_set ?_ GE238.out) | exact HB.out)); (case side2 => exact Kd.R_tight rfl HO232.out); rintro e w112 ⟨rfl, hy0, hb, hkp⟩; refine ⟨_, rfl, ?_⟩; have n0_ := Sq.m (blk_kept (by apply Sq.rb; exact BK211.out) hkp (fun hs_ => (fun e_ => (Kd.R_ne HO232.out BK211.out (by decide)) e_) hs_)); have n1_ := Sq.m (blk_kept (by apply Sq.rb; exact BK212.out) hkp (fun hs_ => (fun e_ => (Kd.R_ne HO232.out BK212.out (by decide)) e_) hs_)); have n2_ := Sq.m (Kd.R_mono (ok' := fun k_ => some k_ ≠ (.slice Ao73 t226.length co73 : Value).ownBlock ∧ some k_ ≠ (.slice Ao82 t230.length co82 : Value).ownBlock ∧ some k_ ≠ (.slice Ao91 t234.length co91 : Value).ownBlock ∧ some k_ ≠ (.slice Ao103 t240.length co103 : Value).ownBlock ∧ some k_ ≠ (.slice Ao107 t244.length co107 : Value).ownBlock) (Kd.R_keptB (HO217.out) hkp (fun k_ hk_ hs_ => (hk_.2.1) hs_)) (fun k_ hk_ => ⟨hk_.1.1, hk_.1.2.1, hk_.1.2.2.1, hk_.1.2.2.2.1, hk_.1.2.2.2.2⟩)); have n3_ := Sq.m (Kd.R_mono (ok' := fun k_ => some k_ ≠ (.slice Ao73 t226.length co73 : Value).ownBlock ∧ some k_ ≠ (.slice Ao82 t230.length co82 : Value).ownBlock ∧ some k_ ≠ (.slice Ao91 t234.length co91 : Value).ownBlock ∧ some k_ ≠ (.slice Ao103 t240.length co103 : Value).ownBlock ∧ some k_ ≠ (.slice Ao107 t244.length co107 : Value).ownBlock) (Kd.R_keptB (HO220.out) hkp (fun k_ hk_ hs_ => (hk_.2.1) hs_)) (fun k_ hk_ => ⟨hk_.1.1, hk_.1.2.1, hk_.1.2.2.1, hk_.1.2.2.2.1, hk_.1.2.2.2.2⟩)); have n4_ := Sq.m (Kd.R_mono (ok' := fun k_ => some k_ ≠ (.slice Ao73 t226.length co73 : Value).ownBlock ∧ some k_ ≠ (.slice Ao82 t230.length co82 : Value).ownBlock ∧ some k_ ≠ (.slice Ao91 t234.length co91 : Value).ownBlock ∧ some k_ ≠ (.slice Ao103 t240.length co103 : Value).ownBlock ∧ some k_ ≠ (.slice Ao107 t244.length co107 : Value).ownBlock) (Kd.R_keptB (HO223.out) hkp (fun k_ hk_ hs_ => (hk_.2.1) hs_)) (fun k_ hk_ => ⟨hk_.1.1, hk_.1.2.1, hk_.1.2.2.1, hk_.1.2.2.2.1, hk_.1.2.2.2.2⟩)); have n5_ := Sq.m (blk_kept (by apply Sq.rb; exact BK225.out) hkp (fun hs_ => (fun e_ => (Kd.R_ne HO232.out BK225.out (by decide)) e_) hs_)); have n6_ := Sq.m (Kd.R_mono (ok' := fun k_ => some k_ ≠ (v216 : Value).ownBlock ∧ some k_ ≠ (v219 : Value).ownBlock ∧ some k_ ≠ (.slice Ao99 t221.length co99 : Value).ownBlock ∧ some k_ ≠ (.slice Ao82 t230.length co82 : Value).ownBlock ∧ some k_ ≠ (.slice Ao91 t234.length co91 : Value).ownBlock ∧ some k_ ≠ (.slice Ao103 t240.length co103 : Value).ownBlock ∧ some k_ ≠ (.slice Ao107 t244.length co107 : Value).ownBlock) (Kd.R_keptB (HO228.out) hkp (fun k_ hk_ hs_ => (hk_.1.1.1.2) hs_)) (fun k_ hk_ => ⟨hk_.1.1.1.1.1.1.1.2, hk_.1.1.1.1.1.1.2, hk_.1.1.1.1.1.2, hk_.1.1.1.1.2, hk_.1.1.1.2, hk_.1.1.2, hk_.1.2⟩)); have n7_ := Sq.m (blk_kept (by apply Sq.rb; exact BK229.out) hkp (fun hs_ => (fun e_ => (Kd.R_ne HO232.out BK229.out (by decide)) e_) hs_)); have n8_ := Sq.m (Kd.R_reok rfl hy0 (fun k_ e_ => HO232.out.1 k_ e_)); have n9_ := Sq.m (blk_kept (by apply Sq.rb; exact BK233.out) hkp (fun hs_ => (fun e_ => (Kd.R_ne HO232.out BK233.out (by decide)) e_) hs_)); have n10_ := Sq.m (Kd.R_mono (ok' := fun k_ => some k_ ≠ (v216 : Value).ownBlock ∧ some k_ ≠ (v219 : Value).ownBlock ∧ some k_ ≠ (.slice Ao99 t221.length co99 : Value).ownBlock ∧ some k_ ≠ (.slice Ao73 t226.length co73 : Value).ownBlock ∧ some k_ ≠ (.slice Ao82 t230.length co82 : Value).ownBlock ∧ some k_ ≠ (.slice Ao103 t240.length co103 : Value).ownBlock ∧ some k_ ≠ (.slice Ao107 t244.length co107 : Value).ownBlock) (Kd.R_keptB (HO236.out) hkp (fun k_ hk_ hs_ => (hk_.2.2.2.2.1) hs_)) (fun k_ hk_ => ⟨hk_.1.1, hk_.1.2.1, hk_.1.2.2.1, hk_.1.2.2.2.1, hk_.1.2.2.2.2.1, hk_.1.2.2.2.2.2.1, hk_.1.2.2.2.2.2.2⟩)); have n11_ := Sq.m (blk_kept (by apply Sq.rb; exact BK238.out) hkp (fun hs_ => (fun e_ => (Kd.R_ne HO232.out BK238.out (by decide)) e_) hs_)); have n12_ := Sq.m (Kd.R_mono (ok' := fun k_ => some k_ ≠ (v216 : Value).ownBlock ∧ some k_ ≠ (v219 : Value).ownBlock ∧ some k_ ≠ (.slice Ao99 t221.length co99 : Value).ownBlock ∧ some k_ ≠ (.slice Ao73 t226.length co73 : Value).ownBlock ∧ some k_ ≠ (.slice Ao82 t230.length co82 : Value).ownBlock ∧ some k_ ≠ (.slice Ao91 t234.length co91 : Value).ownBlock ∧ some k_ ≠ (.slice Ao107 t244.length co107 : Value).ownBlock) (Kd.R_keptB (HO242.out) hkp (fun k_ hk_ hs_ => (hk_.2.2.2.2.1) hs_)) (fun k_ hk_ => ⟨hk_.1.1, hk_.1.2.1, hk_.1.2.2.1, hk_.1.2.2.2.1, hk_.1.2.2.2.2.1, hk_.1.2.2.2.2.2.1, hk_.1.2.2.2.2.2.2⟩)); have n13_ := Sq.m (Kd.R_mono (ok' := fun k_ => some k_ ≠ (v216 : Value).ownBlock ∧ some k_ ≠ (v219 : Value).ownBlock ∧ some k_ ≠ (.slice Ao99 t221.length co99 : Value).ownBlock ∧ some k_ ≠ (.slice Ao73 t226.length co73 : Value).ownBlock ∧ some k_ ≠ (.slice Ao82 t230.length co82 : Value).ownBlock ∧ some k_ ≠ (.slice Ao91 t234.length co91 : Value).ownBlock ∧ some k_ ≠ (.slice Ao103 t240.length co103 : Value).ownBlock) (Kd.R_keptB (HO246.out) hkp (fun k_ hk_ hs_ => (hk_.2.2.2.2.1) hs_)) (fun k_ hk_ => ⟨hk_.1.1, hk_.1.2.1, hk_.1.2.2.1, hk_.1.2.2.2.1, hk_.1.2.2.2.2.1, hk_.1.2.2.2.2.2.1, hk_.1.2.2.2.2.2.2⟩)); have n14_ := Sq.m (hb); clear BK211; clear BK212; clear HO217; clear HO220; clear HO223; clear BK225; clear HO228; clear BK229; clear HO232; clear BK233; clear HO236; clear BK238; clear HO242; clear HO246; clear HB; have BK211 := n0_; have BK212 := n1_; have HO217 := n2_; have HO220 := n3_; have HO223 := n4_; have BK225 := n5_; have HO228 := n6_; have BK229 := n7_; have HO232 := n8_; have BK233 := n9_; have HO236 := n10_; have BK238 := n11_; have HO242 := n12_; have HO246 := n13_; have HB := n14_; clear n0_ n1_ n2_ n3_ n4_ n5_ n6_ n7_ n8_ n9_ n10_ n11_ n12_ n13_ n14_; (try clear hb); (try clear hkp); (try clear hy0); have hcz113_0 : w112.cell? ⟨gb238, 0, none⟩ = some (.slice Ao91 t234.length co91) := (blk_cell BK238.out 0).trans rfl; have hfz113_0 := blk_frozen BK238.out 0; have hcz114_0 : w112.cell? ⟨gb225, 0, none⟩ = some (.slice Ao99 t221.length co99) := (blk_cell BK225.out 0).trans rfl; have hfz114_0 := blk_frozen BK225.out 0) | (go_at_call 19; (with_reducible refine (laws_eqNat.calls k _ _ t234 _ _ t221 true _ ?side1 ?side2 ?side3 ?side4 A37.out).mono ?_); (case side1 => repeat (first | exact (Kd.R_reads' HO236.out).2.2 | (with_reducible refine Kd.C_alloc ?_ _) | (with_reducible refine Kd.C_drewN ?_ _) | (with_reducible refine Kd.C_drew ?_))); (case side2 => exact (Kd.R_reads' HO236.out).2.1); (case side3 => repeat (first | exact (Kd.R_reads' HO223.out).2.2 | (with_reducible refine Kd.C_alloc ?_ _) | (with_reducible refine Kd.C_drewN ?_ _) | (with_reducible refine Kd.C_drew ?_))); (case side4 => exact (Kd.R_reads' HO223.out).2.1); rintro e w115 ⟨rfl, hb⟩; have n0_ := Sq.m (Kd.R_below (by apply Sq.ra; exact HO217.out) hb); have n1_ := Sq.m (Kd.R_below (by apply Sq.ra; exact HO220.out) hb); have n2_ := Sq.m (Kd.R_below (by apply Sq.ra; exact HO223.out) hb); have n3_ := Sq.m (Kd.R_below (by apply Sq.ra; exact HO228.out) hb); have n4_ := Sq.m (Kd.R_below (by apply Sq.ra; exact HO232.out) hb); have n5_ := Sq.m (Kd.R_below (by apply Sq.ra; exact HO236.out) hb); have n6_ := Sq.m (Kd.R_below (by apply Sq.ra; exact HO242.out) hb); have n7_ := Sq.m (Kd.R_below (by apply Sq.ra; exact HO246.out) hb); have n8_ := Sq.m (blk_below (g := gb211) (o := .cells #[.slice A0_0 l0_0.length c0_0] 24 (0, 0)) (by apply Sq.rb; exact BK211.out) hb); have n9_ := Sq.m (blk_below (g := gb212) (o := .cells #[.slice A1_0 l1_0.length c1_0] 24 (0, 0)) (by apply Sq.rb; exact BK212.out) hb); have n10_ := Sq.m (blk_below (g := gb225) (o := .cells #[.slice Ao99 t221.length co99] 26 (0, 0)) (by apply Sq.rb; exact BK225.out) hb); have n11_ := Sq.m (blk_below (g := gb229) (o := .cells #[.slice Ao73 t226.length co73] 26 (0, 0)) (by apply Sq.rb; exact BK229.out) hb); have n12_ := Sq.m (blk_below (g := gb233) (o := .cells #[.slice Ao82 t230.length co82] 26 (0, 0)) (by apply Sq.rb; exact BK233.out) hb); have n13_ := Sq.m (blk_below (g := gb238) (o := .cells #[.slice Ao91 t234.length co91] 26 (0, 0)) (by apply Sq.rb; exact BK238.out) hb); have n14_ := Sq.m (below_step (by repeat (first | (with_reducible first | exact HB.out | apply Sq.rc | refine below_set ?_ GE211.out | refine below_set ?_ GE212.out | refine below_set ?_ GE225.out | refine below_set ?_ GE229.out | refine below_set ?_ GE233.out | refine below_set ?_ GE238.out) | exact HB.out)) hb); clear HO217; clear HO220; clear HO223; clear HO228; clear HO232; clear HO236; clear HO242; clear HO246; clear BK211; clear BK212; clear BK225; clear BK229; clear BK233; clear BK238; clear HB; have HO217 := n0_; have HO220 := n1_; have HO223 := n2_; have HO228 := n3_; have HO232 := n4_; have HO236 := n5_; have HO242 := n6_; have HO246 := n7_; have BK211 := n8_; have BK212 := n9_; have BK225 := n10_; have BK229 := n11_; have BK233 := n12_; have BK238 := n13_; have HB := n14_; clear n0_ n1_ n2_ n3_ n4_ n5_ n6_ n7_ n8_ n9_ n10_ n11_ n12_ n13_ n14_; (try clear hb); (try clear hb2); (try clear hk); (try clear hi); have hcz116_0 : w115.cell? ⟨gb238, 0, none⟩ = some (.slice Ao91 t234.length co91) := (blk_cell BK238.out 0).trans rfl; have hfz116_0 := blk_frozen BK238.out 0) | ((with_reducible refine gate_callee (f := 20) rfl ?_); refine goesL_ (some 85) rfl rfl Try.func20 (by kernel_rfl) rfl #[.agg #[.slice Ao91 t234.length co91], .int .i64 1] rfl (by (try simp only [List.map_toArray, List.map_cons, List.map_nil]); first | done | rfl | (simp only [List.length_drop, List.length_take]; rfl) | (simp only [i64_w, u8_w, w64_b]; rfl)) ?_; (with_reducible refine (laws_markNat.calls k (fun k_ => some k_ = (.slice Ao91 t234.length co91 : Value).ownBlock) (.slice Ao91 t234.length co91) t234 1 t253 t254 w _ ?side1 ?side2 A39.out).mono ?_); (case side1 => repeat (first | (with_reducible first | exact HB.out | apply Sq.rc | refine below_set ?_ GE211.out | refine below_set ?_ GE212.out | refine below_set ?_ GE225.out | refine below_set ?_ GE229.out | refine below_set ?_ GE233.out | refine below_set ?_ GE238.out) | exact HB.out)); (case side2 => exact Kd.R_tight rfl HO236.out); rintro e w117 ⟨rfl, hy0, hb, hkp⟩; refine ⟨_, rfl, ?_⟩; have n0_ := Sq.m (blk_kept (by apply Sq.rb; exact BK211.out) hkp (fun hs_ => (fun e_ => (Kd.R_ne HO236.out BK211.out (by decide)) e_) hs_)); have n1_ := Sq.m (blk_kept (by apply Sq.rb; exact BK212.out) hkp (fun hs_ => (fun e_ => (Kd.R_ne HO236.out BK212.out (by decide)) e_) hs_)); have n2_ := Sq.m (Kd.R_mono (ok' := fun k_ => some k_ ≠ (.slice Ao73 t226.length co73 : Value).ownBlock ∧ some k_ ≠ (.slice Ao82 t230.length co82 : Value).ownBlock ∧ some k_ ≠ (.slice Ao91 t234.length co91 : Value).ownBlock ∧ some k_ ≠ (.slice Ao103 t240.length co103 : Value).ownBlock ∧ some k_ ≠ (.slice Ao107 t244.length co107 : Value).ownBlock) (Kd.R_keptB (HO217.out) hkp (fun k_ hk_ hs_ => (hk_.2.2.1) hs_)) (fun k_ hk_ => ⟨hk_.1.1, hk_.1.2.1, hk_.1.2.2.1, hk_.1.2.2.2.1, hk_.1.2.2.2.2⟩)); have n3_ := Sq.m (Kd.R_mono (ok' := fun k_ => some k_ ≠ (.slice Ao73 t226.length co73 : Value).ownBlock ∧ some k_ ≠ (.slice Ao82 t230.length co82 : Value).ownBlock ∧ some k_ ≠ (.slice Ao91 t234.length co91 : Value).ownBlock ∧ some k_ ≠ (.slice Ao103 t240.length co103 : Value).ownBlock ∧ some k_ ≠ (.slice Ao107 t244.length co107 : Value).ownBlock) (Kd.R_keptB (HO220.out) hkp (fun k_ hk_ hs_ => (hk_.2.2.1) hs_)) (fun k_ hk_ => ⟨hk_.1.1, hk_.1.2.1, hk_.1.2.2.1, hk_.1.2.2.2.1, hk_.1.2.2.2.2⟩)); have n4_ := Sq.m (Kd.R_mono (ok' := fun k_ => some k_ ≠ (.slice Ao73 t226.length co73 : Value).ownBlock ∧ some k_ ≠ (.slice Ao82 t230.length co82 : Value).ownBlock ∧ some k_ ≠ (.slice Ao91 t234.length co91 : Value).ownBlock ∧ some k_ ≠ (.slice Ao103 t240.length co103 : Value).ownBlock ∧ some k_ ≠ (.slice Ao107 t244.length co107 : Value).ownBlock) (Kd.R_keptB (HO223.out) hkp (fun k_ hk_ hs_ => (hk_.2.2.1) hs_)) (fun k_ hk_ => ⟨hk_.1.1, hk_.1.2.1, hk_.1.2.2.1, hk_.1.2.2.2.1, hk_.1.2.2.2.2⟩)); have n5_ := Sq.m (blk_kept (by apply Sq.rb; exact BK225.out) hkp (fun hs_ => (fun e_ => (Kd.R_ne HO236.out BK225.out (by decide)) e_) hs_)); have n6_ := Sq.m (Kd.R_mono (ok' := fun k_ => some k_ ≠ (v216 : Value).ownBlock ∧ some k_ ≠ (v219 : Value).ownBlock ∧ some k_ ≠ (.slice Ao99 t221.length co99 : Value).ownBlock ∧ some k_ ≠ (.slice Ao82 t230.length co82 : Value).ownBlock ∧ some k_ ≠ (.slice Ao91 t234.length co91 : Value).ownBlock ∧ some k_ ≠ (.slice Ao103 t240.length co103 : Value).ownBlock ∧ some k_ ≠ (.slice Ao107 t244.length co107 : Value).ownBlock) (Kd.R_keptB (HO228.out) hkp (fun k_ hk_ hs_ => (hk_.2.2.2.2.1) hs_)) (fun k_ hk_ => ⟨hk_.1.1, hk_.1.2.1, hk_.1.2.2.1, hk_.1.2.2.2.1, hk_.1.2.2.2.2.1, hk_.1.2.2.2.2.2.1, hk_.1.2.2.2.2.2.2⟩)); have n7_ := Sq.m (blk_kept (by apply Sq.rb; exact BK229.out) hkp (fun hs_ => (fun e_ => (Kd.R_ne HO236.out BK229.out (by decide)) e_) hs_)); have n8_ := Sq.m (Kd.R_mono (ok' := fun k_ => some k_ ≠ (v216 : Value).ownBlock ∧ some k_ ≠ (v219 : Value).ownBlock ∧ some k_ ≠ (.slice Ao99 t221.length co99 : Value).ownBlock ∧ some k_ ≠ (.slice Ao73 t226.length co73 : Value).ownBlock ∧ some k_ ≠ (.slice Ao91 t234.length co91 : Value).ownBlock ∧ some k_ ≠ (.slice Ao103 t240.length co103 : Value).ownBlock ∧ some k_ ≠ (.slice Ao107 t244.length co107 : Value).ownBlock) (Kd.R_keptB (HO232.out) hkp (fun k_ hk_ hs_ => (hk_.2.2.2.2.1) hs_)) (fun k_ hk_ => ⟨hk_.1.1, hk_.1.2.1, hk_.1.2.2.1, hk_.1.2.2.2.1, hk_.1.2.2.2.2.1, hk_.1.2.2.2.2.2.1, hk_.1.2.2.2.2.2.2⟩)); have n9_ := Sq.m (blk_kept (by apply Sq.rb; exact BK233.out) hkp (fun hs_ => (fun e_ => (Kd.R_ne HO236.out BK233.out (by decide)) e_) hs_)); have n10_ := Sq.m (Kd.R_reok rfl hy0 (fun k_ e_ => HO236.out.1 k_ e_)); have n11_ := Sq.m (blk_kept (by apply Sq.rb; exact BK238.out) hkp (fun hs_ => (fun e_ => (Kd.R_ne HO236.out BK238.out (by decide)) e_) hs_)); have n12_ := Sq.m (Kd.R_mono (ok' := fun k_ => some k_ ≠ (v216 : Value).ownBlock ∧ some k_ ≠ (v219 : Value).ownBlock ∧ some k_ ≠ (.slice Ao99 t221.length co99 : Value).ownBlock ∧ some k_ ≠ (.slice Ao73 t226.length co73 : Value).ownBlock ∧ some k_ ≠ (.slice Ao82 t230.length co82 : Value).ownBlock ∧ some k_ ≠ (.slice Ao91 t234.length co91 : Value).ownBlock ∧ some k_ ≠ (.slice Ao107 t244.length co107 : Value).ownBlock) (Kd.R_keptB (HO242.out) hkp (fun k_ hk_ hs_ => (hk_.2.2.2.2.2.1) hs_)) (fun k_ hk_ => ⟨hk_.1.1, hk_.1.2.1, hk_.1.2.2.1, hk_.1.2.2.2.1, hk_.1.2.2.2.2.1, hk_.1.2.2.2.2.2.1, hk_.1.2.2.2.2.2.2⟩)); have n13_ := Sq.m (Kd.R_mono (ok' := fun k_ => some k_ ≠ (v216 : Value).ownBlock ∧ some k_ ≠ (v219 : Value).ownBlock ∧ some k_ ≠ (.slice Ao99 t221.length co99 : Value).ownBlock ∧ some k_ ≠ (.slice Ao73 t226.length co73 : Value).ownBlock ∧ some k_ ≠ (.slice Ao82 t230.length co82 : Value).ownBlock ∧ some k_ ≠ (.slice Ao91 t234.length co91 : Value).ownBlock ∧ some k_ ≠ (.slice Ao103 t240.length co103 : Value).ownBlock) (Kd.R_keptB (HO246.out) hkp (fun k_ hk_ hs_ => (hk_.2.2.2.2.2.1) hs_)) (fun k_ hk_ => ⟨hk_.1.1, hk_.1.2.1, hk_.1.2.2.1, hk_.1.2.2.2.1, hk_.1.2.2.2.2.1, hk_.1.2.2.2.2.2.1, hk_.1.2.2.2.2.2.2⟩)); have n14_ := Sq.m (hb); clear BK211; clear BK212; clear HO217; clear HO220; clear HO223; clear BK225; clear HO228; clear BK229; clear HO232; clear BK233; clear HO236; clear BK238; clear HO242; clear HO246; clear HB; have BK211 := n0_; have BK212 := n1_; have HO217 := n2_; have HO220 := n3_; have HO223 := n4_; have BK225 := n5_; have HO228 := n6_; have BK229 := n7_; have HO232 := n8_; have BK233 := n9_; have HO236 := n10_; have BK238 := n11_; have HO242 := n12_; have HO246 := n13_; have HB := n14_; clear n0_ n1_ n2_ n3_ n4_ n5_ n6_ n7_ n8_ n9_ n10_ n11_ n12_ n13_ n14_; (try clear hb); (try clear hkp); (try clear hy0); have hcz118_0 : w117.cell? ⟨gb238, 0, none⟩ = some (.slice Ao91 t234.length co91) := (blk_cell BK238.out 0).trans rfl; have hfz118_0 := blk_frozen BK238.out 0) | ((with_reducible refine gate_callee (f := 21) rfl ?_); refine goesL_ (some 88) rfl rfl Try.func21 (by kernel_rfl) rfl #[.agg #[.slice Ao91 t254.length co91], .int .i64 1] rfl (by (try simp only [List.map_toArray, List.map_cons, List.map_nil]); first | done | (rw [show t254.length = t234.length from (Kd.R_reads' HO236.out).1.symm] <;> rfl) | rfl | (simp only [List.length_drop, List.length_take]; rfl) | (simp only [i64_w, u8_w, w64_b]; rfl)) ?_; (with_reducible refine (laws_heldNat.calls k _ _ t254 1 t255 _ ?side1 ?side2 A40.out).mono ?_); (case side1 => repeat (first | exact (Kd.R_reads' HO236.out).2.2 | (with_reducible refine Kd.C_alloc ?_ _) | (with_reducible refine Kd.C_drewN ?_ _) | (with_reducible refine Kd.C_drew ?_))); (case side2 => rw [show t254.length = t234.length from (Kd.R_reads' HO236.out).1.symm]; exact (Kd.R_reads' HO236.out).2.1); rintro e w119 ⟨rfl, hb⟩; refine ⟨_, rfl, ?_⟩; have n0_ := Sq.m (Kd.R_below (by apply Sq.ra; exact HO217.out) hb); have n1_ := Sq.m (Kd.R_below (by apply Sq.ra; exact HO220.out) hb); have n2_ := Sq.m (Kd.R_below (by apply Sq.ra; exact HO223.out) hb); have n3_ := Sq.m (Kd.R_below (by apply Sq.ra; exact HO228.out) hb); have n4_ := Sq.m (Kd.R_below (by apply Sq.ra; exact HO232.out) hb); have n5_ := Sq.m (Kd.R_below (by apply Sq.ra; exact HO236.out) hb); have n6_ := Sq.m (Kd.R_below (by apply Sq.ra; exact HO242.out) hb); have n7_ := Sq.m (Kd.R_below (by apply Sq.ra; exact HO246.out) hb); have n8_ := Sq.m (blk_below (g := gb211) (o := .cells #[.slice A0_0 l0_0.length c0_0] 24 (0, 0)) (by apply Sq.rb; exact BK211.out) hb); have n9_ := Sq.m (blk_below (g := gb212) (o := .cells #[.slice A1_0 l1_0.length c1_0] 24 (0, 0)) (by apply Sq.rb; exact BK212.out) hb); have n10_ := Sq.m (blk_below (g := gb225) (o := .cells #[.slice Ao99 t221.length co99] 26 (0, 0)) (by apply Sq.rb; exact BK225.out) hb); have n11_ := Sq.m (blk_below (g := gb229) (o := .cells #[.slice Ao73 t226.length co73] 26 (0, 0)) (by apply Sq.rb; exact BK229.out) hb); have n12_ := Sq.m (blk_below (g := gb233) (o := .cells #[.slice Ao82 t230.length co82] 26 (0, 0)) (by apply Sq.rb; exact BK233.out) hb); have n13_ := Sq.m (blk_below (g := gb238) (o := .cells #[.slice Ao91 t234.length co91] 26 (0, 0)) (by apply Sq.rb; exact BK238.out) hb); have n14_ := Sq.m (below_step (by repeat (first | (with_reducible first | exact HB.out | apply Sq.rc | refine below_set ?_ GE211.out | refine below_set ?_ GE212.out | refine below_set ?_ GE225.out | refine below_set ?_ GE229.out | refine below_set ?_ GE233.out | refine below_set ?_ GE238.out) | exact HB.out)) hb); clear HO217; clear HO220; clear HO223; clear HO228; clear HO232; clear HO236; clear HO242; clear HO246; clear BK211; clear BK212; clear BK225; clear BK229; clear BK233; clear BK238; clear HB; have HO217 := n0_; have HO220 := n1_; have HO223 := n2_; have HO228 := n3_; have HO232 := n4_; have HO236 := n5_; have HO242 := n6_; have HO246 := n7_; have BK211 := n8_; have BK212 := n9_; have BK225 := n10_; have BK229 := n11_; have BK233 := n12_; have BK238 := n13_; have HB := n14_; clear n0_ n1_ n2_ n3_ n4_ n5_ n6_ n7_ n8_ n9_ n10_ n11_ n12_ n13_ n14_; (try clear hb); (try clear hb2); (try clear hk); (try clear hi)))
               have n0_ := Sq.m (Kd.R_drew HO217.out)
               have n1_ := Sq.m (Kd.R_drew HO220.out)
               have n2_ := Sq.m (Kd.R_drew HO223.out)
               have n3_ := Sq.m (Kd.R_drew HO228.out)
               have n4_ := Sq.m (Kd.R_drew HO232.out)
               have n5_ := Sq.m (Kd.R_drew HO236.out)
               have n6_ := Sq.m (Kd.R_drew HO242.out)
               have n7_ := Sq.m (Kd.R_drew HO246.out)
               have n8_ := Sq.m (blk_drew BK211.out)
               have n9_ := Sq.m (blk_drew BK212.out)
               have n10_ := Sq.m (blk_drew BK225.out)
               have n11_ := Sq.m (blk_drew BK229.out)
               have n12_ := Sq.m (blk_drew BK233.out)
               have n13_ := Sq.m (blk_drew BK238.out)
               have n14_ := Sq.m (below_drew1 HB.out)
               clear HO217
               clear HO220
               clear HO223
               clear HO228
               clear HO232
               clear HO236
               clear HO242
               clear HO246
               clear BK211
               clear BK212
               clear BK225
               clear BK229
               clear BK233
               clear BK238
               clear HB
               have HO217 := n0_
               have HO220 := n1_
               have HO223 := n2_
               have HO228 := n3_
               have HO232 := n4_
               have HO236 := n5_
               have HO242 := n6_
               have HO246 := n7_
               have BK211 := n8_
               have BK212 := n9_
               have BK225 := n10_
               have BK229 := n11_
               have BK233 := n12_
               have BK238 := n13_
               have HB := n14_
               clear n0_ n1_ n2_ n3_ n4_ n5_ n6_ n7_ n8_ n9_ n10_ n11_ n12_ n13_ n14_
               refine start_ (n := 11) (S := fun w' => True) (ds := []) #[false, false, false, false, false, false, false, false, false, false, false] (by kernel_rfl) rfl rfl trivial (fun hHeld => ?_); refine with_tabW laws_FnExactNatMul.tab31 laws_FnExactNatMul.bits31 (fun HT_ HW_ => ?_)
               generalize w119.drew = w120 at HO217 HO220 HO223 HO228 HO232 HO236 HO242 HO246 BK211 BK212 BK225 BK229 BK233 BK238 HB hHeld ⊢
               refine inv_at [0, 1, 2, 3, 4, 5, 6, 7, 8, 9, 10] (fun a0_ b a w' => ∃ (v257 : Value) (v260 : Value) (v263 : Value) (gb266 : Nat) (m1_ : Value) (m3_ : Value) (m4_ : Value) (m5_ : Value) (m6_ : Value) (m8_ : Value), a = putSel a0_ b [(0, 95, .agg #[.slice A0_0 l0_0.length c0_0]), (1, 96, m1_), (2, 97, .agg #[.slice A1_0 l1_0.length c1_0]), (3, 98, m3_), (4, 99, m4_), (5, 94, m5_), (6, 100, m6_), (7, 101, .bool t265), (8, 15, m8_), (10, 16, .bool t265)] ∧ (Kd.R (Kd.int .i64) 3 w' w.heap.size (fun k_ => some k_ ≠ (.slice Ao73 t226.length co73 : Value).ownBlock ∧ some k_ ≠ (.slice Ao82 t230.length co82 : Value).ownBlock ∧ some k_ ≠ (.slice Ao91 t234.length co91 : Value).ownBlock ∧ some k_ ≠ (.slice Ao103 t240.length co103 : Value).ownBlock ∧ some k_ ≠ (.slice Ao107 t244.length co107 : Value).ownBlock) v216 t215) ∧ (Kd.R (Kd.int .i64) 3 w' w.heap.size (fun k_ => some k_ ≠ (.slice Ao73 t226.length co73 : Value).ownBlock ∧ some k_ ≠ (.slice Ao82 t230.length co82 : Value).ownBlock ∧ some k_ ≠ (.slice Ao91 t234.length co91 : Value).ownBlock ∧ some k_ ≠ (.slice Ao103 t240.length co103 : Value).ownBlock ∧ some k_ ≠ (.slice Ao107 t244.length co107 : Value).ownBlock) v219 t218) ∧ (Kd.R (Kd.int .i64) 3 w' w.heap.size (fun k_ => some k_ ≠ (.slice Ao73 t226.length co73 : Value).ownBlock ∧ some k_ ≠ (.slice Ao82 t230.length co82 : Value).ownBlock ∧ some k_ ≠ (.slice Ao91 t234.length co91 : Value).ownBlock ∧ some k_ ≠ (.slice Ao103 t240.length co103 : Value).ownBlock ∧ some k_ ≠ (.slice Ao107 t244.length co107 : Value).ownBlock) (.slice Ao99 t221.length co99) t221) ∧ (Kd.R (Kd.int .i64) 3 w' w.heap.size (fun k_ => some k_ ≠ (v216 : Value).ownBlock ∧ some k_ ≠ (v219 : Value).ownBlock ∧ some k_ ≠ (.slice Ao99 t221.length co99 : Value).ownBlock ∧ some k_ ≠ (.slice Ao82 t230.length co82 : Value).ownBlock ∧ some k_ ≠ (.slice Ao91 t234.length co91 : Value).ownBlock ∧ some k_ ≠ (.slice Ao103 t240.length co103 : Value).ownBlock ∧ some k_ ≠ (.slice Ao107 t244.length co107 : Value).ownBlock) (.slice Ao73 t226.length co73) t249) ∧ (Kd.R (Kd.int .i64) 3 w' w.heap.size (fun k_ => some k_ ≠ (v216 : Value).ownBlock ∧ some k_ ≠ (v219 : Value).ownBlock ∧ some k_ ≠ (.slice Ao99 t221.length co99 : Value).ownBlock ∧ some k_ ≠ (.slice Ao73 t226.length co73 : Value).ownBlock ∧ some k_ ≠ (.slice Ao91 t234.length co91 : Value).ownBlock ∧ some k_ ≠ (.slice Ao103 t240.length co103 : Value).ownBlock ∧ some k_ ≠ (.slice Ao107 t244.length co107 : Value).ownBlock) (.slice Ao82 t230.length co82) t251) ∧ (Kd.R (Kd.int .i64) 3 w' w.heap.size (fun k_ => some k_ ≠ (v216 : Value).ownBlock ∧ some k_ ≠ (v219 : Value).ownBlock ∧ some k_ ≠ (.slice Ao99 t221.length co99 : Value).ownBlock ∧ some k_ ≠ (.slice Ao73 t226.length co73 : Value).ownBlock ∧ some k_ ≠ (.slice Ao82 t230.length co82 : Value).ownBlock ∧ some k_ ≠ (.slice Ao103 t240.length co103 : Value).ownBlock ∧ some k_ ≠ (.slice Ao107 t244.length co107 : Value).ownBlock) (.slice Ao91 t234.length co91) t254) ∧ (Kd.R (Kd.int .i64) 3 w' w.heap.size (fun k_ => some k_ ≠ (v216 : Value).ownBlock ∧ some k_ ≠ (v219 : Value).ownBlock ∧ some k_ ≠ (.slice Ao99 t221.length co99 : Value).ownBlock ∧ some k_ ≠ (.slice Ao73 t226.length co73 : Value).ownBlock ∧ some k_ ≠ (.slice Ao82 t230.length co82 : Value).ownBlock ∧ some k_ ≠ (.slice Ao91 t234.length co91 : Value).ownBlock ∧ some k_ ≠ (.slice Ao107 t244.length co107 : Value).ownBlock) (.slice Ao103 t240.length co103) t240) ∧ (Kd.R (Kd.int .i64) 3 w' w.heap.size (fun k_ => some k_ ≠ (v216 : Value).ownBlock ∧ some k_ ≠ (v219 : Value).ownBlock ∧ some k_ ≠ (.slice Ao99 t221.length co99 : Value).ownBlock ∧ some k_ ≠ (.slice Ao73 t226.length co73 : Value).ownBlock ∧ some k_ ≠ (.slice Ao82 t230.length co82 : Value).ownBlock ∧ some k_ ≠ (.slice Ao91 t234.length co91 : Value).ownBlock ∧ some k_ ≠ (.slice Ao103 t240.length co103 : Value).ownBlock) (.slice Ao107 t244.length co107) t244) ∧ (w'.heap[gb211]? = some (.cells #[.slice A0_0 l0_0.length c0_0] 24 (0, 0))) ∧ (w'.heap[gb212]? = some (.cells #[.slice A1_0 l1_0.length c1_0] 24 (0, 0))) ∧ (w'.heap[gb225]? = some (.cells #[.slice Ao99 t221.length co99] 26 (0, 0))) ∧ (w'.heap[gb229]? = some (.cells #[.slice Ao73 t226.length co73] 26 (0, 0))) ∧ (w'.heap[gb233]? = some (.cells #[.slice Ao82 t230.length co82] 26 (0, 0))) ∧ (w'.heap[gb238]? = some (.cells #[.slice Ao91 t234.length co91] 26 (0, 0))) ∧ (Below w.heap.size w w') ∧ (b 1 = true → Kd.R (Kd.int .i64) 3 w' w.heap.size (fun k_ => some k_ ≠ (v216 : Value).ownBlock ∧ some k_ ≠ (v219 : Value).ownBlock ∧ some k_ ≠ (.slice Ao99 t221.length co99 : Value).ownBlock ∧ some k_ ≠ (.slice Ao73 t226.length co73 : Value).ownBlock ∧ some k_ ≠ (.slice Ao82 t230.length co82 : Value).ownBlock ∧ some k_ ≠ (.slice Ao91 t234.length co91 : Value).ownBlock ∧ some k_ ≠ (.slice Ao103 t240.length co103 : Value).ownBlock ∧ some k_ ≠ (.slice Ao107 t244.length co107 : Value).ownBlock) v257 t256) ∧ (b 3 = true → Kd.R (Kd.int .i64) 3 w' w.heap.size (fun k_ => some k_ ≠ (v216 : Value).ownBlock ∧ some k_ ≠ (v219 : Value).ownBlock ∧ some k_ ≠ (.slice Ao99 t221.length co99 : Value).ownBlock ∧ some k_ ≠ (.slice Ao73 t226.length co73 : Value).ownBlock ∧ some k_ ≠ (.slice Ao82 t230.length co82 : Value).ownBlock ∧ some k_ ≠ (.slice Ao91 t234.length co91 : Value).ownBlock ∧ some k_ ≠ (.slice Ao103 t240.length co103 : Value).ownBlock ∧ some k_ ≠ (.slice Ao107 t244.length co107 : Value).ownBlock) v260 t259) ∧ (b 4 = true → Kd.R (Kd.int .i64) 3 w' w.heap.size (fun k_ => some k_ ≠ (v216 : Value).ownBlock ∧ some k_ ≠ (v219 : Value).ownBlock ∧ some k_ ≠ (.slice Ao99 t221.length co99 : Value).ownBlock ∧ some k_ ≠ (.slice Ao73 t226.length co73 : Value).ownBlock ∧ some k_ ≠ (.slice Ao82 t230.length co82 : Value).ownBlock ∧ some k_ ≠ (.slice Ao91 t234.length co91 : Value).ownBlock ∧ some k_ ≠ (.slice Ao103 t240.length co103 : Value).ownBlock ∧ some k_ ≠ (.slice Ao107 t244.length co107 : Value).ownBlock) v263 t262) ∧ (b 8 = true → b 9 = false → w'.heap[gb266]? = some (.cells #[.slice none 0 0] 26 (0, 0))) ∧ (b 8 = true → w.heap.size ≤ gb266) ∧ (b 8 = true → w.heap.size ≤ gb266) ∧ (b 8 = true → gb211 ≠ gb266) ∧ (b 8 = true → gb266 ≠ gb211) ∧ (b 8 = true → gb212 ≠ gb266) ∧ (b 8 = true → gb266 ≠ gb212) ∧ (b 8 = true → gb225 ≠ gb266) ∧ (b 8 = true → gb266 ≠ gb225) ∧ (b 8 = true → gb229 ≠ gb266) ∧ (b 8 = true → gb266 ≠ gb229) ∧ (b 8 = true → gb233 ≠ gb266) ∧ (b 8 = true → gb266 ≠ gb233) ∧ (b 8 = true → gb238 ≠ gb266) ∧ (b 8 = true → gb266 ≠ gb238) ∧ (b 9 = true → w'.heap[gb266]? = some (.cells #[v263] 26 (0, 0))) ∧ (b 1 = true → (m1_ : Value) = .agg #[v257]) ∧ (b 3 = true → (m3_ : Value) = .agg #[v260]) ∧ (b 4 = true → (m4_ : Value) = .tuple #[.agg #[v263], .bool t265]) ∧ (b 5 = true → (m5_ : Value) = .tuple #[.agg #[v263], .bool t265]) ∧ (b 6 = true → (m6_ : Value) = .agg #[v263]) ∧ (b 8 = true → (m8_ : Value) = .pointer (some ⟨gb266, 0, none⟩))) HT_.out HW_.out (by kernel_rfl) (by kernel_rfl) ?_ ?_ ?_
               ·exact ⟨.bool false, .bool false, .bool false, 0, .bool false, .bool false, .bool false, .bool false, .bool false, .bool false, by simp only [putSel, Bool.false_eq_true, if_false], HO217.out, HO220.out, HO223.out, HO228.out, HO232.out, HO236.out, HO242.out, HO246.out, BK211.out, BK212.out, BK225.out, BK229.out, BK233.out, BK238.out, HB.out, fun h_ => absurd h_ (by decide), fun h_ => absurd h_ (by decide), fun h_ => absurd h_ (by decide), fun h_ => absurd h_ (by decide), fun h_ => absurd h_ (by decide), fun h_ => absurd h_ (by decide), fun h_ => absurd h_ (by decide), fun h_ => absurd h_ (by decide), fun h_ => absurd h_ (by decide), fun h_ => absurd h_ (by decide), fun h_ => absurd h_ (by decide), fun h_ => absurd h_ (by decide), fun h_ => absurd h_ (by decide), fun h_ => absurd h_ (by decide), fun h_ => absurd h_ (by decide), fun h_ => absurd h_ (by decide), fun h_ => absurd h_ (by decide), fun h_ => absurd h_ (by decide), fun h_ => absurd h_ (by decide), fun h_ => absurd h_ (by decide), fun h_ => absurd h_ (by decide), fun h_ => absurd h_ (by decide), fun h_ => absurd h_ (by decide), fun h_ => absurd h_ (by decide), fun h_ => absurd h_ (by decide)⟩
               ·skip
                clear BK211 BK212 BK225 BK229 BK233 BK238 HB HO217 HO220 HO223 HO228 HO232 HO236 HO242 HO246
                refine steps_cons ?_ ?_
                ·rintro b a w' ⟨v257, v260, v263, gb266, m1_, m3_, m4_, m5_, m6_, m8_, ha, Q_HO217, Q_HO220, Q_HO223, Q_HO228, Q_HO232, Q_HO236, Q_HO242, Q_HO246, Q_BK211, Q_BK212, Q_BK225, Q_BK229, Q_BK233, Q_BK238, Q_HB, Q_HO258, Q_HO261, Q_HO264, Q_BK266, Q_GW266, Q_GE266, Q_NB211_266, Q_NB266_211, Q_NB212_266, Q_NB266_212, Q_NB225_266, Q_NB266_225, Q_NB229_266, Q_NB266_229, Q_NB233_266, Q_NB266_233, Q_NB238_266, Q_NB266_238, Q_BK266_e9, Q_X1_, Q_X3_, Q_X4_, Q_X5_, Q_X6_, Q_X8_⟩ hb_ hon hoff
                 refine ⟨_, rfl, fun K hK => ?_⟩
                 have e2 : a.tmps[2]? = some (.pointer (some ⟨gb211, 0, none⟩)) := by rw [ha]; exact (putSel_off rfl).trans rfl
                 replace ha := Aside0.mk ha
                 have HO217 := Aside0.mk Q_HO217
                 have HO220 := Aside0.mk Q_HO220
                 have HO223 := Aside0.mk Q_HO223
                 have HO228 := Aside0.mk Q_HO228
                 have HO232 := Aside0.mk Q_HO232
                 have HO236 := Aside0.mk Q_HO236
                 have HO242 := Aside0.mk Q_HO242
                 have HO246 := Aside0.mk Q_HO246
                 have BK211 := Aside0.mk Q_BK211
                 have BK212 := Aside0.mk Q_BK212
                 have BK225 := Aside0.mk Q_BK225
                 have BK229 := Aside0.mk Q_BK229
                 have BK233 := Aside0.mk Q_BK233
                 have BK238 := Aside0.mk Q_BK238
                 have HB := Aside0.mk Q_HB
                 have hc0_ : w'.cell? ⟨gb211, 0, none⟩ = some (.slice A0_0 l0_0.length c0_0) := (blk_cell BK211.out 0).trans rfl
                 refine value_ (w1 := w') (v := .agg #[.slice A0_0 l0_0.length c0_0]) (by rfl) rfl ?_ ?_
                 ·go_simp
                  (try simp only [i64_w])
                  try rfl
                 refine hK.out _ _ ⟨v257, v260, v263, gb266, m1_, m3_, m4_, m5_, m6_, m8_, (by rw [ha.out]; exact putSel_upk 0 hb_ rfl rfl rfl), Q_HO217, Q_HO220, Q_HO223, Q_HO228, Q_HO232, Q_HO236, Q_HO242, Q_HO246, Q_BK211, Q_BK212, Q_BK225, Q_BK229, Q_BK233, Q_BK238, Q_HB, fun h0_ => absurd ((hoff 1 (by kernel_rfl)).symm.trans h0_) (by decide), fun h0_ => absurd ((hoff 3 (by kernel_rfl)).symm.trans h0_) (by decide), fun h0_ => absurd ((hoff 4 (by kernel_rfl)).symm.trans h0_) (by decide), Q_BK266, Q_GW266, Q_GE266, Q_NB211_266, Q_NB266_211, Q_NB212_266, Q_NB266_212, Q_NB225_266, Q_NB266_225, Q_NB229_266, Q_NB266_229, Q_NB233_266, Q_NB266_233, Q_NB238_266, Q_NB266_238, fun h0_ => absurd ((hoff 9 (by kernel_rfl)).symm.trans h0_) (by decide), fun h0_ => absurd ((hoff 1 (by kernel_rfl)).symm.trans h0_) (by decide), fun h0_ => absurd ((hoff 3 (by kernel_rfl)).symm.trans h0_) (by decide), fun h0_ => absurd ((hoff 4 (by kernel_rfl)).symm.trans h0_) (by decide), fun h0_ => absurd ((hoff 5 (by kernel_rfl)).symm.trans h0_) (by decide), fun h0_ => absurd ((hoff 6 (by kernel_rfl)).symm.trans h0_) (by decide), Q_X8_⟩
                refine steps_cons ?_ ?_
                ·rintro b a w' ⟨v257, v260, v263, gb266, m1_, m3_, m4_, m5_, m6_, m8_, ha, Q_HO217, Q_HO220, Q_HO223, Q_HO228, Q_HO232, Q_HO236, Q_HO242, Q_HO246, Q_BK211, Q_BK212, Q_BK225, Q_BK229, Q_BK233, Q_BK238, Q_HB, Q_HO258, Q_HO261, Q_HO264, Q_BK266, Q_GW266, Q_GE266, Q_NB211_266, Q_NB266_211, Q_NB212_266, Q_NB266_212, Q_NB225_266, Q_NB266_225, Q_NB229_266, Q_NB266_229, Q_NB233_266, Q_NB266_233, Q_NB238_266, Q_NB266_238, Q_BK266_e9, Q_X1_, Q_X3_, Q_X4_, Q_X5_, Q_X6_, Q_X8_⟩ hb_ hon hoff
                 refine ⟨_, rfl, fun K hK => ?_⟩
                 have e95 : a.tmps[95]? = some (.agg #[.slice A0_0 l0_0.length c0_0]) := by rw [ha]; exact putSel_on (e := (0, 95, .agg #[.slice A0_0 l0_0.length c0_0])) 0 rfl rfl (hon 0 (by kernel_rfl)) rfl
                 replace ha := Aside0.mk ha
                 have HO217 := Aside0.mk Q_HO217
                 have HO220 := Aside0.mk Q_HO220
                 have HO223 := Aside0.mk Q_HO223
                 have HO228 := Aside0.mk Q_HO228
                 have HO232 := Aside0.mk Q_HO232
                 have HO236 := Aside0.mk Q_HO236
                 have HO242 := Aside0.mk Q_HO242
                 have HO246 := Aside0.mk Q_HO246
                 have BK211 := Aside0.mk Q_BK211
                 have BK212 := Aside0.mk Q_BK212
                 have BK225 := Aside0.mk Q_BK225
                 have BK229 := Aside0.mk Q_BK229
                 have BK233 := Aside0.mk Q_BK233
                 have BK238 := Aside0.mk Q_BK238
                 have HB := Aside0.mk Q_HB
                 refine goes_ Try.func17 (by kernel_rfl) rfl #[.agg #[.slice A0_0 l0_0.length c0_0]] (by rfl) rfl rfl (by first | (simp only [List.map_toArray, List.map_cons, List.map_nil, Act.eval, Array.getD_eq_getD_getElem?, Option.getD_some, e95]; done) | (simp only [List.map_toArray, List.map_cons, List.map_nil, Act.eval, Array.getD_eq_getD_getElem?, Option.getD_some, e95]; rfl)) ?_
                 with_reducible refine (laws_toNat.calls k _ _ l0_0 t256 _ ?side1 ?side2 A43.out).mono ?_
                 (case side1 => repeat (first | exact (Kd.C_below HR0_0.out HB.out) | (with_reducible refine Kd.C_alloc ?_ _) | (with_reducible refine Kd.C_drewN ?_ _) | (with_reducible refine Kd.C_drew ?_)))
                 (case side2 => exact HC0_0.out)
                 rintro e w121 ⟨v257, rfl, ho0, hb⟩
                 refine ⟨_, rfl, ?_⟩
                 have n0_ := Sq.m (Kd.R_elder' (by apply Sq.ra; exact HO217.out) (Kd.R_base ho0) hb)
                 have n1_ := Sq.m (Kd.R_elder' (by apply Sq.ra; exact HO220.out) (Kd.R_base ho0) hb)
                 have n2_ := Sq.m (Kd.R_elder' (by apply Sq.ra; exact HO223.out) (Kd.R_base ho0) hb)
                 have n3_ := Sq.m (Kd.R_elder' (by apply Sq.ra; exact HO228.out) (Kd.R_base ho0) hb)
                 have n4_ := Sq.m (Kd.R_elder' (by apply Sq.ra; exact HO232.out) (Kd.R_base ho0) hb)
                 have n5_ := Sq.m (Kd.R_elder' (by apply Sq.ra; exact HO236.out) (Kd.R_base ho0) hb)
                 have n6_ := Sq.m (Kd.R_elder' (by apply Sq.ra; exact HO242.out) (Kd.R_base ho0) hb)
                 have n7_ := Sq.m (Kd.R_elder' (by apply Sq.ra; exact HO246.out) (Kd.R_base ho0) hb)
                 have n8_ := Sq.m (Kd.R_lower (Kd.R_new' (Kd.R_new' (Kd.R_new' (Kd.R_new' (Kd.R_new' (Kd.R_new' (Kd.R_new' (Kd.R_new' ho0 (Kd.R_lt (by apply Sq.ra; exact HO217.out))) (Kd.R_lt (by apply Sq.ra; exact HO220.out))) (Kd.R_lt (by apply Sq.ra; exact HO223.out))) (Kd.R_lt (by apply Sq.ra; exact HO228.out))) (Kd.R_lt (by apply Sq.ra; exact HO232.out))) (Kd.R_lt (by apply Sq.ra; exact HO236.out))) (Kd.R_lt (by apply Sq.ra; exact HO242.out))) (Kd.R_lt (by apply Sq.ra; exact HO246.out))) (below_size (by repeat (first | (with_reducible first | exact HB.out | apply Sq.rc | refine below_set ?_ GE211.out | refine below_set ?_ GE212.out | refine below_set ?_ GE225.out | refine below_set ?_ GE229.out | refine below_set ?_ GE233.out | refine below_set ?_ GE238.out) | exact HB.out))))
                 have n9_ := Sq.m (blk_below (g := gb211) (o := .cells #[.slice A0_0 l0_0.length c0_0] 24 (0, 0)) (by apply Sq.rb; exact BK211.out) hb)
                 have n10_ := Sq.m (blk_below (g := gb212) (o := .cells #[.slice A1_0 l1_0.length c1_0] 24 (0, 0)) (by apply Sq.rb; exact BK212.out) hb)
                 have n11_ := Sq.m (blk_below (g := gb225) (o := .cells #[.slice Ao99 t221.length co99] 26 (0, 0)) (by apply Sq.rb; exact BK225.out) hb)
                 have n12_ := Sq.m (blk_below (g := gb229) (o := .cells #[.slice Ao73 t226.length co73] 26 (0, 0)) (by apply Sq.rb; exact BK229.out) hb)
                 have n13_ := Sq.m (blk_below (g := gb233) (o := .cells #[.slice Ao82 t230.length co82] 26 (0, 0)) (by apply Sq.rb; exact BK233.out) hb)
                 have n14_ := Sq.m (blk_below (g := gb238) (o := .cells #[.slice Ao91 t234.length co91] 26 (0, 0)) (by apply Sq.rb; exact BK238.out) hb)
                 have n15_ := Sq.m (below_step (by repeat (first | (with_reducible first | exact HB.out | apply Sq.rc | refine below_set ?_ GE211.out | refine below_set ?_ GE212.out | refine below_set ?_ GE225.out | refine below_set ?_ GE229.out | refine below_set ?_ GE233.out | refine below_set ?_ GE238.out) | exact HB.out)) hb)
                 have z_BK266 := fun (h0_ : b 8 = true) (h1_ : b 9 = false) => (show w121.heap[gb266]? = some (.cells #[.slice none 0 0] 26 (0, 0)) from by first | exact (blk_below (g := gb266) (o := .cells #[.slice none 0 0] 26 (0, 0)) (by apply Sq.rb; exact (Q_BK266 h0_ h1_)) hb))
                 clear HO217
                 clear HO220
                 clear HO223
                 clear HO228
                 clear HO232
                 clear HO236
                 clear HO242
                 clear HO246
                 clear BK211
                 clear BK212
                 clear BK225
                 clear BK229
                 clear BK233
                 clear BK238
                 clear HB
                 have HO217 := n0_
                 have HO220 := n1_
                 have HO223 := n2_
                 have HO228 := n3_
                 have HO232 := n4_
                 have HO236 := n5_
                 have HO242 := n6_
                 have HO246 := n7_
                 have HO258 := n8_
                 have BK211 := n9_
                 have BK212 := n10_
                 have BK225 := n11_
                 have BK229 := n12_
                 have BK233 := n13_
                 have BK238 := n14_
                 have HB := n15_
                 clear n0_ n1_ n2_ n3_ n4_ n5_ n6_ n7_ n8_ n9_ n10_ n11_ n12_ n13_ n14_ n15_
                 (try clear hb)
                 (try clear hb2)
                 (try clear hk)
                 (try clear hi)
                 (try clear ho0)
                 refine hK.out _ _ ⟨v257, v260, v263, gb266, (.agg #[v257]), m3_, m4_, m5_, m6_, m8_, (by rw [ha.out]; exact putSel_upk 1 hb_ rfl rfl rfl), (by apply Sq.ra; exact Kd.R_mono HO217.out (fun _ hk => by first | exact True.intro | exact hk.1 | exact hk | exact ⟨hk.1.1, ⟨hk.1.2.1, ⟨hk.1.2.2.1, ⟨hk.1.2.2.2.1, ⟨hk.1.2.2.2.2, hk.2⟩⟩⟩⟩⟩ | simp only [hk, ne_eq, not_false_eq_true, and_self, and_true, true_and])), (by apply Sq.ra; exact Kd.R_mono HO220.out (fun _ hk => by first | exact True.intro | exact hk.1 | exact hk | exact ⟨hk.1.1, ⟨hk.1.2.1, ⟨hk.1.2.2.1, ⟨hk.1.2.2.2.1, ⟨hk.1.2.2.2.2, hk.2⟩⟩⟩⟩⟩ | simp only [hk, ne_eq, not_false_eq_true, and_self, and_true, true_and])), (by apply Sq.ra; exact Kd.R_mono HO223.out (fun _ hk => by first | exact True.intro | exact hk.1 | exact hk | exact ⟨hk.1.1, ⟨hk.1.2.1, ⟨hk.1.2.2.1, ⟨hk.1.2.2.2.1, ⟨hk.1.2.2.2.2, hk.2⟩⟩⟩⟩⟩ | simp only [hk, ne_eq, not_false_eq_true, and_self, and_true, true_and])), (by apply Sq.ra; exact Kd.R_mono HO228.out (fun _ hk => by first | exact True.intro | exact hk.1 | exact hk | exact ⟨hk.1.1, ⟨hk.1.2.1, ⟨hk.1.2.2.1, ⟨hk.1.2.2.2.1, ⟨hk.1.2.2.2.2.1, ⟨hk.1.2.2.2.2.2.1, ⟨hk.1.2.2.2.2.2.2, hk.2⟩⟩⟩⟩⟩⟩⟩ | simp only [hk, ne_eq, not_false_eq_true, and_self, and_true, true_and])), (by apply Sq.ra; exact Kd.R_mono HO232.out (fun _ hk => by first | exact True.intro | exact hk.1 | exact hk | exact ⟨hk.1.1, ⟨hk.1.2.1, ⟨hk.1.2.2.1, ⟨hk.1.2.2.2.1, ⟨hk.1.2.2.2.2.1, ⟨hk.1.2.2.2.2.2.1, ⟨hk.1.2.2.2.2.2.2, hk.2⟩⟩⟩⟩⟩⟩⟩ | simp only [hk, ne_eq, not_false_eq_true, and_self, and_true, true_and])), (by apply Sq.ra; exact Kd.R_mono HO236.out (fun _ hk => by first | exact True.intro | exact hk.1 | exact hk | exact ⟨hk.1.1, ⟨hk.1.2.1, ⟨hk.1.2.2.1, ⟨hk.1.2.2.2.1, ⟨hk.1.2.2.2.2.1, ⟨hk.1.2.2.2.2.2.1, ⟨hk.1.2.2.2.2.2.2, hk.2⟩⟩⟩⟩⟩⟩⟩ | simp only [hk, ne_eq, not_false_eq_true, and_self, and_true, true_and])), (by apply Sq.ra; exact Kd.R_mono HO242.out (fun _ hk => by first | exact True.intro | exact hk.1 | exact hk | exact ⟨hk.1.1, ⟨hk.1.2.1, ⟨hk.1.2.2.1, ⟨hk.1.2.2.2.1, ⟨hk.1.2.2.2.2.1, ⟨hk.1.2.2.2.2.2.1, ⟨hk.1.2.2.2.2.2.2, hk.2⟩⟩⟩⟩⟩⟩⟩ | simp only [hk, ne_eq, not_false_eq_true, and_self, and_true, true_and])), (by apply Sq.ra; exact Kd.R_mono HO246.out (fun _ hk => by first | exact True.intro | exact hk.1 | exact hk | exact ⟨hk.1.1, ⟨hk.1.2.1, ⟨hk.1.2.2.1, ⟨hk.1.2.2.2.1, ⟨hk.1.2.2.2.2.1, ⟨hk.1.2.2.2.2.2.1, ⟨hk.1.2.2.2.2.2.2, hk.2⟩⟩⟩⟩⟩⟩⟩ | simp only [hk, ne_eq, not_false_eq_true, and_self, and_true, true_and])), (by apply Sq.rb; exact BK211.out), (by apply Sq.rb; exact BK212.out), (by apply Sq.rb; exact BK225.out), (by apply Sq.rb; exact BK229.out), (by apply Sq.rb; exact BK233.out), (by apply Sq.rb; exact BK238.out), (by repeat (first | (with_reducible first | exact HB.out | apply Sq.rc | refine below_set ?_ GE211.out | refine below_set ?_ GE212.out | refine below_set ?_ GE225.out | refine below_set ?_ GE229.out | refine below_set ?_ GE233.out | refine below_set ?_ GE238.out) | exact HB.out)), fun _ => (by apply Sq.ra; exact Kd.R_mono HO258.out (fun _ hk => ⟨hk.1.1.1.1.1.1.1.2, ⟨hk.1.1.1.1.1.1.2, ⟨hk.1.1.1.1.1.2, ⟨hk.1.1.1.1.2, ⟨hk.1.1.1.2, ⟨hk.1.1.2, ⟨hk.1.2, hk.2⟩⟩⟩⟩⟩⟩⟩)), fun h0_ => absurd ((hoff 3 (by kernel_rfl)).symm.trans h0_) (by decide), fun h0_ => absurd ((hoff 4 (by kernel_rfl)).symm.trans h0_) (by decide), z_BK266, Q_GW266, Q_GE266, Q_NB211_266, Q_NB266_211, Q_NB212_266, Q_NB266_212, Q_NB225_266, Q_NB266_225, Q_NB229_266, Q_NB266_229, Q_NB233_266, Q_NB266_233, Q_NB238_266, Q_NB266_238, fun h0_ => absurd ((hoff 9 (by kernel_rfl)).symm.trans h0_) (by decide), fun _ => rfl, fun h0_ => absurd ((hoff 3 (by kernel_rfl)).symm.trans h0_) (by decide), fun h0_ => absurd ((hoff 4 (by kernel_rfl)).symm.trans h0_) (by decide), fun h0_ => absurd ((hoff 5 (by kernel_rfl)).symm.trans h0_) (by decide), fun h0_ => absurd ((hoff 6 (by kernel_rfl)).symm.trans h0_) (by decide), Q_X8_⟩
                refine steps_cons ?_ ?_
                ·rintro b a w' ⟨v257, v260, v263, gb266, m1_, m3_, m4_, m5_, m6_, m8_, ha, Q_HO217, Q_HO220, Q_HO223, Q_HO228, Q_HO232, Q_HO236, Q_HO242, Q_HO246, Q_BK211, Q_BK212, Q_BK225, Q_BK229, Q_BK233, Q_BK238, Q_HB, Q_HO258, Q_HO261, Q_HO264, Q_BK266, Q_GW266, Q_GE266, Q_NB211_266, Q_NB266_211, Q_NB212_266, Q_NB266_212, Q_NB225_266, Q_NB266_225, Q_NB229_266, Q_NB266_229, Q_NB233_266, Q_NB266_233, Q_NB238_266, Q_NB266_238, Q_BK266_e9, Q_X1_, Q_X3_, Q_X4_, Q_X5_, Q_X6_, Q_X8_⟩ hb_ hon hoff
                 refine ⟨_, rfl, fun K hK => ?_⟩
                 have e3 : a.tmps[3]? = some (.pointer (some ⟨gb212, 0, none⟩)) := by rw [ha]; exact (putSel_off rfl).trans rfl
                 replace ha := Aside0.mk ha
                 have HO217 := Aside0.mk Q_HO217
                 have HO220 := Aside0.mk Q_HO220
                 have HO223 := Aside0.mk Q_HO223
                 have HO228 := Aside0.mk Q_HO228
                 have HO232 := Aside0.mk Q_HO232
                 have HO236 := Aside0.mk Q_HO236
                 have HO242 := Aside0.mk Q_HO242
                 have HO246 := Aside0.mk Q_HO246
                 have BK211 := Aside0.mk Q_BK211
                 have BK212 := Aside0.mk Q_BK212
                 have BK225 := Aside0.mk Q_BK225
                 have BK229 := Aside0.mk Q_BK229
                 have BK233 := Aside0.mk Q_BK233
                 have BK238 := Aside0.mk Q_BK238
                 have HB := Aside0.mk Q_HB
                 have hc0_ : w'.cell? ⟨gb212, 0, none⟩ = some (.slice A1_0 l1_0.length c1_0) := (blk_cell BK212.out 0).trans rfl
                 refine value_ (w1 := w') (v := .agg #[.slice A1_0 l1_0.length c1_0]) (by rfl) rfl ?_ ?_
                 ·go_simp
                  (try simp only [i64_w])
                  try rfl
                 refine hK.out _ _ ⟨v257, v260, v263, gb266, m1_, m3_, m4_, m5_, m6_, m8_, (by rw [ha.out]; exact putSel_upk 2 hb_ rfl rfl rfl), Q_HO217, Q_HO220, Q_HO223, Q_HO228, Q_HO232, Q_HO236, Q_HO242, Q_HO246, Q_BK211, Q_BK212, Q_BK225, Q_BK229, Q_BK233, Q_BK238, Q_HB, Q_HO258, fun h0_ => absurd ((hoff 3 (by kernel_rfl)).symm.trans h0_) (by decide), fun h0_ => absurd ((hoff 4 (by kernel_rfl)).symm.trans h0_) (by decide), Q_BK266, Q_GW266, Q_GE266, Q_NB211_266, Q_NB266_211, Q_NB212_266, Q_NB266_212, Q_NB225_266, Q_NB266_225, Q_NB229_266, Q_NB266_229, Q_NB233_266, Q_NB266_233, Q_NB238_266, Q_NB266_238, fun h0_ => absurd ((hoff 9 (by kernel_rfl)).symm.trans h0_) (by decide), Q_X1_, fun h0_ => absurd ((hoff 3 (by kernel_rfl)).symm.trans h0_) (by decide), fun h0_ => absurd ((hoff 4 (by kernel_rfl)).symm.trans h0_) (by decide), fun h0_ => absurd ((hoff 5 (by kernel_rfl)).symm.trans h0_) (by decide), fun h0_ => absurd ((hoff 6 (by kernel_rfl)).symm.trans h0_) (by decide), Q_X8_⟩
                refine steps_cons ?_ ?_
                ·rintro b a w' ⟨v257, v260, v263, gb266, m1_, m3_, m4_, m5_, m6_, m8_, ha, Q_HO217, Q_HO220, Q_HO223, Q_HO228, Q_HO232, Q_HO236, Q_HO242, Q_HO246, Q_BK211, Q_BK212, Q_BK225, Q_BK229, Q_BK233, Q_BK238, Q_HB, Q_HO258, Q_HO261, Q_HO264, Q_BK266, Q_GW266, Q_GE266, Q_NB211_266, Q_NB266_211, Q_NB212_266, Q_NB266_212, Q_NB225_266, Q_NB266_225, Q_NB229_266, Q_NB266_229, Q_NB233_266, Q_NB266_233, Q_NB238_266, Q_NB266_238, Q_BK266_e9, Q_X1_, Q_X3_, Q_X4_, Q_X5_, Q_X6_, Q_X8_⟩ hb_ hon hoff
                 refine ⟨_, rfl, fun K hK => ?_⟩
                 have e97 : a.tmps[97]? = some (.agg #[.slice A1_0 l1_0.length c1_0]) := by rw [ha]; exact putSel_on (e := (2, 97, .agg #[.slice A1_0 l1_0.length c1_0])) 2 rfl rfl (hon 2 (by kernel_rfl)) rfl
                 replace ha := Aside0.mk ha
                 have HO217 := Aside0.mk Q_HO217
                 have HO220 := Aside0.mk Q_HO220
                 have HO223 := Aside0.mk Q_HO223
                 have HO228 := Aside0.mk Q_HO228
                 have HO232 := Aside0.mk Q_HO232
                 have HO236 := Aside0.mk Q_HO236
                 have HO242 := Aside0.mk Q_HO242
                 have HO246 := Aside0.mk Q_HO246
                 have BK211 := Aside0.mk Q_BK211
                 have BK212 := Aside0.mk Q_BK212
                 have BK225 := Aside0.mk Q_BK225
                 have BK229 := Aside0.mk Q_BK229
                 have BK233 := Aside0.mk Q_BK233
                 have BK238 := Aside0.mk Q_BK238
                 have HB := Aside0.mk Q_HB
                 have HO258 := Sq.m (Q_HO258 (hon 1 (by kernel_rfl)))
                 refine goes_ Try.func17 (by kernel_rfl) rfl #[.agg #[.slice A1_0 l1_0.length c1_0]] (by rfl) rfl rfl (by first | (simp only [List.map_toArray, List.map_cons, List.map_nil, Act.eval, Array.getD_eq_getD_getElem?, Option.getD_some, e97]; done) | (simp only [List.map_toArray, List.map_cons, List.map_nil, Act.eval, Array.getD_eq_getD_getElem?, Option.getD_some, e97]; rfl)) ?_
                 with_reducible refine (laws_toNat.calls k _ _ l1_0 t259 _ ?side1 ?side2 A44.out).mono ?_
                 (case side1 => repeat (first | exact (Kd.C_below HR1_0.out HB.out) | (with_reducible refine Kd.C_alloc ?_ _) | (with_reducible refine Kd.C_drewN ?_ _) | (with_reducible refine Kd.C_drew ?_)))
                 (case side2 => exact HC1_0.out)
                 rintro e w123 ⟨v260, rfl, ho0, hb⟩
                 refine ⟨_, rfl, ?_⟩
                 have n0_ := Sq.m (Kd.R_elder' (by apply Sq.ra; exact HO217.out) (Kd.R_base ho0) hb)
                 have n1_ := Sq.m (Kd.R_elder' (by apply Sq.ra; exact HO220.out) (Kd.R_base ho0) hb)
                 have n2_ := Sq.m (Kd.R_elder' (by apply Sq.ra; exact HO223.out) (Kd.R_base ho0) hb)
                 have n3_ := Sq.m (Kd.R_elder' (by apply Sq.ra; exact HO228.out) (Kd.R_base ho0) hb)
                 have n4_ := Sq.m (Kd.R_elder' (by apply Sq.ra; exact HO232.out) (Kd.R_base ho0) hb)
                 have n5_ := Sq.m (Kd.R_elder' (by apply Sq.ra; exact HO236.out) (Kd.R_base ho0) hb)
                 have n6_ := Sq.m (Kd.R_elder' (by apply Sq.ra; exact HO242.out) (Kd.R_base ho0) hb)
                 have n7_ := Sq.m (Kd.R_elder' (by apply Sq.ra; exact HO246.out) (Kd.R_base ho0) hb)
                 have n8_ := Sq.m (Kd.R_elder' (by apply Sq.ra; exact HO258.out) (Kd.R_base ho0) hb)
                 have n9_ := Sq.m (Kd.R_lower (Kd.R_new' (Kd.R_new' (Kd.R_new' (Kd.R_new' (Kd.R_new' (Kd.R_new' (Kd.R_new' (Kd.R_new' (Kd.R_new' ho0 (Kd.R_lt (by apply Sq.ra; exact HO217.out))) (Kd.R_lt (by apply Sq.ra; exact HO220.out))) (Kd.R_lt (by apply Sq.ra; exact HO223.out))) (Kd.R_lt (by apply Sq.ra; exact HO228.out))) (Kd.R_lt (by apply Sq.ra; exact HO232.out))) (Kd.R_lt (by apply Sq.ra; exact HO236.out))) (Kd.R_lt (by apply Sq.ra; exact HO242.out))) (Kd.R_lt (by apply Sq.ra; exact HO246.out))) (Kd.R_lt (by apply Sq.ra; exact HO258.out))) (below_size (by repeat (first | (with_reducible first | exact HB.out | apply Sq.rc | refine below_set ?_ GE211.out | refine below_set ?_ GE212.out | refine below_set ?_ GE225.out | refine below_set ?_ GE229.out | refine below_set ?_ GE233.out | refine below_set ?_ GE238.out) | exact HB.out))))
                 have n10_ := Sq.m (blk_below (g := gb211) (o := .cells #[.slice A0_0 l0_0.length c0_0] 24 (0, 0)) (by apply Sq.rb; exact BK211.out) hb)
                 have n11_ := Sq.m (blk_below (g := gb212) (o := .cells #[.slice A1_0 l1_0.length c1_0] 24 (0, 0)) (by apply Sq.rb; exact BK212.out) hb)
                 have n12_ := Sq.m (blk_below (g := gb225) (o := .cells #[.slice Ao99 t221.length co99] 26 (0, 0)) (by apply Sq.rb; exact BK225.out) hb)
                 have n13_ := Sq.m (blk_below (g := gb229) (o := .cells #[.slice Ao73 t226.length co73] 26 (0, 0)) (by apply Sq.rb; exact BK229.out) hb)
                 have n14_ := Sq.m (blk_below (g := gb233) (o := .cells #[.slice Ao82 t230.length co82] 26 (0, 0)) (by apply Sq.rb; exact BK233.out) hb)
                 have n15_ := Sq.m (blk_below (g := gb238) (o := .cells #[.slice Ao91 t234.length co91] 26 (0, 0)) (by apply Sq.rb; exact BK238.out) hb)
                 have n16_ := Sq.m (below_step (by repeat (first | (with_reducible first | exact HB.out | apply Sq.rc | refine below_set ?_ GE211.out | refine below_set ?_ GE212.out | refine below_set ?_ GE225.out | refine below_set ?_ GE229.out | refine below_set ?_ GE233.out | refine below_set ?_ GE238.out) | exact HB.out)) hb)
                 have z_BK266 := fun (h0_ : b 8 = true) (h1_ : b 9 = false) => (show w123.heap[gb266]? = some (.cells #[.slice none 0 0] 26 (0, 0)) from by first | exact (blk_below (g := gb266) (o := .cells #[.slice none 0 0] 26 (0, 0)) (by apply Sq.rb; exact (Q_BK266 h0_ h1_)) hb))
                 clear HO217
                 clear HO220
                 clear HO223
                 clear HO228
                 clear HO232
                 clear HO236
                 clear HO242
                 clear HO246
                 clear HO258
                 clear BK211
                 clear BK212
                 clear BK225
                 clear BK229
                 clear BK233
                 clear BK238
                 clear HB
                 have HO217 := n0_
                 have HO220 := n1_
                 have HO223 := n2_
                 have HO228 := n3_
                 have HO232 := n4_
                 have HO236 := n5_
                 have HO242 := n6_
                 have HO246 := n7_
                 have HO258 := n8_
                 have HO261 := n9_
                 have BK211 := n10_
                 have BK212 := n11_
                 have BK225 := n12_
                 have BK229 := n13_
                 have BK233 := n14_
                 have BK238 := n15_
                 have HB := n16_
                 clear n0_ n1_ n2_ n3_ n4_ n5_ n6_ n7_ n8_ n9_ n10_ n11_ n12_ n13_ n14_ n15_ n16_
                 (try clear hb)
                 (try clear hb2)
                 (try clear hk)
                 (try clear hi)
                 (try clear ho0)
                 refine hK.out _ _ ⟨v257, v260, v263, gb266, m1_, (.agg #[v260]), m4_, m5_, m6_, m8_, (by rw [ha.out]; exact putSel_upk 3 hb_ rfl rfl rfl), (by apply Sq.ra; exact Kd.R_mono HO217.out (fun _ hk => by first | exact True.intro | exact hk.1 | exact hk | exact ⟨hk.1.1, ⟨hk.1.2.1, ⟨hk.1.2.2.1, ⟨hk.1.2.2.2.1, ⟨hk.1.2.2.2.2, hk.2⟩⟩⟩⟩⟩ | simp only [hk, ne_eq, not_false_eq_true, and_self, and_true, true_and])), (by apply Sq.ra; exact Kd.R_mono HO220.out (fun _ hk => by first | exact True.intro | exact hk.1 | exact hk | exact ⟨hk.1.1, ⟨hk.1.2.1, ⟨hk.1.2.2.1, ⟨hk.1.2.2.2.1, ⟨hk.1.2.2.2.2, hk.2⟩⟩⟩⟩⟩ | simp only [hk, ne_eq, not_false_eq_true, and_self, and_true, true_and])), (by apply Sq.ra; exact Kd.R_mono HO223.out (fun _ hk => by first | exact True.intro | exact hk.1 | exact hk | exact ⟨hk.1.1, ⟨hk.1.2.1, ⟨hk.1.2.2.1, ⟨hk.1.2.2.2.1, ⟨hk.1.2.2.2.2, hk.2⟩⟩⟩⟩⟩ | simp only [hk, ne_eq, not_false_eq_true, and_self, and_true, true_and])), (by apply Sq.ra; exact Kd.R_mono HO228.out (fun _ hk => by first | exact True.intro | exact hk.1 | exact hk | exact ⟨hk.1.1, ⟨hk.1.2.1, ⟨hk.1.2.2.1, ⟨hk.1.2.2.2.1, ⟨hk.1.2.2.2.2.1, ⟨hk.1.2.2.2.2.2.1, ⟨hk.1.2.2.2.2.2.2, hk.2⟩⟩⟩⟩⟩⟩⟩ | simp only [hk, ne_eq, not_false_eq_true, and_self, and_true, true_and])), (by apply Sq.ra; exact Kd.R_mono HO232.out (fun _ hk => by first | exact True.intro | exact hk.1 | exact hk | exact ⟨hk.1.1, ⟨hk.1.2.1, ⟨hk.1.2.2.1, ⟨hk.1.2.2.2.1, ⟨hk.1.2.2.2.2.1, ⟨hk.1.2.2.2.2.2.1, ⟨hk.1.2.2.2.2.2.2, hk.2⟩⟩⟩⟩⟩⟩⟩ | simp only [hk, ne_eq, not_false_eq_true, and_self, and_true, true_and])), (by apply Sq.ra; exact Kd.R_mono HO236.out (fun _ hk => by first | exact True.intro | exact hk.1 | exact hk | exact ⟨hk.1.1, ⟨hk.1.2.1, ⟨hk.1.2.2.1, ⟨hk.1.2.2.2.1, ⟨hk.1.2.2.2.2.1, ⟨hk.1.2.2.2.2.2.1, ⟨hk.1.2.2.2.2.2.2, hk.2⟩⟩⟩⟩⟩⟩⟩ | simp only [hk, ne_eq, not_false_eq_true, and_self, and_true, true_and])), (by apply Sq.ra; exact Kd.R_mono HO242.out (fun _ hk => by first | exact True.intro | exact hk.1 | exact hk | exact ⟨hk.1.1, ⟨hk.1.2.1, ⟨hk.1.2.2.1, ⟨hk.1.2.2.2.1, ⟨hk.1.2.2.2.2.1, ⟨hk.1.2.2.2.2.2.1, ⟨hk.1.2.2.2.2.2.2, hk.2⟩⟩⟩⟩⟩⟩⟩ | simp only [hk, ne_eq, not_false_eq_true, and_self, and_true, true_and])), (by apply Sq.ra; exact Kd.R_mono HO246.out (fun _ hk => by first | exact True.intro | exact hk.1 | exact hk | exact ⟨hk.1.1, ⟨hk.1.2.1, ⟨hk.1.2.2.1, ⟨hk.1.2.2.2.1, ⟨hk.1.2.2.2.2.1, ⟨hk.1.2.2.2.2.2.1, ⟨hk.1.2.2.2.2.2.2, hk.2⟩⟩⟩⟩⟩⟩⟩ | simp only [hk, ne_eq, not_false_eq_true, and_self, and_true, true_and])), (by apply Sq.rb; exact BK211.out), (by apply Sq.rb; exact BK212.out), (by apply Sq.rb; exact BK225.out), (by apply Sq.rb; exact BK229.out), (by apply Sq.rb; exact BK233.out), (by apply Sq.rb; exact BK238.out), (by repeat (first | (with_reducible first | exact HB.out | apply Sq.rc | refine below_set ?_ GE211.out | refine below_set ?_ GE212.out | refine below_set ?_ GE225.out | refine below_set ?_ GE229.out | refine below_set ?_ GE233.out | refine below_set ?_ GE238.out) | exact HB.out)), fun _ => (by apply Sq.ra; exact Kd.R_mono HO258.out (fun _ hk => by first | exact True.intro | exact hk.1 | exact hk | exact ⟨hk.1.1, ⟨hk.1.2.1, ⟨hk.1.2.2.1, ⟨hk.1.2.2.2.1, ⟨hk.1.2.2.2.2.1, ⟨hk.1.2.2.2.2.2.1, ⟨hk.1.2.2.2.2.2.2.1, ⟨hk.1.2.2.2.2.2.2.2, hk.2⟩⟩⟩⟩⟩⟩⟩⟩ | simp only [hk, ne_eq, not_false_eq_true, and_self, and_true, true_and])), fun _ => (by apply Sq.ra; exact Kd.R_mono HO261.out (fun _ hk => by first | exact True.intro | exact hk.1 | exact hk | exact ⟨hk.1.1.1.1.1.1.1.1.2, ⟨hk.1.1.1.1.1.1.1.2, ⟨hk.1.1.1.1.1.1.2, ⟨hk.1.1.1.1.1.2, ⟨hk.1.1.1.1.2, ⟨hk.1.1.1.2, ⟨hk.1.1.2, ⟨hk.1.2, hk.2⟩⟩⟩⟩⟩⟩⟩⟩ | simp only [hk, ne_eq, not_false_eq_true, and_self, and_true, true_and])), fun h0_ => absurd ((hoff 4 (by kernel_rfl)).symm.trans h0_) (by decide), z_BK266, Q_GW266, Q_GE266, Q_NB211_266, Q_NB266_211, Q_NB212_266, Q_NB266_212, Q_NB225_266, Q_NB266_225, Q_NB229_266, Q_NB266_229, Q_NB233_266, Q_NB266_233, Q_NB238_266, Q_NB266_238, fun h0_ => absurd ((hoff 9 (by kernel_rfl)).symm.trans h0_) (by decide), Q_X1_, fun _ => rfl, fun h0_ => absurd ((hoff 4 (by kernel_rfl)).symm.trans h0_) (by decide), fun h0_ => absurd ((hoff 5 (by kernel_rfl)).symm.trans h0_) (by decide), fun h0_ => absurd ((hoff 6 (by kernel_rfl)).symm.trans h0_) (by decide), Q_X8_⟩
                refine steps_cons ?_ ?_
                ·rintro b a w' ⟨v257, v260, v263, gb266, m1_, m3_, m4_, m5_, m6_, m8_, ha, Q_HO217, Q_HO220, Q_HO223, Q_HO228, Q_HO232, Q_HO236, Q_HO242, Q_HO246, Q_BK211, Q_BK212, Q_BK225, Q_BK229, Q_BK233, Q_BK238, Q_HB, Q_HO258, Q_HO261, Q_HO264, Q_BK266, Q_GW266, Q_GE266, Q_NB211_266, Q_NB266_211, Q_NB212_266, Q_NB266_212, Q_NB225_266, Q_NB266_225, Q_NB229_266, Q_NB266_229, Q_NB233_266, Q_NB266_233, Q_NB238_266, Q_NB266_238, Q_BK266_e9, Q_X1_, Q_X3_, Q_X4_, Q_X5_, Q_X6_, Q_X8_⟩ hb_ hon hoff
                 refine ⟨_, rfl, fun K hK => ?_⟩
                 have e96 : a.tmps[96]? = some (m1_) := by rw [ha]; exact putSel_on (e := (1, 96, m1_)) 1 rfl rfl (hon 1 (by kernel_rfl)) rfl
                 rw [Q_X1_ (hon 1 (by kernel_rfl))] at e96
                 have e98 : a.tmps[98]? = some (m3_) := by rw [ha]; exact putSel_on (e := (3, 98, m3_)) 3 rfl rfl (hon 3 (by kernel_rfl)) rfl
                 rw [Q_X3_ (hon 3 (by kernel_rfl))] at e98
                 replace ha := Aside0.mk ha
                 have HO217 := Aside0.mk Q_HO217
                 have HO220 := Aside0.mk Q_HO220
                 have HO223 := Aside0.mk Q_HO223
                 have HO228 := Aside0.mk Q_HO228
                 have HO232 := Aside0.mk Q_HO232
                 have HO236 := Aside0.mk Q_HO236
                 have HO242 := Aside0.mk Q_HO242
                 have HO246 := Aside0.mk Q_HO246
                 have BK211 := Aside0.mk Q_BK211
                 have BK212 := Aside0.mk Q_BK212
                 have BK225 := Aside0.mk Q_BK225
                 have BK229 := Aside0.mk Q_BK229
                 have BK233 := Aside0.mk Q_BK233
                 have BK238 := Aside0.mk Q_BK238
                 have HB := Aside0.mk Q_HB
                 have HO258 := Sq.m (Q_HO258 (hon 1 (by kernel_rfl)))
                 have HO261 := Sq.m (Q_HO261 (hon 3 (by kernel_rfl)))
                 obtain ⟨Ao124, co124, eo124⟩ := Kd.R_slice HO258.out
                 (first | subst eo124 | (injection eo124 with f1_ f2_ f3_; have f4_ := f1_.symm; have f5_ := f3_.symm; clear f1_ f2_ f3_; subst f4_; subst f5_))
                 obtain ⟨Ao125, co125, eo125⟩ := Kd.R_slice HO261.out
                 (first | subst eo125 | (injection eo125 with f1_ f2_ f3_; have f4_ := f1_.symm; have f5_ := f3_.symm; clear f1_ f2_ f3_; subst f4_; subst f5_))
                 refine goes_ Try.func18 (by kernel_rfl) rfl #[.agg #[.slice Ao124 t256.length co124], .agg #[.slice Ao125 t259.length co125]] (by rfl) rfl rfl (by first | (simp only [List.map_toArray, List.map_cons, List.map_nil, Act.eval, Array.getD_eq_getD_getElem?, Option.getD_some, e96, e98]; done) | (simp only [List.map_toArray, List.map_cons, List.map_nil, Act.eval, Array.getD_eq_getD_getElem?, Option.getD_some, e96, e98]; rfl)) ?_
                 with_reducible refine (impl_NatMul.calls k _ _ t256 _ _ t259 t262 t265 _ ?side1 ?side2 ?side3 ?side4 A45.out).mono ?_
                 (case side1 => repeat (first | exact (Kd.R_reads' HO258.out).2.2 | (with_reducible refine Kd.C_alloc ?_ _) | (with_reducible refine Kd.C_drewN ?_ _) | (with_reducible refine Kd.C_drew ?_)))
                 (case side2 => exact (Kd.R_reads' HO258.out).2.1)
                 (case side3 => repeat (first | exact (Kd.R_reads' HO261.out).2.2 | (with_reducible refine Kd.C_alloc ?_ _) | (with_reducible refine Kd.C_drewN ?_ _) | (with_reducible refine Kd.C_drew ?_)))
                 (case side4 => exact (Kd.R_reads' HO261.out).2.1)
                 rintro e w126 ⟨v263, rfl, ho0, hb⟩
                 refine ⟨_, rfl, ?_⟩
                 have n0_ := Sq.m (Kd.R_elder' (by apply Sq.ra; exact HO217.out) (Kd.R_base ho0) hb)
                 have n1_ := Sq.m (Kd.R_elder' (by apply Sq.ra; exact HO220.out) (Kd.R_base ho0) hb)
                 have n2_ := Sq.m (Kd.R_elder' (by apply Sq.ra; exact HO223.out) (Kd.R_base ho0) hb)
                 have n3_ := Sq.m (Kd.R_elder' (by apply Sq.ra; exact HO228.out) (Kd.R_base ho0) hb)
                 have n4_ := Sq.m (Kd.R_elder' (by apply Sq.ra; exact HO232.out) (Kd.R_base ho0) hb)
                 have n5_ := Sq.m (Kd.R_elder' (by apply Sq.ra; exact HO236.out) (Kd.R_base ho0) hb)
                 have n6_ := Sq.m (Kd.R_elder' (by apply Sq.ra; exact HO242.out) (Kd.R_base ho0) hb)
                 have n7_ := Sq.m (Kd.R_elder' (by apply Sq.ra; exact HO246.out) (Kd.R_base ho0) hb)
                 have n8_ := Sq.m (Kd.R_elder' (by apply Sq.ra; exact HO258.out) (Kd.R_base ho0) hb)
                 have n9_ := Sq.m (Kd.R_elder' (by apply Sq.ra; exact HO261.out) (Kd.R_base ho0) hb)
                 have n10_ := Sq.m (Kd.R_lower (Kd.R_new' (Kd.R_new' (Kd.R_new' (Kd.R_new' (Kd.R_new' (Kd.R_new' (Kd.R_new' (Kd.R_new' (Kd.R_new' (Kd.R_new' ho0 (Kd.R_lt (by apply Sq.ra; exact HO217.out))) (Kd.R_lt (by apply Sq.ra; exact HO220.out))) (Kd.R_lt (by apply Sq.ra; exact HO223.out))) (Kd.R_lt (by apply Sq.ra; exact HO228.out))) (Kd.R_lt (by apply Sq.ra; exact HO232.out))) (Kd.R_lt (by apply Sq.ra; exact HO236.out))) (Kd.R_lt (by apply Sq.ra; exact HO242.out))) (Kd.R_lt (by apply Sq.ra; exact HO246.out))) (Kd.R_lt (by apply Sq.ra; exact HO258.out))) (Kd.R_lt (by apply Sq.ra; exact HO261.out))) (below_size (by repeat (first | (with_reducible first | exact HB.out | apply Sq.rc | refine below_set ?_ GE211.out | refine below_set ?_ GE212.out | refine below_set ?_ GE225.out | refine below_set ?_ GE229.out | refine below_set ?_ GE233.out | refine below_set ?_ GE238.out) | exact HB.out))))
                 have n11_ := Sq.m (blk_below (g := gb211) (o := .cells #[.slice A0_0 l0_0.length c0_0] 24 (0, 0)) (by apply Sq.rb; exact BK211.out) hb)
                 have n12_ := Sq.m (blk_below (g := gb212) (o := .cells #[.slice A1_0 l1_0.length c1_0] 24 (0, 0)) (by apply Sq.rb; exact BK212.out) hb)
                 have n13_ := Sq.m (blk_below (g := gb225) (o := .cells #[.slice Ao99 t221.length co99] 26 (0, 0)) (by apply Sq.rb; exact BK225.out) hb)
                 have n14_ := Sq.m (blk_below (g := gb229) (o := .cells #[.slice Ao73 t226.length co73] 26 (0, 0)) (by apply Sq.rb; exact BK229.out) hb)
                 have n15_ := Sq.m (blk_below (g := gb233) (o := .cells #[.slice Ao82 t230.length co82] 26 (0, 0)) (by apply Sq.rb; exact BK233.out) hb)
                 have n16_ := Sq.m (blk_below (g := gb238) (o := .cells #[.slice Ao91 t234.length co91] 26 (0, 0)) (by apply Sq.rb; exact BK238.out) hb)
                 have n17_ := Sq.m (below_step (by repeat (first | (with_reducible first | exact HB.out | apply Sq.rc | refine below_set ?_ GE211.out | refine below_set ?_ GE212.out | refine below_set ?_ GE225.out | refine below_set ?_ GE229.out | refine below_set ?_ GE233.out | refine below_set ?_ GE238.out) | exact HB.out)) hb)
                 have z_BK266 := fun (h0_ : b 8 = true) (h1_ : b 9 = false) => (show w126.heap[gb266]? = some (.cells #[.slice none 0 0] 26 (0, 0)) from by first | exact (blk_below (g := gb266) (o := .cells #[.slice none 0 0] 26 (0, 0)) (by apply Sq.rb; exact (Q_BK266 h0_ h1_)) hb))
                 clear HO217
                 clear HO220
                 clear HO223
                 clear HO228
                 clear HO232
                 clear HO236
                 clear HO242
                 clear HO246
                 clear HO258
                 clear HO261
                 clear BK211
                 clear BK212
                 clear BK225
                 clear BK229
                 clear BK233
                 clear BK238
                 clear HB
                 have HO217 := n0_
                 have HO220 := n1_
                 have HO223 := n2_
                 have HO228 := n3_
                 have HO232 := n4_
                 have HO236 := n5_
                 have HO242 := n6_
                 have HO246 := n7_
                 have HO258 := n8_
                 have HO261 := n9_
                 have HO264 := n10_
                 have BK211 := n11_
                 have BK212 := n12_
                 have BK225 := n13_
                 have BK229 := n14_
                 have BK233 := n15_
                 have BK238 := n16_
                 have HB := n17_
                 clear n0_ n1_ n2_ n3_ n4_ n5_ n6_ n7_ n8_ n9_ n10_ n11_ n12_ n13_ n14_ n15_ n16_ n17_
                 (try clear hb)
                 (try clear hb2)
                 (try clear hk)
                 (try clear hi)
                 (try clear ho0)
                 refine hK.out _ _ ⟨.slice Ao124 t256.length co124, .slice Ao125 t259.length co125, v263, gb266, m1_, m3_, (.tuple #[.agg #[v263], .bool t265]), m5_, m6_, m8_, (by rw [ha.out]; exact putSel_upk 4 hb_ rfl rfl rfl), (by apply Sq.ra; exact Kd.R_mono HO217.out (fun _ hk => by first | exact True.intro | exact hk.1 | exact hk | exact ⟨hk.1.1, ⟨hk.1.2.1, ⟨hk.1.2.2.1, ⟨hk.1.2.2.2.1, ⟨hk.1.2.2.2.2, hk.2⟩⟩⟩⟩⟩ | simp only [hk, ne_eq, not_false_eq_true, and_self, and_true, true_and])), (by apply Sq.ra; exact Kd.R_mono HO220.out (fun _ hk => by first | exact True.intro | exact hk.1 | exact hk | exact ⟨hk.1.1, ⟨hk.1.2.1, ⟨hk.1.2.2.1, ⟨hk.1.2.2.2.1, ⟨hk.1.2.2.2.2, hk.2⟩⟩⟩⟩⟩ | simp only [hk, ne_eq, not_false_eq_true, and_self, and_true, true_and])), (by apply Sq.ra; exact Kd.R_mono HO223.out (fun _ hk => by first | exact True.intro | exact hk.1 | exact hk | exact ⟨hk.1.1, ⟨hk.1.2.1, ⟨hk.1.2.2.1, ⟨hk.1.2.2.2.1, ⟨hk.1.2.2.2.2, hk.2⟩⟩⟩⟩⟩ | simp only [hk, ne_eq, not_false_eq_true, and_self, and_true, true_and])), (by apply Sq.ra; exact Kd.R_mono HO228.out (fun _ hk => by first | exact True.intro | exact hk.1 | exact hk | exact ⟨hk.1.1, ⟨hk.1.2.1, ⟨hk.1.2.2.1, ⟨hk.1.2.2.2.1, ⟨hk.1.2.2.2.2.1, ⟨hk.1.2.2.2.2.2.1, ⟨hk.1.2.2.2.2.2.2, hk.2⟩⟩⟩⟩⟩⟩⟩ | simp only [hk, ne_eq, not_false_eq_true, and_self, and_true, true_and])), (by apply Sq.ra; exact Kd.R_mono HO232.out (fun _ hk => by first | exact True.intro | exact hk.1 | exact hk | exact ⟨hk.1.1, ⟨hk.1.2.1, ⟨hk.1.2.2.1, ⟨hk.1.2.2.2.1, ⟨hk.1.2.2.2.2.1, ⟨hk.1.2.2.2.2.2.1, ⟨hk.1.2.2.2.2.2.2, hk.2⟩⟩⟩⟩⟩⟩⟩ | simp only [hk, ne_eq, not_false_eq_true, and_self, and_true, true_and])), (by apply Sq.ra; exact Kd.R_mono HO236.out (fun _ hk => by first | exact True.intro | exact hk.1 | exact hk | exact ⟨hk.1.1, ⟨hk.1.2.1, ⟨hk.1.2.2.1, ⟨hk.1.2.2.2.1, ⟨hk.1.2.2.2.2.1, ⟨hk.1.2.2.2.2.2.1, ⟨hk.1.2.2.2.2.2.2, hk.2⟩⟩⟩⟩⟩⟩⟩ | simp only [hk, ne_eq, not_false_eq_true, and_self, and_true, true_and])), (by apply Sq.ra; exact Kd.R_mono HO242.out (fun _ hk => by first | exact True.intro | exact hk.1 | exact hk | exact ⟨hk.1.1, ⟨hk.1.2.1, ⟨hk.1.2.2.1, ⟨hk.1.2.2.2.1, ⟨hk.1.2.2.2.2.1, ⟨hk.1.2.2.2.2.2.1, ⟨hk.1.2.2.2.2.2.2, hk.2⟩⟩⟩⟩⟩⟩⟩ | simp only [hk, ne_eq, not_false_eq_true, and_self, and_true, true_and])), (by apply Sq.ra; exact Kd.R_mono HO246.out (fun _ hk => by first | exact True.intro | exact hk.1 | exact hk | exact ⟨hk.1.1, ⟨hk.1.2.1, ⟨hk.1.2.2.1, ⟨hk.1.2.2.2.1, ⟨hk.1.2.2.2.2.1, ⟨hk.1.2.2.2.2.2.1, ⟨hk.1.2.2.2.2.2.2, hk.2⟩⟩⟩⟩⟩⟩⟩ | simp only [hk, ne_eq, not_false_eq_true, and_self, and_true, true_and])), (by apply Sq.rb; exact BK211.out), (by apply Sq.rb; exact BK212.out), (by apply Sq.rb; exact BK225.out), (by apply Sq.rb; exact BK229.out), (by apply Sq.rb; exact BK233.out), (by apply Sq.rb; exact BK238.out), (by repeat (first | (with_reducible first | exact HB.out | apply Sq.rc | refine below_set ?_ GE211.out | refine below_set ?_ GE212.out | refine below_set ?_ GE225.out | refine below_set ?_ GE229.out | refine below_set ?_ GE233.out | refine below_set ?_ GE238.out) | exact HB.out)), fun _ => (by apply Sq.ra; exact Kd.R_mono HO258.out (fun _ hk => by first | exact True.intro | exact hk.1 | exact hk | exact ⟨hk.1.1, ⟨hk.1.2.1, ⟨hk.1.2.2.1, ⟨hk.1.2.2.2.1, ⟨hk.1.2.2.2.2.1, ⟨hk.1.2.2.2.2.2.1, ⟨hk.1.2.2.2.2.2.2.1, ⟨hk.1.2.2.2.2.2.2.2, hk.2⟩⟩⟩⟩⟩⟩⟩⟩ | simp only [hk, ne_eq, not_false_eq_true, and_self, and_true, true_and])), fun _ => (by apply Sq.ra; exact Kd.R_mono HO261.out (fun _ hk => by first | exact True.intro | exact hk.1 | exact hk | exact ⟨hk.1.1, ⟨hk.1.2.1, ⟨hk.1.2.2.1, ⟨hk.1.2.2.2.1, ⟨hk.1.2.2.2.2.1, ⟨hk.1.2.2.2.2.2.1, ⟨hk.1.2.2.2.2.2.2.1, ⟨hk.1.2.2.2.2.2.2.2, hk.2⟩⟩⟩⟩⟩⟩⟩⟩ | simp only [hk, ne_eq, not_false_eq_true, and_self, and_true, true_and])), fun _ => (by apply Sq.ra; exact Kd.R_mono HO264.out (fun _ hk => by first | exact True.intro | exact hk.1 | exact hk | exact ⟨hk.1.1.1.1.1.1.1.1.1.2, ⟨hk.1.1.1.1.1.1.1.1.2, ⟨hk.1.1.1.1.1.1.1.2, ⟨hk.1.1.1.1.1.1.2, ⟨hk.1.1.1.1.1.2, ⟨hk.1.1.1.1.2, ⟨hk.1.1.1.2, ⟨hk.1.1.2, ⟨hk.1.2, hk.2⟩⟩⟩⟩⟩⟩⟩⟩⟩ | simp only [hk, ne_eq, not_false_eq_true, and_self, and_true, true_and])), z_BK266, Q_GW266, Q_GE266, Q_NB211_266, Q_NB266_211, Q_NB212_266, Q_NB266_212, Q_NB225_266, Q_NB266_225, Q_NB229_266, Q_NB266_229, Q_NB233_266, Q_NB266_233, Q_NB238_266, Q_NB266_238, fun h0_ => absurd ((hoff 9 (by kernel_rfl)).symm.trans h0_) (by decide), Q_X1_, Q_X3_, fun _ => rfl, fun h0_ => absurd ((hoff 5 (by kernel_rfl)).symm.trans h0_) (by decide), fun h0_ => absurd ((hoff 6 (by kernel_rfl)).symm.trans h0_) (by decide), Q_X8_⟩
                refine steps_cons ?_ ?_
                ·rintro b a w' ⟨v257, v260, v263, gb266, m1_, m3_, m4_, m5_, m6_, m8_, ha, Q_HO217, Q_HO220, Q_HO223, Q_HO228, Q_HO232, Q_HO236, Q_HO242, Q_HO246, Q_BK211, Q_BK212, Q_BK225, Q_BK229, Q_BK233, Q_BK238, Q_HB, Q_HO258, Q_HO261, Q_HO264, Q_BK266, Q_GW266, Q_GE266, Q_NB211_266, Q_NB266_211, Q_NB212_266, Q_NB266_212, Q_NB225_266, Q_NB266_225, Q_NB229_266, Q_NB266_229, Q_NB233_266, Q_NB266_233, Q_NB238_266, Q_NB266_238, Q_BK266_e9, Q_X1_, Q_X3_, Q_X4_, Q_X5_, Q_X6_, Q_X8_⟩ hb_ hon hoff
                 refine ⟨_, rfl, fun K hK => ?_⟩
                 have e99 : a.tmps[99]? = some (m4_) := by rw [ha]; exact putSel_on (e := (4, 99, m4_)) 4 rfl rfl (hon 4 (by kernel_rfl)) rfl
                 rw [Q_X4_ (hon 4 (by kernel_rfl))] at e99
                 replace ha := Aside0.mk ha
                 have HO217 := Aside0.mk Q_HO217
                 have HO220 := Aside0.mk Q_HO220
                 have HO223 := Aside0.mk Q_HO223
                 have HO228 := Aside0.mk Q_HO228
                 have HO232 := Aside0.mk Q_HO232
                 have HO236 := Aside0.mk Q_HO236
                 have HO242 := Aside0.mk Q_HO242
                 have HO246 := Aside0.mk Q_HO246
                 have BK211 := Aside0.mk Q_BK211
                 have BK212 := Aside0.mk Q_BK212
                 have BK225 := Aside0.mk Q_BK225
                 have BK229 := Aside0.mk Q_BK229
                 have BK233 := Aside0.mk Q_BK233
                 have BK238 := Aside0.mk Q_BK238
                 have HB := Aside0.mk Q_HB
                 have HO258 := Sq.m (Q_HO258 (hon 1 (by kernel_rfl)))
                 have HO261 := Sq.m (Q_HO261 (hon 3 (by kernel_rfl)))
                 have HO264 := Sq.m (Q_HO264 (hon 4 (by kernel_rfl)))
                 refine value_ (w1 := w') (v := .tuple #[.agg #[v263], .bool t265]) (by rfl) rfl ?_ ?_
                 ·go_simp
                  (try simp only [i64_w])
                  try rfl
                 refine hK.out _ _ ⟨v257, v260, v263, gb266, m1_, m3_, m4_, (.tuple #[.agg #[v263], .bool t265]), m6_, m8_, (by rw [ha.out]; exact putSel_upk 5 hb_ rfl rfl rfl), Q_HO217, Q_HO220, Q_HO223, Q_HO228, Q_HO232, Q_HO236, Q_HO242, Q_HO246, Q_BK211, Q_BK212, Q_BK225, Q_BK229, Q_BK233, Q_BK238, Q_HB, Q_HO258, Q_HO261, Q_HO264, Q_BK266, Q_GW266, Q_GE266, Q_NB211_266, Q_NB266_211, Q_NB212_266, Q_NB266_212, Q_NB225_266, Q_NB266_225, Q_NB229_266, Q_NB266_229, Q_NB233_266, Q_NB266_233, Q_NB238_266, Q_NB266_238, fun h0_ => absurd ((hoff 9 (by kernel_rfl)).symm.trans h0_) (by decide), Q_X1_, Q_X3_, Q_X4_, fun _ => rfl, fun h0_ => absurd ((hoff 6 (by kernel_rfl)).symm.trans h0_) (by decide), Q_X8_⟩
                refine steps_cons ?_ ?_
                ·rintro b a w' ⟨v257, v260, v263, gb266, m1_, m3_, m4_, m5_, m6_, m8_, ha, Q_HO217, Q_HO220, Q_HO223, Q_HO228, Q_HO232, Q_HO236, Q_HO242, Q_HO246, Q_BK211, Q_BK212, Q_BK225, Q_BK229, Q_BK233, Q_BK238, Q_HB, Q_HO258, Q_HO261, Q_HO264, Q_BK266, Q_GW266, Q_GE266, Q_NB211_266, Q_NB266_211, Q_NB212_266, Q_NB266_212, Q_NB225_266, Q_NB266_225, Q_NB229_266, Q_NB266_229, Q_NB233_266, Q_NB266_233, Q_NB238_266, Q_NB266_238, Q_BK266_e9, Q_X1_, Q_X3_, Q_X4_, Q_X5_, Q_X6_, Q_X8_⟩ hb_ hon hoff
                 refine ⟨_, rfl, fun K hK => ?_⟩
                 have e94 : a.tmps[94]? = some (m5_) := by rw [ha]; exact putSel_on (e := (5, 94, m5_)) 5 rfl rfl (hon 5 (by kernel_rfl)) rfl
                 rw [Q_X5_ (hon 5 (by kernel_rfl))] at e94
                 replace ha := Aside0.mk ha
                 have HO217 := Aside0.mk Q_HO217
                 have HO220 := Aside0.mk Q_HO220
                 have HO223 := Aside0.mk Q_HO223
                 have HO228 := Aside0.mk Q_HO228
                 have HO232 := Aside0.mk Q_HO232
                 have HO236 := Aside0.mk Q_HO236
                 have HO242 := Aside0.mk Q_HO242
                 have HO246 := Aside0.mk Q_HO246
                 have BK211 := Aside0.mk Q_BK211
                 have BK212 := Aside0.mk Q_BK212
                 have BK225 := Aside0.mk Q_BK225
                 have BK229 := Aside0.mk Q_BK229
                 have BK233 := Aside0.mk Q_BK233
                 have BK238 := Aside0.mk Q_BK238
                 have HB := Aside0.mk Q_HB
                 have HO258 := Sq.m (Q_HO258 (hon 1 (by kernel_rfl)))
                 have HO261 := Sq.m (Q_HO261 (hon 3 (by kernel_rfl)))
                 have HO264 := Sq.m (Q_HO264 (hon 4 (by kernel_rfl)))
                 refine value_ (w1 := w') (v := .agg #[v263]) (by rfl) rfl ?_ ?_
                 ·go_simp
                  (try simp only [i64_w])
                  try rfl
                 refine hK.out _ _ ⟨v257, v260, v263, gb266, m1_, m3_, m4_, m5_, (.agg #[v263]), m8_, (by rw [ha.out]; exact putSel_upk 6 hb_ rfl rfl rfl), Q_HO217, Q_HO220, Q_HO223, Q_HO228, Q_HO232, Q_HO236, Q_HO242, Q_HO246, Q_BK211, Q_BK212, Q_BK225, Q_BK229, Q_BK233, Q_BK238, Q_HB, Q_HO258, Q_HO261, Q_HO264, Q_BK266, Q_GW266, Q_GE266, Q_NB211_266, Q_NB266_211, Q_NB212_266, Q_NB266_212, Q_NB225_266, Q_NB266_225, Q_NB229_266, Q_NB266_229, Q_NB233_266, Q_NB266_233, Q_NB238_266, Q_NB266_238, fun h0_ => absurd ((hoff 9 (by kernel_rfl)).symm.trans h0_) (by decide), Q_X1_, Q_X3_, Q_X4_, Q_X5_, fun _ => rfl, Q_X8_⟩
                refine steps_cons ?_ ?_
                ·rintro b a w' ⟨v257, v260, v263, gb266, m1_, m3_, m4_, m5_, m6_, m8_, ha, Q_HO217, Q_HO220, Q_HO223, Q_HO228, Q_HO232, Q_HO236, Q_HO242, Q_HO246, Q_BK211, Q_BK212, Q_BK225, Q_BK229, Q_BK233, Q_BK238, Q_HB, Q_HO258, Q_HO261, Q_HO264, Q_BK266, Q_GW266, Q_GE266, Q_NB211_266, Q_NB266_211, Q_NB212_266, Q_NB266_212, Q_NB225_266, Q_NB266_225, Q_NB229_266, Q_NB266_229, Q_NB233_266, Q_NB266_233, Q_NB238_266, Q_NB266_238, Q_BK266_e9, Q_X1_, Q_X3_, Q_X4_, Q_X5_, Q_X6_, Q_X8_⟩ hb_ hon hoff
                 refine ⟨_, rfl, fun K hK => ?_⟩
                 have e94 : a.tmps[94]? = some (m5_) := by rw [ha]; exact putSel_on (e := (5, 94, m5_)) 5 rfl rfl (hon 5 (by kernel_rfl)) rfl
                 rw [Q_X5_ (hon 5 (by kernel_rfl))] at e94
                 replace ha := Aside0.mk ha
                 have HO217 := Aside0.mk Q_HO217
                 have HO220 := Aside0.mk Q_HO220
                 have HO223 := Aside0.mk Q_HO223
                 have HO228 := Aside0.mk Q_HO228
                 have HO232 := Aside0.mk Q_HO232
                 have HO236 := Aside0.mk Q_HO236
                 have HO242 := Aside0.mk Q_HO242
                 have HO246 := Aside0.mk Q_HO246
                 have BK211 := Aside0.mk Q_BK211
                 have BK212 := Aside0.mk Q_BK212
                 have BK225 := Aside0.mk Q_BK225
                 have BK229 := Aside0.mk Q_BK229
                 have BK233 := Aside0.mk Q_BK233
                 have BK238 := Aside0.mk Q_BK238
                 have HB := Aside0.mk Q_HB
                 have HO258 := Sq.m (Q_HO258 (hon 1 (by kernel_rfl)))
                 have HO261 := Sq.m (Q_HO261 (hon 3 (by kernel_rfl)))
                 have HO264 := Sq.m (Q_HO264 (hon 4 (by kernel_rfl)))
                 refine value_ (w1 := w') (v := .bool t265) (by rfl) rfl ?_ ?_
                 ·go_simp
                  (try simp only [i64_w])
                  try rfl
                 refine hK.out _ _ ⟨v257, v260, v263, gb266, m1_, m3_, m4_, m5_, m6_, m8_, (by rw [ha.out]; exact putSel_upk 7 hb_ rfl rfl rfl), Q_HO217, Q_HO220, Q_HO223, Q_HO228, Q_HO232, Q_HO236, Q_HO242, Q_HO246, Q_BK211, Q_BK212, Q_BK225, Q_BK229, Q_BK233, Q_BK238, Q_HB, Q_HO258, Q_HO261, Q_HO264, Q_BK266, Q_GW266, Q_GE266, Q_NB211_266, Q_NB266_211, Q_NB212_266, Q_NB266_212, Q_NB225_266, Q_NB266_225, Q_NB229_266, Q_NB266_229, Q_NB233_266, Q_NB266_233, Q_NB238_266, Q_NB266_238, Q_BK266_e9, Q_X1_, Q_X3_, Q_X4_, Q_X5_, Q_X6_, Q_X8_⟩
                refine steps_cons ?_ ?_
                ·rintro b a w' ⟨v257, v260, v263, gb266, m1_, m3_, m4_, m5_, m6_, m8_, ha, Q_HO217, Q_HO220, Q_HO223, Q_HO228, Q_HO232, Q_HO236, Q_HO242, Q_HO246, Q_BK211, Q_BK212, Q_BK225, Q_BK229, Q_BK233, Q_BK238, Q_HB, Q_HO258, Q_HO261, Q_HO264, Q_BK266, Q_GW266, Q_GE266, Q_NB211_266, Q_NB266_211, Q_NB212_266, Q_NB266_212, Q_NB225_266, Q_NB266_225, Q_NB229_266, Q_NB266_229, Q_NB233_266, Q_NB266_233, Q_NB238_266, Q_NB266_238, Q_BK266_e9, Q_X1_, Q_X3_, Q_X4_, Q_X5_, Q_X6_, Q_X8_⟩ hb_ hon hoff
                 refine ⟨_, rfl, fun K hK => ?_⟩
                 replace ha := Aside0.mk ha
                 have HO217 := Aside0.mk Q_HO217
                 have HO220 := Aside0.mk Q_HO220
                 have HO223 := Aside0.mk Q_HO223
                 have HO228 := Aside0.mk Q_HO228
                 have HO232 := Aside0.mk Q_HO232
                 have HO236 := Aside0.mk Q_HO236
                 have HO242 := Aside0.mk Q_HO242
                 have HO246 := Aside0.mk Q_HO246
                 have BK211 := Aside0.mk Q_BK211
                 have BK212 := Aside0.mk Q_BK212
                 have BK225 := Aside0.mk Q_BK225
                 have BK229 := Aside0.mk Q_BK229
                 have BK233 := Aside0.mk Q_BK233
                 have BK238 := Aside0.mk Q_BK238
                 have HB := Aside0.mk Q_HB
                 refine box_step ?hg (N := 15) ?hd (cs := #[.slice none 0 0]) (t := 26) ?hr ?_; (case hd => rfl); (case hg => rfl); (case hr => first | (go_simp; done) | (go_simp; rfl))
                 intro gb266 hg w121 hbox hb
                 have n0_ := Sq.m (Kd.R_below (by apply Sq.ra; exact HO217.out) hb)
                 have n1_ := Sq.m (Kd.R_below (by apply Sq.ra; exact HO220.out) hb)
                 have n2_ := Sq.m (Kd.R_below (by apply Sq.ra; exact HO223.out) hb)
                 have n3_ := Sq.m (Kd.R_below (by apply Sq.ra; exact HO228.out) hb)
                 have n4_ := Sq.m (Kd.R_below (by apply Sq.ra; exact HO232.out) hb)
                 have n5_ := Sq.m (Kd.R_below (by apply Sq.ra; exact HO236.out) hb)
                 have n6_ := Sq.m (Kd.R_below (by apply Sq.ra; exact HO242.out) hb)
                 have n7_ := Sq.m (Kd.R_below (by apply Sq.ra; exact HO246.out) hb)
                 have n8_ := Sq.m (blk_below (g := gb211) (o := .cells #[.slice A0_0 l0_0.length c0_0] 24 (0, 0)) (by apply Sq.rb; exact BK211.out) hb)
                 have n9_ := Sq.m (blk_below (g := gb212) (o := .cells #[.slice A1_0 l1_0.length c1_0] 24 (0, 0)) (by apply Sq.rb; exact BK212.out) hb)
                 have n10_ := Sq.m (blk_below (g := gb225) (o := .cells #[.slice Ao99 t221.length co99] 26 (0, 0)) (by apply Sq.rb; exact BK225.out) hb)
                 have n11_ := Sq.m (blk_below (g := gb229) (o := .cells #[.slice Ao73 t226.length co73] 26 (0, 0)) (by apply Sq.rb; exact BK229.out) hb)
                 have n12_ := Sq.m (blk_below (g := gb233) (o := .cells #[.slice Ao82 t230.length co82] 26 (0, 0)) (by apply Sq.rb; exact BK233.out) hb)
                 have n13_ := Sq.m (blk_below (g := gb238) (o := .cells #[.slice Ao91 t234.length co91] 26 (0, 0)) (by apply Sq.rb; exact BK238.out) hb)
                 have n14_ := Sq.m (below_step (by repeat (first | (with_reducible first | exact HB.out | apply Sq.rc | refine below_set ?_ GE211.out | refine below_set ?_ GE212.out | refine below_set ?_ GE225.out | refine below_set ?_ GE229.out | refine below_set ?_ GE233.out | refine below_set ?_ GE238.out) | exact HB.out)) hb)
                 have n15_ := Sq.m (hbox)
                 have n16_ := Sq.m ((by rw [hg]; exact (below_size (by repeat (first | (with_reducible first | exact HB.out | apply Sq.rc | refine below_set ?_ GE211.out | refine below_set ?_ GE212.out | refine below_set ?_ GE225.out | refine below_set ?_ GE229.out | refine below_set ?_ GE233.out | refine below_set ?_ GE238.out) | exact HB.out))) : w.heap.size ≤ gb266))
                 have n17_ := Sq.m ((by rw [hg]; exact (below_size (by repeat (first | (with_reducible first | exact HB.out | apply Sq.rc | refine below_set ?_ GE211.out | refine below_set ?_ GE212.out | refine below_set ?_ GE225.out | refine below_set ?_ GE229.out | refine below_set ?_ GE233.out | refine below_set ?_ GE238.out) | exact HB.out))) : w.heap.size ≤ gb266))
                 have n18_ := Sq.m ((by rw [hg]; exact Nat.ne_of_lt (blk_lt (g := gb211) (o := .cells #[.slice A0_0 l0_0.length c0_0] 24 (0, 0)) (by apply Sq.rb; exact BK211.out)) : gb211 ≠ gb266))
                 have n19_ := Sq.m ((by rw [hg]; exact Nat.ne_of_gt (blk_lt (g := gb211) (o := .cells #[.slice A0_0 l0_0.length c0_0] 24 (0, 0)) (by apply Sq.rb; exact BK211.out)) : gb266 ≠ gb211))
                 have n20_ := Sq.m ((by rw [hg]; exact Nat.ne_of_lt (blk_lt (g := gb212) (o := .cells #[.slice A1_0 l1_0.length c1_0] 24 (0, 0)) (by apply Sq.rb; exact BK212.out)) : gb212 ≠ gb266))
                 have n21_ := Sq.m ((by rw [hg]; exact Nat.ne_of_gt (blk_lt (g := gb212) (o := .cells #[.slice A1_0 l1_0.length c1_0] 24 (0, 0)) (by apply Sq.rb; exact BK212.out)) : gb266 ≠ gb212))
                 have n22_ := Sq.m ((by rw [hg]; exact Nat.ne_of_lt (blk_lt (g := gb225) (o := .cells #[.slice Ao99 t221.length co99] 26 (0, 0)) (by apply Sq.rb; exact BK225.out)) : gb225 ≠ gb266))
                 have n23_ := Sq.m ((by rw [hg]; exact Nat.ne_of_gt (blk_lt (g := gb225) (o := .cells #[.slice Ao99 t221.length co99] 26 (0, 0)) (by apply Sq.rb; exact BK225.out)) : gb266 ≠ gb225))
                 have n24_ := Sq.m ((by rw [hg]; exact Nat.ne_of_lt (blk_lt (g := gb229) (o := .cells #[.slice Ao73 t226.length co73] 26 (0, 0)) (by apply Sq.rb; exact BK229.out)) : gb229 ≠ gb266))
                 have n25_ := Sq.m ((by rw [hg]; exact Nat.ne_of_gt (blk_lt (g := gb229) (o := .cells #[.slice Ao73 t226.length co73] 26 (0, 0)) (by apply Sq.rb; exact BK229.out)) : gb266 ≠ gb229))
                 have n26_ := Sq.m ((by rw [hg]; exact Nat.ne_of_lt (blk_lt (g := gb233) (o := .cells #[.slice Ao82 t230.length co82] 26 (0, 0)) (by apply Sq.rb; exact BK233.out)) : gb233 ≠ gb266))
                 have n27_ := Sq.m ((by rw [hg]; exact Nat.ne_of_gt (blk_lt (g := gb233) (o := .cells #[.slice Ao82 t230.length co82] 26 (0, 0)) (by apply Sq.rb; exact BK233.out)) : gb266 ≠ gb233))
                 have n28_ := Sq.m ((by rw [hg]; exact Nat.ne_of_lt (blk_lt (g := gb238) (o := .cells #[.slice Ao91 t234.length co91] 26 (0, 0)) (by apply Sq.rb; exact BK238.out)) : gb238 ≠ gb266))
                 have n29_ := Sq.m ((by rw [hg]; exact Nat.ne_of_gt (blk_lt (g := gb238) (o := .cells #[.slice Ao91 t234.length co91] 26 (0, 0)) (by apply Sq.rb; exact BK238.out)) : gb266 ≠ gb238))
                 have z_HO258 := fun (h0_ : b 1 = true) => (show Kd.R (Kd.int .i64) 3 w121 w.heap.size (fun k_ => some k_ ≠ (v216 : Value).ownBlock ∧ some k_ ≠ (v219 : Value).ownBlock ∧ some k_ ≠ (.slice Ao99 t221.length co99 : Value).ownBlock ∧ some k_ ≠ (.slice Ao73 t226.length co73 : Value).ownBlock ∧ some k_ ≠ (.slice Ao82 t230.length co82 : Value).ownBlock ∧ some k_ ≠ (.slice Ao91 t234.length co91 : Value).ownBlock ∧ some k_ ≠ (.slice Ao103 t240.length co103 : Value).ownBlock ∧ some k_ ≠ (.slice Ao107 t244.length co107 : Value).ownBlock) v257 t256 from by first | exact (Kd.R_below (by apply Sq.ra; exact (Q_HO258 h0_)) hb) | exact Kd.R_mono (Kd.R_below (by apply Sq.ra; exact (Q_HO258 h0_)) hb) (fun _ h_ => by first | trivial | exact h_ | exact h_.1))
                 have z_HO261 := fun (h0_ : b 3 = true) => (show Kd.R (Kd.int .i64) 3 w121 w.heap.size (fun k_ => some k_ ≠ (v216 : Value).ownBlock ∧ some k_ ≠ (v219 : Value).ownBlock ∧ some k_ ≠ (.slice Ao99 t221.length co99 : Value).ownBlock ∧ some k_ ≠ (.slice Ao73 t226.length co73 : Value).ownBlock ∧ some k_ ≠ (.slice Ao82 t230.length co82 : Value).ownBlock ∧ some k_ ≠ (.slice Ao91 t234.length co91 : Value).ownBlock ∧ some k_ ≠ (.slice Ao103 t240.length co103 : Value).ownBlock ∧ some k_ ≠ (.slice Ao107 t244.length co107 : Value).ownBlock) v260 t259 from by first | exact (Kd.R_below (by apply Sq.ra; exact (Q_HO261 h0_)) hb) | exact Kd.R_mono (Kd.R_below (by apply Sq.ra; exact (Q_HO261 h0_)) hb) (fun _ h_ => by first | trivial | exact h_ | exact h_.1))
                 have z_HO264 := fun (h0_ : b 4 = true) => (show Kd.R (Kd.int .i64) 3 w121 w.heap.size (fun k_ => some k_ ≠ (v216 : Value).ownBlock ∧ some k_ ≠ (v219 : Value).ownBlock ∧ some k_ ≠ (.slice Ao99 t221.length co99 : Value).ownBlock ∧ some k_ ≠ (.slice Ao73 t226.length co73 : Value).ownBlock ∧ some k_ ≠ (.slice Ao82 t230.length co82 : Value).ownBlock ∧ some k_ ≠ (.slice Ao91 t234.length co91 : Value).ownBlock ∧ some k_ ≠ (.slice Ao103 t240.length co103 : Value).ownBlock ∧ some k_ ≠ (.slice Ao107 t244.length co107 : Value).ownBlock) v263 t262 from by first | exact (Kd.R_below (by apply Sq.ra; exact (Q_HO264 h0_)) hb) | exact Kd.R_mono (Kd.R_below (by apply Sq.ra; exact (Q_HO264 h0_)) hb) (fun _ h_ => by first | trivial | exact h_ | exact h_.1))
                 clear HO217
                 clear HO220
                 clear HO223
                 clear HO228
                 clear HO232
                 clear HO236
                 clear HO242
                 clear HO246
                 clear BK211
                 clear BK212
                 clear BK225
                 clear BK229
                 clear BK233
                 clear BK238
                 clear HB
                 have HO217 := n0_
                 have HO220 := n1_
                 have HO223 := n2_
                 have HO228 := n3_
                 have HO232 := n4_
                 have HO236 := n5_
                 have HO242 := n6_
                 have HO246 := n7_
                 have BK211 := n8_
                 have BK212 := n9_
                 have BK225 := n10_
                 have BK229 := n11_
                 have BK233 := n12_
                 have BK238 := n13_
                 have HB := n14_
                 have BK266 := n15_
                 have GW266 := n16_
                 have GE266 := n17_
                 have NB211_266 := n18_
                 have NB266_211 := n19_
                 have NB212_266 := n20_
                 have NB266_212 := n21_
                 have NB225_266 := n22_
                 have NB266_225 := n23_
                 have NB229_266 := n24_
                 have NB266_229 := n25_
                 have NB233_266 := n26_
                 have NB266_233 := n27_
                 have NB238_266 := n28_
                 have NB266_238 := n29_
                 clear n0_ n1_ n2_ n3_ n4_ n5_ n6_ n7_ n8_ n9_ n10_ n11_ n12_ n13_ n14_ n15_ n16_ n17_ n18_ n19_ n20_ n21_ n22_ n23_ n24_ n25_ n26_ n27_ n28_ n29_
                 clear hb hbox hg
                 refine hK.out _ _ ⟨v257, v260, v263, gb266, m1_, m3_, m4_, m5_, m6_, (.pointer (some ⟨gb266, 0, none⟩)), (by rw [ha.out]; exact putSel_upk 8 hb_ rfl rfl rfl), (by apply Sq.ra; exact HO217.out), (by apply Sq.ra; exact HO220.out), (by apply Sq.ra; exact HO223.out), (by apply Sq.ra; exact HO228.out), (by apply Sq.ra; exact HO232.out), (by apply Sq.ra; exact HO236.out), (by apply Sq.ra; exact HO242.out), (by apply Sq.ra; exact HO246.out), (by apply Sq.rb; exact BK211.out), (by apply Sq.rb; exact BK212.out), (by apply Sq.rb; exact BK225.out), (by apply Sq.rb; exact BK229.out), (by apply Sq.rb; exact BK233.out), (by apply Sq.rb; exact BK238.out), (by repeat (first | (with_reducible first | exact HB.out | apply Sq.rc | refine below_set ?_ GE211.out | refine below_set ?_ GE212.out | refine below_set ?_ GE225.out | refine below_set ?_ GE229.out | refine below_set ?_ GE233.out | refine below_set ?_ GE238.out | refine below_set ?_ GE266.out) | exact HB.out)), z_HO258, z_HO261, z_HO264, fun _ _ => (by apply Sq.rb; exact BK266.out), fun _ => GW266.out, fun _ => GE266.out, fun _ => NB211_266.out, fun _ => NB266_211.out, fun _ => NB212_266.out, fun _ => NB266_212.out, fun _ => NB225_266.out, fun _ => NB266_225.out, fun _ => NB229_266.out, fun _ => NB266_229.out, fun _ => NB233_266.out, fun _ => NB266_233.out, fun _ => NB238_266.out, fun _ => NB266_238.out, fun h0_ => absurd ((hoff 9 (by kernel_rfl)).symm.trans h0_) (by decide), Q_X1_, Q_X3_, Q_X4_, Q_X5_, Q_X6_, fun _ => rfl⟩
                refine steps_cons ?_ ?_
                ·rintro b a w' ⟨v257, v260, v263, gb266, m1_, m3_, m4_, m5_, m6_, m8_, ha, Q_HO217, Q_HO220, Q_HO223, Q_HO228, Q_HO232, Q_HO236, Q_HO242, Q_HO246, Q_BK211, Q_BK212, Q_BK225, Q_BK229, Q_BK233, Q_BK238, Q_HB, Q_HO258, Q_HO261, Q_HO264, Q_BK266, Q_GW266, Q_GE266, Q_NB211_266, Q_NB266_211, Q_NB212_266, Q_NB266_212, Q_NB225_266, Q_NB266_225, Q_NB229_266, Q_NB266_229, Q_NB233_266, Q_NB266_233, Q_NB238_266, Q_NB266_238, Q_BK266_e9, Q_X1_, Q_X3_, Q_X4_, Q_X5_, Q_X6_, Q_X8_⟩ hb_ hon hoff
                 refine ⟨_, rfl, fun K hK => ?_⟩
                 have e15 : a.tmps[15]? = some (m8_) := by rw [ha]; exact putSel_on (e := (8, 15, m8_)) 8 rfl rfl (hon 8 (by kernel_rfl)) rfl
                 rw [Q_X8_ (hon 8 (by kernel_rfl))] at e15
                 have e100 : a.tmps[100]? = some (m6_) := by rw [ha]; exact putSel_on (e := (6, 100, m6_)) 6 rfl rfl (hon 6 (by kernel_rfl)) rfl
                 rw [Q_X6_ (hon 6 (by kernel_rfl))] at e100
                 replace ha := Aside0.mk ha
                 have HO217 := Aside0.mk Q_HO217
                 have HO220 := Aside0.mk Q_HO220
                 have HO223 := Aside0.mk Q_HO223
                 have HO228 := Aside0.mk Q_HO228
                 have HO232 := Aside0.mk Q_HO232
                 have HO236 := Aside0.mk Q_HO236
                 have HO242 := Aside0.mk Q_HO242
                 have HO246 := Aside0.mk Q_HO246
                 have BK211 := Aside0.mk Q_BK211
                 have BK212 := Aside0.mk Q_BK212
                 have BK225 := Aside0.mk Q_BK225
                 have BK229 := Aside0.mk Q_BK229
                 have BK233 := Aside0.mk Q_BK233
                 have BK238 := Aside0.mk Q_BK238
                 have HB := Aside0.mk Q_HB
                 have HO258 := Sq.m (Q_HO258 (hon 1 (by kernel_rfl)))
                 have HO261 := Sq.m (Q_HO261 (hon 3 (by kernel_rfl)))
                 have HO264 := Sq.m (Q_HO264 (hon 4 (by kernel_rfl)))
                 have BK266 := Sq.m (Q_BK266 (hon 8 (by kernel_rfl)) hb_)
                 have GW266 := Sq.m (Q_GW266 (hon 8 (by kernel_rfl)))
                 have GE266 := Sq.m (Q_GE266 (hon 8 (by kernel_rfl)))
                 have NB211_266 := Sq.m (Q_NB211_266 (hon 8 (by kernel_rfl)))
                 have NB266_211 := Sq.m (Q_NB266_211 (hon 8 (by kernel_rfl)))
                 have NB212_266 := Sq.m (Q_NB212_266 (hon 8 (by kernel_rfl)))
                 have NB266_212 := Sq.m (Q_NB266_212 (hon 8 (by kernel_rfl)))
                 have NB225_266 := Sq.m (Q_NB225_266 (hon 8 (by kernel_rfl)))
                 have NB266_225 := Sq.m (Q_NB266_225 (hon 8 (by kernel_rfl)))
                 have NB229_266 := Sq.m (Q_NB229_266 (hon 8 (by kernel_rfl)))
                 have NB266_229 := Sq.m (Q_NB266_229 (hon 8 (by kernel_rfl)))
                 have NB233_266 := Sq.m (Q_NB233_266 (hon 8 (by kernel_rfl)))
                 have NB266_233 := Sq.m (Q_NB266_233 (hon 8 (by kernel_rfl)))
                 have NB238_266 := Sq.m (Q_NB238_266 (hon 8 (by kernel_rfl)))
                 have NB266_238 := Sq.m (Q_NB266_238 (hon 8 (by kernel_rfl)))
                 obtain ⟨Ao128, co128, eo128⟩ := Kd.R_slice HO264.out
                 (first | subst eo128 | (injection eo128 with f1_ f2_ f3_; have f4_ := f1_.symm; have f5_ := f3_.symm; clear f1_ f2_ f3_; subst f4_; subst f5_))
                 have hs129 : w'.cell? ⟨gb266, 0, none⟩ = some (.slice none 0 0) := (blk_cell BK266.out 0).trans rfl
                 have hfs129 := blk_frozen BK266.out 0
                 have hns129_0 := NB211_266.out
                 have hns129_1 := NB212_266.out
                 have hns129_2 := NB225_266.out
                 have hns129_3 := NB229_266.out
                 have hns129_4 := NB233_266.out
                 have hns129_5 := NB238_266.out
                 have hms129_0 := NB266_211.out
                 have hms129_1 := NB266_212.out
                 have hms129_2 := NB266_225.out
                 have hms129_3 := NB266_229.out
                 have hms129_4 := NB266_233.out
                 have hms129_5 := NB266_238.out
                 refine skip_ (w1 := ?_) (by rfl) rfl ?_ ?_
                 rotate_left
                 ·go_simp
                  rfl
                 refine hK.out _ _ ⟨v257, v260, .slice Ao128 t262.length co128, gb266, m1_, m3_, m4_, m5_, m6_, m8_, (by rw [ha.out]; exact putSel_none (v := undef) rfl), (by apply Sq.ra; exact Kd.R_mono (Kd.R_far (p := ⟨gb266, 0, none⟩) (Kd.R_types HO217.out BK266.out (by decide)) (fun _ hk => hk.2) (.slice Ao128 t262.length co128)) (fun _ hk => ⟨hk.1.1, ⟨hk.1.2.1, ⟨hk.1.2.2.1, ⟨hk.1.2.2.2.1, hk.1.2.2.2.2⟩⟩⟩⟩)), (by apply Sq.ra; exact Kd.R_mono (Kd.R_far (p := ⟨gb266, 0, none⟩) (Kd.R_types HO220.out BK266.out (by decide)) (fun _ hk => hk.2) (.slice Ao128 t262.length co128)) (fun _ hk => ⟨hk.1.1, ⟨hk.1.2.1, ⟨hk.1.2.2.1, ⟨hk.1.2.2.2.1, hk.1.2.2.2.2⟩⟩⟩⟩)), (by apply Sq.ra; exact Kd.R_mono (Kd.R_far (p := ⟨gb266, 0, none⟩) (Kd.R_types HO223.out BK266.out (by decide)) (fun _ hk => hk.2) (.slice Ao128 t262.length co128)) (fun _ hk => ⟨hk.1.1, ⟨hk.1.2.1, ⟨hk.1.2.2.1, ⟨hk.1.2.2.2.1, hk.1.2.2.2.2⟩⟩⟩⟩)), (by apply Sq.ra; exact Kd.R_mono (Kd.R_far (p := ⟨gb266, 0, none⟩) (Kd.R_types HO228.out BK266.out (by decide)) (fun _ hk => hk.2) (.slice Ao128 t262.length co128)) (fun _ hk => ⟨hk.1.1, ⟨hk.1.2.1, ⟨hk.1.2.2.1, ⟨hk.1.2.2.2.1, ⟨hk.1.2.2.2.2.1, ⟨hk.1.2.2.2.2.2.1, hk.1.2.2.2.2.2.2⟩⟩⟩⟩⟩⟩)), (by apply Sq.ra; exact Kd.R_mono (Kd.R_far (p := ⟨gb266, 0, none⟩) (Kd.R_types HO232.out BK266.out (by decide)) (fun _ hk => hk.2) (.slice Ao128 t262.length co128)) (fun _ hk => ⟨hk.1.1, ⟨hk.1.2.1, ⟨hk.1.2.2.1, ⟨hk.1.2.2.2.1, ⟨hk.1.2.2.2.2.1, ⟨hk.1.2.2.2.2.2.1, hk.1.2.2.2.2.2.2⟩⟩⟩⟩⟩⟩)), (by apply Sq.ra; exact Kd.R_mono (Kd.R_far (p := ⟨gb266, 0, none⟩) (Kd.R_types HO236.out BK266.out (by decide)) (fun _ hk => hk.2) (.slice Ao128 t262.length co128)) (fun _ hk => ⟨hk.1.1, ⟨hk.1.2.1, ⟨hk.1.2.2.1, ⟨hk.1.2.2.2.1, ⟨hk.1.2.2.2.2.1, ⟨hk.1.2.2.2.2.2.1, hk.1.2.2.2.2.2.2⟩⟩⟩⟩⟩⟩)), (by apply Sq.ra; exact Kd.R_mono (Kd.R_far (p := ⟨gb266, 0, none⟩) (Kd.R_types HO242.out BK266.out (by decide)) (fun _ hk => hk.2) (.slice Ao128 t262.length co128)) (fun _ hk => ⟨hk.1.1, ⟨hk.1.2.1, ⟨hk.1.2.2.1, ⟨hk.1.2.2.2.1, ⟨hk.1.2.2.2.2.1, ⟨hk.1.2.2.2.2.2.1, hk.1.2.2.2.2.2.2⟩⟩⟩⟩⟩⟩)), (by apply Sq.ra; exact Kd.R_mono (Kd.R_far (p := ⟨gb266, 0, none⟩) (Kd.R_types HO246.out BK266.out (by decide)) (fun _ hk => hk.2) (.slice Ao128 t262.length co128)) (fun _ hk => ⟨hk.1.1, ⟨hk.1.2.1, ⟨hk.1.2.2.1, ⟨hk.1.2.2.2.1, ⟨hk.1.2.2.2.2.1, ⟨hk.1.2.2.2.2.2.1, hk.1.2.2.2.2.2.2⟩⟩⟩⟩⟩⟩)), (by apply Sq.rb; refine blk_far ?_ NB211_266.out _; apply Sq.rb; exact BK211.out), (by apply Sq.rb; refine blk_far ?_ NB212_266.out _; apply Sq.rb; exact BK212.out), (by apply Sq.rb; refine blk_far ?_ NB225_266.out _; apply Sq.rb; exact BK225.out), (by apply Sq.rb; refine blk_far ?_ NB229_266.out _; apply Sq.rb; exact BK229.out), (by apply Sq.rb; refine blk_far ?_ NB233_266.out _; apply Sq.rb; exact BK233.out), (by apply Sq.rb; refine blk_far ?_ NB238_266.out _; apply Sq.rb; exact BK238.out), (by repeat (first | (with_reducible first | exact HB.out | apply Sq.rc | refine below_set ?_ GE211.out | refine below_set ?_ GE212.out | refine below_set ?_ GE225.out | refine below_set ?_ GE229.out | refine below_set ?_ GE233.out | refine below_set ?_ GE238.out | refine below_set ?_ GE266.out) | exact HB.out)), fun _ => (by apply Sq.ra; exact Kd.R_mono (Kd.R_far (p := ⟨gb266, 0, none⟩) (Kd.R_types HO258.out BK266.out (by decide)) (fun _ hk => hk.2) (.slice Ao128 t262.length co128)) (fun _ hk => ⟨hk.1.1, ⟨hk.1.2.1, ⟨hk.1.2.2.1, ⟨hk.1.2.2.2.1, ⟨hk.1.2.2.2.2.1, ⟨hk.1.2.2.2.2.2.1, ⟨hk.1.2.2.2.2.2.2.1, hk.1.2.2.2.2.2.2.2⟩⟩⟩⟩⟩⟩⟩)), fun _ => (by apply Sq.ra; exact Kd.R_mono (Kd.R_far (p := ⟨gb266, 0, none⟩) (Kd.R_types HO261.out BK266.out (by decide)) (fun _ hk => hk.2) (.slice Ao128 t262.length co128)) (fun _ hk => ⟨hk.1.1, ⟨hk.1.2.1, ⟨hk.1.2.2.1, ⟨hk.1.2.2.2.1, ⟨hk.1.2.2.2.2.1, ⟨hk.1.2.2.2.2.2.1, ⟨hk.1.2.2.2.2.2.2.1, hk.1.2.2.2.2.2.2.2⟩⟩⟩⟩⟩⟩⟩)), fun _ => (by apply Sq.ra; exact Kd.R_mono (Kd.R_far (p := ⟨gb266, 0, none⟩) (Kd.R_types HO264.out BK266.out (by decide)) (fun _ hk => hk.2) (.slice Ao128 t262.length co128)) (fun _ hk => ⟨hk.1.1, ⟨hk.1.2.1, ⟨hk.1.2.2.1, ⟨hk.1.2.2.2.1, ⟨hk.1.2.2.2.2.1, ⟨hk.1.2.2.2.2.2.1, ⟨hk.1.2.2.2.2.2.2.1, hk.1.2.2.2.2.2.2.2⟩⟩⟩⟩⟩⟩⟩)), fun _ h1_ => absurd ((up_self b 9).symm.trans h1_) (by decide), fun _ => GW266.out, fun _ => GE266.out, fun _ => NB211_266.out, fun _ => NB266_211.out, fun _ => NB212_266.out, fun _ => NB266_212.out, fun _ => NB225_266.out, fun _ => NB266_225.out, fun _ => NB229_266.out, fun _ => NB266_229.out, fun _ => NB233_266.out, fun _ => NB266_233.out, fun _ => NB238_266.out, fun _ => NB266_238.out, fun _ => (by apply Sq.rb; refine blk_put (cs := #[.slice none 0 0]) ?_ 0 _ rfl; apply Sq.rb; exact BK266.out), Q_X1_, Q_X3_, Q_X4_, Q_X5_, Q_X6_, Q_X8_⟩
                refine steps_cons ?_ ?_
                ·rintro b a w' ⟨v257, v260, v263, gb266, m1_, m3_, m4_, m5_, m6_, m8_, ha, Q_HO217, Q_HO220, Q_HO223, Q_HO228, Q_HO232, Q_HO236, Q_HO242, Q_HO246, Q_BK211, Q_BK212, Q_BK225, Q_BK229, Q_BK233, Q_BK238, Q_HB, Q_HO258, Q_HO261, Q_HO264, Q_BK266, Q_GW266, Q_GE266, Q_NB211_266, Q_NB266_211, Q_NB212_266, Q_NB266_212, Q_NB225_266, Q_NB266_225, Q_NB229_266, Q_NB266_229, Q_NB233_266, Q_NB266_233, Q_NB238_266, Q_NB266_238, Q_BK266_e9, Q_X1_, Q_X3_, Q_X4_, Q_X5_, Q_X6_, Q_X8_⟩ hb_ hon hoff
                 refine ⟨_, rfl, fun K hK => ?_⟩
                 have e101 : a.tmps[101]? = some (.bool t265) := by rw [ha]; exact putSel_on (e := (7, 101, .bool t265)) 7 rfl rfl (hon 7 (by kernel_rfl)) rfl
                 replace ha := Aside0.mk ha
                 have HO217 := Aside0.mk Q_HO217
                 have HO220 := Aside0.mk Q_HO220
                 have HO223 := Aside0.mk Q_HO223
                 have HO228 := Aside0.mk Q_HO228
                 have HO232 := Aside0.mk Q_HO232
                 have HO236 := Aside0.mk Q_HO236
                 have HO242 := Aside0.mk Q_HO242
                 have HO246 := Aside0.mk Q_HO246
                 have BK211 := Aside0.mk Q_BK211
                 have BK212 := Aside0.mk Q_BK212
                 have BK225 := Aside0.mk Q_BK225
                 have BK229 := Aside0.mk Q_BK229
                 have BK233 := Aside0.mk Q_BK233
                 have BK238 := Aside0.mk Q_BK238
                 have HB := Aside0.mk Q_HB
                 have HO258 := Sq.m (Q_HO258 (hon 1 (by kernel_rfl)))
                 have HO261 := Sq.m (Q_HO261 (hon 3 (by kernel_rfl)))
                 have HO264 := Sq.m (Q_HO264 (hon 4 (by kernel_rfl)))
                 have GW266 := Sq.m (Q_GW266 (hon 8 (by kernel_rfl)))
                 have GE266 := Sq.m (Q_GE266 (hon 8 (by kernel_rfl)))
                 have NB211_266 := Sq.m (Q_NB211_266 (hon 8 (by kernel_rfl)))
                 have NB266_211 := Sq.m (Q_NB266_211 (hon 8 (by kernel_rfl)))
                 have NB212_266 := Sq.m (Q_NB212_266 (hon 8 (by kernel_rfl)))
                 have NB266_212 := Sq.m (Q_NB266_212 (hon 8 (by kernel_rfl)))
                 have NB225_266 := Sq.m (Q_NB225_266 (hon 8 (by kernel_rfl)))
                 have NB266_225 := Sq.m (Q_NB266_225 (hon 8 (by kernel_rfl)))
                 have NB229_266 := Sq.m (Q_NB229_266 (hon 8 (by kernel_rfl)))
                 have NB266_229 := Sq.m (Q_NB266_229 (hon 8 (by kernel_rfl)))
                 have NB233_266 := Sq.m (Q_NB233_266 (hon 8 (by kernel_rfl)))
                 have NB266_233 := Sq.m (Q_NB266_233 (hon 8 (by kernel_rfl)))
                 have NB238_266 := Sq.m (Q_NB238_266 (hon 8 (by kernel_rfl)))
                 have NB266_238 := Sq.m (Q_NB266_238 (hon 8 (by kernel_rfl)))
                 have BK266 := Sq.m (Q_BK266_e9 (hon 9 (by kernel_rfl)))
                 refine value_ (w1 := w') (v := .bool t265) (by rfl) rfl ?_ ?_
                 ·go_simp
                  (try simp only [i64_w])
                  try rfl
                 refine hK.out _ _ ⟨v257, v260, v263, gb266, m1_, m3_, m4_, m5_, m6_, m8_, (by rw [ha.out]; exact putSel_upk 9 hb_ rfl rfl rfl), Q_HO217, Q_HO220, Q_HO223, Q_HO228, Q_HO232, Q_HO236, Q_HO242, Q_HO246, Q_BK211, Q_BK212, Q_BK225, Q_BK229, Q_BK233, Q_BK238, Q_HB, Q_HO258, Q_HO261, Q_HO264, fun _ h1_ => absurd ((hon 9 (by kernel_rfl)).symm.trans h1_) (by decide), Q_GW266, Q_GE266, Q_NB211_266, Q_NB266_211, Q_NB212_266, Q_NB266_212, Q_NB225_266, Q_NB266_225, Q_NB229_266, Q_NB266_229, Q_NB233_266, Q_NB266_233, Q_NB238_266, Q_NB266_238, Q_BK266_e9, Q_X1_, Q_X3_, Q_X4_, Q_X5_, Q_X6_, Q_X8_⟩
                exact steps_nil
               rintro b a w129 hall ⟨v257, v260, v263, gb266, m1_, m3_, m4_, m5_, m6_, m8_, ha, Q_HO217, Q_HO220, Q_HO223, Q_HO228, Q_HO232, Q_HO236, Q_HO242, Q_HO246, Q_BK211, Q_BK212, Q_BK225, Q_BK229, Q_BK233, Q_BK238, Q_HB, Q_HO258, Q_HO261, Q_HO264, Q_BK266, Q_GW266, Q_GE266, Q_NB211_266, Q_NB266_211, Q_NB212_266, Q_NB266_212, Q_NB225_266, Q_NB266_225, Q_NB229_266, Q_NB266_229, Q_NB233_266, Q_NB266_233, Q_NB238_266, Q_NB266_238, Q_BK266_e9, Q_X1_, Q_X3_, Q_X4_, Q_X5_, Q_X6_, Q_X8_⟩
               clear BK211 BK212 BK225 BK229 BK233 BK238 HB HO217 HO220 HO223 HO228 HO232 HO236 HO242 HO246
               have hb0_ := hall 0 (by kernel_rfl)
               have hb1_ := hall 1 (by kernel_rfl)
               have hb2_ := hall 2 (by kernel_rfl)
               have hb3_ := hall 3 (by kernel_rfl)
               have hb4_ := hall 4 (by kernel_rfl)
               have hb5_ := hall 5 (by kernel_rfl)
               have hb6_ := hall 6 (by kernel_rfl)
               have hb7_ := hall 7 (by kernel_rfl)
               have hb8_ := hall 8 (by kernel_rfl)
               have hb9_ := hall 9 (by kernel_rfl)
               have hb10_ := hall 10 (by kernel_rfl)
               subst ha
               obtain rfl := Q_X1_ hb1_
               obtain rfl := Q_X3_ hb3_
               obtain rfl := Q_X4_ hb4_
               obtain rfl := Q_X5_ hb5_
               obtain rfl := Q_X6_ hb6_
               obtain rfl := Q_X8_ hb8_
               simp only [putSel, hb0_, hb1_, hb2_, hb3_, hb4_, hb5_, hb6_, hb7_, hb8_, hb9_, hb10_, if_true, Act.put, List.setIfInBounds_toArray, List.set_cons_zero, List.set_cons_succ]
               have HO217 := Aside0.mk Q_HO217
               clear Q_HO217
               have HO220 := Aside0.mk Q_HO220
               clear Q_HO220
               have HO223 := Aside0.mk Q_HO223
               clear Q_HO223
               have HO228 := Aside0.mk Q_HO228
               clear Q_HO228
               have HO232 := Aside0.mk Q_HO232
               clear Q_HO232
               have HO236 := Aside0.mk Q_HO236
               clear Q_HO236
               have HO242 := Aside0.mk Q_HO242
               clear Q_HO242
               have HO246 := Aside0.mk Q_HO246
               clear Q_HO246
               have BK211 := Aside0.mk Q_BK211
               clear Q_BK211
               have BK212 := Aside0.mk Q_BK212
               clear Q_BK212
               have BK225 := Aside0.mk Q_BK225
               clear Q_BK225
               have BK229 := Aside0.mk Q_BK229
               clear Q_BK229
               have BK233 := Aside0.mk Q_BK233
               clear Q_BK233
               have BK238 := Aside0.mk Q_BK238
               clear Q_BK238
               have HB := Aside0.mk Q_HB
               clear Q_HB
               have HO258 := Sq.m (Q_HO258 hb1_)
               clear Q_HO258
               have HO261 := Sq.m (Q_HO261 hb3_)
               clear Q_HO261
               have HO264 := Sq.m (Q_HO264 hb4_)
               clear Q_HO264
               clear Q_BK266
               have GW266 := Sq.m (Q_GW266 hb8_)
               clear Q_GW266
               have GE266 := Sq.m (Q_GE266 hb8_)
               clear Q_GE266
               have NB211_266 := Sq.m (Q_NB211_266 hb8_)
               clear Q_NB211_266
               have NB266_211 := Sq.m (Q_NB266_211 hb8_)
               clear Q_NB266_211
               have NB212_266 := Sq.m (Q_NB212_266 hb8_)
               clear Q_NB212_266
               have NB266_212 := Sq.m (Q_NB266_212 hb8_)
               clear Q_NB266_212
               have NB225_266 := Sq.m (Q_NB225_266 hb8_)
               clear Q_NB225_266
               have NB266_225 := Sq.m (Q_NB266_225 hb8_)
               clear Q_NB266_225
               have NB229_266 := Sq.m (Q_NB229_266 hb8_)
               clear Q_NB229_266
               have NB266_229 := Sq.m (Q_NB266_229 hb8_)
               clear Q_NB266_229
               have NB233_266 := Sq.m (Q_NB233_266 hb8_)
               clear Q_NB233_266
               have NB266_233 := Sq.m (Q_NB266_233 hb8_)
               clear Q_NB266_233
               have NB238_266 := Sq.m (Q_NB238_266 hb8_)
               clear Q_NB238_266
               have NB266_238 := Sq.m (Q_NB266_238 hb8_)
               clear Q_NB266_238
               have BK266 := Sq.m (Q_BK266_e9 hb9_)
               clear Q_BK266_e9
               clear hall hb0_ hb1_ hb2_ hb3_ hb4_ hb5_ hb6_ hb7_ hb8_ hb9_ hb10_
               have hnb130 := NB266_211.out
               have hnc130 := NB211_266.out
               have hnb131 := NB266_212.out
               have hnc131 := NB212_266.out
               have hnb132 := NB266_225.out
               have hnc132 := NB225_266.out
               have hnb133 := NB266_229.out
               have hnc133 := NB229_266.out
               have hnb134 := NB266_233.out
               have hnc134 := NB233_266.out
               have hnb135 := NB266_238.out
               have hnc135 := NB238_266.out
               have hcz136_0 : w129.cell? ⟨gb266, 0, none⟩ = some (v263) := (blk_cell BK266.out 0).trans rfl
               have hfz136_0 := blk_frozen BK266.out 0
               have hcz137_0 : w129.cell? ⟨gb225, 0, none⟩ = some (.slice Ao99 t221.length co99) := (blk_cell BK225.out 0).trans rfl
               have hfz137_0 := blk_frozen BK225.out 0
               obtain ⟨Ao138, co138, eo138⟩ := Kd.R_slice HO264.out
               subst eo138
               try go_wp2_with (first | ((with_reducible refine gate_callee (f := 19) rfl ?_); refine goesL_ (some 104) rfl rfl Try.func19 (by kernel_rfl) rfl #[.agg #[.slice Ao138 t262.length co138], .agg #[.slice Ao99 t221.length co99]] rfl (by (try simp only [List.map_toArray, List.map_cons, List.map_nil]); first | done | rfl | (simp only [List.length_drop, List.length_take]; rfl) | (simp only [i64_w, u8_w, w64_b]; rfl)) ?_; (with_reducible refine (laws_eqNat.calls k _ _ t262 _ _ t221 true _ ?side1 ?side2 ?side3 ?side4 A46.out).mono ?_); (case side1 => repeat (first | exact (Kd.R_reads' HO264.out).2.2 | (with_reducible refine Kd.C_alloc ?_ _) | (with_reducible refine Kd.C_drewN ?_ _) | (with_reducible refine Kd.C_drew ?_))); (case side2 => exact (Kd.R_reads' HO264.out).2.1); (case side3 => repeat (first | exact (Kd.R_reads' HO223.out).2.2 | (with_reducible refine Kd.C_alloc ?_ _) | (with_reducible refine Kd.C_drewN ?_ _) | (with_reducible refine Kd.C_drew ?_))); (case side4 => exact (Kd.R_reads' HO223.out).2.1); rintro e w139 ⟨rfl, hb⟩; refine ⟨_, rfl, ?_⟩; have n0_ := Sq.m (Kd.R_below (by apply Sq.ra; exact HO217.out) hb); have n1_ := Sq.m (Kd.R_below (by apply Sq.ra; exact HO220.out) hb); have n2_ := Sq.m (Kd.R_below (by apply Sq.ra; exact HO223.out) hb); have n3_ := Sq.m (Kd.R_below (by apply Sq.ra; exact HO228.out) hb); have n4_ := Sq.m (Kd.R_below (by apply Sq.ra; exact HO232.out) hb); have n5_ := Sq.m (Kd.R_below (by apply Sq.ra; exact HO236.out) hb); have n6_ := Sq.m (Kd.R_below (by apply Sq.ra; exact HO242.out) hb); have n7_ := Sq.m (Kd.R_below (by apply Sq.ra; exact HO246.out) hb); have n8_ := Sq.m (Kd.R_below (by apply Sq.ra; exact HO258.out) hb); have n9_ := Sq.m (Kd.R_below (by apply Sq.ra; exact HO261.out) hb); have n10_ := Sq.m (Kd.R_below (by apply Sq.ra; exact HO264.out) hb); have n11_ := Sq.m (blk_below (g := gb211) (o := .cells #[.slice A0_0 l0_0.length c0_0] 24 (0, 0)) (by apply Sq.rb; exact BK211.out) hb); have n12_ := Sq.m (blk_below (g := gb212) (o := .cells #[.slice A1_0 l1_0.length c1_0] 24 (0, 0)) (by apply Sq.rb; exact BK212.out) hb); have n13_ := Sq.m (blk_below (g := gb225) (o := .cells #[.slice Ao99 t221.length co99] 26 (0, 0)) (by apply Sq.rb; exact BK225.out) hb); have n14_ := Sq.m (blk_below (g := gb229) (o := .cells #[.slice Ao73 t226.length co73] 26 (0, 0)) (by apply Sq.rb; exact BK229.out) hb); have n15_ := Sq.m (blk_below (g := gb233) (o := .cells #[.slice Ao82 t230.length co82] 26 (0, 0)) (by apply Sq.rb; exact BK233.out) hb); have n16_ := Sq.m (blk_below (g := gb238) (o := .cells #[.slice Ao91 t234.length co91] 26 (0, 0)) (by apply Sq.rb; exact BK238.out) hb); have n17_ := Sq.m (blk_below (g := gb266) (o := .cells #[.slice Ao138 t262.length co138] 26 (0, 0)) (by apply Sq.rb; exact BK266.out) hb); have n18_ := Sq.m (below_step (by repeat (first | (with_reducible first | exact HB.out | apply Sq.rc | refine below_set ?_ GE211.out | refine below_set ?_ GE212.out | refine below_set ?_ GE225.out | refine below_set ?_ GE229.out | refine below_set ?_ GE233.out | refine below_set ?_ GE238.out | refine below_set ?_ GE266.out) | exact HB.out)) hb); clear HO217; clear HO220; clear HO223; clear HO228; clear HO232; clear HO236; clear HO242; clear HO246; clear HO258; clear HO261; clear HO264; clear BK211; clear BK212; clear BK225; clear BK229; clear BK233; clear BK238; clear BK266; clear HB; have HO217 := n0_; have HO220 := n1_; have HO223 := n2_; have HO228 := n3_; have HO232 := n4_; have HO236 := n5_; have HO242 := n6_; have HO246 := n7_; have HO258 := n8_; have HO261 := n9_; have HO264 := n10_; have BK211 := n11_; have BK212 := n12_; have BK225 := n13_; have BK229 := n14_; have BK233 := n15_; have BK238 := n16_; have BK266 := n17_; have HB := n18_; clear n0_ n1_ n2_ n3_ n4_ n5_ n6_ n7_ n8_ n9_ n10_ n11_ n12_ n13_ n14_ n15_ n16_ n17_ n18_; (try clear hb); (try clear hb2); (try clear hk); (try clear hi); have hcz140_0 : w139.cell? ⟨gb238, 0, none⟩ = some (.slice Ao91 t234.length co91) := (blk_cell BK238.out 0).trans rfl; have hfz140_0 := blk_frozen BK238.out 0) | ((with_reducible refine gate_callee (f := 21) rfl ?_); refine goesL_ (some 113) rfl rfl Try.func21 (by kernel_rfl) rfl #[.agg #[.slice Ao91 t254.length co91], .int .i64 1] rfl (by (try simp only [List.map_toArray, List.map_cons, List.map_nil]); first | done | (rw [show t254.length = t234.length from (Kd.R_reads' HO236.out).1.symm] <;> rfl) | rfl | (simp only [List.length_drop, List.length_take]; rfl) | (simp only [i64_w, u8_w, w64_b]; rfl)) ?_; (with_reducible refine (laws_heldNat.calls k _ _ t254 1 t268 _ ?side1 ?side2 A49.out).mono ?_); (case side1 => repeat (first | exact (Kd.R_reads' HO236.out).2.2 | (with_reducible refine Kd.C_alloc ?_ _) | (with_reducible refine Kd.C_drewN ?_ _) | (with_reducible refine Kd.C_drew ?_))); (case side2 => rw [show t254.length = t234.length from (Kd.R_reads' HO236.out).1.symm]; exact (Kd.R_reads' HO236.out).2.1); rintro e w141 ⟨rfl, hb⟩; refine ⟨_, rfl, ?_⟩; have n0_ := Sq.m (Kd.R_below (by apply Sq.ra; exact HO217.out) hb); have n1_ := Sq.m (Kd.R_below (by apply Sq.ra; exact HO220.out) hb); have n2_ := Sq.m (Kd.R_below (by apply Sq.ra; exact HO223.out) hb); have n3_ := Sq.m (Kd.R_below (by apply Sq.ra; exact HO228.out) hb); have n4_ := Sq.m (Kd.R_below (by apply Sq.ra; exact HO232.out) hb); have n5_ := Sq.m (Kd.R_below (by apply Sq.ra; exact HO236.out) hb); have n6_ := Sq.m (Kd.R_below (by apply Sq.ra; exact HO242.out) hb); have n7_ := Sq.m (Kd.R_below (by apply Sq.ra; exact HO246.out) hb); have n8_ := Sq.m (Kd.R_below (by apply Sq.ra; exact HO258.out) hb); have n9_ := Sq.m (Kd.R_below (by apply Sq.ra; exact HO261.out) hb); have n10_ := Sq.m (Kd.R_below (by apply Sq.ra; exact HO264.out) hb); have n11_ := Sq.m (blk_below (g := gb211) (o := .cells #[.slice A0_0 l0_0.length c0_0] 24 (0, 0)) (by apply Sq.rb; exact BK211.out) hb); have n12_ := Sq.m (blk_below (g := gb212) (o := .cells #[.slice A1_0 l1_0.length c1_0] 24 (0, 0)) (by apply Sq.rb; exact BK212.out) hb); have n13_ := Sq.m (blk_below (g := gb225) (o := .cells #[.slice Ao99 t221.length co99] 26 (0, 0)) (by apply Sq.rb; exact BK225.out) hb); have n14_ := Sq.m (blk_below (g := gb229) (o := .cells #[.slice Ao73 t226.length co73] 26 (0, 0)) (by apply Sq.rb; exact BK229.out) hb); have n15_ := Sq.m (blk_below (g := gb233) (o := .cells #[.slice Ao82 t230.length co82] 26 (0, 0)) (by apply Sq.rb; exact BK233.out) hb); have n16_ := Sq.m (blk_below (g := gb238) (o := .cells #[.slice Ao91 t234.length co91] 26 (0, 0)) (by apply Sq.rb; exact BK238.out) hb); have n17_ := Sq.m (blk_below (g := gb266) (o := .cells #[.slice Ao138 t262.length co138] 26 (0, 0)) (by apply Sq.rb; exact BK266.out) hb); have n18_ := Sq.m (below_step (by repeat (first | (with_reducible first | exact HB.out | apply Sq.rc | refine below_set ?_ GE211.out | refine below_set ?_ GE212.out | refine below_set ?_ GE225.out | refine below_set ?_ GE229.out | refine below_set ?_ GE233.out | refine below_set ?_ GE238.out | refine below_set ?_ GE266.out) | exact HB.out)) hb); clear HO217; clear HO220; clear HO223; clear HO228; clear HO232; clear HO236; clear HO242; clear HO246; clear HO258; clear HO261; clear HO264; clear BK211; clear BK212; clear BK225; clear BK229; clear BK233; clear BK238; clear BK266; clear HB; have HO217 := n0_; have HO220 := n1_; have HO223 := n2_; have HO228 := n3_; have HO232 := n4_; have HO236 := n5_; have HO242 := n6_; have HO246 := n7_; have HO258 := n8_; have HO261 := n9_; have HO264 := n10_; have BK211 := n11_; have BK212 := n12_; have BK225 := n13_; have BK229 := n14_; have BK233 := n15_; have BK238 := n16_; have BK266 := n17_; have HB := n18_; clear n0_ n1_ n2_ n3_ n4_ n5_ n6_ n7_ n8_ n9_ n10_ n11_ n12_ n13_ n14_ n15_ n16_ n17_ n18_; (try clear hb); (try clear hb2); (try clear hk); (try clear hi)))
               go_ret
               exact ⟨by first | rfl | (simp [errW_none, errW_some] <;> rfl) | (simp [*, errW_none, errW_some] <;> rfl), by repeat (first | (with_reducible first | exact HB.out | apply Sq.rc | refine below_set ?_ GE211.out | refine below_set ?_ GE212.out | refine below_set ?_ GE225.out | refine below_set ?_ GE229.out | refine below_set ?_ GE233.out | refine below_set ?_ GE238.out | refine below_set ?_ GE266.out) | exact HB.out)⟩
              ·rw [if_neg c51] at H
               exact absurd H (by simp)
           ·replace c47 := Bool.eq_false_iff.mpr c47
            subst c47
            have H1 : (none) = some r := by rw [if_neg (show ¬ (false = true) by decide)] at H; exact H
            clear H
            have H := H1
            clear H1
            exact absurd H (by simp)
          ·rw [if_neg c42] at H
           exact absurd H (by simp)
        ·replace c38 := Bool.eq_false_iff.mpr c38
         subst c38
         have H1 : (none) = some r := by rw [if_neg (show ¬ (false = true) by decide)] at H; exact H
         clear H
         have H := H1
         clear H1
         exact absurd H (by simp)
      ·replace c33 := Bool.eq_false_iff.mpr c33
       subst c33
       have H1 : (none) = some r := by rw [if_neg (show ¬ (false = true) by decide)] at H; exact H
       clear H
       have H := H1
       clear H1
       exact absurd H (by simp)
     ·replace c30 := Bool.eq_false_iff.mpr c30
      subst c30
      have H1 : (none) = some r := by rw [if_neg (show ¬ (false = true) by decide)] at H; exact H
      clear H
      have H := H1
      clear H1
      exact absurd H (by simp)
   ·replace c26 := Bool.eq_false_iff.mpr c26
    subst c26
    have H1 : (none) = some r := by rw [if_neg (show ¬ (false = true) by decide)] at H; exact H
    clear H
    have H := H1
    clear H1
    exact absurd H (by simp)

end Go.Proofs.Ytjepgnfgalnjhaa.Q
