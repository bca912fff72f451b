/- The machine side of Go functions, written by a program of this session over the print of the translation. No conditions. -/
import Derived.Test.YtjepgnfgalnjhaaQ0
import Derived.Test.YtjepgnfgalnjhaaQ27
import Derived.Test.YtjepgnfgalnjhaaQ42
import Derived.Test.YtjepgnfgalnjhaaQ64
import Derived.Test.YtjepgnfgalnjhaaQ66
import Derived.Test.YtjepgnfgalnjhaaQ68
import Derived.Test.YtjepgnfgalnjhaaQ71
namespace Go.Proofs.Ytjepgnfgalnjhaa.Q
open Go.RowKit Go.Proofs.YtjepgnfgalnjhaaW.PrintWords Go.Proofs.YtjepgnfgalnjhaaW.PrintLast Go.Proofs.YtjepgnfgalnjhaaW.PrintMore
attribute [local go_sem] max2_int min2_int max_two min_two max_three min_three max_four min_four   -- for this text's walks alone
set_option linter.unusedVariables false
set_option linter.unusedSimpArgs false

/-! ### spec_DrawNatCmp: function 45 -/
def spec_DrawNatCmp.f (k : Nat) (l0 : List Int) : Option (List Int × List Int) := (spec_l1New.f k l0).bind fun bt894 => ((spec_l2bent.f k bt894.1 bt894.2.1 bt894.2.2).bind fun bt898 => ((spec_l1Once.f bt894.1 bt898.2.1 bt898.2.2 3).bind fun bt904 => (if bt904.1 = true then ((spec_l1Below.f bt894.1 bt904.2.1 bt904.2.2 2).bind fun bt907 => ((spec_l2of.f k bt907.1).bind fun t910 => ((spec_l2add.f k bt898.1 t910).bind fun t913 => (some (bt898.1, t913))))) else ((spec_l2bent.f k bt894.1 bt904.2.1 bt904.2.2).bind fun bt916 => (some (bt898.1, bt916.1))))))
def spec_DrawNatCmp.T4 : Bool × List (List Nat × List Nat) := (true, [([], []), ([], []), ([], []), ([2], [2]), ([3, 3], [3]), ([1, 4, 4], [1, 4]), ([0, 5, 0], [0]), ([5, 6, 0, 1, 2, 3, 4, 5, 6], [5])])
def spec_DrawNatCmp.B4 : List Nat := [0, 0, 0, 4, 12, 30, 63, 127]
theorem spec_DrawNatCmp.tab4 : rtab .any (opsOf Try.f45 4) = spec_DrawNatCmp.T4 := by kernel_rfl
theorem spec_DrawNatCmp.bits4 : waitsOk spec_DrawNatCmp.T4.2 spec_DrawNatCmp.B4 = true := by kernel_rfl
set_option maxHeartbeats 8000000 in
set_option maxRecDepth 100000 in
theorem spec_DrawNatCmp.calls (k : Nat) (A0 : Option Addr) (c0 : Nat) (l0 : List Int) (r1 : List Int) (r2 : List Int) (w : World) (hr0 : Kd.C (Kd.int .u8) w A0 l0.length l0) (hc0 : l0.length ≤ c0) (h : spec_DrawNatCmp.f k l0 = some (r1, r2)) :
    Calls Try.prog 45 #[.slice A0 l0.length c0] w fun e w' => ∃ v0_ v1_ : Value, e = .returned (.tuple #[.agg #[v0_], .agg #[v1_]]) ∧ Kd.R (Kd.int .i64) 3 w' w.heap.size (fun k_ => some k_ ≠ (v1_ : Value).ownBlock) v0_ r1 ∧ Kd.R (Kd.int .i64) 3 w' w.heap.size (fun k_ => some k_ ≠ (v0_ : Value).ownBlock) v1_ r2 ∧ Below w.heap.size w w' := by
  have hu26 := Try.underlying26
  have HR0 := Aside0.mk hr0
  have HC0 := Aside0.mk hc0
  clear hr0 hc0
  have HB := Aside0.mk (Below.refl w.heap.size w)
  have H : ((spec_l1New.f k l0).bind fun bt894 => ((spec_l2bent.f k bt894.1 bt894.2.1 bt894.2.2).bind fun bt898 => ((spec_l1Once.f bt894.1 bt898.2.1 bt898.2.2 3).bind fun bt904 => (if bt904.1 = true then ((spec_l1Below.f bt894.1 bt904.2.1 bt904.2.2 2).bind fun bt907 => ((spec_l2of.f k bt907.1).bind fun t910 => ((spec_l2add.f k bt898.1 t910).bind fun t913 => (some (bt898.1, t913))))) else ((spec_l2bent.f k bt894.1 bt904.2.1 bt904.2.2).bind fun bt916 => (some (bt898.1, bt916.1))))))) = some (r1, r2) := h
  clear h
  replace H := Option.bind_eq_some_iff.mp H
  obtain ⟨⟨t894, t895, t896⟩, A20, H⟩ := H
  replace H : ((spec_l2bent.f k t894 t895 t896).bind fun bt898 => ((spec_l1Once.f t894 bt898.2.1 bt898.2.2 3).bind fun bt904 => (if bt904.1 = true then ((spec_l1Below.f t894 bt904.2.1 bt904.2.2 2).bind fun bt907 => ((spec_l2of.f k bt907.1).bind fun t910 => ((spec_l2add.f k bt898.1 t910).bind fun t913 => (some (bt898.1, t913))))) else ((spec_l2bent.f k t894 bt904.2.1 bt904.2.2).bind fun bt916 => (some (bt898.1, bt916.1)))))) = some (r1, r2) := H
  have A2 := Aside0.mk A20
  clear A20
  replace H := Option.bind_eq_some_iff.mp H
  obtain ⟨⟨t898, t901, t902⟩, A30, H⟩ := H
  replace H : ((spec_l1Once.f t894 t901 t902 3).bind fun bt904 => (if bt904.1 = true then ((spec_l1Below.f t894 bt904.2.1 bt904.2.2 2).bind fun bt907 => ((spec_l2of.f k bt907.1).bind fun t910 => ((spec_l2add.f k t898 t910).bind fun t913 => (some (t898, t913))))) else ((spec_l2bent.f k t894 bt904.2.1 bt904.2.2).bind fun bt916 => (some (t898, bt916.1))))) = some (r1, r2) := H
  have A3 := Aside0.mk A30
  clear A30
  replace H := Option.bind_eq_some_iff.mp H
  obtain ⟨⟨t904, t905, t906⟩, A40, H⟩ := H
  replace H : (if t904 = true then ((spec_l1Below.f t894 t905 t906 2).bind fun bt907 => ((spec_l2of.f k bt907.1).bind fun t910 => ((spec_l2add.f k t898 t910).bind fun t913 => (some (t898, t913))))) else ((spec_l2bent.f k t894 t905 t906).bind fun bt916 => (some (t898, bt916.1)))) = some (r1, r2) := H
  have A4 := Aside0.mk A40
  clear A40
  by_cases c5 : t904 = true
  · subst c5
    have H1 : ((spec_l1Below.f t894 t905 t906 2).bind fun bt907 => ((spec_l2of.f k bt907.1).bind fun t910 => ((spec_l2add.f k t898 t910).bind fun t913 => (some (t898, t913))))) = some (r1, r2) := by rw [if_pos rfl] at H; exact H
    clear H
    have H := H1
    clear H1
    replace H := Option.bind_eq_some_iff.mp H
    obtain ⟨⟨t907, t908, t909⟩, A60, H⟩ := H
    replace H : ((spec_l2of.f k t907).bind fun t910 => ((spec_l2add.f k t898 t910).bind fun t913 => (some (t898, t913)))) = some (r1, r2) := H
    have A6 := Aside0.mk A60
    clear A60
    replace H := Option.bind_eq_some_iff.mp H
    obtain ⟨t910, A70, H⟩ := H
    replace H : ((spec_l2add.f k t898 t910).bind fun t913 => (some (t898, t913))) = some (r1, r2) := H
    have A7 := Aside0.mk A70
    clear A70
    replace H := Option.bind_eq_some_iff.mp H
    obtain ⟨t913, A80, H⟩ := H
    replace H : (some (t898, t913)) = some (r1, r2) := H
    have A8 := Aside0.mk A80
    clear A80
    simp only [Option.some.injEq, Prod.mk.injEq] at H
    obtain ⟨rfl, rfl⟩ := H
    go_enter Try.func45, Try.ntmps45
    try go_wp2_with (first | ((with_reducible refine gate_dst (N := 2) rfl ?_); refine box_event ?hg (N := 2) ?hd (cs := #[.slice none 0 0]) (t := 26) ?hr ?_; (case hd => rfl); (case hg => rfl); (case hr => first | (go_simp; done) | (go_simp; rfl)); intro gb892 hg w9 hbox hb; have n0_ := Aside0.mk (below_step (by repeat (first | (with_reducible first | exact HB.out | apply below_alloc | apply pw_below_drewN | apply below_drew1) | exact HB.out)) hb); have n1_ := Aside0.mk (hbox); have n2_ := Aside0.mk ((by rw [hg]; exact (below_size (by repeat (first | (with_reducible first | exact HB.out | apply below_alloc | apply pw_below_drewN | apply below_drew1) | exact HB.out))) : w.heap.size ≤ gb892)); have n3_ := Aside0.mk ((by rw [hg]; exact (below_size (by repeat (first | (with_reducible first | exact HB.out | apply below_alloc | apply pw_below_drewN | apply below_drew1) | exact HB.out))) : w.heap.size ≤ gb892)); clear HB; have HB := n0_; have BK892 := n1_; have GW892 := n2_; have GE892 := n3_; clear n0_ n1_ n2_ n3_; clear hb hbox hg) | ((with_reducible refine gate_dst (N := 3) rfl ?_); refine box_event ?hg (N := 3) ?hd (cs := #[.slice none 0 0]) (t := 26) ?hr ?_; (case hd => rfl); (case hg => rfl); (case hr => first | (go_simp; done) | (go_simp; rfl)); intro gb893 hg w10 hbox hb; have n0_ := Aside0.mk (blk_below (g := gb892) (o := .cells #[.slice none 0 0] 26 (0, 0)) (by (with_reducible repeat (first | refine blk_drewN ?_ _ | refine blk_drew ?_ | refine blk_alloc ?_ _)); exact BK892.out) hb); have n1_ := Aside0.mk (below_step (by repeat (first | (with_reducible first | exact HB.out | apply below_alloc | apply pw_below_drewN | apply below_drew1 | refine below_set ?_ GE892.out) | exact HB.out)) hb); have n2_ := Aside0.mk (hbox); have n3_ := Aside0.mk ((by rw [hg]; exact (below_size (by repeat (first | (with_reducible first | exact HB.out | apply below_alloc | apply pw_below_drewN | apply below_drew1 | refine below_set ?_ GE892.out) | exact HB.out))) : w.heap.size ≤ gb893)); have n4_ := Aside0.mk ((by rw [hg]; exact (below_size (by repeat (first | (with_reducible first | exact HB.out | apply below_alloc | apply pw_below_drewN | apply below_drew1 | refine below_set ?_ GE892.out) | exact HB.out))) : w.heap.size ≤ gb893)); have n5_ := Aside0.mk ((by rw [hg]; exact Nat.ne_of_lt (blk_lt (g := gb892) (o := .cells #[.slice none 0 0] 26 (0, 0)) (by (with_reducible repeat (first | refine blk_drewN ?_ _ | refine blk_drew ?_ | refine blk_alloc ?_ _)); exact BK892.out)) : gb892 ≠ gb893)); have n6_ := Aside0.mk ((by rw [hg]; exact Nat.ne_of_gt (blk_lt (g := gb892) (o := .cells #[.slice none 0 0] 26 (0, 0)) (by (with_reducible repeat (first | refine blk_drewN ?_ _ | refine blk_drew ?_ | refine blk_alloc ?_ _)); exact BK892.out)) : gb893 ≠ gb892)); clear BK892; clear HB; have BK892 := n0_; have HB := n1_; have BK893 := n2_; have GW893 := n3_; have GE893 := n4_; have NB892_893 := n5_; have NB893_892 := n6_; clear n0_ n1_ n2_ n3_ n4_ n5_ n6_; clear hb hbox hg) | ((with_reducible refine gate_callee (f := 85) rfl ?_); refine goesL_ (some 7) rfl rfl Try.func85 (by kernel_rfl) rfl #[.slice A0 l0.length c0] rfl (by (try simp only [List.map_toArray, List.map_cons, List.map_nil]); first | done | rfl | (simp only [List.length_drop, List.length_take]; rfl) | (simp only [i64_w, u8_w, w64_b]; rfl)) ?_; (with_reducible refine (spec_l1New.calls k _ _ l0 t894 t895 t896 w _ ?side1 ?side2 ?side3 A2.out).mono ?_); (case side1 => repeat (first | (with_reducible first | exact HB.out | apply below_alloc | apply pw_below_drewN | apply below_drew1 | refine below_set ?_ GE892.out | refine below_set ?_ GE893.out) | exact HB.out)); (case side2 => exact HR0.out); (case side3 => exact HC0.out); rintro e w11 ⟨g897, rfl, hi, hb, hb2⟩; refine ⟨_, rfl, ?_⟩; have n0_ := Aside0.mk (blk_below (g := gb892) (o := .cells #[.slice none 0 0] 26 (0, 0)) (by (with_reducible repeat (first | refine blk_drewN ?_ _ | refine blk_drew ?_ | refine blk_alloc ?_ _)); exact BK892.out) hb2); have n1_ := Aside0.mk (blk_below (g := gb893) (o := .cells #[.slice none 0 0] 26 (0, 0)) (by (with_reducible repeat (first | refine blk_drewN ?_ _ | refine blk_drew ?_ | refine blk_alloc ?_ _)); exact BK893.out) hb2); have n2_ := Aside0.mk (hb); have n3_ := Aside0.mk (hi); have n4_ := Aside0.mk (IsS101.ne_blk hi (blk_below (g := gb892) (o := .cells #[.slice none 0 0] 26 (0, 0)) (by (with_reducible repeat (first | refine blk_drewN ?_ _ | refine blk_drew ?_ | refine blk_alloc ?_ _)); exact BK892.out) hb2) (by decide)); have n5_ := Aside0.mk (Ne.symm (IsS101.ne_blk hi (blk_below (g := gb892) (o := .cells #[.slice none 0 0] 26 (0, 0)) (by (with_reducible repeat (first | refine blk_drewN ?_ _ | refine blk_drew ?_ | refine blk_alloc ?_ _)); exact BK892.out) hb2) (by decide))); have n6_ := Aside0.mk (IsS101.ne_blk hi (blk_below (g := gb893) (o := .cells #[.slice none 0 0] 26 (0, 0)) (by (with_reducible repeat (first | refine blk_drewN ?_ _ | refine blk_drew ?_ | refine blk_alloc ?_ _)); exact BK893.out) hb2) (by decide)); have n7_ := Aside0.mk (Ne.symm (IsS101.ne_blk hi (blk_below (g := gb893) (o := .cells #[.slice none 0 0] 26 (0, 0)) (by (with_reducible repeat (first | refine blk_drewN ?_ _ | refine blk_drew ?_ | refine blk_alloc ?_ _)); exact BK893.out) hb2) (by decide))); clear BK892; clear BK893; clear HB; have BK892 := n0_; have BK893 := n1_; have HB := n2_; have HI897 := n3_; have NB897_892 := n4_; have NB892_897 := n5_; have NB897_893 := n6_; have NB893_897 := n7_; clear n0_ n1_ n2_ n3_ n4_ n5_ n6_ n7_; (try clear hb); (try clear hb2); (try clear hk); (try clear hi)) | ((with_reducible refine gate_callee (f := 86) rfl ?_); refine goesL_ (some 9) rfl rfl Try.func86 (by kernel_rfl) rfl #[.pointer (some ⟨g897, 0, none⟩)] rfl (by (try simp only [List.map_toArray, List.map_cons, List.map_nil]); first | done | rfl | (simp only [List.length_drop, List.length_take]; rfl) | (simp only [i64_w, u8_w, w64_b]; rfl)) ?_; (with_reducible refine (spec_l2bent.calls k g897 t894 t895 t896 t898 t901 t902 w _ ?side1 ?side2 A3.out).mono ?_); (case side1 => repeat (first | (with_reducible first | exact HI897.out | apply IsS101.alloc | apply IsS101.drewN | apply IsS101.drew | apply IsS101.set_1 | apply IsS101.set_2 | refine IsS101.far ?_ NB897_892.out _ | refine IsS101.far ?_ NB897_893.out _) | exact HI897.out)); (case side2 => repeat (first | (with_reducible first | exact HB.out | apply below_alloc | apply pw_below_drewN | apply below_drew1 | refine below_set ?_ (IsS101.ge HI897.out) | refine below_set ?_ GE892.out | refine below_set ?_ GE893.out) | exact HB.out)); rintro e w12 ⟨v899, rfl, ho0, hi, hb, hk⟩; refine ⟨_, rfl, ?_⟩; have n0_ := Aside0.mk (KeepBut.blk hk (g' := gb892) (o := .cells #[.slice none 0 0] 26 (0, 0)) (by (with_reducible repeat (first | refine blk_drewN ?_ _ | refine blk_drew ?_ | refine blk_alloc ?_ _)); exact BK892.out) NB892_897.out (by simp)); have n1_ := Aside0.mk (KeepBut.blk hk (g' := gb893) (o := .cells #[.slice none 0 0] 26 (0, 0)) (by (with_reducible repeat (first | refine blk_drewN ?_ _ | refine blk_drew ?_ | refine blk_alloc ?_ _)); exact BK893.out) NB893_897.out (by simp)); have n2_ := Aside0.mk (Kd.R_lower ho0 (below_size (by repeat (first | (with_reducible first | exact HB.out | apply below_alloc | apply pw_below_drewN | apply below_drew1 | refine below_set ?_ (IsS101.ge HI897.out) | refine below_set ?_ GE892.out | refine below_set ?_ GE893.out) | exact HB.out)))); have n3_ := Aside0.mk (hb); have n4_ := Aside0.mk (hi); clear BK892; clear BK893; clear HB; clear HI897; have BK892 := n0_; have BK893 := n1_; have HO900 := n2_; have HB := n3_; have HI897 := n4_; clear n0_ n1_ n2_ n3_ n4_; (try clear hb); (try clear hb2); (try clear hk); (try clear hi); (try clear ho0)) | ((with_reducible refine gate_dst (N := 5) rfl ?_); refine box_event ?hg (N := 5) ?hd (cs := #[.slice none 0 0]) (t := 26) ?hr ?_; (case hd => rfl); (case hg => rfl); (case hr => first | (go_simp; done) | (go_simp; rfl)); intro gb903 hg w13 hbox hb; have n0_ := Aside0.mk (Kd.R_below (by (with_reducible repeat (first | apply Kd.R_alloc | apply Kd.R_drewN | apply Kd.R_drew)); exact HO900.out) hb); have n1_ := Aside0.mk (blk_below (g := gb892) (o := .cells #[.slice none 0 0] 26 (0, 0)) (by (with_reducible repeat (first | refine blk_drewN ?_ _ | refine blk_drew ?_ | refine blk_alloc ?_ _)); exact BK892.out) hb); have n2_ := Aside0.mk (blk_below (g := gb893) (o := .cells #[.slice none 0 0] 26 (0, 0)) (by (with_reducible repeat (first | refine blk_drewN ?_ _ | refine blk_drew ?_ | refine blk_alloc ?_ _)); exact BK893.out) hb); have n3_ := Aside0.mk (IsS101.below (by repeat (first | (with_reducible first | exact HI897.out | apply IsS101.alloc | apply IsS101.drewN | apply IsS101.drew | apply IsS101.set_1 | apply IsS101.set_2 | refine IsS101.far ?_ NB897_892.out _ | refine IsS101.far ?_ NB897_893.out _) | exact HI897.out)) hb); have n4_ := Aside0.mk (below_step (by repeat (first | (with_reducible first | exact HB.out | apply below_alloc | apply pw_below_drewN | apply below_drew1 | refine below_set ?_ (IsS101.ge HI897.out) | refine below_set ?_ GE892.out | refine below_set ?_ GE893.out) | exact HB.out)) hb); have n5_ := Aside0.mk (hbox); have n6_ := Aside0.mk ((by rw [hg]; exact (below_size (by repeat (first | (with_reducible first | exact HB.out | apply below_alloc | apply pw_below_drewN | apply below_drew1 | refine below_set ?_ (IsS101.ge HI897.out) | refine below_set ?_ GE892.out | refine below_set ?_ GE893.out) | exact HB.out))) : w.heap.size ≤ gb903)); have n7_ := Aside0.mk ((by rw [hg]; exact (below_size (by repeat (first | (with_reducible first | exact HB.out | apply below_alloc | apply pw_below_drewN | apply below_drew1 | refine below_set ?_ (IsS101.ge HI897.out) | refine below_set ?_ GE892.out | refine below_set ?_ GE893.out) | exact HB.out))) : w.heap.size ≤ gb903)); have n8_ := Aside0.mk ((by rw [hg]; exact Nat.ne_of_lt (blk_lt (g := gb892) (o := .cells #[.slice none 0 0] 26 (0, 0)) (by (with_reducible repeat (first | refine blk_drewN ?_ _ | refine blk_drew ?_ | refine blk_alloc ?_ _)); exact BK892.out)) : gb892 ≠ gb903)); have n9_ := Aside0.mk ((by rw [hg]; exact Nat.ne_of_gt (blk_lt (g := gb892) (o := .cells #[.slice none 0 0] 26 (0, 0)) (by (with_reducible repeat (first | refine blk_drewN ?_ _ | refine blk_drew ?_ | refine blk_alloc ?_ _)); exact BK892.out)) : gb903 ≠ gb892)); have n10_ := Aside0.mk ((by rw [hg]; exact Nat.ne_of_lt (blk_lt (g := gb893) (o := .cells #[.slice none 0 0] 26 (0, 0)) (by (with_reducible repeat (first | refine blk_drewN ?_ _ | refine blk_drew ?_ | refine blk_alloc ?_ _)); exact BK893.out)) : gb893 ≠ gb903)); have n11_ := Aside0.mk ((by rw [hg]; exact Nat.ne_of_gt (blk_lt (g := gb893) (o := .cells #[.slice none 0 0] 26 (0, 0)) (by (with_reducible repeat (first | refine blk_drewN ?_ _ | refine blk_drew ?_ | refine blk_alloc ?_ _)); exact BK893.out)) : gb903 ≠ gb893)); have n12_ := Aside0.mk ((by rw [hg]; exact Nat.ne_of_lt (IsS101.lt (show IsS101 w _ g897 t894 t901 t902 from by repeat (first | (with_reducible first | exact HI897.out | apply IsS101.alloc | apply IsS101.drewN | apply IsS101.drew | apply IsS101.set_1 | apply IsS101.set_2 | refine IsS101.far ?_ NB897_892.out _ | refine IsS101.far ?_ NB897_893.out _) | exact HI897.out))) : g897 ≠ gb903)); have n13_ := Aside0.mk ((by rw [hg]; exact Nat.ne_of_gt (IsS101.lt (show IsS101 w _ g897 t894 t901 t902 from by repeat (first | (with_reducible first | exact HI897.out | apply IsS101.alloc | apply IsS101.drewN | apply IsS101.drew | apply IsS101.set_1 | apply IsS101.set_2 | refine IsS101.far ?_ NB897_892.out _ | refine IsS101.far ?_ NB897_893.out _) | exact HI897.out))) : gb903 ≠ g897)); clear HO900; clear BK892; clear BK893; clear HI897; clear HB; have HO900 := n0_; have BK892 := n1_; have BK893 := n2_; have HI897 := n3_; have HB := n4_; have BK903 := n5_; have GW903 := n6_; have GE903 := n7_; have NB892_903 := n8_; have NB903_892 := n9_; have NB893_903 := n10_; have NB903_893 := n11_; have NB897_903 := n12_; have NB903_897 := n13_; clear n0_ n1_ n2_ n3_ n4_ n5_ n6_ n7_ n8_ n9_ n10_ n11_ n12_ n13_; clear hb hbox hg; obtain ⟨Ao14, co14, eo14⟩ := Kd.R_slice HO900.out; subst eo14; have hnb15 := NB903_892.out; have hnc15 := NB892_903.out; have hnb16 := NB903_893.out; have hnc16 := NB893_903.out; have hnb17 := NB903_897.out; have hnc17 := NB897_903.out; have hcz18_0 : w13.cell? ⟨gb903, 0, none⟩ = some (.slice none 0 0) := (blk_cell BK903.out 0).trans rfl; have hfz18_0 := blk_frozen BK903.out 0) | ((with_reducible refine gate_callee (f := 94) rfl ?_); refine goesL_ (some 11) rfl rfl Try.func94 (by kernel_rfl) rfl #[.pointer (some ⟨g897, 0, none⟩), .int .i64 3] rfl (by (try simp only [List.map_toArray, List.map_cons, List.map_nil]); first | done | rfl | (simp only [List.length_drop, List.length_take]; rfl) | (simp only [i64_w, u8_w, w64_b]; rfl)) ?_; (with_reducible refine (spec_l1Once.calls g897 t894 t901 t902 3 true t905 t906 w _ ?side1 ?side2 A4.out).mono ?_); (case side1 => repeat (first | (with_reducible first | exact HI897.out | apply IsS101.alloc | apply IsS101.drewN | apply IsS101.drew | apply IsS101.set_1 | apply IsS101.set_2 | refine IsS101.far ?_ NB897_892.out _ | refine IsS101.far ?_ NB897_893.out _ | refine IsS101.far ?_ NB897_903.out _) | exact HI897.out)); (case side2 => repeat (first | (with_reducible first | exact HB.out | apply below_alloc | apply pw_below_drewN | apply below_drew1 | refine below_set ?_ (IsS101.ge HI897.out) | refine below_set ?_ GE892.out | refine below_set ?_ GE893.out | refine below_set ?_ GE903.out) | exact HB.out)); rintro e w19 ⟨rfl, hi, hb, hk⟩; refine ⟨_, rfl, ?_⟩; have n0_ := Aside0.mk (KeepBut.blk hk (g' := gb892) (o := .cells #[.slice none 0 0] 26 (0, 0)) (by (with_reducible repeat (first | refine blk_drewN ?_ _ | refine blk_drew ?_ | refine blk_alloc ?_ _)); refine blk_far ?_ NB892_903.out _; (with_reducible repeat (first | refine blk_drewN ?_ _ | refine blk_drew ?_ | refine blk_alloc ?_ _)); exact BK892.out) NB892_897.out (by simp)); have n1_ := Aside0.mk (KeepBut.blk hk (g' := gb893) (o := .cells #[.slice none 0 0] 26 (0, 0)) (by (with_reducible repeat (first | refine blk_drewN ?_ _ | refine blk_drew ?_ | refine blk_alloc ?_ _)); refine blk_far ?_ NB893_903.out _; (with_reducible repeat (first | refine blk_drewN ?_ _ | refine blk_drew ?_ | refine blk_alloc ?_ _)); exact BK893.out) NB893_897.out (by simp)); have n2_ := Aside0.mk (Kd.R_mono (Kd.R_keep (IsS101.apart (show IsS101 w _ g897 t894 t901 t902 from by repeat (first | (with_reducible first | exact HI897.out | apply IsS101.alloc | apply IsS101.drewN | apply IsS101.drew | apply IsS101.set_1 | apply IsS101.set_2 | refine IsS101.far ?_ NB897_892.out _ | refine IsS101.far ?_ NB897_893.out _ | refine IsS101.far ?_ NB897_903.out _) | exact HI897.out)) (by (with_reducible repeat (first | apply Kd.R_alloc | apply Kd.R_drewN | apply Kd.R_drew)); exact (Kd.R_mono (Kd.R_far (p := ⟨gb903, 0, none⟩) (Kd.R_types HO900.out BK903.out (by decide)) (fun _ hk => hk.2) (.slice Ao14 t898.length co14)) (fun _ h_ => h_.1))) (by decide)) hk (fun _ h => h.2)) (fun _ h => h.1)); have n3_ := Aside0.mk (KeepBut.blk hk (g' := gb903) (o := .cells #[.slice Ao14 t898.length co14] 26 (0, 0)) (by (with_reducible repeat (first | refine blk_drewN ?_ _ | refine blk_drew ?_ | refine blk_alloc ?_ _)); refine blk_put (cs := #[.slice none 0 0]) ?_ 0 _ rfl; (with_reducible repeat (first | refine blk_drewN ?_ _ | refine blk_drew ?_ | refine blk_alloc ?_ _)); exact BK903.out) NB903_897.out (by simp)); have n4_ := Aside0.mk (hb); have n5_ := Aside0.mk (hi); clear BK892; clear BK893; clear HO900; clear BK903; clear HB; clear HI897; have BK892 := n0_; have BK893 := n1_; have HO900 := n2_; have BK903 := n3_; have HB := n4_; have HI897 := n5_; clear n0_ n1_ n2_ n3_ n4_ n5_; (try clear hb); (try clear hb2); (try clear hk); (try clear hi)))
    have n0_ := Aside0.mk (Kd.R_drew HO900.out)
    have n1_ := Aside0.mk (blk_drew BK892.out)
    have n2_ := Aside0.mk (blk_drew BK893.out)
    have n3_ := Aside0.mk (blk_drew BK903.out)
    have n4_ := Aside0.mk (IsS101.drew HI897.out)
    have n5_ := Aside0.mk (below_drew1 HB.out)
    clear HO900
    clear BK892
    clear BK893
    clear BK903
    clear HI897
    clear HB
    have HO900 := n0_
    have BK892 := n1_
    have BK893 := n2_
    have BK903 := n3_
    have HI897 := n4_
    have HB := n5_
    clear n0_ n1_ n2_ n3_ n4_ n5_
    refine start_ (n := 8) (S := fun w' => w'.cell? ⟨gb903, 0, none⟩ = some (.slice Ao14 t898.length co14)) (ds := []) #[false, false, false, false, false, false, false, false] (by kernel_rfl) rfl rfl ((blk_cell BK903.out 0).trans rfl) (fun hHeld => ?_); refine with_tabW spec_DrawNatCmp.tab4 spec_DrawNatCmp.bits4 (fun HT_ HW_ => ?_)
    generalize w19.drew = w20 at HO900 BK892 BK893 BK903 HI897 HB hHeld ⊢
    refine pure_ (i := 2) (N := some 14) (v := ?_) (a' := ?_) #[false, false, true, false, false, false, false, false] rfl rfl (any_of HT_.out (by kernel_rfl)) (fun _ _ _ h => h) (Or.inl ⟨by rfl, ?_⟩) ?_ ?_
    rotate_left
    · intro w'
      go_simp
      with_reducible rfl
    rotate_left
    · simp only [Act.put, List.setIfInBounds_toArray, List.set_cons_zero, List.set_cons_succ, i64_w, i32_w, u8_w, w64_b]
      rfl
    refine take_ (i := 0) (N := some 12) (v := ?_) (a' := ?_) #[true, false, true, false, false, false, false, false] rfl rfl (take_ofW HT_.out HW_.out (by kernel_rfl)) (fun _ _ _ h => h) (Or.inl ⟨by rfl, ?_⟩) hHeld ?_ ?_
    rotate_left
    · intro w' s0
      go_simp
      with_reducible rfl
    rotate_left
    · simp only [Act.put, List.setIfInBounds_toArray, List.set_cons_zero, List.set_cons_succ, i64_w, i32_w, u8_w, w64_b]
      rfl
    refine take_ (i := 1) (N := some 13) (v := ?_) (a' := ?_) #[true, true, true, false, false, false, false, false] rfl rfl (take_ofW HT_.out HW_.out (by kernel_rfl)) (fun _ _ _ h => h) (Or.inl ⟨by rfl, ?_⟩) hHeld ?_ ?_
    rotate_left
    · intro w' s0
      go_simp
      with_reducible rfl
    rotate_left
    · simp only [Act.put, List.setIfInBounds_toArray, List.set_cons_zero, List.set_cons_succ, i64_w, i32_w, u8_w, w64_b]
      rfl
    refine one_ (i := 3) (N := some 15) #[true, true, true, true, false, false, false, false] rfl rfl (one_of HT_.out (by kernel_rfl)) (by decide) (fun K hK => ?_)
    refine goes_ Try.func95 (by kernel_rfl) rfl #[.pointer (some ⟨g897, 0, none⟩), .int .i64 2] (by rfl) rfl rfl (by (try simp only [List.map_toArray, List.map_cons, List.map_nil]); first | done | rfl | (simp only [List.length_drop, List.length_take]; rfl) | (simp only [i64_w, u8_w, w64_b]; rfl)) ?_
    with_reducible refine (spec_l1Below.calls g897 t894 t905 t906 2 t907 t908 t909 w _ ?side1 ?side2 A6.out).mono ?_
    (case side1 => repeat (first | (with_reducible first | exact HI897.out | apply IsS101.alloc | apply IsS101.drewN | apply IsS101.drew | apply IsS101.set_1 | apply IsS101.set_2 | refine IsS101.far ?_ NB897_892.out _ | refine IsS101.far ?_ NB897_893.out _ | refine IsS101.far ?_ NB897_903.out _) | exact HI897.out))
    (case side2 => repeat (first | (with_reducible first | exact HB.out | apply below_alloc | apply pw_below_drewN | apply below_drew1 | refine below_set ?_ (IsS101.ge HI897.out) | refine below_set ?_ GE892.out | refine below_set ?_ GE893.out | refine below_set ?_ GE903.out) | exact HB.out))
    rintro e w21 ⟨rfl, hi, hb, hk⟩
    refine ⟨_, rfl, ?_⟩
    have n0_ := Aside0.mk (KeepBut.blk hk (g' := gb892) (o := .cells #[.slice none 0 0] 26 (0, 0)) (by (with_reducible repeat (first | refine blk_drewN ?_ _ | refine blk_drew ?_ | refine blk_alloc ?_ _)); exact BK892.out) NB892_897.out (by simp))
    have n1_ := Aside0.mk (KeepBut.blk hk (g' := gb893) (o := .cells #[.slice none 0 0] 26 (0, 0)) (by (with_reducible repeat (first | refine blk_drewN ?_ _ | refine blk_drew ?_ | refine blk_alloc ?_ _)); exact BK893.out) NB893_897.out (by simp))
    have n2_ := Aside0.mk (Kd.R_mono (Kd.R_keep (IsS101.apart (show IsS101 w _ g897 t894 t905 t906 from by repeat (first | (with_reducible first | exact HI897.out | apply IsS101.alloc | apply IsS101.drewN | apply IsS101.drew | apply IsS101.set_1 | apply IsS101.set_2 | refine IsS101.far ?_ NB897_892.out _ | refine IsS101.far ?_ NB897_893.out _ | refine IsS101.far ?_ NB897_903.out _) | exact HI897.out)) (by (with_reducible repeat (first | apply Kd.R_alloc | apply Kd.R_drewN | apply Kd.R_drew)); exact HO900.out) (by decide)) hk (fun _ h => h.2)) (fun _ h => h.1))
    have n3_ := Aside0.mk (KeepBut.blk hk (g' := gb903) (o := .cells #[.slice Ao14 t898.length co14] 26 (0, 0)) (by (with_reducible repeat (first | refine blk_drewN ?_ _ | refine blk_drew ?_ | refine blk_alloc ?_ _)); exact BK903.out) NB903_897.out (by simp))
    have n4_ := Aside0.mk (hb)
    have n5_ := Aside0.mk (hi)
    clear BK892
    clear BK893
    clear HO900
    clear BK903
    clear HB
    clear HI897
    have BK892 := n0_
    have BK893 := n1_
    have HO900 := n2_
    have BK903 := n3_
    have HB := n4_
    have HI897 := n5_
    clear n0_ n1_ n2_ n3_ n4_ n5_
    (try clear hb)
    (try clear hb2)
    (try clear hk)
    (try clear hi)
    refine hK.out _ _ ((blk_cell BK903.out 0).trans rfl) (fun hHeld => ?_)
    clear hK K
    refine norm_ (a' := ?_) ?_ ?_
    rotate_left
    · show Act.put _ (some 15) _ = _
      simp only [Act.put, List.setIfInBounds_toArray, List.set_cons_zero, List.set_cons_succ, i64_w, i32_w, u8_w, w64_b]
      rfl
    refine one_ (i := 4) (N := some 16) #[true, true, true, true, true, false, false, false] rfl rfl (one_of HT_.out (by kernel_rfl)) (by decide) (fun K hK => ?_)
    refine goes_ Try.func81 (by kernel_rfl) rfl #[.int .i64 t907] (by rfl) rfl rfl (by (try simp only [List.map_toArray, List.map_cons, List.map_nil]); first | done | rfl | (simp only [List.length_drop, List.length_take]; rfl) | (simp only [i64_w, u8_w, w64_b]; rfl)) ?_
    with_reducible refine (spec_l2of.calls k t907 t910 _ A7.out).mono ?_
    rintro e w22 ⟨v911, rfl, ho0, hb⟩
    refine ⟨_, rfl, ?_⟩
    have n0_ := Aside0.mk (Kd.R_elder' (by (with_reducible repeat (first | apply Kd.R_alloc | apply Kd.R_drewN | apply Kd.R_drew)); exact HO900.out) (Kd.R_base ho0) hb)
    have n1_ := Aside0.mk (Kd.R_lower (Kd.R_new' ho0 (Kd.R_lt (by (with_reducible repeat (first | apply Kd.R_alloc | apply Kd.R_drewN | apply Kd.R_drew)); exact HO900.out))) (below_size (by repeat (first | (with_reducible first | exact HB.out | apply below_alloc | apply pw_below_drewN | apply below_drew1 | refine below_set ?_ (IsS101.ge HI897.out) | refine below_set ?_ GE892.out | refine below_set ?_ GE893.out | refine below_set ?_ GE903.out) | exact HB.out))))
    have n2_ := Aside0.mk (blk_below (g := gb892) (o := .cells #[.slice none 0 0] 26 (0, 0)) (by (with_reducible repeat (first | refine blk_drewN ?_ _ | refine blk_drew ?_ | refine blk_alloc ?_ _)); exact BK892.out) hb)
    have n3_ := Aside0.mk (blk_below (g := gb893) (o := .cells #[.slice none 0 0] 26 (0, 0)) (by (with_reducible repeat (first | refine blk_drewN ?_ _ | refine blk_drew ?_ | refine blk_alloc ?_ _)); exact BK893.out) hb)
    have n4_ := Aside0.mk (IsS101.below (by repeat (first | (with_reducible first | exact HI897.out | apply IsS101.alloc | apply IsS101.drewN | apply IsS101.drew | apply IsS101.set_1 | apply IsS101.set_2 | refine IsS101.far ?_ NB897_892.out _ | refine IsS101.far ?_ NB897_893.out _ | refine IsS101.far ?_ NB897_903.out _) | exact HI897.out)) hb)
    have n5_ := Aside0.mk (blk_below (g := gb903) (o := .cells #[.slice Ao14 t898.length co14] 26 (0, 0)) (by (with_reducible repeat (first | refine blk_drewN ?_ _ | refine blk_drew ?_ | refine blk_alloc ?_ _)); exact BK903.out) hb)
    have n6_ := Aside0.mk (below_step (by repeat (first | (with_reducible first | exact HB.out | apply below_alloc | apply pw_below_drewN | apply below_drew1 | refine below_set ?_ (IsS101.ge HI897.out) | refine below_set ?_ GE892.out | refine below_set ?_ GE893.out | refine below_set ?_ GE903.out) | exact HB.out)) hb)
    clear HO900
    clear BK892
    clear BK893
    clear HI897
    clear BK903
    clear HB
    have HO900 := n0_
    have HO912 := n1_
    have BK892 := n2_
    have BK893 := n3_
    have HI897 := n4_
    have BK903 := n5_
    have HB := n6_
    clear n0_ n1_ n2_ n3_ n4_ n5_ n6_
    (try clear hb)
    (try clear hb2)
    (try clear hk)
    (try clear hi)
    (try clear ho0)
    obtain ⟨Ao23, co23, eo23⟩ := Kd.R_slice HO912.out
    (first | subst eo23 | (injection eo23 with f1_ f2_ f3_; have f4_ := f1_.symm; have f5_ := f3_.symm; clear f1_ f2_ f3_; subst f4_; subst f5_))
    refine hK.out _ _ ((blk_cell BK903.out 0).trans rfl) (fun hHeld => ?_)
    clear hK K
    refine norm_ (a' := ?_) ?_ ?_
    rotate_left
    · show Act.put _ (some 16) _ = _
      simp only [Act.put, List.setIfInBounds_toArray, List.set_cons_zero, List.set_cons_succ, i64_w, i32_w, u8_w, w64_b]
      rfl
    refine one_ (i := 5) (N := some 17) #[true, true, true, true, true, true, false, false] rfl rfl (one_of HT_.out (by kernel_rfl)) (by decide) (fun K hK => ?_)
    refine goes_ Try.func71 (by kernel_rfl) rfl #[.agg #[.slice Ao14 t898.length co14], .agg #[.slice Ao23 t910.length co23]] (by rfl) rfl rfl (by (try simp only [List.map_toArray, List.map_cons, List.map_nil]); first | done | rfl | (simp only [List.length_drop, List.length_take]; rfl) | (simp only [i64_w, u8_w, w64_b]; rfl)) ?_
    with_reducible refine (spec_l2add.calls k _ _ t898 _ _ t910 t913 _ ?side1 ?side2 ?side3 ?side4 A8.out).mono ?_
    (case side1 => repeat (first | exact (Kd.R_reads' HO900.out).2.2 | (with_reducible refine Kd.C_alloc ?_ _) | (with_reducible refine Kd.C_drewN ?_ _) | (with_reducible refine Kd.C_drew ?_)))
    (case side2 => exact (Kd.R_reads' HO900.out).2.1)
    (case side3 => repeat (first | exact (Kd.R_reads' HO912.out).2.2 | (with_reducible refine Kd.C_alloc ?_ _) | (with_reducible refine Kd.C_drewN ?_ _) | (with_reducible refine Kd.C_drew ?_)))
    (case side4 => exact (Kd.R_reads' HO912.out).2.1)
    rintro e w24 ⟨v914, rfl, ho0, hb⟩
    refine ⟨_, rfl, ?_⟩
    have n0_ := Aside0.mk (Kd.R_elder' (by (with_reducible repeat (first | apply Kd.R_alloc | apply Kd.R_drewN | apply Kd.R_drew)); exact HO900.out) (Kd.R_base ho0) hb)
    have n1_ := Aside0.mk (Kd.R_elder' (by (with_reducible repeat (first | apply Kd.R_alloc | apply Kd.R_drewN | apply Kd.R_drew)); exact HO912.out) (Kd.R_base ho0) hb)
    have n2_ := Aside0.mk (Kd.R_lower (Kd.R_new' (Kd.R_new' ho0 (Kd.R_lt (by (with_reducible repeat (first | apply Kd.R_alloc | apply Kd.R_drewN | apply Kd.R_drew)); exact HO900.out))) (Kd.R_lt (by (with_reducible repeat (first | apply Kd.R_alloc | apply Kd.R_drewN | apply Kd.R_drew)); exact HO912.out))) (below_size (by repeat (first | (with_reducible first | exact HB.out | apply below_alloc | apply pw_below_drewN | apply below_drew1 | refine below_set ?_ (IsS101.ge HI897.out) | refine below_set ?_ GE892.out | refine below_set ?_ GE893.out | refine below_set ?_ GE903.out) | exact HB.out))))
    have n3_ := Aside0.mk (blk_below (g := gb892) (o := .cells #[.slice none 0 0] 26 (0, 0)) (by (with_reducible repeat (first | refine blk_drewN ?_ _ | refine blk_drew ?_ | refine blk_alloc ?_ _)); exact BK892.out) hb)
    have n4_ := Aside0.mk (blk_below (g := gb893) (o := .cells #[.slice none 0 0] 26 (0, 0)) (by (with_reducible repeat (first | refine blk_drewN ?_ _ | refine blk_drew ?_ | refine blk_alloc ?_ _)); exact BK893.out) hb)
    have n5_ := Aside0.mk (IsS101.below (by repeat (first | (with_reducible first | exact HI897.out | apply IsS101.alloc | apply IsS101.drewN | apply IsS101.drew | apply IsS101.set_1 | apply IsS101.set_2 | refine IsS101.far ?_ NB897_892.out _ | refine IsS101.far ?_ NB897_893.out _ | refine IsS101.far ?_ NB897_903.out _) | exact HI897.out)) hb)
    have n6_ := Aside0.mk (blk_below (g := gb903) (o := .cells #[.slice Ao14 t898.length co14] 26 (0, 0)) (by (with_reducible repeat (first | refine blk_drewN ?_ _ | refine blk_drew ?_ | refine blk_alloc ?_ _)); exact BK903.out) hb)
    have n7_ := Aside0.mk (below_step (by repeat (first | (with_reducible first | exact HB.out | apply below_alloc | apply pw_below_drewN | apply below_drew1 | refine below_set ?_ (IsS101.ge HI897.out) | refine below_set ?_ GE892.out | refine below_set ?_ GE893.out | refine below_set ?_ GE903.out) | exact HB.out)) hb)
    clear HO900
    clear HO912
    clear BK892
    clear BK893
    clear HI897
    clear BK903
    clear HB
    have HO900 := n0_
    have HO912 := n1_
    have HO915 := n2_
    have BK892 := n3_
    have BK893 := n4_
    have HI897 := n5_
    have BK903 := n6_
    have HB := n7_
    clear n0_ n1_ n2_ n3_ n4_ n5_ n6_ n7_
    (try clear hb)
    (try clear hb2)
    (try clear hk)
    (try clear hi)
    (try clear ho0)
    obtain ⟨Ao26, co26, eo26⟩ := Kd.R_slice HO915.out
    (first | subst eo26 | (injection eo26 with f1_ f2_ f3_; have f4_ := f1_.symm; have f5_ := f3_.symm; clear f1_ f2_ f3_; subst f4_; subst f5_))
    refine hK.out _ _ ((blk_cell BK903.out 0).trans rfl) (fun hHeld => ?_)
    clear hK K
    refine norm_ (a' := ?_) ?_ ?_
    rotate_left
    · show Act.put _ (some 17) _ = _
      simp only [Act.put, List.setIfInBounds_toArray, List.set_cons_zero, List.set_cons_succ, i64_w, i32_w, u8_w, w64_b]
      rfl
    refine one_ (i := 6) (N := none) #[true, true, true, true, true, true, true, false] rfl rfl (one_of HT_.out (by kernel_rfl)) (by decide) (fun K hK => ?_)
    have hs25 : w24.cell? ⟨gb892, 0, none⟩ = some (.slice none 0 0) := (blk_cell BK892.out 0).trans rfl
    have hfs25 := blk_frozen BK892.out 0
    have hns25_1 := NB893_892.out
    have hns25_2 := NB903_892.out
    have hms25_1 := NB892_893.out
    have hms25_2 := NB892_903.out
    refine skip_ (w1 := ?_) (by rfl) rfl ?_ ?_
    rotate_left
    · go_simp
      rfl
    refine hK.out _ _ (((cell_far (p := ⟨gb892, _, none⟩) NB903_892.out _).trans (hHeld))) (fun hHeld => ?_)
    clear hK K
    refine one_ (i := 7) (N := none) #[true, true, true, true, true, true, true, true] rfl rfl (one_of HT_.out (by kernel_rfl)) (by decide) (fun K hK => ?_)
    have hs27 : w24.cell? ⟨gb893, 0, none⟩ = some (.slice none 0 0) := (blk_cell BK893.out 0).trans rfl
    have hfs27 := blk_frozen BK893.out 0
    have hns27_0 := NB892_893.out
    have hns27_2 := NB903_893.out
    have hms27_0 := NB893_892.out
    have hms27_2 := NB893_903.out
    refine skip_ (w1 := ?_) (by rfl) rfl ?_ ?_
    rotate_left
    · go_simp
      rfl
    refine hK.out _ _ (((cell_far (p := ⟨gb893, _, none⟩) NB903_893.out _).trans (hHeld))) (fun hHeld => ?_)
    clear hK K
    refine done_ (done_of HT_.out (by kernel_rfl)) ?_
    try go_wp2
    refine bodyPost_ret (results_cc rfl _ _ gb892 gb893 26 26 #[.slice Ao14 t898.length co14] #[.slice Ao26 t913.length co26] (0, 0) (0, 0) _ _ rfl (by (with_reducible repeat (first | refine blk_drewN ?_ _ | refine blk_drew ?_ | refine blk_alloc ?_ _)); refine blk_far ?_ NB892_893.out _; (with_reducible repeat (first | refine blk_drewN ?_ _ | refine blk_drew ?_ | refine blk_alloc ?_ _)); refine blk_put (cs := #[.slice none 0 0]) ?_ 0 _ rfl; (with_reducible repeat (first | refine blk_drewN ?_ _ | refine blk_drew ?_ | refine blk_alloc ?_ _)); exact BK892.out) Try.underlying26 rfl (by kernel_rfl) rfl (by (with_reducible repeat (first | refine blk_drewN ?_ _ | refine blk_drew ?_ | refine blk_alloc ?_ _)); refine blk_put (cs := #[.slice none 0 0]) ?_ 0 _ rfl; (with_reducible repeat (first | refine blk_drewN ?_ _ | refine blk_drew ?_ | refine blk_alloc ?_ _)); refine blk_far ?_ NB893_892.out _; (with_reducible repeat (first | refine blk_drewN ?_ _ | refine blk_drew ?_ | refine blk_alloc ?_ _)); exact BK893.out) Try.underlying26 rfl (by kernel_rfl)) rfl ?_
    exact ⟨_, _, by first | rfl | (simp [errW_none, errW_some] <;> rfl) | (simp [*, errW_none, errW_some] <;> rfl), by (with_reducible repeat (first | apply Kd.R_alloc | apply Kd.R_drewN | apply Kd.R_drew)); exact Kd.R_mono (Kd.R_far (p := ⟨gb893, 0, none⟩) (Kd.R_far (p := ⟨gb892, 0, none⟩) (Kd.R_types (Kd.R_types HO900.out BK892.out (by decide)) BK893.out (by decide)) (fun _ hk => hk.1.2) (.slice Ao14 t898.length co14)) (fun _ hk => hk.2) (.slice Ao26 t913.length co26)) (fun _ hk => hk.1.1.2), by (with_reducible repeat (first | apply Kd.R_alloc | apply Kd.R_drewN | apply Kd.R_drew)); exact Kd.R_mono (Kd.R_far (p := ⟨gb893, 0, none⟩) (Kd.R_far (p := ⟨gb892, 0, none⟩) (Kd.R_types (Kd.R_types HO915.out BK892.out (by decide)) BK893.out (by decide)) (fun _ hk => hk.1.2) (.slice Ao14 t898.length co14)) (fun _ hk => hk.2) (.slice Ao26 t913.length co26)) (fun _ hk => hk.1.1.1.2), by repeat (first | (with_reducible first | exact HB.out | apply below_alloc | apply pw_below_drewN | apply below_drew1 | refine below_set ?_ (IsS101.ge HI897.out) | refine below_set ?_ GE892.out | refine below_set ?_ GE893.out | refine below_set ?_ GE903.out) | exact HB.out)⟩
  · replace c5 := Bool.eq_false_iff.mpr c5
    subst c5
    have H1 : ((spec_l2bent.f k t894 t905 t906).bind fun bt916 => (some (t898, bt916.1))) = some (r1, r2) := by rw [if_neg (show ¬ (false = true) by decide)] at H; exact H
    clear H
    have H := H1
    clear H1
    replace H := Option.bind_eq_some_iff.mp H
    obtain ⟨⟨t916, t919, t920⟩, A280, H⟩ := H
    replace H : (some (t898, t916)) = some (r1, r2) := H
    have A28 := Aside0.mk A280
    clear A280
    simp only [Option.some.injEq, Prod.mk.injEq] at H
    obtain ⟨rfl, rfl⟩ := H
    go_enter Try.func45, Try.ntmps45
    try go_wp2_with (first | ((with_reducible refine gate_dst (N := 2) rfl ?_); refine box_event ?hg (N := 2) ?hd (cs := #[.slice none 0 0]) (t := 26) ?hr ?_; (case hd => rfl); (case hg => rfl); (case hr => first | (go_simp; done) | (go_simp; rfl)); intro gb892 hg w29 hbox hb; have n0_ := Aside0.mk (below_step (by repeat (first | (with_reducible first | exact HB.out | apply below_alloc | apply pw_below_drewN | apply below_drew1) | exact HB.out)) hb); have n1_ := Aside0.mk (hbox); have n2_ := Aside0.mk ((by rw [hg]; exact (below_size (by repeat (first | (with_reducible first | exact HB.out | apply below_alloc | apply pw_below_drewN | apply below_drew1) | exact HB.out))) : w.heap.size ≤ gb892)); have n3_ := Aside0.mk ((by rw [hg]; exact (below_size (by repeat (first | (with_reducible first | exact HB.out | apply below_alloc | apply pw_below_drewN | apply below_drew1) | exact HB.out))) : w.heap.size ≤ gb892)); clear HB; have HB := n0_; have BK892 := n1_; have GW892 := n2_; have GE892 := n3_; clear n0_ n1_ n2_ n3_; clear hb hbox hg) | ((with_reducible refine gate_dst (N := 3) rfl ?_); refine box_event ?hg (N := 3) ?hd (cs := #[.slice none 0 0]) (t := 26) ?hr ?_; (case hd => rfl); (case hg => rfl); (case hr => first | (go_simp; done) | (go_simp; rfl)); intro gb893 hg w30 hbox hb; have n0_ := Aside0.mk (blk_below (g := gb892) (o := .cells #[.slice none 0 0] 26 (0, 0)) (by (with_reducible repeat (first | refine blk_drewN ?_ _ | refine blk_drew ?_ | refine blk_alloc ?_ _)); exact BK892.out) hb); have n1_ := Aside0.mk (below_step (by repeat (first | (with_reducible first | exact HB.out | apply below_alloc | apply pw_below_drewN | apply below_drew1 | refine below_set ?_ GE892.out) | exact HB.out)) hb); have n2_ := Aside0.mk (hbox); have n3_ := Aside0.mk ((by rw [hg]; exact (below_size (by repeat (first | (with_reducible first | exact HB.out | apply below_alloc | apply pw_below_drewN | apply below_drew1 | refine below_set ?_ GE892.out) | exact HB.out))) : w.heap.size ≤ gb893)); have n4_ := Aside0.mk ((by rw [hg]; exact (below_size (by repeat (first | (with_reducible first | exact HB.out | apply below_alloc | apply pw_below_drewN | apply below_drew1 | refine below_set ?_ GE892.out) | exact HB.out))) : w.heap.size ≤ gb893)); have n5_ := Aside0.mk ((by rw [hg]; exact Nat.ne_of_lt (blk_lt (g := gb892) (o := .cells #[.slice none 0 0] 26 (0, 0)) (by (with_reducible repeat (first | refine blk_drewN ?_ _ | refine blk_drew ?_ | refine blk_alloc ?_ _)); exact BK892.out)) : gb892 ≠ gb893)); have n6_ := Aside0.mk ((by rw [hg]; exact Nat.ne_of_gt (blk_lt (g := gb892) (o := .cells #[.slice none 0 0] 26 (0, 0)) (by (with_reducible repeat (first | refine blk_drewN ?_ _ | refine blk_drew ?_ | refine blk_alloc ?_ _)); exact BK892.out)) : gb893 ≠ gb892)); clear BK892; clear HB; have BK892 := n0_; have HB := n1_; have BK893 := n2_; have GW893 := n3_; have GE893 := n4_; have NB892_893 := n5_; have NB893_892 := n6_; clear n0_ n1_ n2_ n3_ n4_ n5_ n6_; clear hb hbox hg) | ((with_reducible refine gate_callee (f := 85) rfl ?_); refine goesL_ (some 7) rfl rfl Try.func85 (by kernel_rfl) rfl #[.slice A0 l0.length c0] rfl (by (try simp only [List.map_toArray, List.map_cons, List.map_nil]); first | done | rfl | (simp only [List.length_drop, List.length_take]; rfl) | (simp only [i64_w, u8_w, w64_b]; rfl)) ?_; (with_reducible refine (spec_l1New.calls k _ _ l0 t894 t895 t896 w _ ?side1 ?side2 ?side3 A2.out).mono ?_); (case side1 => repeat (first | (with_reducible first | exact HB.out | apply below_alloc | apply pw_below_drewN | apply below_drew1 | refine below_set ?_ GE892.out | refine below_set ?_ GE893.out) | exact HB.out)); (case side2 => exact HR0.out); (case side3 => exact HC0.out); rintro e w31 ⟨g897, rfl, hi, hb, hb2⟩; refine ⟨_, rfl, ?_⟩; have n0_ := Aside0.mk (blk_below (g := gb892) (o := .cells #[.slice none 0 0] 26 (0, 0)) (by (with_reducible repeat (first | refine blk_drewN ?_ _ | refine blk_drew ?_ | refine blk_alloc ?_ _)); exact BK892.out) hb2); have n1_ := Aside0.mk (blk_below (g := gb893) (o := .cells #[.slice none 0 0] 26 (0, 0)) (by (with_reducible repeat (first | refine blk_drewN ?_ _ | refine blk_drew ?_ | refine blk_alloc ?_ _)); exact BK893.out) hb2); have n2_ := Aside0.mk (hb); have n3_ := Aside0.mk (hi); have n4_ := Aside0.mk (IsS101.ne_blk hi (blk_below (g := gb892) (o := .cells #[.slice none 0 0] 26 (0, 0)) (by (with_reducible repeat (first | refine blk_drewN ?_ _ | refine blk_drew ?_ | refine blk_alloc ?_ _)); exact BK892.out) hb2) (by decide)); have n5_ := Aside0.mk (Ne.symm (IsS101.ne_blk hi (blk_below (g := gb892) (o := .cells #[.slice none 0 0] 26 (0, 0)) (by (with_reducible repeat (first | refine blk_drewN ?_ _ | refine blk_drew ?_ | refine blk_alloc ?_ _)); exact BK892.out) hb2) (by decide))); have n6_ := Aside0.mk (IsS101.ne_blk hi (blk_below (g := gb893) (o := .cells #[.slice none 0 0] 26 (0, 0)) (by (with_reducible repeat (first | refine blk_drewN ?_ _ | refine blk_drew ?_ | refine blk_alloc ?_ _)); exact BK893.out) hb2) (by decide)); have n7_ := Aside0.mk (Ne.symm (IsS101.ne_blk hi (blk_below (g := gb893) (o := .cells #[.slice none 0 0] 26 (0, 0)) (by (with_reducible repeat (first | refine blk_drewN ?_ _ | refine blk_drew ?_ | refine blk_alloc ?_ _)); exact BK893.out) hb2) (by decide))); clear BK892; clear BK893; clear HB; have BK892 := n0_; have BK893 := n1_; have HB := n2_; have HI897 := n3_; have NB897_892 := n4_; have NB892_897 := n5_; have NB897_893 := n6_; have NB893_897 := n7_; clear n0_ n1_ n2_ n3_ n4_ n5_ n6_ n7_; (try clear hb); (try clear hb2); (try clear hk); (try clear hi)) | ((with_reducible refine gate_callee (f := 86) rfl ?_); refine goesL_ (some 9) rfl rfl Try.func86 (by kernel_rfl) rfl #[.pointer (some ⟨g897, 0, none⟩)] rfl (by (try simp only [List.map_toArray, List.map_cons, List.map_nil]); first | done | rfl | (simp only [List.length_drop, List.length_take]; rfl) | (simp only [i64_w, u8_w, w64_b]; rfl)) ?_; (with_reducible refine (spec_l2bent.calls k g897 t894 t895 t896 t898 t901 t902 w _ ?side1 ?side2 A3.out).mono ?_); (case side1 => repeat (first | (with_reducible first | exact HI897.out | apply IsS101.alloc | apply IsS101.drewN | apply IsS101.drew | apply IsS101.set_1 | apply IsS101.set_2 | refine IsS101.far ?_ NB897_892.out _ | refine IsS101.far ?_ NB897_893.out _) | exact HI897.out)); (case side2 => repeat (first | (with_reducible first | exact HB.out | apply below_alloc | apply pw_below_drewN | apply below_drew1 | refine below_set ?_ (IsS101.ge HI897.out) | refine below_set ?_ GE892.out | refine below_set ?_ GE893.out) | exact HB.out)); rintro e w32 ⟨v899, rfl, ho0, hi, hb, hk⟩; refine ⟨_, rfl, ?_⟩; have n0_ := Aside0.mk (KeepBut.blk hk (g' := gb892) (o := .cells #[.slice none 0 0] 26 (0, 0)) (by (with_reducible repeat (first | refine blk_drewN ?_ _ | refine blk_drew ?_ | refine blk_alloc ?_ _)); exact BK892.out) NB892_897.out (by simp)); have n1_ := Aside0.mk (KeepBut.blk hk (g' := gb893) (o := .cells #[.slice none 0 0] 26 (0, 0)) (by (with_reducible repeat (first | refine blk_drewN ?_ _ | refine blk_drew ?_ | refine blk_alloc ?_ _)); exact BK893.out) NB893_897.out (by simp)); have n2_ := Aside0.mk (Kd.R_lower ho0 (below_size (by repeat (first | (with_reducible first | exact HB.out | apply below_alloc | apply pw_below_drewN | apply below_drew1 | refine below_set ?_ (IsS101.ge HI897.out) | refine below_set ?_ GE892.out | refine below_set ?_ GE893.out) | exact HB.out)))); have n3_ := Aside0.mk (hb); have n4_ := Aside0.mk (hi); clear BK892; clear BK893; clear HB; clear HI897; have BK892 := n0_; have BK893 := n1_; have HO900 := n2_; have HB := n3_; have HI897 := n4_; clear n0_ n1_ n2_ n3_ n4_; (try clear hb); (try clear hb2); (try clear hk); (try clear hi); (try clear ho0)) | ((with_reducible refine gate_dst (N := 5) rfl ?_); refine box_event ?hg (N := 5) ?hd (cs := #[.slice none 0 0]) (t := 26) ?hr ?_; (case hd => rfl); (case hg => rfl); (case hr => first | (go_simp; done) | (go_simp; rfl)); intro gb903 hg w33 hbox hb; have n0_ := Aside0.mk (Kd.R_below (by (with_reducible repeat (first | apply Kd.R_alloc | apply Kd.R_drewN | apply Kd.R_drew)); exact HO900.out) hb); have n1_ := Aside0.mk (blk_below (g := gb892) (o := .cells #[.slice none 0 0] 26 (0, 0)) (by (with_reducible repeat (first | refine blk_drewN ?_ _ | refine blk_drew ?_ | refine blk_alloc ?_ _)); exact BK892.out) hb); have n2_ := Aside0.mk (blk_below (g := gb893) (o := .cells #[.slice none 0 0] 26 (0, 0)) (by (with_reducible repeat (first | refine blk_drewN ?_ _ | refine blk_drew ?_ | refine blk_alloc ?_ _)); exact BK893.out) hb); have n3_ := Aside0.mk (IsS101.below (by repeat (first | (with_reducible first | exact HI897.out | apply IsS101.alloc | apply IsS101.drewN | apply IsS101.drew | apply IsS101.set_1 | apply IsS101.set_2 | refine IsS101.far ?_ NB897_892.out _ | refine IsS101.far ?_ NB897_893.out _) | exact HI897.out)) hb); have n4_ := Aside0.mk (below_step (by repeat (first | (with_reducible first | exact HB.out | apply below_alloc | apply pw_below_drewN | apply below_drew1 | refine below_set ?_ (IsS101.ge HI897.out) | refine below_set ?_ GE892.out | refine below_set ?_ GE893.out) | exact HB.out)) hb); have n5_ := Aside0.mk (hbox); have n6_ := Aside0.mk ((by rw [hg]; exact (below_size (by repeat (first | (with_reducible first | exact HB.out | apply below_alloc | apply pw_below_drewN | apply below_drew1 | refine below_set ?_ (IsS101.ge HI897.out) | refine below_set ?_ GE892.out | refine below_set ?_ GE893.out) | exact HB.out))) : w.heap.size ≤ gb903)); have n7_ := Aside0.mk ((by rw [hg]; exact (below_size (by repeat (first | (with_reducible first | exact HB.out | apply below_alloc | apply pw_below_drewN | apply below_drew1 | refine below_set ?_ (IsS101.ge HI897.out) | refine below_set ?_ GE892.out | refine below_set ?_ GE893.out) | exact HB.out))) : w.heap.size ≤ gb903)); have n8_ := Aside0.mk ((by rw [hg]; exact Nat.ne_of_lt (blk_lt (g := gb892) (o := .cells #[.slice none 0 0] 26 (0, 0)) (by (with_reducible repeat (first | refine blk_drewN ?_ _ | refine blk_drew ?_ | refine blk_alloc ?_ _)); exact BK892.out)) : gb892 ≠ gb903)); have n9_ := Aside0.mk ((by rw [hg]; exact Nat.ne_of_gt (blk_lt (g := gb892) (o := .cells #[.slice none 0 0] 26 (0, 0)) (by (with_reducible repeat (first | refine blk_drewN ?_ _ | refine blk_drew ?_ | refine blk_alloc ?_ _)); exact BK892.out)) : gb903 ≠ gb892)); have n10_ := Aside0.mk ((by rw [hg]; exact Nat.ne_of_lt (blk_lt (g := gb893) (o := .cells #[.slice none 0 0] 26 (0, 0)) (by (with_reducible repeat (first | refine blk_drewN ?_ _ | refine blk_drew ?_ | refine blk_alloc ?_ _)); exact BK893.out)) : gb893 ≠ gb903)); have n11_ := Aside0.mk ((by rw [hg]; exact Nat.ne_of_gt (blk_lt (g := gb893) (o := .cells #[.slice none 0 0] 26 (0, 0)) (by (with_reducible repeat (first | refine blk_drewN ?_ _ | refine blk_drew ?_ | refine blk_alloc ?_ _)); exact BK893.out)) : gb903 ≠ gb893)); have n12_ := Aside0.mk ((by rw [hg]; exact Nat.ne_of_lt (IsS101.lt (show IsS101 w _ g897 t894 t901 t902 from by repeat (first | (with_reducible first | exact HI897.out | apply IsS101.alloc | apply IsS101.drewN | apply IsS101.drew | apply IsS101.set_1 | apply IsS101.set_2 | refine IsS101.far ?_ NB897_892.out _ | refine IsS101.far ?_ NB897_893.out _) | exact HI897.out))) : g897 ≠ gb903)); have n13_ := Aside0.mk ((by rw [hg]; exact Nat.ne_of_gt (IsS101.lt (show IsS101 w _ g897 t894 t901 t902 from by repeat (first | (with_reducible first | exact HI897.out | apply IsS101.alloc | apply IsS101.drewN | apply IsS101.drew | apply IsS101.set_1 | apply IsS101.set_2 | refine IsS101.far ?_ NB897_892.out _ | refine IsS101.far ?_ NB897_893.out _) | exact HI897.out))) : gb903 ≠ g897)); clear HO900; clear BK892; clear BK893; clear HI897; clear HB; have HO900 := n0_; have BK892 := n1_; have BK893 := n2_; have HI897 := n3_; have HB := n4_; have BK903 := n5_; have GW903 := n6_; have GE903 := n7_; have NB892_903 := n8_; have NB903_892 := n9_; have NB893_903 := n10_; have NB903_893 := n11_; have NB897_903 := n12_; have NB903_897 := n13_; clear n0_ n1_ n2_ n3_ n4_ n5_ n6_ n7_ n8_ n9_ n10_ n11_ n12_ n13_; clear hb hbox hg; obtain ⟨Ao34, co34, eo34⟩ := Kd.R_slice HO900.out; subst eo34; have hnb35 := NB903_892.out; have hnc35 := NB892_903.out; have hnb36 := NB903_893.out; have hnc36 := NB893_903.out; have hnb37 := NB903_897.out; have hnc37 := NB897_903.out; have hcz38_0 : w33.cell? ⟨gb903, 0, none⟩ = some (.slice none 0 0) := (blk_cell BK903.out 0).trans rfl; have hfz38_0 := blk_frozen BK903.out 0) | ((with_reducible refine gate_callee (f := 94) rfl ?_); refine goesL_ (some 11) rfl rfl Try.func94 (by kernel_rfl) rfl #[.pointer (some ⟨g897, 0, none⟩), .int .i64 3] rfl (by (try simp only [List.map_toArray, List.map_cons, List.map_nil]); first | done | rfl | (simp only [List.length_drop, List.length_take]; rfl) | (simp only [i64_w, u8_w, w64_b]; rfl)) ?_; (with_reducible refine (spec_l1Once.calls g897 t894 t901 t902 3 false t905 t906 w _ ?side1 ?side2 A4.out).mono ?_); (case side1 => repeat (first | (with_reducible first | exact HI897.out | apply IsS101.alloc | apply IsS101.drewN | apply IsS101.drew | apply IsS101.set_1 | apply IsS101.set_2 | refine IsS101.far ?_ NB897_892.out _ | refine IsS101.far ?_ NB897_893.out _ | refine IsS101.far ?_ NB897_903.out _) | exact HI897.out)); (case side2 => repeat (first | (with_reducible first | exact HB.out | apply below_alloc | apply pw_below_drewN | apply below_drew1 | refine below_set ?_ (IsS101.ge HI897.out) | refine below_set ?_ GE892.out | refine below_set ?_ GE893.out | refine below_set ?_ GE903.out) | exact HB.out)); rintro e w39 ⟨rfl, hi, hb, hk⟩; refine ⟨_, rfl, ?_⟩; have n0_ := Aside0.mk (KeepBut.blk hk (g' := gb892) (o := .cells #[.slice none 0 0] 26 (0, 0)) (by (with_reducible repeat (first | refine blk_drewN ?_ _ | refine blk_drew ?_ | refine blk_alloc ?_ _)); refine blk_far ?_ NB892_903.out _; (with_reducible repeat (first | refine blk_drewN ?_ _ | refine blk_drew ?_ | refine blk_alloc ?_ _)); exact BK892.out) NB892_897.out (by simp)); have n1_ := Aside0.mk (KeepBut.blk hk (g' := gb893) (o := .cells #[.slice none 0 0] 26 (0, 0)) (by (with_reducible repeat (first | refine blk_drewN ?_ _ | refine blk_drew ?_ | refine blk_alloc ?_ _)); refine blk_far ?_ NB893_903.out _; (with_reducible repeat (first | refine blk_drewN ?_ _ | refine blk_drew ?_ | refine blk_alloc ?_ _)); exact BK893.out) NB893_897.out (by simp)); have n2_ := Aside0.mk (Kd.R_mono (Kd.R_keep (IsS101.apart (show IsS101 w _ g897 t894 t901 t902 from by repeat (first | (with_reducible first | exact HI897.out | apply IsS101.alloc | apply IsS101.drewN | apply IsS101.drew | apply IsS101.set_1 | apply IsS101.set_2 | refine IsS101.far ?_ NB897_892.out _ | refine IsS101.far ?_ NB897_893.out _ | refine IsS101.far ?_ NB897_903.out _) | exact HI897.out)) (by (with_reducible repeat (first | apply Kd.R_alloc | apply Kd.R_drewN | apply Kd.R_drew)); exact (Kd.R_mono (Kd.R_far (p := ⟨gb903, 0, none⟩) (Kd.R_types HO900.out BK903.out (by decide)) (fun _ hk => hk.2) (.slice Ao34 t898.length co34)) (fun _ h_ => h_.1))) (by decide)) hk (fun _ h => h.2)) (fun _ h => h.1)); have n3_ := Aside0.mk (KeepBut.blk hk (g' := gb903) (o := .cells #[.slice Ao34 t898.length co34] 26 (0, 0)) (by (with_reducible repeat (first | refine blk_drewN ?_ _ | refine blk_drew ?_ | refine blk_alloc ?_ _)); refine blk_put (cs := #[.slice none 0 0]) ?_ 0 _ rfl; (with_reducible repeat (first | refine blk_drewN ?_ _ | refine blk_drew ?_ | refine blk_alloc ?_ _)); exact BK903.out) NB903_897.out (by simp)); have n4_ := Aside0.mk (hb); have n5_ := Aside0.mk (hi); clear BK892; clear BK893; clear HO900; clear BK903; clear HB; clear HI897; have BK892 := n0_; have BK893 := n1_; have HO900 := n2_; have BK903 := n3_; have HB := n4_; have HI897 := n5_; clear n0_ n1_ n2_ n3_ n4_ n5_; (try clear hb); (try clear hb2); (try clear hk); (try clear hi)))
    have n0_ := Aside0.mk (Kd.R_drew HO900.out)
    have n1_ := Aside0.mk (blk_drew BK892.out)
    have n2_ := Aside0.mk (blk_drew BK893.out)
    have n3_ := Aside0.mk (blk_drew BK903.out)
    have n4_ := Aside0.mk (IsS101.drew HI897.out)
    have n5_ := Aside0.mk (below_drew1 HB.out)
    clear HO900
    clear BK892
    clear BK893
    clear BK903
    clear HI897
    clear HB
    have HO900 := n0_
    have BK892 := n1_
    have BK893 := n2_
    have BK903 := n3_
    have HI897 := n4_
    have HB := n5_
    clear n0_ n1_ n2_ n3_ n4_ n5_
    refine start_ (n := 5) (S := fun w' => w'.cell? ⟨gb903, 0, none⟩ = some (.slice Ao34 t898.length co34)) (ds := []) #[false, false, false, false, false] (by kernel_rfl) rfl rfl ((blk_cell BK903.out 0).trans rfl) (fun hHeld => ?_)
    generalize w39.drew = w40 at HO900 BK892 BK893 BK903 HI897 HB hHeld ⊢
    refine pure_ (i := 1) (N := some 19) (v := ?_) (a' := ?_) #[false, true, false, false, false] rfl rfl (by kernel_rfl) (fun _ _ _ h => h) (Or.inl ⟨by rfl, ?_⟩) ?_ ?_
    rotate_left
    · intro w'
      go_simp
      with_reducible rfl
    rotate_left
    · simp only [Act.put, List.setIfInBounds_toArray, List.set_cons_zero, List.set_cons_succ, i64_w, i32_w, u8_w, w64_b]
      rfl
    refine take_ (i := 0) (N := some 18) (v := ?_) (a' := ?_) #[true, true, false, false, false] rfl rfl (by kernel_rfl) (fun _ _ _ h => h) (Or.inl ⟨by rfl, ?_⟩) hHeld ?_ ?_
    rotate_left
    · intro w' s0
      go_simp
      with_reducible rfl
    rotate_left
    · simp only [Act.put, List.setIfInBounds_toArray, List.set_cons_zero, List.set_cons_succ, i64_w, i32_w, u8_w, w64_b]
      rfl
    refine one_ (i := 2) (N := some 20) #[true, true, true, false, false] rfl rfl (by kernel_rfl) (by decide) (fun K hK => ?_)
    refine goes_ Try.func86 (by kernel_rfl) rfl #[.pointer (some ⟨g897, 0, none⟩)] (by rfl) rfl rfl (by (try simp only [List.map_toArray, List.map_cons, List.map_nil]); first | done | rfl | (simp only [List.length_drop, List.length_take]; rfl) | (simp only [i64_w, u8_w, w64_b]; rfl)) ?_
    with_reducible refine (spec_l2bent.calls k g897 t894 t905 t906 t916 t919 t920 w _ ?side1 ?side2 A28.out).mono ?_
    (case side1 => repeat (first | (with_reducible first | exact HI897.out | apply IsS101.alloc | apply IsS101.drewN | apply IsS101.drew | apply IsS101.set_1 | apply IsS101.set_2 | refine IsS101.far ?_ NB897_892.out _ | refine IsS101.far ?_ NB897_893.out _ | refine IsS101.far ?_ NB897_903.out _) | exact HI897.out))
    (case side2 => repeat (first | (with_reducible first | exact HB.out | apply below_alloc | apply pw_below_drewN | apply below_drew1 | refine below_set ?_ (IsS101.ge HI897.out) | refine below_set ?_ GE892.out | refine below_set ?_ GE893.out | refine below_set ?_ GE903.out) | exact HB.out))
    rintro e w41 ⟨v917, rfl, ho0, hi, hb, hk⟩
    refine ⟨_, rfl, ?_⟩
    have n0_ := Aside0.mk (KeepBut.blk hk (g' := gb892) (o := .cells #[.slice none 0 0] 26 (0, 0)) (by (with_reducible repeat (first | refine blk_drewN ?_ _ | refine blk_drew ?_ | refine blk_alloc ?_ _)); exact BK892.out) NB892_897.out (by simp))
    have n1_ := Aside0.mk (KeepBut.blk hk (g' := gb893) (o := .cells #[.slice none 0 0] 26 (0, 0)) (by (with_reducible repeat (first | refine blk_drewN ?_ _ | refine blk_drew ?_ | refine blk_alloc ?_ _)); exact BK893.out) NB893_897.out (by simp))
    have n2_ := Aside0.mk (Kd.R_mono (Kd.R_told (Kd.R_oldK (IsS101.apart (show IsS101 w _ g897 t894 t905 t906 from by repeat (first | (with_reducible first | exact HI897.out | apply IsS101.alloc | apply IsS101.drewN | apply IsS101.drew | apply IsS101.set_1 | apply IsS101.set_2 | refine IsS101.far ?_ NB897_892.out _ | refine IsS101.far ?_ NB897_893.out _ | refine IsS101.far ?_ NB897_903.out _) | exact HI897.out)) (by (with_reducible repeat (first | apply Kd.R_alloc | apply Kd.R_drewN | apply Kd.R_drew)); exact HO900.out) (by decide)) hk) (Kd.R_base ho0)) (fun _ h_ => h_.1))
    have n3_ := Aside0.mk (KeepBut.blk hk (g' := gb903) (o := .cells #[.slice Ao34 t898.length co34] 26 (0, 0)) (by (with_reducible repeat (first | refine blk_drewN ?_ _ | refine blk_drew ?_ | refine blk_alloc ?_ _)); exact BK903.out) NB903_897.out (by simp))
    have n4_ := Aside0.mk (Kd.R_lower (Kd.R_new' ho0 (Kd.R_lt (by (with_reducible repeat (first | apply Kd.R_alloc | apply Kd.R_drewN | apply Kd.R_drew)); exact HO900.out))) (below_size (by repeat (first | (with_reducible first | exact HB.out | apply below_alloc | apply pw_below_drewN | apply below_drew1 | refine below_set ?_ (IsS101.ge HI897.out) | refine below_set ?_ GE892.out | refine below_set ?_ GE893.out | refine below_set ?_ GE903.out) | exact HB.out))))
    have n5_ := Aside0.mk (hb)
    have n6_ := Aside0.mk (hi)
    clear BK892
    clear BK893
    clear HO900
    clear BK903
    clear HB
    clear HI897
    have BK892 := n0_
    have BK893 := n1_
    have HO900 := n2_
    have BK903 := n3_
    have HO918 := n4_
    have HB := n5_
    have HI897 := n6_
    clear n0_ n1_ n2_ n3_ n4_ n5_ n6_
    (try clear hb)
    (try clear hb2)
    (try clear hk)
    (try clear hi)
    (try clear ho0)
    obtain ⟨Ao43, co43, eo43⟩ := Kd.R_slice HO918.out
    (first | subst eo43 | (injection eo43 with f1_ f2_ f3_; have f4_ := f1_.symm; have f5_ := f3_.symm; clear f1_ f2_ f3_; subst f4_; subst f5_))
    refine hK.out _ _ ((blk_cell BK903.out 0).trans rfl) (fun hHeld => ?_)
    clear hK K
    refine norm_ (a' := ?_) ?_ ?_
    rotate_left
    · show Act.put _ (some 20) _ = _
      simp only [Act.put, List.setIfInBounds_toArray, List.set_cons_zero, List.set_cons_succ, i64_w, i32_w, u8_w, w64_b]
      rfl
    refine one_ (i := 3) (N := none) #[true, true, true, true, false] rfl rfl (by kernel_rfl) (by decide) (fun K hK => ?_)
    have hs42 : w41.cell? ⟨gb892, 0, none⟩ = some (.slice none 0 0) := (blk_cell BK892.out 0).trans rfl
    have hfs42 := blk_frozen BK892.out 0
    have hns42_1 := NB893_892.out
    have hns42_2 := NB903_892.out
    have hms42_1 := NB892_893.out
    have hms42_2 := NB892_903.out
    refine skip_ (w1 := ?_) (by rfl) rfl ?_ ?_
    rotate_left
    · go_simp
      rfl
    refine hK.out _ _ (((cell_far (p := ⟨gb892, _, none⟩) NB903_892.out _).trans (hHeld))) (fun hHeld => ?_)
    clear hK K
    refine one_ (i := 4) (N := none) #[true, true, true, true, true] rfl rfl (by kernel_rfl) (by decide) (fun K hK => ?_)
    have hs44 : w41.cell? ⟨gb893, 0, none⟩ = some (.slice none 0 0) := (blk_cell BK893.out 0).trans rfl
    have hfs44 := blk_frozen BK893.out 0
    have hns44_0 := NB892_893.out
    have hns44_2 := NB903_893.out
    have hms44_0 := NB893_892.out
    have hms44_2 := NB893_903.out
    refine skip_ (w1 := ?_) (by rfl) rfl ?_ ?_
    rotate_left
    · go_simp
      rfl
    refine hK.out _ _ (((cell_far (p := ⟨gb893, _, none⟩) NB903_893.out _).trans (hHeld))) (fun hHeld => ?_)
    clear hK K
    refine done_ (by kernel_rfl) ?_
    try go_wp2
    refine bodyPost_ret (results_cc rfl _ _ gb892 gb893 26 26 #[.slice Ao34 t898.length co34] #[.slice Ao43 t916.length co43] (0, 0) (0, 0) _ _ rfl (by (with_reducible repeat (first | refine blk_drewN ?_ _ | refine blk_drew ?_ | refine blk_alloc ?_ _)); refine blk_far ?_ NB892_893.out _; (with_reducible repeat (first | refine blk_drewN ?_ _ | refine blk_drew ?_ | refine blk_alloc ?_ _)); refine blk_put (cs := #[.slice none 0 0]) ?_ 0 _ rfl; (with_reducible repeat (first | refine blk_drewN ?_ _ | refine blk_drew ?_ | refine blk_alloc ?_ _)); exact BK892.out) Try.underlying26 rfl (by kernel_rfl) rfl (by (with_reducible repeat (first | refine blk_drewN ?_ _ | refine blk_drew ?_ | refine blk_alloc ?_ _)); refine blk_put (cs := #[.slice none 0 0]) ?_ 0 _ rfl; (with_reducible repeat (first | refine blk_drewN ?_ _ | refine blk_drew ?_ | refine blk_alloc ?_ _)); refine blk_far ?_ NB893_892.out _; (with_reducible repeat (first | refine blk_drewN ?_ _ | refine blk_drew ?_ | refine blk_alloc ?_ _)); exact BK893.out) Try.underlying26 rfl (by kernel_rfl)) rfl ?_
    exact ⟨_, _, by first | rfl | (simp [errW_none, errW_some] <;> rfl) | (simp [*, errW_none, errW_some] <;> rfl), by (with_reducible repeat (first | apply Kd.R_alloc | apply Kd.R_drewN | apply Kd.R_drew)); exact Kd.R_mono (Kd.R_far (p := ⟨gb893, 0, none⟩) (Kd.R_far (p := ⟨gb892, 0, none⟩) (Kd.R_types (Kd.R_types HO900.out BK892.out (by decide)) BK893.out (by decide)) (fun _ hk => hk.1.2) (.slice Ao34 t898.length co34)) (fun _ hk => hk.2) (.slice Ao43 t916.length co43)) (fun _ hk => hk.1.1.2), by (with_reducible repeat (first | apply Kd.R_alloc | apply Kd.R_drewN | apply Kd.R_drew)); exact Kd.R_mono (Kd.R_far (p := ⟨gb893, 0, none⟩) (Kd.R_far (p := ⟨gb892, 0, none⟩) (Kd.R_types (Kd.R_types HO918.out BK892.out (by decide)) BK893.out (by decide)) (fun _ hk => hk.1.2) (.slice Ao34 t898.length co34)) (fun _ hk => hk.2) (.slice Ao43 t916.length co43)) (fun _ hk => hk.1.1.2), by repeat (first | (with_reducible first | exact HB.out | apply below_alloc | apply pw_below_drewN | apply below_drew1 | refine below_set ?_ (IsS101.ge HI897.out) | refine below_set ?_ GE892.out | refine below_set ?_ GE893.out | refine below_set ?_ GE903.out) | exact HB.out)⟩

end Go.Proofs.Ytjepgnfgalnjhaa.Q
