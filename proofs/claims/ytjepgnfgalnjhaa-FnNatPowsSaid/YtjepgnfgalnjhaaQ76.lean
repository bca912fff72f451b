/- The machine side of Go functions, written by a program of this session over the print of the translation. No conditions. -/
import Derived.Test.YtjepgnfgalnjhaaSq
import Derived.Test.YtjepgnfgalnjhaaQ0
import Derived.Test.YtjepgnfgalnjhaaQ3
import Derived.Test.YtjepgnfgalnjhaaQ19
import Derived.Test.YtjepgnfgalnjhaaQ62
import Derived.Test.YtjepgnfgalnjhaaQ72
import Derived.Test.YtjepgnfgalnjhaaQ74
import Derived.Test.YtjepgnfgalnjhaaQ75
namespace Go.Proofs.Ytjepgnfgalnjhaa.Q
open Go.RowKit Go.Proofs.YtjepgnfgalnjhaaW.PrintWords Go.Proofs.YtjepgnfgalnjhaaW.PrintLast Go.Proofs.YtjepgnfgalnjhaaW.PrintMore
attribute [local go_sem] max2_int min2_int max_two min_two max_three min_three max_four min_four   -- for this text's walks alone
set_option linter.unusedVariables false
set_option linter.unusedSimpArgs false

/-! ### laws_FnNatPows: function 8 -/
def laws_FnNatPows.j0 : Nat → Int → Bool → Bool → List Int → List Int → Option (Bool)
 | 0, _, _, _, _, _ => none
 | k + 1, x4, x6, x34, x844000, x849000 => if x34 = true then ((laws_nat.f k 2).bind fun t850 => ((impl_NatPow.f k t850 3).bind fun bt853 => (if x6 = true then (some false) else (if bt853.2 = true then ((laws_nat.f k 8).bind fun t858 => ((laws_sameNat.f k bt853.1 t858).bind fun t861 => (some t861))) else (some false))))) else (if x4 = 0 then (if x6 = true then ((laws_nat.f k 1).bind fun t862 => ((laws_sameNat.f k x849000 t862).bind fun t865 => (some t865))) else (some false)) else ((impl_NatPow.f k x844000 (wrap64 (x4 - 1))).bind fun bt866 => ((impl_NatMul.f k bt866.1 x844000).bind fun bt871 => (if x6 = true then (if bt866.2 = true then (if bt871.2 = true then ((laws_sameNat.f k bt871.1 x849000).bind fun t876 => (if t876 = true then (some x6) else (some false))) else (some false)) else (some false)) else (if bt866.2 = true then (if bt871.2 = true then (some x6) else (some true)) else (some true))))))
def laws_FnNatPows.f (k : Nat) (l0 : List Int) : Option (Bool) := (spec_DrawNatPow.f k l0).bind fun bt839 => ((impl_NatPow.f k bt839.1 bt839.2).bind fun bt844 => ((spec_NatOk.f k bt839.1).bind fun t849 => (if t849 = true then (if bt839.2 < 0 then (laws_FnNatPows.j0 k bt839.2 bt844.2 true bt839.1 bt844.1) else (laws_FnNatPows.j0 k bt839.2 bt844.2 (decide (bt839.2 > 1600)) bt839.1 bt844.1)) else (laws_FnNatPows.j0 k bt839.2 bt844.2 true bt839.1 bt844.1))))
def laws_FnNatPows.T5 : Bool × List (List Nat × List Nat) := (true, [([], []), ([0], [0]), ([1], [1]), ([2], [2]), ([2, 3], [2, 3]), ([4, 2], [4]), ([5], [5]), ([5, 5], [5]), ([6, 7, 7, 5], [5, 6, 7]), ([5, 8], [5, 8]), ([9, 8, 0, 1, 2, 3, 4, 5, 6, 7, 8, 9], [9])])
def laws_FnNatPows.B5 : List Nat := [0, 1, 3, 7, 15, 31, 63, 63, 255, 511, 1023]
theorem laws_FnNatPows.tab5 : rtab .any (opsOf Try.f8 5) = laws_FnNatPows.T5 := by kernel_rfl
theorem laws_FnNatPows.bits5 : waitsOk laws_FnNatPows.T5.2 laws_FnNatPows.B5 = true := by kernel_rfl
set_option maxHeartbeats 8000000 in
set_option maxRecDepth 100000 in
theorem laws_FnNatPows.calls (k : Nat) (A0 : Option Addr) (c0 : Nat) (l0 : List Int) (r : Bool) (w : World) (hr0 : Kd.C (Kd.int .u8) w A0 l0.length l0) (hc0 : l0.length ≤ c0) (h : laws_FnNatPows.f k l0 = some r) :
  Calls Try.prog 8 #[.slice A0 l0.length c0] w fun e w' => e = .returned (.bool r) ∧ Below w.heap.size w w' := by
 have hu26 := Try.underlying26
 have HR0 := Aside0.mk hr0
 have HC0 := Aside0.mk hc0
 clear hr0 hc0
 have HB := Sq.m (Below.refl w.heap.size w)
 have H : ((spec_DrawNatPow.f k l0).bind fun bt839 => ((impl_NatPow.f k bt839.1 bt839.2).bind fun bt844 => ((spec_NatOk.f k bt839.1).bind fun t849 => (if t849 = true then (if bt839.2 < 0 then (laws_FnNatPows.j0 k bt839.2 bt844.2 true bt839.1 bt844.1) else (laws_FnNatPows.j0 k bt839.2 bt844.2 (decide (bt839.2 > 1600)) bt839.1 bt844.1)) else (laws_FnNatPows.j0 k bt839.2 bt844.2 true bt839.1 bt844.1))))) = some r := h
 clear h
 replace H := Option.bind_eq_some_iff.mp H
 obtain ⟨⟨t839, t842⟩, A20, H⟩ := H
 try dsimp only at H
 have A2 := Aside0.mk A20
 clear A20
 replace H := Option.bind_eq_some_iff.mp H
 obtain ⟨⟨t844, t847⟩, A30, H⟩ := H
 try dsimp only at H
 have A3 := Aside0.mk A30
 clear A30
 have HC4 := Aside0.mk H
 clear H
 go_enter Try.func8, Try.ntmps8
 go_upto_region 3 with (first | ((with_reducible refine gate_callee (f := 33) rfl ?_); refine goesL_ (some 15) rfl rfl Try.func33 (by kernel_rfl) rfl #[.slice A0 l0.length c0] rfl (by (try simp only [List.map_toArray, List.map_cons, List.map_nil]); first | done | rfl | (simp only [List.length_drop, List.length_take]; rfl) | (simp only [i64_w, u8_w, w64_b]; rfl)) ?_; (with_reducible refine (spec_DrawNatPow.calls k _ _ l0 t839 t842 _ ?side1 ?side2 A2.out).mono ?_); (case side1 => repeat (first | exact HR0.out | (with_reducible refine Kd.C_alloc ?_ _) | (with_reducible refine Kd.C_drewN ?_ _) | (with_reducible refine Kd.C_drew ?_))); (case side2 => exact HC0.out); rintro e w5 ⟨v840, rfl, ho0, hb⟩; refine ⟨_, rfl, ?_⟩; have n0_ := Sq.m (Kd.R_lower ho0 (below_size (by repeat (first | (with_reducible first | exact HB.out | apply Sq.rc) | exact HB.out)))); have n1_ := Sq.m (below_step (by repeat (first | (with_reducible first | exact HB.out | apply Sq.rc) | exact HB.out)) hb); clear HB; have HO841 := n0_; have HB := n1_; clear n0_ n1_; (try clear hb); (try clear hb2); (try clear hk); (try clear hi); (try clear ho0)) | ((with_reducible refine gate_dst (N := 3) rfl ?_); refine box_event ?hg (N := 3) ?hd (cs := #[.slice none 0 0]) (t := 26) ?hr ?_; (case hd => rfl); (case hg => rfl); (case hr => first | (go_simp; done) | (go_simp; rfl)); intro gb843 hg w6 hbox hb; have n0_ := Sq.m (Kd.R_below (by apply Sq.ra; exact HO841.out) hb); have n1_ := Sq.m (below_step (by repeat (first | (with_reducible first | exact HB.out | apply Sq.rc) | exact HB.out)) hb); have n2_ := Sq.m (hbox); have n3_ := Sq.m ((by rw [hg]; exact (below_size (by repeat (first | (with_reducible first | exact HB.out | apply Sq.rc) | exact HB.out))) : w.heap.size ≤ gb843)); have n4_ := Sq.m ((by rw [hg]; exact (below_size (by repeat (first | (with_reducible first | exact HB.out | apply Sq.rc) | exact HB.out))) : w.heap.size ≤ gb843)); clear HO841; clear HB; have HO841 := n0_; have HB := n1_; have BK843 := n2_; have GW843 := n3_; have GE843 := n4_; clear n0_ n1_ n2_ n3_ n4_; clear hb hbox hg; obtain ⟨Ao7, co7, eo7⟩ := Kd.R_slice HO841.out; subst eo7; have hcz8_0 : w6.cell? ⟨gb843, 0, none⟩ = some (.slice none 0 0) := (blk_cell BK843.out 0).trans rfl; have hfz8_0 := blk_frozen BK843.out 0) | ((with_reducible refine gate_callee (f := 32) rfl ?_); refine goesL_ (some 21) rfl rfl Try.func32 (by kernel_rfl) rfl #[.agg #[.slice Ao7 t839.length co7], .int .i64 t842] rfl (by (try simp only [List.map_toArray, List.map_cons, List.map_nil]); first | done | rfl | (simp only [List.length_drop, List.length_take]; rfl) | (simp only [i64_w, u8_w, w64_b]; rfl)) ?_; (with_reducible refine (impl_NatPow.calls k _ _ t839 t842 t844 t847 _ ?side1 ?side2 A3.out).mono ?_); (case side1 => refine (Kd.R_reads' (e := 3) (base := w.heap.size) (ok := fun k_ => True) (n := t839.length) (c := co7) ?_).2.2; exact (by apply Sq.ra; exact (Kd.R_mono (Kd.R_far (p := ⟨gb843, 0, none⟩) (Kd.R_types HO841.out BK843.out (by decide)) (fun _ hk => hk.2) (.slice Ao7 t839.length co7)) (fun _ h_ => h_.1)))); (case side2 => exact (Kd.R_reads' HO841.out).2.1); rintro e w9 ⟨v845, rfl, ho0, hb⟩; refine ⟨_, rfl, ?_⟩; have n0_ := Sq.m (Kd.R_elder' (by apply Sq.ra; exact (Kd.R_mono (Kd.R_far (p := ⟨gb843, 0, none⟩) (Kd.R_types HO841.out BK843.out (by decide)) (fun _ hk => hk.2) (.slice Ao7 t839.length co7)) (fun _ h_ => h_.1))) (Kd.R_base ho0) hb); have n1_ := Sq.m (Kd.R_lower (Kd.R_new' ho0 (Kd.R_lt (by apply Sq.ra; exact (Kd.R_mono (Kd.R_far (p := ⟨gb843, 0, none⟩) (Kd.R_types HO841.out BK843.out (by decide)) (fun _ hk => hk.2) (.slice Ao7 t839.length co7)) (fun _ h_ => h_.1))))) (below_size (by repeat (first | (with_reducible first | exact HB.out | apply Sq.rc | refine below_set ?_ GE843.out) | exact HB.out)))); have n2_ := Sq.m (blk_below (g := gb843) (o := .cells #[.slice Ao7 t839.length co7] 26 (0, 0)) (by apply Sq.rb; refine blk_put (cs := #[.slice none 0 0]) ?_ 0 _ rfl; apply Sq.rb; exact BK843.out) hb); have n3_ := Sq.m (below_step (by repeat (first | (with_reducible first | exact HB.out | apply Sq.rc | refine below_set ?_ GE843.out) | exact HB.out)) hb); clear HO841; clear BK843; clear HB; have HO841 := n0_; have HO846 := n1_; have BK843 := n2_; have HB := n3_; clear n0_ n1_ n2_ n3_; (try clear hb); (try clear hb2); (try clear hk); (try clear hi); (try clear ho0)) | ((with_reducible refine gate_dst (N := 5) rfl ?_); refine box_event ?hg (N := 5) ?hd (cs := #[.slice none 0 0]) (t := 26) ?hr ?_; (case hd => rfl); (case hg => rfl); (case hr => first | (go_simp; done) | (go_simp; rfl)); intro gb848 hg w10 hbox hb; have n0_ := Sq.m (Kd.R_below (by apply Sq.ra; exact HO841.out) hb); have n1_ := Sq.m (Kd.R_below (by apply Sq.ra; exact HO846.out) hb); have n2_ := Sq.m (blk_below (g := gb843) (o := .cells #[.slice Ao7 t839.length co7] 26 (0, 0)) (by apply Sq.rb; exact BK843.out) hb); have n3_ := Sq.m (below_step (by repeat (first | (with_reducible first | exact HB.out | apply Sq.rc | refine below_set ?_ GE843.out) | exact HB.out)) hb); have n4_ := Sq.m (hbox); have n5_ := Sq.m ((by rw [hg]; exact (below_size (by repeat (first | (with_reducible first | exact HB.out | apply Sq.rc | refine below_set ?_ GE843.out) | exact HB.out))) : w.heap.size ≤ gb848)); have n6_ := Sq.m ((by rw [hg]; exact (below_size (by repeat (first | (with_reducible first | exact HB.out | apply Sq.rc | refine below_set ?_ GE843.out) | exact HB.out))) : w.heap.size ≤ gb848)); have n7_ := Sq.m ((by rw [hg]; exact Nat.ne_of_lt (blk_lt (g := gb843) (o := .cells #[.slice Ao7 t839.length co7] 26 (0, 0)) (by apply Sq.rb; exact BK843.out)) : gb843 ≠ gb848)); have n8_ := Sq.m ((by rw [hg]; exact Nat.ne_of_gt (blk_lt (g := gb843) (o := .cells #[.slice Ao7 t839.length co7] 26 (0, 0)) (by apply Sq.rb; exact BK843.out)) : gb848 ≠ gb843)); clear HO841; clear HO846; clear BK843; clear HB; have HO841 := n0_; have HO846 := n1_; have BK843 := n2_; have HB := n3_; have BK848 := n4_; have GW848 := n5_; have GE848 := n6_; have NB843_848 := n7_; have NB848_843 := n8_; clear n0_ n1_ n2_ n3_ n4_ n5_ n6_ n7_ n8_; clear hb hbox hg; obtain ⟨Ao11, co11, eo11⟩ := Kd.R_slice HO846.out; subst eo11; have hnb12 := NB848_843.out; have hnc12 := NB843_848.out; have hcz13_0 : w10.cell? ⟨gb848, 0, none⟩ = some (.slice none 0 0) := (blk_cell BK848.out 0).trans rfl; have hfz13_0 := blk_frozen BK848.out 0))
 (try simp only [Act.put, List.setIfInBounds_toArray, List.set_cons_zero, List.set_cons_succ])
 go_cut [34] (fun v34 wc => ∃ (kq : Nat) (x34_3 : Bool), v34 = .bool x34_3 ∧ Aside0 (laws_FnNatPows.j0 kq t842 t847 x34_3 t839 t844 = some r) ∧ Aside0 (kq ≤ k) ∧ Aside0 (Kd.R (Kd.int .i64) 3 wc w.heap.size (fun k_ => some k_ ≠ ((.slice Ao11 t844.length co11) : Value).ownBlock) (.slice Ao7 t839.length co7) t839) ∧ Aside0 (Kd.R (Kd.int .i64) 3 wc w.heap.size (fun k_ => some k_ ≠ ((.slice Ao7 t839.length co7) : Value).ownBlock) (.slice Ao11 t844.length co11) t844) ∧ Aside0 (wc.heap[gb843]? = some (.cells #[(.slice Ao7 t839.length co7)] 26 (0, 0))) ∧ Aside0 (wc.heap[gb848]? = some (.cells #[(.slice Ao11 t844.length co11)] 26 (0, 0))) ∧ Aside0 (Below w.heap.size w wc))
 case first =>
  have H := HC4.out
  clear HC4
  replace H := Option.bind_eq_some_iff.mp H
  obtain ⟨t849, A140, H⟩ := H
  try dsimp only at H
  have A14 := Aside0.mk A140
  clear A140
  by_cases c15 : t849 = true
  ·subst c15
   have H1 : (if t842 < 0 then (laws_FnNatPows.j0 k t842 t847 true t839 t844) else (laws_FnNatPows.j0 k t842 t847 (decide (t842 > 1600)) t839 t844)) = some r := by rw [if_pos rfl] at H; exact H
   clear H
   have H := H1
   clear H1
   by_cases c16 : t842 < 0
   ·rw [if_pos c16] at H
    have c16b0 : decide (t842 < 0) = true := decide_eq_true c16
    clear c16
    (first | rw [c16b0] | (simp only [i64_w, i32_w]; rw [c16b0]) | skip)
    have H' := Aside0.mk H
    clear H
    have hnb17 := NB843_848.out
    have hnc17 := NB848_843.out
    have hcz18_0 : w10.cell? ⟨gb843, 0, none⟩ = some (.slice Ao7 t839.length co7) := (blk_cell BK843.out 0).trans rfl
    have hfz18_0 := blk_frozen BK843.out 0
    go_wp2_with (first | ((with_reducible refine gate_callee (f := 34) rfl ?_); refine goesL_ (some 25) rfl rfl Try.func34 (by kernel_rfl) rfl #[.agg #[.slice Ao7 t839.length co7]] rfl (by (try simp only [List.map_toArray, List.map_cons, List.map_nil]); first | done | rfl | (simp only [List.length_drop, List.length_take]; rfl) | (simp only [i64_w, u8_w, w64_b]; rfl)) ?_; (with_reducible refine (spec_NatOk.calls k _ _ t839 true _ ?side1 ?side2 A14.out).mono ?_); (case side1 => refine (Kd.R_reads' (e := 3) (base := w.heap.size) (ok := fun k_ => (True ∧ some k_ ≠ (.slice Ao11 t844.length co11 : Value).ownBlock)) (n := t839.length) (c := co7) ?_).2.2; exact (by apply Sq.ra; exact (Kd.R_mono (Kd.R_far (p := ⟨gb848, 0, none⟩) (Kd.R_types HO841.out BK848.out (by decide)) (fun _ hk => hk.2) (.slice Ao11 t844.length co11)) (fun _ h_ => h_.1)))); (case side2 => exact (Kd.R_reads' HO841.out).2.1); rintro e w19 ⟨rfl, hb⟩; refine ⟨_, rfl, ?_⟩; have n0_ := Sq.m (Kd.R_below (by apply Sq.ra; exact (Kd.R_mono (Kd.R_far (p := ⟨gb848, 0, none⟩) (Kd.R_types HO841.out BK848.out (by decide)) (fun _ hk => hk.2) (.slice Ao11 t844.length co11)) (fun _ h_ => h_.1))) hb); have n1_ := Sq.m (Kd.R_below (by apply Sq.ra; exact (Kd.R_mono (Kd.R_far (p := ⟨gb848, 0, none⟩) (Kd.R_types HO846.out BK848.out (by decide)) (fun _ hk => hk.2) (.slice Ao11 t844.length co11)) (fun _ h_ => h_.1))) hb); have n2_ := Sq.m (blk_below (g := gb843) (o := .cells #[.slice Ao7 t839.length co7] 26 (0, 0)) (by apply Sq.rb; refine blk_far ?_ NB843_848.out _; apply Sq.rb; exact BK843.out) hb); have n3_ := Sq.m (blk_below (g := gb848) (o := .cells #[.slice Ao11 t844.length co11] 26 (0, 0)) (by apply Sq.rb; refine blk_put (cs := #[.slice none 0 0]) ?_ 0 _ rfl; apply Sq.rb; exact BK848.out) hb); have n4_ := Sq.m (below_step (by repeat (first | (with_reducible first | exact HB.out | apply Sq.rc | refine below_set ?_ GE843.out | refine below_set ?_ GE848.out) | exact HB.out)) hb); clear HO841; clear HO846; clear BK843; clear BK848; clear HB; have HO841 := n0_; have HO846 := n1_; have BK843 := n2_; have BK848 := n3_; have HB := n4_; clear n0_ n1_ n2_ n3_ n4_; (try clear hb); (try clear hb2); (try clear hk); (try clear hi)))
    go_meet
    case rel => exact ⟨_, (true), (by first | rfl | (simp; done) | (simp [*]; done)), H', ⟨by first | omega | exact Nat.le_refl _⟩, ⟨by apply Sq.ra; exact Kd.R_mono HO841.out (fun _ hk => hk.2)⟩, ⟨by apply Sq.ra; exact Kd.R_mono HO846.out (fun _ hk => hk.2)⟩, ⟨by apply Sq.rb; exact BK843.out⟩, ⟨by apply Sq.rb; exact BK848.out⟩, ⟨by repeat (first | (with_reducible first | exact HB.out | apply Sq.rc | refine below_set ?_ GE843.out | refine below_set ?_ GE848.out) | exact HB.out)⟩⟩
   ·rw [if_neg c16] at H
    have c16b0 : decide (t842 < 0) = false := decide_eq_false c16
    clear c16
    (first | rw [c16b0] | (simp only [i64_w, i32_w]; rw [c16b0]) | skip)
    have H' := Aside0.mk H
    clear H
    have hnb20 := NB843_848.out
    have hnc20 := NB848_843.out
    have hcz21_0 : w10.cell? ⟨gb843, 0, none⟩ = some (.slice Ao7 t839.length co7) := (blk_cell BK843.out 0).trans rfl
    have hfz21_0 := blk_frozen BK843.out 0
    go_wp2_with (first | ((with_reducible refine gate_callee (f := 34) rfl ?_); refine goesL_ (some 25) rfl rfl Try.func34 (by kernel_rfl) rfl #[.agg #[.slice Ao7 t839.length co7]] rfl (by (try simp only [List.map_toArray, List.map_cons, List.map_nil]); first | done | rfl | (simp only [List.length_drop, List.length_take]; rfl) | (simp only [i64_w, u8_w, w64_b]; rfl)) ?_; (with_reducible refine (spec_NatOk.calls k _ _ t839 true _ ?side1 ?side2 A14.out).mono ?_); (case side1 => refine (Kd.R_reads' (e := 3) (base := w.heap.size) (ok := fun k_ => (True ∧ some k_ ≠ (.slice Ao11 t844.length co11 : Value).ownBlock)) (n := t839.length) (c := co7) ?_).2.2; exact (by apply Sq.ra; exact (Kd.R_mono (Kd.R_far (p := ⟨gb848, 0, none⟩) (Kd.R_types HO841.out BK848.out (by decide)) (fun _ hk => hk.2) (.slice Ao11 t844.length co11)) (fun _ h_ => h_.1)))); (case side2 => exact (Kd.R_reads' HO841.out).2.1); rintro e w22 ⟨rfl, hb⟩; refine ⟨_, rfl, ?_⟩; have n0_ := Sq.m (Kd.R_below (by apply Sq.ra; exact (Kd.R_mono (Kd.R_far (p := ⟨gb848, 0, none⟩) (Kd.R_types HO841.out BK848.out (by decide)) (fun _ hk => hk.2) (.slice Ao11 t844.length co11)) (fun _ h_ => h_.1))) hb); have n1_ := Sq.m (Kd.R_below (by apply Sq.ra; exact (Kd.R_mono (Kd.R_far (p := ⟨gb848, 0, none⟩) (Kd.R_types HO846.out BK848.out (by decide)) (fun _ hk => hk.2) (.slice Ao11 t844.length co11)) (fun _ h_ => h_.1))) hb); have n2_ := Sq.m (blk_below (g := gb843) (o := .cells #[.slice Ao7 t839.length co7] 26 (0, 0)) (by apply Sq.rb; refine blk_far ?_ NB843_848.out _; apply Sq.rb; exact BK843.out) hb); have n3_ := Sq.m (blk_below (g := gb848) (o := .cells #[.slice Ao11 t844.length co11] 26 (0, 0)) (by apply Sq.rb; refine blk_put (cs := #[.slice none 0 0]) ?_ 0 _ rfl; apply Sq.rb; exact BK848.out) hb); have n4_ := Sq.m (below_step (by repeat (first | (with_reducible first | exact HB.out | apply Sq.rc | refine below_set ?_ GE843.out | refine below_set ?_ GE848.out) | exact HB.out)) hb); clear HO841; clear HO846; clear BK843; clear BK848; clear HB; have HO841 := n0_; have HO846 := n1_; have BK843 := n2_; have BK848 := n3_; have HB := n4_; clear n0_ n1_ n2_ n3_ n4_; (try clear hb); (try clear hb2); (try clear hk); (try clear hi)))
    go_meet
    case rel => exact ⟨_, (decide (t842 > 1600)), (by first | rfl | (simp; done) | (simp [*]; done)), H', ⟨by first | omega | exact Nat.le_refl _⟩, ⟨by apply Sq.ra; exact Kd.R_mono HO841.out (fun _ hk => hk.2)⟩, ⟨by apply Sq.ra; exact Kd.R_mono HO846.out (fun _ hk => hk.2)⟩, ⟨by apply Sq.rb; exact BK843.out⟩, ⟨by apply Sq.rb; exact BK848.out⟩, ⟨by repeat (first | (with_reducible first | exact HB.out | apply Sq.rc | refine below_set ?_ GE843.out | refine below_set ?_ GE848.out) | exact HB.out)⟩⟩
  ·replace c15 := Bool.eq_false_iff.mpr c15
   subst c15
   have H1 : (laws_FnNatPows.j0 k t842 t847 true t839 t844) = some r := by rw [if_neg (show ¬ (false = true) by decide)] at H; exact H
   clear H
   have H := H1
   clear H1
   have H' := Aside0.mk H
   clear H
   have hnb23 := NB843_848.out
   have hnc23 := NB848_843.out
   have hcz24_0 : w10.cell? ⟨gb843, 0, none⟩ = some (.slice Ao7 t839.length co7) := (blk_cell BK843.out 0).trans rfl
   have hfz24_0 := blk_frozen BK843.out 0
   go_wp2_with (first | ((with_reducible refine gate_callee (f := 34) rfl ?_); refine goesL_ (some 25) rfl rfl Try.func34 (by kernel_rfl) rfl #[.agg #[.slice Ao7 t839.length co7]] rfl (by (try simp only [List.map_toArray, List.map_cons, List.map_nil]); first | done | rfl | (simp only [List.length_drop, List.length_take]; rfl) | (simp only [i64_w, u8_w, w64_b]; rfl)) ?_; (with_reducible refine (spec_NatOk.calls k _ _ t839 false _ ?side1 ?side2 A14.out).mono ?_); (case side1 => refine (Kd.R_reads' (e := 3) (base := w.heap.size) (ok := fun k_ => (True ∧ some k_ ≠ (.slice Ao11 t844.length co11 : Value).ownBlock)) (n := t839.length) (c := co7) ?_).2.2; exact (by apply Sq.ra; exact (Kd.R_mono (Kd.R_far (p := ⟨gb848, 0, none⟩) (Kd.R_types HO841.out BK848.out (by decide)) (fun _ hk => hk.2) (.slice Ao11 t844.length co11)) (fun _ h_ => h_.1)))); (case side2 => exact (Kd.R_reads' HO841.out).2.1); rintro e w25 ⟨rfl, hb⟩; refine ⟨_, rfl, ?_⟩; have n0_ := Sq.m (Kd.R_below (by apply Sq.ra; exact (Kd.R_mono (Kd.R_far (p := ⟨gb848, 0, none⟩) (Kd.R_types HO841.out BK848.out (by decide)) (fun _ hk => hk.2) (.slice Ao11 t844.length co11)) (fun _ h_ => h_.1))) hb); have n1_ := Sq.m (Kd.R_below (by apply Sq.ra; exact (Kd.R_mono (Kd.R_far (p := ⟨gb848, 0, none⟩) (Kd.R_types HO846.out BK848.out (by decide)) (fun _ hk => hk.2) (.slice Ao11 t844.length co11)) (fun _ h_ => h_.1))) hb); have n2_ := Sq.m (blk_below (g := gb843) (o := .cells #[.slice Ao7 t839.length co7] 26 (0, 0)) (by apply Sq.rb; refine blk_far ?_ NB843_848.out _; apply Sq.rb; exact BK843.out) hb); have n3_ := Sq.m (blk_below (g := gb848) (o := .cells #[.slice Ao11 t844.length co11] 26 (0, 0)) (by apply Sq.rb; refine blk_put (cs := #[.slice none 0 0]) ?_ 0 _ rfl; apply Sq.rb; exact BK848.out) hb); have n4_ := Sq.m (below_step (by repeat (first | (with_reducible first | exact HB.out | apply Sq.rc | refine below_set ?_ GE843.out | refine below_set ?_ GE848.out) | exact HB.out)) hb); clear HO841; clear HO846; clear BK843; clear BK848; clear HB; have HO841 := n0_; have HO846 := n1_; have BK843 := n2_; have BK848 := n3_; have HB := n4_; clear n0_ n1_ n2_ n3_ n4_; (try clear hb); (try clear hb2); (try clear hk); (try clear hi)))
   go_meet
   case rel => exact ⟨_, (true), (by first | rfl | (simp; done) | (simp [*]; done)), H', ⟨by first | omega | exact Nat.le_refl _⟩, ⟨by apply Sq.ra; exact Kd.R_mono HO841.out (fun _ hk => hk.2)⟩, ⟨by apply Sq.ra; exact Kd.R_mono HO846.out (fun _ hk => hk.2)⟩, ⟨by apply Sq.rb; exact BK843.out⟩, ⟨by apply Sq.rb; exact BK848.out⟩, ⟨by repeat (first | (with_reducible first | exact HB.out | apply Sq.rc | refine below_set ?_ GE843.out | refine below_set ?_ GE848.out) | exact HB.out)⟩⟩
 case rest =>
  clear HC4
  try clear c1
  try clear c2
  try clear p2
  try clear c3
  try clear c8
  try clear c12
  try clear c15
  try clear c16
  try clear c16b0
  try clear c17
  try clear c20
  try clear c23
  try clear hcz13_0
  try clear hcz18_0
  try clear hcz21_0
  try clear hcz24_0
  try clear hcz8_0
  try clear hfz13_0
  try clear hfz18_0
  try clear hfz21_0
  try clear hfz24_0
  try clear hfz8_0
  obtain ⟨kq, x34_3, rfl, HA, HJ3, HO_844000, HO_849000, BK843, BK848, HB⟩ := hcut
  cases kq with
  | zero => exact absurd HA.out (by simp [laws_FnNatPows.j0])
  | succ kj3 =>
   have H := HA.out
   clear HA
   simp only [laws_FnNatPows.j0] at H
   by_cases c26 : x34_3 = true
   ·subst c26
    have H1 : ((laws_nat.f kj3 2).bind fun t850 => ((impl_NatPow.f kj3 t850 3).bind fun bt853 => (if t847 = true then (some false) else (if bt853.2 = true then ((laws_nat.f kj3 8).bind fun t858 => ((laws_sameNat.f kj3 bt853.1 t858).bind fun t861 => (some t861))) else (some false))))) = some r := by rw [if_pos rfl] at H; exact H
    clear H
    have H := H1
    clear H1
    replace H := Option.bind_eq_some_iff.mp H
    obtain ⟨t850, A270, H⟩ := H
    try dsimp only at H
    have A27 := Aside0.mk A270
    clear A270
    replace H := Option.bind_eq_some_iff.mp H
    obtain ⟨⟨t853, t856⟩, A280, H⟩ := H
    try dsimp only at H
    have A28 := Aside0.mk A280
    clear A280
    by_cases c29 : t847 = true
    ·subst c29
     have H1 : (some false) = some r := by rw [if_pos rfl] at H; exact H
     clear H
     have H := H1
     clear H1
     obtain rfl := Option.some.inj H
     try go_wp2_with (first | ((with_reducible refine gate_callee (f := 35) rfl ?_); refine goesL_ (some 36) rfl rfl Try.func35 (by kernel_rfl) rfl #[.int .i64 2] rfl (by (try simp only [List.map_toArray, List.map_cons, List.map_nil]); first | done | rfl | (simp only [List.length_drop, List.length_take]; rfl) | (simp only [i64_w, u8_w, w64_b]; rfl)) ?_; (with_reducible refine (laws_nat.calls kj3 2 t850 _ A27.out).mono ?_); rintro e w30 ⟨v851, rfl, ho0, hb⟩; refine ⟨_, rfl, ?_⟩; have n0_ := Sq.m (Kd.R_elder' (by apply Sq.ra; exact HO_844000.out) (Kd.R_base ho0) hb); have n1_ := Sq.m (Kd.R_elder' (by apply Sq.ra; exact HO_849000.out) (Kd.R_base ho0) hb); have n2_ := Sq.m (Kd.R_lower (Kd.R_new' (Kd.R_new' ho0 (Kd.R_lt (by apply Sq.ra; exact HO_844000.out))) (Kd.R_lt (by apply Sq.ra; exact HO_849000.out))) (below_size (by repeat (first | (with_reducible first | exact HB.out | apply Sq.rc | refine below_set ?_ GE843.out | refine below_set ?_ GE848.out) | exact HB.out)))); have n3_ := Sq.m (blk_below (g := gb843) (o := .cells #[.slice Ao7 t839.length co7] 26 (0, 0)) (by apply Sq.rb; exact BK843.out) hb); have n4_ := Sq.m (blk_below (g := gb848) (o := .cells #[.slice Ao11 t844.length co11] 26 (0, 0)) (by apply Sq.rb; exact BK848.out) hb); have n5_ := Sq.m (below_step (by repeat (first | (with_reducible first | exact HB.out | apply Sq.rc | refine below_set ?_ GE843.out | refine below_set ?_ GE848.out) | exact HB.out)) hb); clear HO_844000; clear HO_849000; clear BK843; clear BK848; clear HB; have HO_844000 := n0_; have HO_849000 := n1_; have HO852 := n2_; have BK843 := n3_; have BK848 := n4_; have HB := n5_; clear n0_ n1_ n2_ n3_ n4_ n5_; (try clear hb); (try clear hb2); (try clear hk); (try clear hi); (try clear ho0); obtain ⟨Ao31, co31, eo31⟩ := Kd.R_slice HO852.out; subst eo31) | ((with_reducible refine gate_callee (f := 32) rfl ?_); refine goesL_ (some 37) rfl rfl Try.func32 (by kernel_rfl) rfl #[.agg #[.slice Ao31 t850.length co31], .int .i64 3] rfl (by (try simp only [List.map_toArray, List.map_cons, List.map_nil]); first | done | rfl | (simp only [List.length_drop, List.length_take]; rfl) | (simp only [i64_w, u8_w, w64_b]; rfl)) ?_; (with_reducible refine (impl_NatPow.calls kj3 _ _ t850 3 t853 t856 _ ?side1 ?side2 A28.out).mono ?_); (case side1 => repeat (first | exact (Kd.R_reads' HO852.out).2.2 | (with_reducible refine Kd.C_alloc ?_ _) | (with_reducible refine Kd.C_drewN ?_ _) | (with_reducible refine Kd.C_drew ?_))); (case side2 => exact (Kd.R_reads' HO852.out).2.1); rintro e w32 ⟨v854, rfl, ho0, hb⟩; refine ⟨_, rfl, ?_⟩; have n0_ := Sq.m (Kd.R_elder' (by apply Sq.ra; exact HO_844000.out) (Kd.R_base ho0) hb); have n1_ := Sq.m (Kd.R_elder' (by apply Sq.ra; exact HO_849000.out) (Kd.R_base ho0) hb); have n2_ := Sq.m (Kd.R_elder' (by apply Sq.ra; exact HO852.out) (Kd.R_base ho0) hb); have n3_ := Sq.m (Kd.R_lower (Kd.R_new' (Kd.R_new' (Kd.R_new' ho0 (Kd.R_lt (by apply Sq.ra; exact HO_844000.out))) (Kd.R_lt (by apply Sq.ra; exact HO_849000.out))) (Kd.R_lt (by apply Sq.ra; exact HO852.out))) (below_size (by repeat (first | (with_reducible first | exact HB.out | apply Sq.rc | refine below_set ?_ GE843.out | refine below_set ?_ GE848.out) | exact HB.out)))); have n4_ := Sq.m (blk_below (g := gb843) (o := .cells #[.slice Ao7 t839.length co7] 26 (0, 0)) (by apply Sq.rb; exact BK843.out) hb); have n5_ := Sq.m (blk_below (g := gb848) (o := .cells #[.slice Ao11 t844.length co11] 26 (0, 0)) (by apply Sq.rb; exact BK848.out) hb); have n6_ := Sq.m (below_step (by repeat (first | (with_reducible first | exact HB.out | apply Sq.rc | refine below_set ?_ GE843.out | refine below_set ?_ GE848.out) | exact HB.out)) hb); clear HO_844000; clear HO_849000; clear HO852; clear BK843; clear BK848; clear HB; have HO_844000 := n0_; have HO_849000 := n1_; have HO852 := n2_; have HO855 := n3_; have BK843 := n4_; have BK848 := n5_; have HB := n6_; clear n0_ n1_ n2_ n3_ n4_ n5_ n6_; (try clear hb); (try clear hb2); (try clear hk); (try clear hi); (try clear ho0)) | ((with_reducible refine gate_dst (N := 7) rfl ?_); refine box_event ?hg (N := 7) ?hd (cs := #[.slice none 0 0]) (t := 26) ?hr ?_; (case hd => rfl); (case hg => rfl); (case hr => first | (go_simp; done) | (go_simp; rfl)); intro gb857 hg w33 hbox hb; have n0_ := Sq.m (Kd.R_below (by apply Sq.ra; exact HO_844000.out) hb); have n1_ := Sq.m (Kd.R_below (by apply Sq.ra; exact HO_849000.out) hb); have n2_ := Sq.m (Kd.R_below (by apply Sq.ra; exact HO852.out) hb); have n3_ := Sq.m (Kd.R_below (by apply Sq.ra; exact HO855.out) hb); have n4_ := Sq.m (blk_below (g := gb843) (o := .cells #[.slice Ao7 t839.length co7] 26 (0, 0)) (by apply Sq.rb; exact BK843.out) hb); have n5_ := Sq.m (blk_below (g := gb848) (o := .cells #[.slice Ao11 t844.length co11] 26 (0, 0)) (by apply Sq.rb; exact BK848.out) hb); have n6_ := Sq.m (below_step (by repeat (first | (with_reducible first | exact HB.out | apply Sq.rc | refine below_set ?_ GE843.out | refine below_set ?_ GE848.out) | exact HB.out)) hb); have n7_ := Sq.m (hbox); have n8_ := Sq.m ((by rw [hg]; exact (below_size (by repeat (first | (with_reducible first | exact HB.out | apply Sq.rc | refine below_set ?_ GE843.out | refine below_set ?_ GE848.out) | exact HB.out))) : w.heap.size ≤ gb857)); have n9_ := Sq.m ((by rw [hg]; exact (below_size (by repeat (first | (with_reducible first | exact HB.out | apply Sq.rc | refine below_set ?_ GE843.out | refine below_set ?_ GE848.out) | exact HB.out))) : w.heap.size ≤ gb857)); have n10_ := Sq.m ((by rw [hg]; exact Nat.ne_of_lt (blk_lt (g := gb843) (o := .cells #[.slice Ao7 t839.length co7] 26 (0, 0)) (by apply Sq.rb; exact BK843.out)) : gb843 ≠ gb857)); have n11_ := Sq.m ((by rw [hg]; exact Nat.ne_of_gt (blk_lt (g := gb843) (o := .cells #[.slice Ao7 t839.length co7] 26 (0, 0)) (by apply Sq.rb; exact BK843.out)) : gb857 ≠ gb843)); have n12_ := Sq.m ((by rw [hg]; exact Nat.ne_of_lt (blk_lt (g := gb848) (o := .cells #[.slice Ao11 t844.length co11] 26 (0, 0)) (by apply Sq.rb; exact BK848.out)) : gb848 ≠ gb857)); have n13_ := Sq.m ((by rw [hg]; exact Nat.ne_of_gt (blk_lt (g := gb848) (o := .cells #[.slice Ao11 t844.length co11] 26 (0, 0)) (by apply Sq.rb; exact BK848.out)) : gb857 ≠ gb848)); clear HO_844000; clear HO_849000; clear HO852; clear HO855; clear BK843; clear BK848; clear HB; have HO_844000 := n0_; have HO_849000 := n1_; have HO852 := n2_; have HO855 := n3_; have BK843 := n4_; have BK848 := n5_; have HB := n6_; have BK857 := n7_; have GW857 := n8_; have GE857 := n9_; have NB843_857 := n10_; have NB857_843 := n11_; have NB848_857 := n12_; have NB857_848 := n13_; clear n0_ n1_ n2_ n3_ n4_ n5_ n6_ n7_ n8_ n9_ n10_ n11_ n12_ n13_; clear hb hbox hg; obtain ⟨Ao34, co34, eo34⟩ := Kd.R_slice HO855.out; subst eo34; have hnb35 := NB857_843.out; have hnc35 := NB843_857.out; have hnb36 := NB857_848.out; have hnc36 := NB848_857.out; have hcz37_0 : w33.cell? ⟨gb857, 0, none⟩ = some (.slice none 0 0) := (blk_cell BK857.out 0).trans rfl; have hfz37_0 := blk_frozen BK857.out 0))
     have n0_ : Aside0 (Kd.R (Kd.int .i64) 3 (w33.setCell ⟨gb857, 0, none⟩ (.slice Ao34 t853.length co34)) w.heap.size (fun k_ => some k_ ≠ (.slice Ao11 t844.length co11 : Value).ownBlock ∧ some k_ ≠ (.slice Ao31 t850.length co31 : Value).ownBlock ∧ some k_ ≠ (.slice Ao34 t853.length co34 : Value).ownBlock) (.slice Ao7 t839.length co7) t839) := ⟨by apply Sq.ra; exact Kd.R_mono (Kd.R_far (p := ⟨gb857, 0, none⟩) (Kd.R_types HO_844000.out BK857.out (by decide)) (fun _ hk => hk.2) (.slice Ao34 t853.length co34)) (fun _ hk => ⟨hk.1.1.1, ⟨hk.1.1.2, hk.1.2⟩⟩)⟩
     have n1_ : Aside0 (Kd.R (Kd.int .i64) 3 (w33.setCell ⟨gb857, 0, none⟩ (.slice Ao34 t853.length co34)) w.heap.size (fun k_ => some k_ ≠ (.slice Ao7 t839.length co7 : Value).ownBlock ∧ some k_ ≠ (.slice Ao31 t850.length co31 : Value).ownBlock ∧ some k_ ≠ (.slice Ao34 t853.length co34 : Value).ownBlock) (.slice Ao11 t844.length co11) t844) := ⟨by apply Sq.ra; exact Kd.R_mono (Kd.R_far (p := ⟨gb857, 0, none⟩) (Kd.R_types HO_849000.out BK857.out (by decide)) (fun _ hk => hk.2) (.slice Ao34 t853.length co34)) (fun _ hk => ⟨hk.1.1.1, ⟨hk.1.1.2, hk.1.2⟩⟩)⟩
     have n2_ : Aside0 (Kd.R (Kd.int .i64) 3 (w33.setCell ⟨gb857, 0, none⟩ (.slice Ao34 t853.length co34)) w.heap.size (fun k_ => some k_ ≠ (.slice Ao7 t839.length co7 : Value).ownBlock ∧ some k_ ≠ (.slice Ao11 t844.length co11 : Value).ownBlock ∧ some k_ ≠ (.slice Ao34 t853.length co34 : Value).ownBlock) (.slice Ao31 t850.length co31) t850) := ⟨by apply Sq.ra; exact Kd.R_mono (Kd.R_far (p := ⟨gb857, 0, none⟩) (Kd.R_types HO852.out BK857.out (by decide)) (fun _ hk => hk.2) (.slice Ao34 t853.length co34)) (fun _ hk => ⟨hk.1.1.1.2, ⟨hk.1.1.2, hk.1.2⟩⟩)⟩
     have n3_ : Aside0 (Kd.R (Kd.int .i64) 3 (w33.setCell ⟨gb857, 0, none⟩ (.slice Ao34 t853.length co34)) w.heap.size (fun k_ => some k_ ≠ (.slice Ao7 t839.length co7 : Value).ownBlock ∧ some k_ ≠ (.slice Ao11 t844.length co11 : Value).ownBlock ∧ some k_ ≠ (.slice Ao31 t850.length co31 : Value).ownBlock) (.slice Ao34 t853.length co34) t853) := ⟨by apply Sq.ra; exact Kd.R_mono (Kd.R_far (p := ⟨gb857, 0, none⟩) (Kd.R_types HO855.out BK857.out (by decide)) (fun _ hk => hk.2) (.slice Ao34 t853.length co34)) (fun _ hk => ⟨hk.1.1.1.2, ⟨hk.1.1.2, hk.1.2⟩⟩)⟩
     have n4_ : Aside0 ((w33.setCell ⟨gb857, 0, none⟩ (.slice Ao34 t853.length co34)).heap[gb843]? = some (.cells #[.slice Ao7 t839.length co7] 26 (0, 0))) := ⟨by apply Sq.rb; refine blk_far ?_ NB843_857.out _; apply Sq.rb; exact BK843.out⟩
     have n5_ : Aside0 ((w33.setCell ⟨gb857, 0, none⟩ (.slice Ao34 t853.length co34)).heap[gb848]? = some (.cells #[.slice Ao11 t844.length co11] 26 (0, 0))) := ⟨by apply Sq.rb; refine blk_far ?_ NB848_857.out _; apply Sq.rb; exact BK848.out⟩
     have n6_ : Aside0 ((w33.setCell ⟨gb857, 0, none⟩ (.slice Ao34 t853.length co34)).heap[gb857]? = some (.cells #[.slice Ao34 t853.length co34] 26 (0, 0))) := ⟨by apply Sq.rb; refine blk_put (cs := #[.slice none 0 0]) ?_ 0 _ rfl; apply Sq.rb; exact BK857.out⟩
     have n7_ : Aside0 (Below w.heap.size w (w33.setCell ⟨gb857, 0, none⟩ (.slice Ao34 t853.length co34))) := ⟨by repeat (first | (with_reducible first | exact HB.out | apply Sq.rc | refine below_set ?_ GE843.out | refine below_set ?_ GE848.out | refine below_set ?_ GE857.out) | exact HB.out)⟩
     (try clear HO_844000)
     (try clear HO_849000)
     (try clear HO852)
     (try clear HO855)
     (try clear BK843)
     (try clear BK848)
     (try clear BK857)
     (try clear HB)
     generalize (w33.setCell ⟨gb857, 0, none⟩ (.slice Ao34 t853.length co34)) = w38 at n0_ n1_ n2_ n3_ n4_ n5_ n6_ n7_ ⊢
     have HO_844000 := n0_
     have HO_849000 := n1_
     have HO852 := n2_
     have HO855 := n3_
     have BK843 := n4_
     have BK848 := n5_
     have BK857 := n6_
     have HB := n7_
     clear n0_ n1_ n2_ n3_ n4_ n5_ n6_ n7_
     have n0_ := Sq.m (Kd.R_drew HO_844000.out)
     have n1_ := Sq.m (Kd.R_drew HO_849000.out)
     have n2_ := Sq.m (Kd.R_drew HO852.out)
     have n3_ := Sq.m (Kd.R_drew HO855.out)
     have n4_ := Sq.m (blk_drew BK843.out)
     have n5_ := Sq.m (blk_drew BK848.out)
     have n6_ := Sq.m (blk_drew BK857.out)
     have n7_ := Sq.m (below_drew1 HB.out)
     clear HO_844000
     clear HO_849000
     clear HO852
     clear HO855
     clear BK843
     clear BK848
     clear BK857
     clear HB
     have HO_844000 := n0_
     have HO_849000 := n1_
     have HO852 := n2_
     have HO855 := n3_
     have BK843 := n4_
     have BK848 := n5_
     have BK857 := n6_
     have HB := n7_
     clear n0_ n1_ n2_ n3_ n4_ n5_ n6_ n7_
     refine start_ (n := 11) (S := fun w' => True) (ds := []) #[false, false, false, false, false, false, false, false, false, false, false] (by kernel_rfl) rfl rfl trivial (fun hHeld => ?_); refine with_tabW laws_FnNatPows.tab5 laws_FnNatPows.bits5 (fun HT_ HW_ => ?_)
     generalize w38.drew = w39 at HO_844000 HO_849000 HO852 HO855 BK843 BK848 BK857 HB hHeld ⊢
     refine pure_ (i := 0) (N := some 40) (v := ?_) (a' := ?_) #[true, false, false, false, false, false, false, false, false, false, false] rfl rfl (any_of HT_.out (by kernel_rfl)) (fun _ _ _ h => h) (Or.inl ⟨by rfl, ?_⟩) ?_ ?_
     rotate_left
     ·intro w'
      go_simp
      with_reducible rfl
     rotate_left
     ·simp only [Act.put, List.setIfInBounds_toArray, List.set_cons_zero, List.set_cons_succ, i64_w, i32_w, u8_w, w64_b]
      rfl
     refine pure_ (i := 1) (N := some 41) (v := ?_) (a' := ?_) #[true, true, false, false, false, false, false, false, false, false, false] rfl rfl (any_of HT_.out (by kernel_rfl)) (fun _ _ _ h => h) (Or.inl ⟨by rfl, ?_⟩) ?_ ?_
     rotate_left
     ·intro w'
      go_simp
      with_reducible rfl
     rotate_left
     ·simp only [Act.put, List.setIfInBounds_toArray, List.set_cons_zero, List.set_cons_succ, i64_w, i32_w, u8_w, w64_b]
      rfl
     refine pure_ (i := 2) (N := some 42) (v := ?_) (a' := ?_) #[true, true, true, false, false, false, false, false, false, false, false] rfl rfl (any_of HT_.out (by kernel_rfl)) (fun _ _ _ h => h) (Or.inl ⟨by rfl, ?_⟩) ?_ ?_
     rotate_left
     ·intro w'
      go_simp
      with_reducible rfl
     rotate_left
     ·simp only [Act.put, List.setIfInBounds_toArray, List.set_cons_zero, List.set_cons_succ, i64_w, i32_w, u8_w, w64_b]
      rfl
     refine pure_ (i := 3) (N := some 43) (v := undef) (a' := ?_) #[true, true, true, true, false, false, false, false, false, false, false] rfl rfl (any_of HT_.out (by kernel_rfl)) (fun _ _ _ h => h) (Or.inr ⟨by rfl, rfl⟩) ?_ ?_
     rotate_left
     ·simp only [Act.put, List.setIfInBounds_toArray, List.set_cons_zero, List.set_cons_succ, i64_w, i32_w, u8_w, w64_b]
      rfl
     refine pure_ (i := 4) (N := some 44) (v := ?_) (a' := ?_) #[true, true, true, true, true, false, false, false, false, false, false] rfl rfl (any_of HT_.out (by kernel_rfl)) (fun _ _ _ h => h) (Or.inl ⟨by rfl, ?_⟩) ?_ ?_
     rotate_left
     ·intro w'
      go_simp
      with_reducible rfl
     rotate_left
     ·simp only [Act.put, List.setIfInBounds_toArray, List.set_cons_zero, List.set_cons_succ, i64_w, i32_w, u8_w, w64_b]
      rfl
     refine pure_ (i := 5) (N := some 45) (v := ?_) (a' := ?_) #[true, true, true, true, true, true, false, false, false, false, false] rfl rfl (any_of HT_.out (by kernel_rfl)) (fun _ _ _ h => h) (Or.inl ⟨by rfl, ?_⟩) ?_ ?_
     rotate_left
     ·intro w'
      go_simp
      with_reducible rfl
     rotate_left
     ·simp only [Act.put, List.setIfInBounds_toArray, List.set_cons_zero, List.set_cons_succ, i64_w, i32_w, u8_w, w64_b]
      rfl
     refine pure_ (i := 6) (N := some 46) (v := undef) (a' := ?_) #[true, true, true, true, true, true, true, false, false, false, false] rfl rfl (any_of HT_.out (by kernel_rfl)) (fun _ _ _ h => h) (Or.inr ⟨by rfl, rfl⟩) ?_ ?_
     rotate_left
     ·simp only [Act.put, List.setIfInBounds_toArray, List.set_cons_zero, List.set_cons_succ, i64_w, i32_w, u8_w, w64_b]
      rfl
     refine pure_ (i := 7) (N := some 47) (v := undef) (a' := ?_) #[true, true, true, true, true, true, true, true, false, false, false] rfl rfl (any_of HT_.out (by kernel_rfl)) (fun _ _ _ h => h) (Or.inr ⟨by rfl, rfl⟩) ?_ ?_
     rotate_left
     ·simp only [Act.put, List.setIfInBounds_toArray, List.set_cons_zero, List.set_cons_succ, i64_w, i32_w, u8_w, w64_b]
      rfl
     refine pure_ (i := 8) (N := some 48) (v := undef) (a' := ?_) #[true, true, true, true, true, true, true, true, true, false, false] rfl rfl (any_of HT_.out (by kernel_rfl)) (fun _ _ _ h => h) (Or.inr ⟨by rfl, rfl⟩) ?_ ?_
     rotate_left
     ·simp only [Act.put, List.setIfInBounds_toArray, List.set_cons_zero, List.set_cons_succ, i64_w, i32_w, u8_w, w64_b]
      rfl
     refine pure_ (i := 9) (N := some 49) (v := ?_) (a' := ?_) #[true, true, true, true, true, true, true, true, true, true, false] rfl rfl (any_of HT_.out (by kernel_rfl)) (fun _ _ _ h => h) (Or.inl ⟨by rfl, ?_⟩) ?_ ?_
     rotate_left
     ·intro w'
      go_simp
      with_reducible rfl
     rotate_left
     ·simp only [Act.put, List.setIfInBounds_toArray, List.set_cons_zero, List.set_cons_succ, i64_w, i32_w, u8_w, w64_b]
      rfl
     refine pure_ (i := 10) (N := some 2) (v := ?_) (a' := ?_) #[true, true, true, true, true, true, true, true, true, true, true] rfl rfl (any_of HT_.out (by kernel_rfl)) (fun _ _ _ h => h) (Or.inl ⟨by rfl, ?_⟩) ?_ ?_
     rotate_left
     ·intro w'
      go_simp
      with_reducible rfl
     rotate_left
     ·simp only [Act.put, List.setIfInBounds_toArray, List.set_cons_zero, List.set_cons_succ, i64_w, i32_w, u8_w, w64_b]
      rfl
     refine done_ (done_of HT_.out (by kernel_rfl)) ?_
     try go_wp2
     go_ret
     exact ⟨by first | rfl | (simp [errW_none, errW_some] <;> rfl) | (simp [*, errW_none, errW_some] <;> rfl), by repeat (first | (with_reducible first | exact HB.out | apply Sq.rc | refine below_set ?_ GE843.out | refine below_set ?_ GE848.out | refine below_set ?_ GE857.out) | exact HB.out)⟩
    ·replace c29 := Bool.eq_false_iff.mpr c29
     subst c29
     have H1 : (if t856 = true then ((laws_nat.f kj3 8).bind fun t858 => ((laws_sameNat.f kj3 t853 t858).bind fun t861 => (some t861))) else (some false)) = some r := by rw [if_neg (show ¬ (false = true) by decide)] at H; exact H
     clear H
     have H := H1
     clear H1
     by_cases c40 : t856 = true
     ·subst c40
      have H1 : ((laws_nat.f kj3 8).bind fun t858 => ((laws_sameNat.f kj3 t853 t858).bind fun t861 => (some t861))) = some r := by rw [if_pos rfl] at H; exact H
      clear H
      have H := H1
      clear H1
      replace H := Option.bind_eq_some_iff.mp H
      obtain ⟨t858, A410, H⟩ := H
      try dsimp only at H
      have A41 := Aside0.mk A410
      clear A410
      replace H := Option.bind_eq_some_iff.mp H
      obtain ⟨t861, A420, H⟩ := H
      try dsimp only at H
      have A42 := Aside0.mk A420
      clear A420
      obtain rfl := Option.some.inj H
      try go_wp2_with (first | ((with_reducible refine gate_callee (f := 35) rfl ?_); refine goesL_ (some 36) rfl rfl Try.func35 (by kernel_rfl) rfl #[.int .i64 2] rfl (by (try simp only [List.map_toArray, List.map_cons, List.map_nil]); first | done | rfl | (simp only [List.length_drop, List.length_take]; rfl) | (simp only [i64_w, u8_w, w64_b]; rfl)) ?_; (with_reducible refine (laws_nat.calls kj3 2 t850 _ A27.out).mono ?_); rintro e w43 ⟨v851, rfl, ho0, hb⟩; refine ⟨_, rfl, ?_⟩; have n0_ := Sq.m (Kd.R_elder' (by apply Sq.ra; exact HO_844000.out) (Kd.R_base ho0) hb); have n1_ := Sq.m (Kd.R_elder' (by apply Sq.ra; exact HO_849000.out) (Kd.R_base ho0) hb); have n2_ := Sq.m (Kd.R_lower (Kd.R_new' (Kd.R_new' ho0 (Kd.R_lt (by apply Sq.ra; exact HO_844000.out))) (Kd.R_lt (by apply Sq.ra; exact HO_849000.out))) (below_size (by repeat (first | (with_reducible first | exact HB.out | apply Sq.rc | refine below_set ?_ GE843.out | refine below_set ?_ GE848.out) | exact HB.out)))); have n3_ := Sq.m (blk_below (g := gb843) (o := .cells #[.slice Ao7 t839.length co7] 26 (0, 0)) (by apply Sq.rb; exact BK843.out) hb); have n4_ := Sq.m (blk_below (g := gb848) (o := .cells #[.slice Ao11 t844.length co11] 26 (0, 0)) (by apply Sq.rb; exact BK848.out) hb); have n5_ := Sq.m (below_step (by repeat (first | (with_reducible first | exact HB.out | apply Sq.rc | refine below_set ?_ GE843.out | refine below_set ?_ GE848.out) | exact HB.out)) hb); clear HO_844000; clear HO_849000; clear BK843; clear BK848; clear HB; have HO_844000 := n0_; have HO_849000 := n1_; have HO852 := n2_; have BK843 := n3_; have BK848 := n4_; have HB := n5_; clear n0_ n1_ n2_ n3_ n4_ n5_; (try clear hb); (try clear hb2); (try clear hk); (try clear hi); (try clear ho0); obtain ⟨Ao44, co44, eo44⟩ := Kd.R_slice HO852.out; subst eo44) | ((with_reducible refine gate_callee (f := 32) rfl ?_); refine goesL_ (some 37) rfl rfl Try.func32 (by kernel_rfl) rfl #[.agg #[.slice Ao44 t850.length co44], .int .i64 3] rfl (by (try simp only [List.map_toArray, List.map_cons, List.map_nil]); first | done | rfl | (simp only [List.length_drop, List.length_take]; rfl) | (simp only [i64_w, u8_w, w64_b]; rfl)) ?_; (with_reducible refine (impl_NatPow.calls kj3 _ _ t850 3 t853 true _ ?side1 ?side2 A28.out).mono ?_); (case side1 => repeat (first | exact (Kd.R_reads' HO852.out).2.2 | (with_reducible refine Kd.C_alloc ?_ _) | (with_reducible refine Kd.C_drewN ?_ _) | (with_reducible refine Kd.C_drew ?_))); (case side2 => exact (Kd.R_reads' HO852.out).2.1); rintro e w45 ⟨v854, rfl, ho0, hb⟩; refine ⟨_, rfl, ?_⟩; have n0_ := Sq.m (Kd.R_elder' (by apply Sq.ra; exact HO_844000.out) (Kd.R_base ho0) hb); have n1_ := Sq.m (Kd.R_elder' (by apply Sq.ra; exact HO_849000.out) (Kd.R_base ho0) hb); have n2_ := Sq.m (Kd.R_elder' (by apply Sq.ra; exact HO852.out) (Kd.R_base ho0) hb); have n3_ := Sq.m (Kd.R_lower (Kd.R_new' (Kd.R_new' (Kd.R_new' ho0 (Kd.R_lt (by apply Sq.ra; exact HO_844000.out))) (Kd.R_lt (by apply Sq.ra; exact HO_849000.out))) (Kd.R_lt (by apply Sq.ra; exact HO852.out))) (below_size (by repeat (first | (with_reducible first | exact HB.out | apply Sq.rc | refine below_set ?_ GE843.out | refine below_set ?_ GE848.out) | exact HB.out)))); have n4_ := Sq.m (blk_below (g := gb843) (o := .cells #[.slice Ao7 t839.length co7] 26 (0, 0)) (by apply Sq.rb; exact BK843.out) hb); have n5_ := Sq.m (blk_below (g := gb848) (o := .cells #[.slice Ao11 t844.length co11] 26 (0, 0)) (by apply Sq.rb; exact BK848.out) hb); have n6_ := Sq.m (below_step (by repeat (first | (with_reducible first | exact HB.out | apply Sq.rc | refine below_set ?_ GE843.out | refine below_set ?_ GE848.out) | exact HB.out)) hb); clear HO_844000; clear HO_849000; clear HO852; clear BK843; clear BK848; clear HB; have HO_844000 := n0_; have HO_849000 := n1_; have HO852 := n2_; have HO855 := n3_; have BK843 := n4_; have BK848 := n5_; have HB := n6_; clear n0_ n1_ n2_ n3_ n4_ n5_ n6_; (try clear hb); (try clear hb2); (try clear hk); (try clear hi); (try clear ho0)) | ((with_reducible refine gate_dst (N := 7) rfl ?_); refine box_event ?hg (N := 7) ?hd (cs := #[.slice none 0 0]) (t := 26) ?hr ?_; (case hd => rfl); (case hg => rfl); (case hr => first | (go_simp; done) | (go_simp; rfl)); intro gb857 hg w46 hbox hb; have n0_ := Sq.m (Kd.R_below (by apply Sq.ra; exact HO_844000.out) hb); have n1_ := Sq.m (Kd.R_below (by apply Sq.ra; exact HO_849000.out) hb); have n2_ := Sq.m (Kd.R_below (by apply Sq.ra; exact HO852.out) hb); have n3_ := Sq.m (Kd.R_below (by apply Sq.ra; exact HO855.out) hb); have n4_ := Sq.m (blk_below (g := gb843) (o := .cells #[.slice Ao7 t839.length co7] 26 (0, 0)) (by apply Sq.rb; exact BK843.out) hb); have n5_ := Sq.m (blk_below (g := gb848) (o := .cells #[.slice Ao11 t844.length co11] 26 (0, 0)) (by apply Sq.rb; exact BK848.out) hb); have n6_ := Sq.m (below_step (by repeat (first | (with_reducible first | exact HB.out | apply Sq.rc | refine below_set ?_ GE843.out | refine below_set ?_ GE848.out) | exact HB.out)) hb); have n7_ := Sq.m (hbox); have n8_ := Sq.m ((by rw [hg]; exact (below_size (by repeat (first | (with_reducible first | exact HB.out | apply Sq.rc | refine below_set ?_ GE843.out | refine below_set ?_ GE848.out) | exact HB.out))) : w.heap.size ≤ gb857)); have n9_ := Sq.m ((by rw [hg]; exact (below_size (by repeat (first | (with_reducible first | exact HB.out | apply Sq.rc | refine below_set ?_ GE843.out | refine below_set ?_ GE848.out) | exact HB.out))) : w.heap.size ≤ gb857)); have n10_ := Sq.m ((by rw [hg]; exact Nat.ne_of_lt (blk_lt (g := gb843) (o := .cells #[.slice Ao7 t839.length co7] 26 (0, 0)) (by apply Sq.rb; exact BK843.out)) : gb843 ≠ gb857)); have n11_ := Sq.m ((by rw [hg]; exact Nat.ne_of_gt (blk_lt (g := gb843) (o := .cells #[.slice Ao7 t839.length co7] 26 (0, 0)) (by apply Sq.rb; exact BK843.out)) : gb857 ≠ gb843)); have n12_ := Sq.m ((by rw [hg]; exact Nat.ne_of_lt (blk_lt (g := gb848) (o := .cells #[.slice Ao11 t844.length co11] 26 (0, 0)) (by apply Sq.rb; exact BK848.out)) : gb848 ≠ gb857)); have n13_ := Sq.m ((by rw [hg]; exact Nat.ne_of_gt (blk_lt (g := gb848) (o := .cells #[.slice Ao11 t844.length co11] 26 (0, 0)) (by apply Sq.rb; exact BK848.out)) : gb857 ≠ gb848)); clear HO_844000; clear HO_849000; clear HO852; clear HO855; clear BK843; clear BK848; clear HB; have HO_844000 := n0_; have HO_849000 := n1_; have HO852 := n2_; have HO855 := n3_; have BK843 := n4_; have BK848 := n5_; have HB := n6_; have BK857 := n7_; have GW857 := n8_; have GE857 := n9_; have NB843_857 := n10_; have NB857_843 := n11_; have NB848_857 := n12_; have NB857_848 := n13_; clear n0_ n1_ n2_ n3_ n4_ n5_ n6_ n7_ n8_ n9_ n10_ n11_ n12_ n13_; clear hb hbox hg; obtain ⟨Ao47, co47, eo47⟩ := Kd.R_slice HO855.out; subst eo47; have hnb48 := NB857_843.out; have hnc48 := NB843_857.out; have hnb49 := NB857_848.out; have hnc49 := NB848_857.out; have hcz50_0 : w46.cell? ⟨gb857, 0, none⟩ = some (.slice none 0 0) := (blk_cell BK857.out 0).trans rfl; have hfz50_0 := blk_frozen BK857.out 0))
      have n0_ : Aside0 (Kd.R (Kd.int .i64) 3 (w46.setCell ⟨gb857, 0, none⟩ (.slice Ao47 t853.length co47)) w.heap.size (fun k_ => some k_ ≠ (.slice Ao11 t844.length co11 : Value).ownBlock ∧ some k_ ≠ (.slice Ao44 t850.length co44 : Value).ownBlock ∧ some k_ ≠ (.slice Ao47 t853.length co47 : Value).ownBlock) (.slice Ao7 t839.length co7) t839) := ⟨by apply Sq.ra; exact Kd.R_mono (Kd.R_far (p := ⟨gb857, 0, none⟩) (Kd.R_types HO_844000.out BK857.out (by decide)) (fun _ hk => hk.2) (.slice Ao47 t853.length co47)) (fun _ hk => ⟨hk.1.1.1, ⟨hk.1.1.2, hk.1.2⟩⟩)⟩
      have n1_ : Aside0 (Kd.R (Kd.int .i64) 3 (w46.setCell ⟨gb857, 0, none⟩ (.slice Ao47 t853.length co47)) w.heap.size (fun k_ => some k_ ≠ (.slice Ao7 t839.length co7 : Value).ownBlock ∧ some k_ ≠ (.slice Ao44 t850.length co44 : Value).ownBlock ∧ some k_ ≠ (.slice Ao47 t853.length co47 : Value).ownBlock) (.slice Ao11 t844.length co11) t844) := ⟨by apply Sq.ra; exact Kd.R_mono (Kd.R_far (p := ⟨gb857, 0, none⟩) (Kd.R_types HO_849000.out BK857.out (by decide)) (fun _ hk => hk.2) (.slice Ao47 t853.length co47)) (fun _ hk => ⟨hk.1.1.1, ⟨hk.1.1.2, hk.1.2⟩⟩)⟩
      have n2_ : Aside0 (Kd.R (Kd.int .i64) 3 (w46.setCell ⟨gb857, 0, none⟩ (.slice Ao47 t853.length co47)) w.heap.size (fun k_ => some k_ ≠ (.slice Ao7 t839.length co7 : Value).ownBlock ∧ some k_ ≠ (.slice Ao11 t844.length co11 : Value).ownBlock ∧ some k_ ≠ (.slice Ao47 t853.length co47 : Value).ownBlock) (.slice Ao44 t850.length co44) t850) := ⟨by apply Sq.ra; exact Kd.R_mono (Kd.R_far (p := ⟨gb857, 0, none⟩) (Kd.R_types HO852.out BK857.out (by decide)) (fun _ hk => hk.2) (.slice Ao47 t853.length co47)) (fun _ hk => ⟨hk.1.1.1.2, ⟨hk.1.1.2, hk.1.2⟩⟩)⟩
      have n3_ : Aside0 (Kd.R (Kd.int .i64) 3 (w46.setCell ⟨gb857, 0, none⟩ (.slice Ao47 t853.length co47)) w.heap.size (fun k_ => some k_ ≠ (.slice Ao7 t839.length co7 : Value).ownBlock ∧ some k_ ≠ (.slice Ao11 t844.length co11 : Value).ownBlock ∧ some k_ ≠ (.slice Ao44 t850.length co44 : Value).ownBlock) (.slice Ao47 t853.length co47) t853) := ⟨by apply Sq.ra; exact Kd.R_mono (Kd.R_far (p := ⟨gb857, 0, none⟩) (Kd.R_types HO855.out BK857.out (by decide)) (fun _ hk => hk.2) (.slice Ao47 t853.length co47)) (fun _ hk => ⟨hk.1.1.1.2, ⟨hk.1.1.2, hk.1.2⟩⟩)⟩
      have n4_ : Aside0 ((w46.setCell ⟨gb857, 0, none⟩ (.slice Ao47 t853.length co47)).heap[gb843]? = some (.cells #[.slice Ao7 t839.length co7] 26 (0, 0))) := ⟨by apply Sq.rb; refine blk_far ?_ NB843_857.out _; apply Sq.rb; exact BK843.out⟩
      have n5_ : Aside0 ((w46.setCell ⟨gb857, 0, none⟩ (.slice Ao47 t853.length co47)).heap[gb848]? = some (.cells #[.slice Ao11 t844.length co11] 26 (0, 0))) := ⟨by apply Sq.rb; refine blk_far ?_ NB848_857.out _; apply Sq.rb; exact BK848.out⟩
      have n6_ : Aside0 ((w46.setCell ⟨gb857, 0, none⟩ (.slice Ao47 t853.length co47)).heap[gb857]? = some (.cells #[.slice Ao47 t853.length co47] 26 (0, 0))) := ⟨by apply Sq.rb; refine blk_put (cs := #[.slice none 0 0]) ?_ 0 _ rfl; apply Sq.rb; exact BK857.out⟩
      have n7_ : Aside0 (Below w.heap.size w (w46.setCell ⟨gb857, 0, none⟩ (.slice Ao47 t853.length co47))) := ⟨by repeat (first | (with_reducible first | exact HB.out | apply Sq.rc | refine below_set ?_ GE843.out | refine below_set ?_ GE848.out | refine below_set ?_ GE857.out) | exact HB.out)⟩
      (try clear HO_844000)
      (try clear HO_849000)
      (try clear HO852)
      (try clear HO855)
      (try clear BK843)
      (try clear BK848)
      (try clear BK857)
      (try clear HB)
      generalize (w46.setCell ⟨gb857, 0, none⟩ (.slice Ao47 t853.length co47)) = w51 at n0_ n1_ n2_ n3_ n4_ n5_ n6_ n7_ ⊢
      have HO_844000 := n0_
      have HO_849000 := n1_
      have HO852 := n2_
      have HO855 := n3_
      have BK843 := n4_
      have BK848 := n5_
      have BK857 := n6_
      have HB := n7_
      clear n0_ n1_ n2_ n3_ n4_ n5_ n6_ n7_
      have n0_ := Sq.m (Kd.R_drew HO_844000.out)
      have n1_ := Sq.m (Kd.R_drew HO_849000.out)
      have n2_ := Sq.m (Kd.R_drew HO852.out)
      have n3_ := Sq.m (Kd.R_drew HO855.out)
      have n4_ := Sq.m (blk_drew BK843.out)
      have n5_ := Sq.m (blk_drew BK848.out)
      have n6_ := Sq.m (blk_drew BK857.out)
      have n7_ := Sq.m (below_drew1 HB.out)
      clear HO_844000
      clear HO_849000
      clear HO852
      clear HO855
      clear BK843
      clear BK848
      clear BK857
      clear HB
      have HO_844000 := n0_
      have HO_849000 := n1_
      have HO852 := n2_
      have HO855 := n3_
      have BK843 := n4_
      have BK848 := n5_
      have BK857 := n6_
      have HB := n7_
      clear n0_ n1_ n2_ n3_ n4_ n5_ n6_ n7_
      refine start_ (n := 11) (S := fun w' => w'.cell? ⟨gb857, 0, none⟩ = some (.slice Ao47 t853.length co47)) (ds := []) #[false, false, false, false, false, false, false, false, false, false, false] (by kernel_rfl) rfl rfl ((blk_cell BK857.out 0).trans rfl) (fun hHeld => ?_); refine with_tabW laws_FnNatPows.tab5 laws_FnNatPows.bits5 (fun HT_ HW_ => ?_)
      generalize w51.drew = w52 at HO_844000 HO_849000 HO852 HO855 BK843 BK848 BK857 HB hHeld ⊢
      refine pure_ (i := 0) (N := some 40) (v := ?_) (a' := ?_) #[true, false, false, false, false, false, false, false, false, false, false] rfl rfl (any_of HT_.out (by kernel_rfl)) (fun _ _ _ h => h) (Or.inl ⟨by rfl, ?_⟩) ?_ ?_
      rotate_left
      ·intro w'
       go_simp
       with_reducible rfl
      rotate_left
      ·simp only [Act.put, List.setIfInBounds_toArray, List.set_cons_zero, List.set_cons_succ, i64_w, i32_w, u8_w, w64_b]
       rfl
      refine pure_ (i := 1) (N := some 41) (v := ?_) (a' := ?_) #[true, true, false, false, false, false, false, false, false, false, false] rfl rfl (any_of HT_.out (by kernel_rfl)) (fun _ _ _ h => h) (Or.inl ⟨by rfl, ?_⟩) ?_ ?_
      rotate_left
      ·intro w'
       go_simp
       with_reducible rfl
      rotate_left
      ·simp only [Act.put, List.setIfInBounds_toArray, List.set_cons_zero, List.set_cons_succ, i64_w, i32_w, u8_w, w64_b]
       rfl
      refine pure_ (i := 2) (N := some 42) (v := ?_) (a' := ?_) #[true, true, true, false, false, false, false, false, false, false, false] rfl rfl (any_of HT_.out (by kernel_rfl)) (fun _ _ _ h => h) (Or.inl ⟨by rfl, ?_⟩) ?_ ?_
      rotate_left
      ·intro w'
       go_simp
       with_reducible rfl
      rotate_left
      ·simp only [Act.put, List.setIfInBounds_toArray, List.set_cons_zero, List.set_cons_succ, i64_w, i32_w, u8_w, w64_b]
       rfl
      refine pure_ (i := 3) (N := some 43) (v := ?_) (a' := ?_) #[true, true, true, true, false, false, false, false, false, false, false] rfl rfl (any_of HT_.out (by kernel_rfl)) (fun _ _ _ h => h) (Or.inl ⟨by rfl, ?_⟩) ?_ ?_
      rotate_left
      ·intro w'
       go_simp
       with_reducible rfl
      rotate_left
      ·simp only [Act.put, List.setIfInBounds_toArray, List.set_cons_zero, List.set_cons_succ, i64_w, i32_w, u8_w, w64_b]
       rfl
      refine pure_ (i := 4) (N := some 44) (v := ?_) (a' := ?_) #[true, true, true, true, true, false, false, false, false, false, false] rfl rfl (any_of HT_.out (by kernel_rfl)) (fun _ _ _ h => h) (Or.inl ⟨by rfl, ?_⟩) ?_ ?_
      rotate_left
      ·intro w'
       go_simp
       with_reducible rfl
      rotate_left
      ·simp only [Act.put, List.setIfInBounds_toArray, List.set_cons_zero, List.set_cons_succ, i64_w, i32_w, u8_w, w64_b]
       rfl
      refine pure_ (i := 5) (N := some 45) (v := ?_) (a' := ?_) #[true, true, true, true, true, true, false, false, false, false, false] rfl rfl (any_of HT_.out (by kernel_rfl)) (fun _ _ _ h => h) (Or.inl ⟨by rfl, ?_⟩) ?_ ?_
      rotate_left
      ·intro w'
       go_simp
       with_reducible rfl
      rotate_left
      ·simp only [Act.put, List.setIfInBounds_toArray, List.set_cons_zero, List.set_cons_succ, i64_w, i32_w, u8_w, w64_b]
       rfl
      refine take_ (i := 6) (N := some 46) (v := ?_) (a' := ?_) #[true, true, true, true, true, true, true, false, false, false, false] rfl rfl (take_ofW HT_.out HW_.out (by kernel_rfl)) (fun _ _ _ h => h) (Or.inl ⟨by rfl, ?_⟩) hHeld ?_ ?_
      rotate_left
      ·intro w' s0
       go_simp
       with_reducible rfl
      rotate_left
      ·simp only [Act.put, List.setIfInBounds_toArray, List.set_cons_zero, List.set_cons_succ, i64_w, i32_w, u8_w, w64_b]
       rfl
      refine one_ (i := 7) (N := some 47) #[true, true, true, true, true, true, true, true, false, false, false] rfl rfl (one_of HT_.out (by kernel_rfl)) (by decide) (fun K hK => ?_)
      refine goes_ Try.func35 (by kernel_rfl) rfl #[.int .i64 8] (by rfl) rfl rfl (by (try simp only [List.map_toArray, List.map_cons, List.map_nil]); first | done | rfl | (simp only [List.length_drop, List.length_take]; rfl) | (simp only [i64_w, u8_w, w64_b]; rfl)) ?_
      with_reducible refine (laws_nat.calls kj3 8 t858 _ A41.out).mono ?_
      rintro e w53 ⟨v859, rfl, ho0, hb⟩
      refine ⟨_, rfl, ?_⟩
      have n0_ := Sq.m (Kd.R_elder' (by apply Sq.ra; exact HO_844000.out) (Kd.R_base ho0) hb)
      have n1_ := Sq.m (Kd.R_elder' (by apply Sq.ra; exact HO_849000.out) (Kd.R_base ho0) hb)
      have n2_ := Sq.m (Kd.R_elder' (by apply Sq.ra; exact HO852.out) (Kd.R_base ho0) hb)
      have n3_ := Sq.m (Kd.R_elder' (by apply Sq.ra; exact HO855.out) (Kd.R_base ho0) hb)
      have n4_ := Sq.m (Kd.R_lower (Kd.R_new' (Kd.R_new' (Kd.R_new' (Kd.R_new' ho0 (Kd.R_lt (by apply Sq.ra; exact HO_844000.out))) (Kd.R_lt (by apply Sq.ra; exact HO_849000.out))) (Kd.R_lt (by apply Sq.ra; exact HO852.out))) (Kd.R_lt (by apply Sq.ra; exact HO855.out))) (below_size (by repeat (first | (with_reducible first | exact HB.out | apply Sq.rc | refine below_set ?_ GE843.out | refine below_set ?_ GE848.out | refine below_set ?_ GE857.out) | exact HB.out))))
      have n5_ := Sq.m (blk_below (g := gb843) (o := .cells #[.slice Ao7 t839.length co7] 26 (0, 0)) (by apply Sq.rb; exact BK843.out) hb)
      have n6_ := Sq.m (blk_below (g := gb848) (o := .cells #[.slice Ao11 t844.length co11] 26 (0, 0)) (by apply Sq.rb; exact BK848.out) hb)
      have n7_ := Sq.m (blk_below (g := gb857) (o := .cells #[.slice Ao47 t853.length co47] 26 (0, 0)) (by apply Sq.rb; exact BK857.out) hb)
      have n8_ := Sq.m (below_step (by repeat (first | (with_reducible first | exact HB.out | apply Sq.rc | refine below_set ?_ GE843.out | refine below_set ?_ GE848.out | refine below_set ?_ GE857.out) | exact HB.out)) hb)
      clear HO_844000
      clear HO_849000
      clear HO852
      clear HO855
      clear BK843
      clear BK848
      clear BK857
      clear HB
      have HO_844000 := n0_
      have HO_849000 := n1_
      have HO852 := n2_
      have HO855 := n3_
      have HO860 := n4_
      have BK843 := n5_
      have BK848 := n6_
      have BK857 := n7_
      have HB := n8_
      clear n0_ n1_ n2_ n3_ n4_ n5_ n6_ n7_ n8_
      (try clear hb)
      (try clear hb2)
      (try clear hk)
      (try clear hi)
      (try clear ho0)
      obtain ⟨Ao54, co54, eo54⟩ := Kd.R_slice HO860.out
      (first | subst eo54 | (injection eo54 with f1_ f2_ f3_; have f4_ := f1_.symm; have f5_ := f3_.symm; clear f1_ f2_ f3_; subst f4_; subst f5_))
      refine hK.out _ _ ((blk_cell BK857.out 0).trans rfl) (fun hHeld => ?_)
      clear hK K
      refine norm_ (a' := ?_) ?_ ?_
      rotate_left
      ·show Act.put _ (some 47) _ = _
       simp only [Act.put, List.setIfInBounds_toArray, List.set_cons_zero, List.set_cons_succ, i64_w, i32_w, u8_w, w64_b]
       rfl
      refine one_ (i := 8) (N := some 48) #[true, true, true, true, true, true, true, true, true, false, false] rfl rfl (one_of HT_.out (by kernel_rfl)) (by decide) (fun K hK => ?_)
      refine goes_ Try.func36 (by kernel_rfl) rfl #[.agg #[.slice Ao47 t853.length co47], .agg #[.slice Ao54 t858.length co54]] (by rfl) rfl rfl (by (try simp only [List.map_toArray, List.map_cons, List.map_nil]); first | done | rfl | (simp only [List.length_drop, List.length_take]; rfl) | (simp only [i64_w, u8_w, w64_b]; rfl)) ?_
      with_reducible refine (laws_sameNat.calls kj3 _ _ t853 _ _ t858 t861 _ ?side1 ?side2 ?side3 ?side4 A42.out).mono ?_
      (case side1 => repeat (first | exact (Kd.R_reads' HO855.out).2.2 | (with_reducible refine Kd.C_alloc ?_ _) | (with_reducible refine Kd.C_drewN ?_ _) | (with_reducible refine Kd.C_drew ?_)))
      (case side2 => exact (Kd.R_reads' HO855.out).2.1)
      (case side3 => repeat (first | exact (Kd.R_reads' HO860.out).2.2 | (with_reducible refine Kd.C_alloc ?_ _) | (with_reducible refine Kd.C_drewN ?_ _) | (with_reducible refine Kd.C_drew ?_)))
      (case side4 => exact (Kd.R_reads' HO860.out).2.1)
      rintro e w55 ⟨rfl, hb⟩
      refine ⟨_, rfl, ?_⟩
      have n0_ := Sq.m (Kd.R_below (by apply Sq.ra; exact HO_844000.out) hb)
      have n1_ := Sq.m (Kd.R_below (by apply Sq.ra; exact HO_849000.out) hb)
      have n2_ := Sq.m (Kd.R_below (by apply Sq.ra; exact HO852.out) hb)
      have n3_ := Sq.m (Kd.R_below (by apply Sq.ra; exact HO855.out) hb)
      have n4_ := Sq.m (Kd.R_below (by apply Sq.ra; exact HO860.out) hb)
      have n5_ := Sq.m (blk_below (g := gb843) (o := .cells #[.slice Ao7 t839.length co7] 26 (0, 0)) (by apply Sq.rb; exact BK843.out) hb)
      have n6_ := Sq.m (blk_below (g := gb848) (o := .cells #[.slice Ao11 t844.length co11] 26 (0, 0)) (by apply Sq.rb; exact BK848.out) hb)
      have n7_ := Sq.m (blk_below (g := gb857) (o := .cells #[.slice Ao47 t853.length co47] 26 (0, 0)) (by apply Sq.rb; exact BK857.out) hb)
      have n8_ := Sq.m (below_step (by repeat (first | (with_reducible first | exact HB.out | apply Sq.rc | refine below_set ?_ GE843.out | refine below_set ?_ GE848.out | refine below_set ?_ GE857.out) | exact HB.out)) hb)
      clear HO_844000
      clear HO_849000
      clear HO852
      clear HO855
      clear HO860
      clear BK843
      clear BK848
      clear BK857
      clear HB
      have HO_844000 := n0_
      have HO_849000 := n1_
      have HO852 := n2_
      have HO855 := n3_
      have HO860 := n4_
      have BK843 := n5_
      have BK848 := n6_
      have BK857 := n7_
      have HB := n8_
      clear n0_ n1_ n2_ n3_ n4_ n5_ n6_ n7_ n8_
      (try clear hb)
      (try clear hb2)
      (try clear hk)
      (try clear hi)
      refine hK.out _ _ ((blk_cell BK857.out 0).trans rfl) (fun hHeld => ?_)
      clear hK K
      refine norm_ (a' := ?_) ?_ ?_
      rotate_left
      ·show Act.put _ (some 48) _ = _
       simp only [Act.put, List.setIfInBounds_toArray, List.set_cons_zero, List.set_cons_succ, i64_w, i32_w, u8_w, w64_b]
       rfl
      refine pure_ (i := 9) (N := some 49) (v := ?_) (a' := ?_) #[true, true, true, true, true, true, true, true, true, true, false] rfl rfl (any_of HT_.out (by kernel_rfl)) (fun _ _ _ h => h) (Or.inl ⟨by rfl, ?_⟩) ?_ ?_
      rotate_left
      ·intro w'
       go_simp
       with_reducible rfl
      rotate_left
      ·simp only [Act.put, List.setIfInBounds_toArray, List.set_cons_zero, List.set_cons_succ, i64_w, i32_w, u8_w, w64_b]
       rfl
      refine pure_ (i := 10) (N := some 2) (v := ?_) (a' := ?_) #[true, true, true, true, true, true, true, true, true, true, true] rfl rfl (any_of HT_.out (by kernel_rfl)) (fun _ _ _ h => h) (Or.inl ⟨by rfl, ?_⟩) ?_ ?_
      rotate_left
      ·intro w'
       go_simp
       with_reducible rfl
      rotate_left
      ·simp only [Act.put, List.setIfInBounds_toArray, List.set_cons_zero, List.set_cons_succ, i64_w, i32_w, u8_w, w64_b]
       rfl
      refine done_ (done_of HT_.out (by kernel_rfl)) ?_
      try go_wp2
      go_ret
      exact ⟨by first | rfl | (simp [errW_none, errW_some] <;> rfl) | (simp [*, errW_none, errW_some] <;> rfl), by repeat (first | (with_reducible first | exact HB.out | apply Sq.rc | refine below_set ?_ GE843.out | refine below_set ?_ GE848.out | refine below_set ?_ GE857.out) | exact HB.out)⟩
     ·replace c40 := Bool.eq_false_iff.mpr c40
      subst c40
      have H1 : (some false) = some r := by rw [if_neg (show ¬ (false = true) by decide)] at H; exact H
      clear H
      have H := H1
      clear H1
      obtain rfl := Option.some.inj H
      try go_wp2_with (first | ((with_reducible refine gate_callee (f := 35) rfl ?_); refine goesL_ (some 36) rfl rfl Try.func35 (by kernel_rfl) rfl #[.int .i64 2] rfl (by (try simp only [List.map_toArray, List.map_cons, List.map_nil]); first | done | rfl | (simp only [List.length_drop, List.length_take]; rfl) | (simp only [i64_w, u8_w, w64_b]; rfl)) ?_; (with_reducible refine (laws_nat.calls kj3 2 t850 _ A27.out).mono ?_); rintro e w56 ⟨v851, rfl, ho0, hb⟩; refine ⟨_, rfl, ?_⟩; have n0_ := Sq.m (Kd.R_elder' (by apply Sq.ra; exact HO_844000.out) (Kd.R_base ho0) hb); have n1_ := Sq.m (Kd.R_elder' (by apply Sq.ra; exact HO_849000.out) (Kd.R_base ho0) hb); have n2_ := Sq.m (Kd.R_lower (Kd.R_new' (Kd.R_new' ho0 (Kd.R_lt (by apply Sq.ra; exact HO_844000.out))) (Kd.R_lt (by apply Sq.ra; exact HO_849000.out))) (below_size (by repeat (first | (with_reducible first | exact HB.out | apply Sq.rc | refine below_set ?_ GE843.out | refine below_set ?_ GE848.out) | exact HB.out)))); have n3_ := Sq.m (blk_below (g := gb843) (o := .cells #[.slice Ao7 t839.length co7] 26 (0, 0)) (by apply Sq.rb; exact BK843.out) hb); have n4_ := Sq.m (blk_below (g := gb848) (o := .cells #[.slice Ao11 t844.length co11] 26 (0, 0)) (by apply Sq.rb; exact BK848.out) hb); have n5_ := Sq.m (below_step (by repeat (first | (with_reducible first | exact HB.out | apply Sq.rc | refine below_set ?_ GE843.out | refine below_set ?_ GE848.out) | exact HB.out)) hb); clear HO_844000; clear HO_849000; clear BK843; clear BK848; clear HB; have HO_844000 := n0_; have HO_849000 := n1_; have HO852 := n2_; have BK843 := n3_; have BK848 := n4_; have HB := n5_; clear n0_ n1_ n2_ n3_ n4_ n5_; (try clear hb); (try clear hb2); (try clear hk); (try clear hi); (try clear ho0); obtain ⟨Ao57, co57, eo57⟩ := Kd.R_slice HO852.out; subst eo57) | ((with_reducible refine gate_callee (f := 32) rfl ?_); refine goesL_ (some 37) rfl rfl Try.func32 (by kernel_rfl) rfl #[.agg #[.slice Ao57 t850.length co57], .int .i64 3] rfl (by (try simp only [List.map_toArray, List.map_cons, List.map_nil]); first | done | rfl | (simp only [List.length_drop, List.length_take]; rfl) | (simp only [i64_w, u8_w, w64_b]; rfl)) ?_; (with_reducible refine (impl_NatPow.calls kj3 _ _ t850 3 t853 false _ ?side1 ?side2 A28.out).mono ?_); (case side1 => repeat (first | exact (Kd.R_reads' HO852.out).2.2 | (with_reducible refine Kd.C_alloc ?_ _) | (with_reducible refine Kd.C_drewN ?_ _) | (with_reducible refine Kd.C_drew ?_))); (case side2 => exact (Kd.R_reads' HO852.out).2.1); rintro e w58 ⟨v854, rfl, ho0, hb⟩; refine ⟨_, rfl, ?_⟩; have n0_ := Sq.m (Kd.R_elder' (by apply Sq.ra; exact HO_844000.out) (Kd.R_base ho0) hb); have n1_ := Sq.m (Kd.R_elder' (by apply Sq.ra; exact HO_849000.out) (Kd.R_base ho0) hb); have n2_ := Sq.m (Kd.R_elder' (by apply Sq.ra; exact HO852.out) (Kd.R_base ho0) hb); have n3_ := Sq.m (Kd.R_lower (Kd.R_new' (Kd.R_new' (Kd.R_new' ho0 (Kd.R_lt (by apply Sq.ra; exact HO_844000.out))) (Kd.R_lt (by apply Sq.ra; exact HO_849000.out))) (Kd.R_lt (by apply Sq.ra; exact HO852.out))) (below_size (by repeat (first | (with_reducible first | exact HB.out | apply Sq.rc | refine below_set ?_ GE843.out | refine below_set ?_ GE848.out) | exact HB.out)))); have n4_ := Sq.m (blk_below (g := gb843) (o := .cells #[.slice Ao7 t839.length co7] 26 (0, 0)) (by apply Sq.rb; exact BK843.out) hb); have n5_ := Sq.m (blk_below (g := gb848) (o := .cells #[.slice Ao11 t844.length co11] 26 (0, 0)) (by apply Sq.rb; exact BK848.out) hb); have n6_ := Sq.m (below_step (by repeat (first | (with_reducible first | exact HB.out | apply Sq.rc | refine below_set ?_ GE843.out | refine below_set ?_ GE848.out) | exact HB.out)) hb); clear HO_844000; clear HO_849000; clear HO852; clear BK843; clear BK848; clear HB; have HO_844000 := n0_; have HO_849000 := n1_; have HO852 := n2_; have HO855 := n3_; have BK843 := n4_; have BK848 := n5_; have HB := n6_; clear n0_ n1_ n2_ n3_ n4_ n5_ n6_; (try clear hb); (try clear hb2); (try clear hk); (try clear hi); (try clear ho0)) | ((with_reducible refine gate_dst (N := 7) rfl ?_); refine box_event ?hg (N := 7) ?hd (cs := #[.slice none 0 0]) (t := 26) ?hr ?_; (case hd => rfl); (case hg => rfl); (case hr => first | (go_simp; done) | (go_simp; rfl)); intro gb857 hg w59 hbox hb; have n0_ := Sq.m (Kd.R_below (by apply Sq.ra; exact HO_844000.out) hb); have n1_ := Sq.m (Kd.R_below (by apply Sq.ra; exact HO_849000.out) hb); have n2_ := Sq.m (Kd.R_below (by apply Sq.ra; exact HO852.out) hb); have n3_ := Sq.m (Kd.R_below (by apply Sq.ra; exact HO855.out) hb); have n4_ := Sq.m (blk_below (g := gb843) (o := .cells #[.slice Ao7 t839.length co7] 26 (0, 0)) (by apply Sq.rb; exact BK843.out) hb); have n5_ := Sq.m (blk_below (g := gb848) (o := .cells #[.slice Ao11 t844.length co11] 26 (0, 0)) (by apply Sq.rb; exact BK848.out) hb); have n6_ := Sq.m (below_step (by repeat (first | (with_reducible first | exact HB.out | apply Sq.rc | refine below_set ?_ GE843.out | refine below_set ?_ GE848.out) | exact HB.out)) hb); have n7_ := Sq.m (hbox); have n8_ := Sq.m ((by rw [hg]; exact (below_size (by repeat (first | (with_reducible first | exact HB.out | apply Sq.rc | refine below_set ?_ GE843.out | refine below_set ?_ GE848.out) | exact HB.out))) : w.heap.size ≤ gb857)); have n9_ := Sq.m ((by rw [hg]; exact (below_size (by repeat (first | (with_reducible first | exact HB.out | apply Sq.rc | refine below_set ?_ GE843.out | refine below_set ?_ GE848.out) | exact HB.out))) : w.heap.size ≤ gb857)); have n10_ := Sq.m ((by rw [hg]; exact Nat.ne_of_lt (blk_lt (g := gb843) (o := .cells #[.slice Ao7 t839.length co7] 26 (0, 0)) (by apply Sq.rb; exact BK843.out)) : gb843 ≠ gb857)); have n11_ := Sq.m ((by rw [hg]; exact Nat.ne_of_gt (blk_lt (g := gb843) (o := .cells #[.slice Ao7 t839.length co7] 26 (0, 0)) (by apply Sq.rb; exact BK843.out)) : gb857 ≠ gb843)); have n12_ := Sq.m ((by rw [hg]; exact Nat.ne_of_lt (blk_lt (g := gb848) (o := .cells #[.slice Ao11 t844.length co11] 26 (0, 0)) (by apply Sq.rb; exact BK848.out)) : gb848 ≠ gb857)); have n13_ := Sq.m ((by rw [hg]; exact Nat.ne_of_gt (blk_lt (g := gb848) (o := .cells #[.slice Ao11 t844.length co11] 26 (0, 0)) (by apply Sq.rb; exact BK848.out)) : gb857 ≠ gb848)); clear HO_844000; clear HO_849000; clear HO852; clear HO855; clear BK843; clear BK848; clear HB; have HO_844000 := n0_; have HO_849000 := n1_; have HO852 := n2_; have HO855 := n3_; have BK843 := n4_; have BK848 := n5_; have HB := n6_; have BK857 := n7_; have GW857 := n8_; have GE857 := n9_; have NB843_857 := n10_; have NB857_843 := n11_; have NB848_857 := n12_; have NB857_848 := n13_; clear n0_ n1_ n2_ n3_ n4_ n5_ n6_ n7_ n8_ n9_ n10_ n11_ n12_ n13_; clear hb hbox hg; obtain ⟨Ao60, co60, eo60⟩ := Kd.R_slice HO855.out; subst eo60; have hnb61 := NB857_843.out; have hnc61 := NB843_857.out; have hnb62 := NB857_848.out; have hnc62 := NB848_857.out; have hcz63_0 : w59.cell? ⟨gb857, 0, none⟩ = some (.slice none 0 0) := (blk_cell BK857.out 0).trans rfl; have hfz63_0 := blk_frozen BK857.out 0))
      have n0_ : Aside0 (Kd.R (Kd.int .i64) 3 (w59.setCell ⟨gb857, 0, none⟩ (.slice Ao60 t853.length co60)) w.heap.size (fun k_ => some k_ ≠ (.slice Ao11 t844.length co11 : Value).ownBlock ∧ some k_ ≠ (.slice Ao57 t850.length co57 : Value).ownBlock ∧ some k_ ≠ (.slice Ao60 t853.length co60 : Value).ownBlock) (.slice Ao7 t839.length co7) t839) := ⟨by apply Sq.ra; exact Kd.R_mono (Kd.R_far (p := ⟨gb857, 0, none⟩) (Kd.R_types HO_844000.out BK857.out (by decide)) (fun _ hk => hk.2) (.slice Ao60 t853.length co60)) (fun _ hk => ⟨hk.1.1.1, ⟨hk.1.1.2, hk.1.2⟩⟩)⟩
      have n1_ : Aside0 (Kd.R (Kd.int .i64) 3 (w59.setCell ⟨gb857, 0, none⟩ (.slice Ao60 t853.length co60)) w.heap.size (fun k_ => some k_ ≠ (.slice Ao7 t839.length co7 : Value).ownBlock ∧ some k_ ≠ (.slice Ao57 t850.length co57 : Value).ownBlock ∧ some k_ ≠ (.slice Ao60 t853.length co60 : Value).ownBlock) (.slice Ao11 t844.length co11) t844) := ⟨by apply Sq.ra; exact Kd.R_mono (Kd.R_far (p := ⟨gb857, 0, none⟩) (Kd.R_types HO_849000.out BK857.out (by decide)) (fun _ hk => hk.2) (.slice Ao60 t853.length co60)) (fun _ hk => ⟨hk.1.1.1, ⟨hk.1.1.2, hk.1.2⟩⟩)⟩
      have n2_ : Aside0 (Kd.R (Kd.int .i64) 3 (w59.setCell ⟨gb857, 0, none⟩ (.slice Ao60 t853.length co60)) w.heap.size (fun k_ => some k_ ≠ (.slice Ao7 t839.length co7 : Value).ownBlock ∧ some k_ ≠ (.slice Ao11 t844.length co11 : Value).ownBlock ∧ some k_ ≠ (.slice Ao60 t853.length co60 : Value).ownBlock) (.slice Ao57 t850.length co57) t850) := ⟨by apply Sq.ra; exact Kd.R_mono (Kd.R_far (p := ⟨gb857, 0, none⟩) (Kd.R_types HO852.out BK857.out (by decide)) (fun _ hk => hk.2) (.slice Ao60 t853.length co60)) (fun _ hk => ⟨hk.1.1.1.2, ⟨hk.1.1.2, hk.1.2⟩⟩)⟩
      have n3_ : Aside0 (Kd.R (Kd.int .i64) 3 (w59.setCell ⟨gb857, 0, none⟩ (.slice Ao60 t853.length co60)) w.heap.size (fun k_ => some k_ ≠ (.slice Ao7 t839.length co7 : Value).ownBlock ∧ some k_ ≠ (.slice Ao11 t844.length co11 : Value).ownBlock ∧ some k_ ≠ (.slice Ao57 t850.length co57 : Value).ownBlock) (.slice Ao60 t853.length co60) t853) := ⟨by apply Sq.ra; exact Kd.R_mono (Kd.R_far (p := ⟨gb857, 0, none⟩) (Kd.R_types HO855.out BK857.out (by decide)) (fun _ hk => hk.2) (.slice Ao60 t853.length co60)) (fun _ hk => ⟨hk.1.1.1.2, ⟨hk.1.1.2, hk.1.2⟩⟩)⟩
      have n4_ : Aside0 ((w59.setCell ⟨gb857, 0, none⟩ (.slice Ao60 t853.length co60)).heap[gb843]? = some (.cells #[.slice Ao7 t839.length co7] 26 (0, 0))) := ⟨by apply Sq.rb; refine blk_far ?_ NB843_857.out _; apply Sq.rb; exact BK843.out⟩
      have n5_ : Aside0 ((w59.setCell ⟨gb857, 0, none⟩ (.slice Ao60 t853.length co60)).heap[gb848]? = some (.cells #[.slice Ao11 t844.length co11] 26 (0, 0))) := ⟨by apply Sq.rb; refine blk_far ?_ NB848_857.out _; apply Sq.rb; exact BK848.out⟩
      have n6_ : Aside0 ((w59.setCell ⟨gb857, 0, none⟩ (.slice Ao60 t853.length co60)).heap[gb857]? = some (.cells #[.slice Ao60 t853.length co60] 26 (0, 0))) := ⟨by apply Sq.rb; refine blk_put (cs := #[.slice none 0 0]) ?_ 0 _ rfl; apply Sq.rb; exact BK857.out⟩
      have n7_ : Aside0 (Below w.heap.size w (w59.setCell ⟨gb857, 0, none⟩ (.slice Ao60 t853.length co60))) := ⟨by repeat (first | (with_reducible first | exact HB.out | apply Sq.rc | refine below_set ?_ GE843.out | refine below_set ?_ GE848.out | refine below_set ?_ GE857.out) | exact HB.out)⟩
      (try clear HO_844000)
      (try clear HO_849000)
      (try clear HO852)
      (try clear HO855)
      (try clear BK843)
      (try clear BK848)
      (try clear BK857)
      (try clear HB)
      generalize (w59.setCell ⟨gb857, 0, none⟩ (.slice Ao60 t853.length co60)) = w64 at n0_ n1_ n2_ n3_ n4_ n5_ n6_ n7_ ⊢
      have HO_844000 := n0_
      have HO_849000 := n1_
      have HO852 := n2_
      have HO855 := n3_
      have BK843 := n4_
      have BK848 := n5_
      have BK857 := n6_
      have HB := n7_
      clear n0_ n1_ n2_ n3_ n4_ n5_ n6_ n7_
      have n0_ := Sq.m (Kd.R_drew HO_844000.out)
      have n1_ := Sq.m (Kd.R_drew HO_849000.out)
      have n2_ := Sq.m (Kd.R_drew HO852.out)
      have n3_ := Sq.m (Kd.R_drew HO855.out)
      have n4_ := Sq.m (blk_drew BK843.out)
      have n5_ := Sq.m (blk_drew BK848.out)
      have n6_ := Sq.m (blk_drew BK857.out)
      have n7_ := Sq.m (below_drew1 HB.out)
      clear HO_844000
      clear HO_849000
      clear HO852
      clear HO855
      clear BK843
      clear BK848
      clear BK857
      clear HB
      have HO_844000 := n0_
      have HO_849000 := n1_
      have HO852 := n2_
      have HO855 := n3_
      have BK843 := n4_
      have BK848 := n5_
      have BK857 := n6_
      have HB := n7_
      clear n0_ n1_ n2_ n3_ n4_ n5_ n6_ n7_
      refine start_ (n := 11) (S := fun w' => True) (ds := []) #[false, false, false, false, false, false, false, false, false, false, false] (by kernel_rfl) rfl rfl trivial (fun hHeld => ?_); refine with_tabW laws_FnNatPows.tab5 laws_FnNatPows.bits5 (fun HT_ HW_ => ?_)
      generalize w64.drew = w65 at HO_844000 HO_849000 HO852 HO855 BK843 BK848 BK857 HB hHeld ⊢
      refine pure_ (i := 0) (N := some 40) (v := ?_) (a' := ?_) #[true, false, false, false, false, false, false, false, false, false, false] rfl rfl (any_of HT_.out (by kernel_rfl)) (fun _ _ _ h => h) (Or.inl ⟨by rfl, ?_⟩) ?_ ?_
      rotate_left
      ·intro w'
       go_simp
       with_reducible rfl
      rotate_left
      ·simp only [Act.put, List.setIfInBounds_toArray, List.set_cons_zero, List.set_cons_succ, i64_w, i32_w, u8_w, w64_b]
       rfl
      refine pure_ (i := 1) (N := some 41) (v := ?_) (a' := ?_) #[true, true, false, false, false, false, false, false, false, false, false] rfl rfl (any_of HT_.out (by kernel_rfl)) (fun _ _ _ h => h) (Or.inl ⟨by rfl, ?_⟩) ?_ ?_
      rotate_left
      ·intro w'
       go_simp
       with_reducible rfl
      rotate_left
      ·simp only [Act.put, List.setIfInBounds_toArray, List.set_cons_zero, List.set_cons_succ, i64_w, i32_w, u8_w, w64_b]
       rfl
      refine pure_ (i := 2) (N := some 42) (v := ?_) (a' := ?_) #[true, true, true, false, false, false, false, false, false, false, false] rfl rfl (any_of HT_.out (by kernel_rfl)) (fun _ _ _ h => h) (Or.inl ⟨by rfl, ?_⟩) ?_ ?_
      rotate_left
      ·intro w'
       go_simp
       with_reducible rfl
      rotate_left
      ·simp only [Act.put, List.setIfInBounds_toArray, List.set_cons_zero, List.set_cons_succ, i64_w, i32_w, u8_w, w64_b]
       rfl
      refine pure_ (i := 3) (N := some 43) (v := ?_) (a' := ?_) #[true, true, true, true, false, false, false, false, false, false, false] rfl rfl (any_of HT_.out (by kernel_rfl)) (fun _ _ _ h => h) (Or.inl ⟨by rfl, ?_⟩) ?_ ?_
      rotate_left
      ·intro w'
       go_simp
       with_reducible rfl
      rotate_left
      ·simp only [Act.put, List.setIfInBounds_toArray, List.set_cons_zero, List.set_cons_succ, i64_w, i32_w, u8_w, w64_b]
       rfl
      refine pure_ (i := 4) (N := some 44) (v := ?_) (a' := ?_) #[true, true, true, true, true, false, false, false, false, false, false] rfl rfl (any_of HT_.out (by kernel_rfl)) (fun _ _ _ h => h) (Or.inl ⟨by rfl, ?_⟩) ?_ ?_
      rotate_left
      ·intro w'
       go_simp
       with_reducible rfl
      rotate_left
      ·simp only [Act.put, List.setIfInBounds_toArray, List.set_cons_zero, List.set_cons_succ, i64_w, i32_w, u8_w, w64_b]
       rfl
      refine pure_ (i := 5) (N := some 45) (v := ?_) (a' := ?_) #[true, true, true, true, true, true, false, false, false, false, false] rfl rfl (any_of HT_.out (by kernel_rfl)) (fun _ _ _ h => h) (Or.inl ⟨by rfl, ?_⟩) ?_ ?_
      rotate_left
      ·intro w'
       go_simp
       with_reducible rfl
      rotate_left
      ·simp only [Act.put, List.setIfInBounds_toArray, List.set_cons_zero, List.set_cons_succ, i64_w, i32_w, u8_w, w64_b]
       rfl
      refine pure_ (i := 6) (N := some 46) (v := undef) (a' := ?_) #[true, true, true, true, true, true, true, false, false, false, false] rfl rfl (any_of HT_.out (by kernel_rfl)) (fun _ _ _ h => h) (Or.inr ⟨by rfl, rfl⟩) ?_ ?_
      rotate_left
      ·simp only [Act.put, List.setIfInBounds_toArray, List.set_cons_zero, List.set_cons_succ, i64_w, i32_w, u8_w, w64_b]
       rfl
      refine pure_ (i := 7) (N := some 47) (v := undef) (a' := ?_) #[true, true, true, true, true, true, true, true, false, false, false] rfl rfl (any_of HT_.out (by kernel_rfl)) (fun _ _ _ h => h) (Or.inr ⟨by rfl, rfl⟩) ?_ ?_
      rotate_left
      ·simp only [Act.put, List.setIfInBounds_toArray, List.set_cons_zero, List.set_cons_succ, i64_w, i32_w, u8_w, w64_b]
       rfl
      refine pure_ (i := 8) (N := some 48) (v := undef) (a' := ?_) #[true, true, true, true, true, true, true, true, true, false, false] rfl rfl (any_of HT_.out (by kernel_rfl)) (fun _ _ _ h => h) (Or.inr ⟨by rfl, rfl⟩) ?_ ?_
      rotate_left
      ·simp only [Act.put, List.setIfInBounds_toArray, List.set_cons_zero, List.set_cons_succ, i64_w, i32_w, u8_w, w64_b]
       rfl
      refine pure_ (i := 9) (N := some 49) (v := ?_) (a' := ?_) #[true, true, true, true, true, true, true, true, true, true, false] rfl rfl (any_of HT_.out (by kernel_rfl)) (fun _ _ _ h => h) (Or.inl ⟨by rfl, ?_⟩) ?_ ?_
      rotate_left
      ·intro w'
       go_simp
       with_reducible rfl
      rotate_left
      ·simp only [Act.put, List.setIfInBounds_toArray, List.set_cons_zero, List.set_cons_succ, i64_w, i32_w, u8_w, w64_b]
       rfl
      refine pure_ (i := 10) (N := some 2) (v := ?_) (a' := ?_) #[true, true, true, true, true, true, true, true, true, true, true] rfl rfl (any_of HT_.out (by kernel_rfl)) (fun _ _ _ h => h) (Or.inl ⟨by rfl, ?_⟩) ?_ ?_
      rotate_left
      ·intro w'
       go_simp
       with_reducible rfl
      rotate_left
      ·simp only [Act.put, List.setIfInBounds_toArray, List.set_cons_zero, List.set_cons_succ, i64_w, i32_w, u8_w, w64_b]
       rfl
      refine done_ (done_of HT_.out (by kernel_rfl)) ?_
      try go_wp2
      go_ret
      exact ⟨by first | rfl | (simp [errW_none, errW_some] <;> rfl) | (simp [*, errW_none, errW_some] <;> rfl), by repeat (first | (with_reducible first | exact HB.out | apply Sq.rc | refine below_set ?_ GE843.out | refine below_set ?_ GE848.out | refine below_set ?_ GE857.out) | exact HB.out)⟩
   ·replace c26 := Bool.eq_false_iff.mpr c26
    subst c26
    have H1 : (if t842 = 0 then (if t847 = true then ((laws_nat.f kj3 1).bind fun t862 => ((laws_sameNat.f kj3 t844 t862).bind fun t865 => (some t865))) else (some false)) else ((impl_NatPow.f kj3 t839 (wrap64 (t842 - 1))).bind fun bt866 => ((impl_NatMul.f kj3 bt866.1 t839).bind fun bt871 => (if t847 = true then (if bt866.2 = true then (if bt871.2 = true then ((laws_sameNat.f kj3 bt871.1 t844).bind fun t876 => (if t876 = true then (some t847) else (some false))) else (some false)) else (some false)) else (if bt866.2 = true then (if bt871.2 = true then (some t847) else (some true)) else (some true)))))) = some r := by rw [if_neg (show ¬ (false = true) by decide)] at H; exact H
    clear H
    have H := H1
    clear H1
    by_cases c66 : t842 = 0
    ·rw [if_pos c66] at H
     have c66b0 : (t842 == 0) = true := beq_iff_eq.mpr c66
     have c66b1 : (t842 != 0) = false := bne_eq_false_iff_eq.mpr c66
     clear c66
     by_cases c67 : t847 = true
     ·subst c67
      have H1 : ((laws_nat.f kj3 1).bind fun t862 => ((laws_sameNat.f kj3 t844 t862).bind fun t865 => (some t865))) = some r := by rw [if_pos rfl] at H; exact H
      clear H
      have H := H1
      clear H1
      replace H := Option.bind_eq_some_iff.mp H
      obtain ⟨t862, A680, H⟩ := H
      try dsimp only at H
      have A68 := Aside0.mk A680
      clear A680
      replace H := Option.bind_eq_some_iff.mp H
      obtain ⟨t865, A690, H⟩ := H
      try dsimp only at H
      have A69 := Aside0.mk A690
      clear A690
      obtain rfl := Option.some.inj H
      try go_wp2
      have n0_ := Sq.m (Kd.R_drew HO_844000.out)
      have n1_ := Sq.m (Kd.R_drew HO_849000.out)
      have n2_ := Sq.m (blk_drew BK843.out)
      have n3_ := Sq.m (blk_drew BK848.out)
      have n4_ := Sq.m (below_drew1 HB.out)
      clear HO_844000
      clear HO_849000
      clear BK843
      clear BK848
      clear HB
      have HO_844000 := n0_
      have HO_849000 := n1_
      have BK843 := n2_
      have BK848 := n3_
      have HB := n4_
      clear n0_ n1_ n2_ n3_ n4_
      refine start_ (n := 7) (S := fun w' => w'.cell? ⟨gb848, 0, none⟩ = some (.slice Ao11 t844.length co11)) (ds := []) #[false, false, false, false, false, false, false] (by kernel_rfl) rfl rfl ((blk_cell BK848.out 0).trans rfl) (fun hHeld => ?_)
      generalize wc.drew = w70 at HO_844000 HO_849000 BK843 BK848 HB hHeld ⊢
      refine pure_ (i := 0) (N := some 52) (v := ?_) (a' := ?_) #[true, false, false, false, false, false, false] rfl rfl (by kernel_rfl) (fun _ _ _ h => h) (Or.inl ⟨by rfl, ?_⟩) ?_ ?_
      rotate_left
      ·intro w'
       go_simp
       with_reducible rfl
      rotate_left
      ·simp only [Act.put, List.setIfInBounds_toArray, List.set_cons_zero, List.set_cons_succ, i64_w, i32_w, u8_w, w64_b]
       rfl
      refine pure_ (i := 1) (N := some 53) (v := ?_) (a' := ?_) #[true, true, false, false, false, false, false] rfl rfl (by kernel_rfl) (fun _ _ _ h => h) (Or.inl ⟨by rfl, ?_⟩) ?_ ?_
      rotate_left
      ·intro w'
       go_simp
       with_reducible rfl
      rotate_left
      ·simp only [Act.put, List.setIfInBounds_toArray, List.set_cons_zero, List.set_cons_succ, i64_w, i32_w, u8_w, w64_b]
       rfl
      refine take_ (i := 2) (N := some 54) (v := ?_) (a' := ?_) #[true, true, true, false, false, false, false] rfl rfl (by kernel_rfl) (fun _ _ _ h => h) (Or.inl ⟨by rfl, ?_⟩) hHeld ?_ ?_
      rotate_left
      ·intro w' s0
       go_simp
       with_reducible rfl
      rotate_left
      ·simp only [Act.put, List.setIfInBounds_toArray, List.set_cons_zero, List.set_cons_succ, i64_w, i32_w, u8_w, w64_b]
       rfl
      refine one_ (i := 3) (N := some 55) #[true, true, true, true, false, false, false] rfl rfl (by kernel_rfl) (by decide) (fun K hK => ?_)
      refine goes_ Try.func35 (by kernel_rfl) rfl #[.int .i64 1] (by rfl) rfl rfl (by (try simp only [List.map_toArray, List.map_cons, List.map_nil]); first | done | rfl | (simp only [List.length_drop, List.length_take]; rfl) | (simp only [i64_w, u8_w, w64_b]; rfl)) ?_
      with_reducible refine (laws_nat.calls kj3 1 t862 _ A68.out).mono ?_
      rintro e w71 ⟨v863, rfl, ho0, hb⟩
      refine ⟨_, rfl, ?_⟩
      have n0_ := Sq.m (Kd.R_elder' (by apply Sq.ra; exact HO_844000.out) (Kd.R_base ho0) hb)
      have n1_ := Sq.m (Kd.R_elder' (by apply Sq.ra; exact HO_849000.out) (Kd.R_base ho0) hb)
      have n2_ := Sq.m (Kd.R_lower (Kd.R_new' (Kd.R_new' ho0 (Kd.R_lt (by apply Sq.ra; exact HO_844000.out))) (Kd.R_lt (by apply Sq.ra; exact HO_849000.out))) (below_size (by repeat (first | (with_reducible first | exact HB.out | apply Sq.rc | refine below_set ?_ GE843.out | refine below_set ?_ GE848.out) | exact HB.out))))
      have n3_ := Sq.m (blk_below (g := gb843) (o := .cells #[.slice Ao7 t839.length co7] 26 (0, 0)) (by apply Sq.rb; exact BK843.out) hb)
      have n4_ := Sq.m (blk_below (g := gb848) (o := .cells #[.slice Ao11 t844.length co11] 26 (0, 0)) (by apply Sq.rb; exact BK848.out) hb)
      have n5_ := Sq.m (below_step (by repeat (first | (with_reducible first | exact HB.out | apply Sq.rc | refine below_set ?_ GE843.out | refine below_set ?_ GE848.out) | exact HB.out)) hb)
      clear HO_844000
      clear HO_849000
      clear BK843
      clear BK848
      clear HB
      have HO_844000 := n0_
      have HO_849000 := n1_
      have HO864 := n2_
      have BK843 := n3_
      have BK848 := n4_
      have HB := n5_
      clear n0_ n1_ n2_ n3_ n4_ n5_
      (try clear hb)
      (try clear hb2)
      (try clear hk)
      (try clear hi)
      (try clear ho0)
      obtain ⟨Ao72, co72, eo72⟩ := Kd.R_slice HO864.out
      (first | subst eo72 | (injection eo72 with f1_ f2_ f3_; have f4_ := f1_.symm; have f5_ := f3_.symm; clear f1_ f2_ f3_; subst f4_; subst f5_))
      refine hK.out _ _ ((blk_cell BK848.out 0).trans rfl) (fun hHeld => ?_)
      clear hK K
      refine norm_ (a' := ?_) ?_ ?_
      rotate_left
      ·show Act.put _ (some 55) _ = _
       simp only [Act.put, List.setIfInBounds_toArray, List.set_cons_zero, List.set_cons_succ, i64_w, i32_w, u8_w, w64_b]
       rfl
      refine one_ (i := 4) (N := some 56) #[true, true, true, true, true, false, false] rfl rfl (by kernel_rfl) (by decide) (fun K hK => ?_)
      refine goes_ Try.func36 (by kernel_rfl) rfl #[.agg #[.slice Ao11 t844.length co11], .agg #[.slice Ao72 t862.length co72]] (by rfl) rfl rfl (by (try simp only [List.map_toArray, List.map_cons, List.map_nil]); first | done | rfl | (simp only [List.length_drop, List.length_take]; rfl) | (simp only [i64_w, u8_w, w64_b]; rfl)) ?_
      with_reducible refine (laws_sameNat.calls kj3 _ _ t844 _ _ t862 t865 _ ?side1 ?side2 ?side3 ?side4 A69.out).mono ?_
      (case side1 => repeat (first | exact (Kd.R_reads' HO_849000.out).2.2 | (with_reducible refine Kd.C_alloc ?_ _) | (with_reducible refine Kd.C_drewN ?_ _) | (with_reducible refine Kd.C_drew ?_)))
      (case side2 => exact (Kd.R_reads' HO_849000.out).2.1)
      (case side3 => repeat (first | exact (Kd.R_reads' HO864.out).2.2 | (with_reducible refine Kd.C_alloc ?_ _) | (with_reducible refine Kd.C_drewN ?_ _) | (with_reducible refine Kd.C_drew ?_)))
      (case side4 => exact (Kd.R_reads' HO864.out).2.1)
      rintro e w73 ⟨rfl, hb⟩
      refine ⟨_, rfl, ?_⟩
      have n0_ := Sq.m (Kd.R_below (by apply Sq.ra; exact HO_844000.out) hb)
      have n1_ := Sq.m (Kd.R_below (by apply Sq.ra; exact HO_849000.out) hb)
      have n2_ := Sq.m (Kd.R_below (by apply Sq.ra; exact HO864.out) hb)
      have n3_ := Sq.m (blk_below (g := gb843) (o := .cells #[.slice Ao7 t839.length co7] 26 (0, 0)) (by apply Sq.rb; exact BK843.out) hb)
      have n4_ := Sq.m (blk_below (g := gb848) (o := .cells #[.slice Ao11 t844.length co11] 26 (0, 0)) (by apply Sq.rb; exact BK848.out) hb)
      have n5_ := Sq.m (below_step (by repeat (first | (with_reducible first | exact HB.out | apply Sq.rc | refine below_set ?_ GE843.out | refine below_set ?_ GE848.out) | exact HB.out)) hb)
      clear HO_844000
      clear HO_849000
      clear HO864
      clear BK843
      clear BK848
      clear HB
      have HO_844000 := n0_
      have HO_849000 := n1_
      have HO864 := n2_
      have BK843 := n3_
      have BK848 := n4_
      have HB := n5_
      clear n0_ n1_ n2_ n3_ n4_ n5_
      (try clear hb)
      (try clear hb2)
      (try clear hk)
      (try clear hi)
      refine hK.out _ _ ((blk_cell BK848.out 0).trans rfl) (fun hHeld => ?_)
      clear hK K
      refine norm_ (a' := ?_) ?_ ?_
      rotate_left
      ·show Act.put _ (some 56) _ = _
       simp only [Act.put, List.setIfInBounds_toArray, List.set_cons_zero, List.set_cons_succ, i64_w, i32_w, u8_w, w64_b]
       rfl
      refine pure_ (i := 5) (N := some 57) (v := ?_) (a' := ?_) #[true, true, true, true, true, true, false] rfl rfl (by kernel_rfl) (fun _ _ _ h => h) (Or.inl ⟨by rfl, ?_⟩) ?_ ?_
      rotate_left
      ·intro w'
       go_simp
       with_reducible rfl
      rotate_left
      ·simp only [Act.put, List.setIfInBounds_toArray, List.set_cons_zero, List.set_cons_succ, i64_w, i32_w, u8_w, w64_b]
       rfl
      refine pure_ (i := 6) (N := some 2) (v := ?_) (a' := ?_) #[true, true, true, true, true, true, true] rfl rfl (by kernel_rfl) (fun _ _ _ h => h) (Or.inl ⟨by rfl, ?_⟩) ?_ ?_
      rotate_left
      ·intro w'
       go_simp
       with_reducible rfl
      rotate_left
      ·simp only [Act.put, List.setIfInBounds_toArray, List.set_cons_zero, List.set_cons_succ, i64_w, i32_w, u8_w, w64_b]
       rfl
      refine done_ (by kernel_rfl) ?_
      try go_wp2
      go_ret
      exact ⟨by first | rfl | (simp [errW_none, errW_some] <;> rfl) | (simp [*, errW_none, errW_some] <;> rfl), by repeat (first | (with_reducible first | exact HB.out | apply Sq.rc | refine below_set ?_ GE843.out | refine below_set ?_ GE848.out) | exact HB.out)⟩
     ·replace c67 := Bool.eq_false_iff.mpr c67
      subst c67
      have H1 : (some false) = some r := by rw [if_neg (show ¬ (false = true) by decide)] at H; exact H
      clear H
      have H := H1
      clear H1
      obtain rfl := Option.some.inj H
      try go_wp2
      have n0_ := Sq.m (Kd.R_drew HO_844000.out)
      have n1_ := Sq.m (Kd.R_drew HO_849000.out)
      have n2_ := Sq.m (blk_drew BK843.out)
      have n3_ := Sq.m (blk_drew BK848.out)
      have n4_ := Sq.m (below_drew1 HB.out)
      clear HO_844000
      clear HO_849000
      clear BK843
      clear BK848
      clear HB
      have HO_844000 := n0_
      have HO_849000 := n1_
      have BK843 := n2_
      have BK848 := n3_
      have HB := n4_
      clear n0_ n1_ n2_ n3_ n4_
      refine start_ (n := 7) (S := fun w' => True) (ds := []) #[false, false, false, false, false, false, false] (by kernel_rfl) rfl rfl trivial (fun hHeld => ?_)
      generalize wc.drew = w74 at HO_844000 HO_849000 BK843 BK848 HB hHeld ⊢
      refine pure_ (i := 0) (N := some 52) (v := ?_) (a' := ?_) #[true, false, false, false, false, false, false] rfl rfl (by kernel_rfl) (fun _ _ _ h => h) (Or.inl ⟨by rfl, ?_⟩) ?_ ?_
      rotate_left
      ·intro w'
       go_simp
       with_reducible rfl
      rotate_left
      ·simp only [Act.put, List.setIfInBounds_toArray, List.set_cons_zero, List.set_cons_succ, i64_w, i32_w, u8_w, w64_b]
       rfl
      refine pure_ (i := 1) (N := some 53) (v := ?_) (a' := ?_) #[true, true, false, false, false, false, false] rfl rfl (by kernel_rfl) (fun _ _ _ h => h) (Or.inl ⟨by rfl, ?_⟩) ?_ ?_
      rotate_left
      ·intro w'
       go_simp
       with_reducible rfl
      rotate_left
      ·simp only [Act.put, List.setIfInBounds_toArray, List.set_cons_zero, List.set_cons_succ, i64_w, i32_w, u8_w, w64_b]
       rfl
      refine pure_ (i := 2) (N := some 54) (v := undef) (a' := ?_) #[true, true, true, false, false, false, false] rfl rfl (by kernel_rfl) (fun _ _ _ h => h) (Or.inr ⟨by rfl, rfl⟩) ?_ ?_
      rotate_left
      ·simp only [Act.put, List.setIfInBounds_toArray, List.set_cons_zero, List.set_cons_succ, i64_w, i32_w, u8_w, w64_b]
       rfl
      refine pure_ (i := 3) (N := some 55) (v := undef) (a' := ?_) #[true, true, true, true, false, false, false] rfl rfl (by kernel_rfl) (fun _ _ _ h => h) (Or.inr ⟨by rfl, rfl⟩) ?_ ?_
      rotate_left
      ·simp only [Act.put, List.setIfInBounds_toArray, List.set_cons_zero, List.set_cons_succ, i64_w, i32_w, u8_w, w64_b]
       rfl
      refine pure_ (i := 4) (N := some 56) (v := undef) (a' := ?_) #[true, true, true, true, true, false, false] rfl rfl (by kernel_rfl) (fun _ _ _ h => h) (Or.inr ⟨by rfl, rfl⟩) ?_ ?_
      rotate_left
      ·simp only [Act.put, List.setIfInBounds_toArray, List.set_cons_zero, List.set_cons_succ, i64_w, i32_w, u8_w, w64_b]
       rfl
      refine pure_ (i := 5) (N := some 57) (v := ?_) (a' := ?_) #[true, true, true, true, true, true, false] rfl rfl (by kernel_rfl) (fun _ _ _ h => h) (Or.inl ⟨by rfl, ?_⟩) ?_ ?_
      rotate_left
      ·intro w'
       go_simp
       with_reducible rfl
      rotate_left
      ·simp only [Act.put, List.setIfInBounds_toArray, List.set_cons_zero, List.set_cons_succ, i64_w, i32_w, u8_w, w64_b]
       rfl
      refine pure_ (i := 6) (N := some 2) (v := ?_) (a' := ?_) #[true, true, true, true, true, true, true] rfl rfl (by kernel_rfl) (fun _ _ _ h => h) (Or.inl ⟨by rfl, ?_⟩) ?_ ?_
      rotate_left
      ·intro w'
       go_simp
       with_reducible rfl
      rotate_left
      ·simp only [Act.put, List.setIfInBounds_toArray, List.set_cons_zero, List.set_cons_succ, i64_w, i32_w, u8_w, w64_b]
       rfl
      refine done_ (by kernel_rfl) ?_
      try go_wp2
      go_ret
      exact ⟨by first | rfl | (simp [errW_none, errW_some] <;> rfl) | (simp [*, errW_none, errW_some] <;> rfl), by repeat (first | (with_reducible first | exact HB.out | apply Sq.rc | refine below_set ?_ GE843.out | refine below_set ?_ GE848.out) | exact HB.out)⟩
    ·rw [if_neg c66] at H
     have c66b0 : (t842 == 0) = false := beq_eq_false_iff_ne.mpr c66
     have c66b1 : (t842 != 0) = true := bne_iff_ne.mpr c66
     replace H := Option.bind_eq_some_iff.mp H
     obtain ⟨⟨t866, t869⟩, A750, H⟩ := H
     try dsimp only at H
     have A75 := Aside0.mk A750
     clear A750
     replace H := Option.bind_eq_some_iff.mp H
     obtain ⟨⟨t871, t874⟩, A760, H⟩ := H
     try dsimp only at H
     have A76 := Aside0.mk A760
     clear A760
     by_cases c77 : t847 = true
     ·subst c77
      have H1 : (if t869 = true then (if t874 = true then ((laws_sameNat.f kj3 t871 t844).bind fun t876 => (if t876 = true then (some true) else (some false))) else (some false)) else (some false)) = some r := by rw [if_pos rfl] at H; exact H
      clear H
      have H := H1
      clear H1
      by_cases c78 : t869 = true
      ·subst c78
       have H1 : (if t874 = true then ((laws_sameNat.f kj3 t871 t844).bind fun t876 => (if t876 = true then (some true) else (some false))) else (some false)) = some r := by rw [if_pos rfl] at H; exact H
       clear H
       have H := H1
       clear H1
       by_cases c79 : t874 = true
       ·subst c79
        have H1 : ((laws_sameNat.f kj3 t871 t844).bind fun t876 => (if t876 = true then (some true) else (some false))) = some r := by rw [if_pos rfl] at H; exact H
        clear H
        have H := H1
        clear H1
        replace H := Option.bind_eq_some_iff.mp H
        obtain ⟨t876, A800, H⟩ := H
        try dsimp only at H
        have A80 := Aside0.mk A800
        clear A800
        by_cases c81 : t876 = true
        ·subst c81
         have H1 : (some true) = some r := by rw [if_pos rfl] at H; exact H
         clear H
         have H := H1
         clear H1
         obtain rfl := Option.some.inj H
         have hnb82 := NB843_848.out
         have hnc82 := NB848_843.out
         have hcz83_0 : wc.cell? ⟨gb843, 0, none⟩ = some (.slice Ao7 t839.length co7) := (blk_cell BK843.out 0).trans rfl
         have hfz83_0 := blk_frozen BK843.out 0
         go_wp2_with (first | ((with_reducible refine gate_callee (f := 32) rfl ?_); refine goesL_ (some 62) rfl rfl Try.func32 (by kernel_rfl) rfl #[.agg #[.slice Ao7 t839.length co7], .int .i64 (wrap64 (t842 - 1))] rfl (by (try simp only [List.map_toArray, List.map_cons, List.map_nil]); first | done | rfl | (simp only [List.length_drop, List.length_take]; rfl) | (simp only [i64_w, u8_w, w64_b]; rfl)) ?_; (with_reducible refine (impl_NatPow.calls kj3 _ _ t839 (wrap64 (t842 - 1)) t866 true _ ?side1 ?side2 A75.out).mono ?_); (case side1 => repeat (first | exact (Kd.R_reads' HO_844000.out).2.2 | (with_reducible refine Kd.C_alloc ?_ _) | (with_reducible refine Kd.C_drewN ?_ _) | (with_reducible refine Kd.C_drew ?_))); (case side2 => exact (Kd.R_reads' HO_844000.out).2.1); rintro e w84 ⟨v867, rfl, ho0, hb⟩; refine ⟨_, rfl, ?_⟩; have n0_ := Sq.m (Kd.R_elder' (by apply Sq.ra; exact HO_844000.out) (Kd.R_base ho0) hb); have n1_ := Sq.m (Kd.R_elder' (by apply Sq.ra; exact HO_849000.out) (Kd.R_base ho0) hb); have n2_ := Sq.m (Kd.R_lower (Kd.R_new' (Kd.R_new' ho0 (Kd.R_lt (by apply Sq.ra; exact HO_844000.out))) (Kd.R_lt (by apply Sq.ra; exact HO_849000.out))) (below_size (by repeat (first | (with_reducible first | exact HB.out | apply Sq.rc | refine below_set ?_ GE843.out | refine below_set ?_ GE848.out) | exact HB.out)))); have n3_ := Sq.m (blk_below (g := gb843) (o := .cells #[.slice Ao7 t839.length co7] 26 (0, 0)) (by apply Sq.rb; exact BK843.out) hb); have n4_ := Sq.m (blk_below (g := gb848) (o := .cells #[.slice Ao11 t844.length co11] 26 (0, 0)) (by apply Sq.rb; exact BK848.out) hb); have n5_ := Sq.m (below_step (by repeat (first | (with_reducible first | exact HB.out | apply Sq.rc | refine below_set ?_ GE843.out | refine below_set ?_ GE848.out) | exact HB.out)) hb); clear HO_844000; clear HO_849000; clear BK843; clear BK848; clear HB; have HO_844000 := n0_; have HO_849000 := n1_; have HO868 := n2_; have BK843 := n3_; have BK848 := n4_; have HB := n5_; clear n0_ n1_ n2_ n3_ n4_ n5_; (try clear hb); (try clear hb2); (try clear hk); (try clear hi); (try clear ho0)) | ((with_reducible refine gate_dst (N := 9) rfl ?_); refine box_event ?hg (N := 9) ?hd (cs := #[.slice none 0 0]) (t := 26) ?hr ?_; (case hd => rfl); (case hg => rfl); (case hr => first | (go_simp; done) | (go_simp; rfl)); intro gb870 hg w85 hbox hb; have n0_ := Sq.m (Kd.R_below (by apply Sq.ra; exact HO_844000.out) hb); have n1_ := Sq.m (Kd.R_below (by apply Sq.ra; exact HO_849000.out) hb); have n2_ := Sq.m (Kd.R_below (by apply Sq.ra; exact HO868.out) hb); have n3_ := Sq.m (blk_below (g := gb843) (o := .cells #[.slice Ao7 t839.length co7] 26 (0, 0)) (by apply Sq.rb; exact BK843.out) hb); have n4_ := Sq.m (blk_below (g := gb848) (o := .cells #[.slice Ao11 t844.length co11] 26 (0, 0)) (by apply Sq.rb; exact BK848.out) hb); have n5_ := Sq.m (below_step (by repeat (first | (with_reducible first | exact HB.out | apply Sq.rc | refine below_set ?_ GE843.out | refine below_set ?_ GE848.out) | exact HB.out)) hb); have n6_ := Sq.m (hbox); have n7_ := Sq.m ((by rw [hg]; exact (below_size (by repeat (first | (with_reducible first | exact HB.out | apply Sq.rc | refine below_set ?_ GE843.out | refine below_set ?_ GE848.out) | exact HB.out))) : w.heap.size ≤ gb870)); have n8_ := Sq.m ((by rw [hg]; exact (below_size (by repeat (first | (with_reducible first | exact HB.out | apply Sq.rc | refine below_set ?_ GE843.out | refine below_set ?_ GE848.out) | exact HB.out))) : w.heap.size ≤ gb870)); have n9_ := Sq.m ((by rw [hg]; exact Nat.ne_of_lt (blk_lt (g := gb843) (o := .cells #[.slice Ao7 t839.length co7] 26 (0, 0)) (by apply Sq.rb; exact BK843.out)) : gb843 ≠ gb870)); have n10_ := Sq.m ((by rw [hg]; exact Nat.ne_of_gt (blk_lt (g := gb843) (o := .cells #[.slice Ao7 t839.length co7] 26 (0, 0)) (by apply Sq.rb; exact BK843.out)) : gb870 ≠ gb843)); have n11_ := Sq.m ((by rw [hg]; exact Nat.ne_of_lt (blk_lt (g := gb848) (o := .cells #[.slice Ao11 t844.length co11] 26 (0, 0)) (by apply Sq.rb; exact BK848.out)) : gb848 ≠ gb870)); have n12_ := Sq.m ((by rw [hg]; exact Nat.ne_of_gt (blk_lt (g := gb848) (o := .cells #[.slice Ao11 t844.length co11] 26 (0, 0)) (by apply Sq.rb; exact BK848.out)) : gb870 ≠ gb848)); clear HO_844000; clear HO_849000; clear HO868; clear BK843; clear BK848; clear HB; have HO_844000 := n0_; have HO_849000 := n1_; have HO868 := n2_; have BK843 := n3_; have BK848 := n4_; have HB := n5_; have BK870 := n6_; have GW870 := n7_; have GE870 := n8_; have NB843_870 := n9_; have NB870_843 := n10_; have NB848_870 := n11_; have NB870_848 := n12_; clear n0_ n1_ n2_ n3_ n4_ n5_ n6_ n7_ n8_ n9_ n10_ n11_ n12_; clear hb hbox hg; obtain ⟨Ao86, co86, eo86⟩ := Kd.R_slice HO868.out; subst eo86; have hnb87 := NB870_843.out; have hnc87 := NB843_870.out; have hnb88 := NB870_848.out; have hnc88 := NB848_870.out; have hcz89_0 : w85.cell? ⟨gb870, 0, none⟩ = some (.slice none 0 0) := (blk_cell BK870.out 0).trans rfl; have hfz89_0 := blk_frozen BK870.out 0; have hcz90_0 : w85.cell? ⟨gb843, 0, none⟩ = some (.slice Ao7 t839.length co7) := (blk_cell BK843.out 0).trans rfl; have hfz90_0 := blk_frozen BK843.out 0) | ((with_reducible refine gate_callee (f := 18) rfl ?_); refine goesL_ (some 68) rfl rfl Try.func18 (by kernel_rfl) rfl #[.agg #[.slice Ao86 t866.length co86], .agg #[.slice Ao7 t839.length co7]] rfl (by (try simp only [List.map_toArray, List.map_cons, List.map_nil]); first | done | rfl | (simp only [List.length_drop, List.length_take]; rfl) | (simp only [i64_w, u8_w, w64_b]; rfl)) ?_; (with_reducible refine (impl_NatMul.calls kj3 _ _ t866 _ _ t839 t871 true _ ?side1 ?side2 ?side3 ?side4 A76.out).mono ?_); (case side1 => refine (Kd.R_reads' (e := 3) (base := w.heap.size) (ok := fun k_ => ((True ∧ some k_ ≠ (.slice Ao7 t839.length co7 : Value).ownBlock) ∧ some k_ ≠ (.slice Ao11 t844.length co11 : Value).ownBlock)) (n := t866.length) (c := co86) ?_).2.2; exact (by apply Sq.ra; exact (Kd.R_mono (Kd.R_far (p := ⟨gb870, 0, none⟩) (Kd.R_types HO868.out BK870.out (by decide)) (fun _ hk => hk.2) (.slice Ao86 t866.length co86)) (fun _ h_ => h_.1)))); (case side2 => exact (Kd.R_reads' HO868.out).2.1); (case side3 => refine (Kd.R_reads' (e := 3) (base := w.heap.size) (ok := fun k_ => (some k_ ≠ (.slice Ao11 t844.length co11 : Value).ownBlock ∧ some k_ ≠ (.slice Ao86 t866.length co86 : Value).ownBlock)) (n := t839.length) (c := co7) ?_).2.2; exact (by apply Sq.ra; exact (Kd.R_mono (Kd.R_far (p := ⟨gb870, 0, none⟩) (Kd.R_types HO_844000.out BK870.out (by decide)) (fun _ hk => hk.2) (.slice Ao86 t866.length co86)) (fun _ h_ => h_.1)))); (case side4 => exact (Kd.R_reads' HO_844000.out).2.1); rintro e w91 ⟨v872, rfl, ho0, hb⟩; refine ⟨_, rfl, ?_⟩; have n0_ := Sq.m (Kd.R_elder' (by apply Sq.ra; exact (Kd.R_mono (Kd.R_far (p := ⟨gb870, 0, none⟩) (Kd.R_types HO_844000.out BK870.out (by decide)) (fun _ hk => hk.2) (.slice Ao86 t866.length co86)) (fun _ h_ => h_.1))) (Kd.R_base ho0) hb); have n1_ := Sq.m (Kd.R_elder' (by apply Sq.ra; exact (Kd.R_mono (Kd.R_far (p := ⟨gb870, 0, none⟩) (Kd.R_types HO_849000.out BK870.out (by decide)) (fun _ hk => hk.2) (.slice Ao86 t866.length co86)) (fun _ h_ => h_.1))) (Kd.R_base ho0) hb); have n2_ := Sq.m (Kd.R_elder' (by apply Sq.ra; exact (Kd.R_mono (Kd.R_far (p := ⟨gb870, 0, none⟩) (Kd.R_types HO868.out BK870.out (by decide)) (fun _ hk => hk.2) (.slice Ao86 t866.length co86)) (fun _ h_ => h_.1))) (Kd.R_base ho0) hb); have n3_ := Sq.m (Kd.R_lower (Kd.R_new' (Kd.R_new' (Kd.R_new' ho0 (Kd.R_lt (by apply Sq.ra; exact (Kd.R_mono (Kd.R_far (p := ⟨gb870, 0, none⟩) (Kd.R_types HO_844000.out BK870.out (by decide)) (fun _ hk => hk.2) (.slice Ao86 t866.length co86)) (fun _ h_ => h_.1))))) (Kd.R_lt (by apply Sq.ra; exact (Kd.R_mono (Kd.R_far (p := ⟨gb870, 0, none⟩) (Kd.R_types HO_849000.out BK870.out (by decide)) (fun _ hk => hk.2) (.slice Ao86 t866.length co86)) (fun _ h_ => h_.1))))) (Kd.R_lt (by apply Sq.ra; exact (Kd.R_mono (Kd.R_far (p := ⟨gb870, 0, none⟩) (Kd.R_types HO868.out BK870.out (by decide)) (fun _ hk => hk.2) (.slice Ao86 t866.length co86)) (fun _ h_ => h_.1))))) (below_size (by repeat (first | (with_reducible first | exact HB.out | apply Sq.rc | refine below_set ?_ GE843.out | refine below_set ?_ GE848.out | refine below_set ?_ GE870.out) | exact HB.out)))); have n4_ := Sq.m (blk_below (g := gb843) (o := .cells #[.slice Ao7 t839.length co7] 26 (0, 0)) (by apply Sq.rb; refine blk_far ?_ NB843_870.out _; apply Sq.rb; exact BK843.out) hb); have n5_ := Sq.m (blk_below (g := gb848) (o := .cells #[.slice Ao11 t844.length co11] 26 (0, 0)) (by apply Sq.rb; refine blk_far ?_ NB848_870.out _; apply Sq.rb; exact BK848.out) hb); have n6_ := Sq.m (blk_below (g := gb870) (o := .cells #[.slice Ao86 t866.length co86] 26 (0, 0)) (by apply Sq.rb; refine blk_put (cs := #[.slice none 0 0]) ?_ 0 _ rfl; apply Sq.rb; exact BK870.out) hb); have n7_ := Sq.m (below_step (by repeat (first | (with_reducible first | exact HB.out | apply Sq.rc | refine below_set ?_ GE843.out | refine below_set ?_ GE848.out | refine below_set ?_ GE870.out) | exact HB.out)) hb); clear HO_844000; clear HO_849000; clear HO868; clear BK843; clear BK848; clear BK870; clear HB; have HO_844000 := n0_; have HO_849000 := n1_; have HO868 := n2_; have HO873 := n3_; have BK843 := n4_; have BK848 := n5_; have BK870 := n6_; have HB := n7_; clear n0_ n1_ n2_ n3_ n4_ n5_ n6_ n7_; (try clear hb); (try clear hb2); (try clear hk); (try clear hi); (try clear ho0)) | ((with_reducible refine gate_dst (N := 11) rfl ?_); refine box_event ?hg (N := 11) ?hd (cs := #[.slice none 0 0]) (t := 26) ?hr ?_; (case hd => rfl); (case hg => rfl); (case hr => first | (go_simp; done) | (go_simp; rfl)); intro gb875 hg w92 hbox hb; have n0_ := Sq.m (Kd.R_below (by apply Sq.ra; exact HO_844000.out) hb); have n1_ := Sq.m (Kd.R_below (by apply Sq.ra; exact HO_849000.out) hb); have n2_ := Sq.m (Kd.R_below (by apply Sq.ra; exact HO868.out) hb); have n3_ := Sq.m (Kd.R_below (by apply Sq.ra; exact HO873.out) hb); have n4_ := Sq.m (blk_below (g := gb843) (o := .cells #[.slice Ao7 t839.length co7] 26 (0, 0)) (by apply Sq.rb; exact BK843.out) hb); have n5_ := Sq.m (blk_below (g := gb848) (o := .cells #[.slice Ao11 t844.length co11] 26 (0, 0)) (by apply Sq.rb; exact BK848.out) hb); have n6_ := Sq.m (blk_below (g := gb870) (o := .cells #[.slice Ao86 t866.length co86] 26 (0, 0)) (by apply Sq.rb; exact BK870.out) hb); have n7_ := Sq.m (below_step (by repeat (first | (with_reducible first | exact HB.out | apply Sq.rc | refine below_set ?_ GE843.out | refine below_set ?_ GE848.out | refine below_set ?_ GE870.out) | exact HB.out)) hb); have n8_ := Sq.m (hbox); have n9_ := Sq.m ((by rw [hg]; exact (below_size (by repeat (first | (with_reducible first | exact HB.out | apply Sq.rc | refine below_set ?_ GE843.out | refine below_set ?_ GE848.out | refine below_set ?_ GE870.out) | exact HB.out))) : w.heap.size ≤ gb875)); have n10_ := Sq.m ((by rw [hg]; exact (below_size (by repeat (first | (with_reducible first | exact HB.out | apply Sq.rc | refine below_set ?_ GE843.out | refine below_set ?_ GE848.out | refine below_set ?_ GE870.out) | exact HB.out))) : w.heap.size ≤ gb875)); have n11_ := Sq.m ((by rw [hg]; exact Nat.ne_of_lt (blk_lt (g := gb843) (o := .cells #[.slice Ao7 t839.length co7] 26 (0, 0)) (by apply Sq.rb; exact BK843.out)) : gb843 ≠ gb875)); have n12_ := Sq.m ((by rw [hg]; exact Nat.ne_of_gt (blk_lt (g := gb843) (o := .cells #[.slice Ao7 t839.length co7] 26 (0, 0)) (by apply Sq.rb; exact BK843.out)) : gb875 ≠ gb843)); have n13_ := Sq.m ((by rw [hg]; exact Nat.ne_of_lt (blk_lt (g := gb848) (o := .cells #[.slice Ao11 t844.length co11] 26 (0, 0)) (by apply Sq.rb; exact BK848.out)) : gb848 ≠ gb875)); have n14_ := Sq.m ((by rw [hg]; exact Nat.ne_of_gt (blk_lt (g := gb848) (o := .cells #[.slice Ao11 t844.length co11] 26 (0, 0)) (by apply Sq.rb; exact BK848.out)) : gb875 ≠ gb848)); have n15_ := Sq.m ((by rw [hg]; exact Nat.ne_of_lt (blk_lt (g := gb870) (o := .cells #[.slice Ao86 t866.length co86] 26 (0, 0)) (by apply Sq.rb; exact BK870.out)) : gb870 ≠ gb875)); have n16_ := Sq.m ((by rw [hg]; exact Nat.ne_of_gt (blk_lt (g := gb870) (o := .cells #[.slice Ao86 t866.length co86] 26 (0, 0)) (by apply Sq.rb; exact BK870.out)) : gb875 ≠ gb870)); clear HO_844000; clear HO_849000; clear HO868; clear HO873; clear BK843; clear BK848; clear BK870; clear HB; have HO_844000 := n0_; have HO_849000 := n1_; have HO868 := n2_; have HO873 := n3_; have BK843 := n4_; have BK848 := n5_; have BK870 := n6_; have HB := n7_; have BK875 := n8_; have GW875 := n9_; have GE875 := n10_; have NB843_875 := n11_; have NB875_843 := n12_; have NB848_875 := n13_; have NB875_848 := n14_; have NB870_875 := n15_; have NB875_870 := n16_; clear n0_ n1_ n2_ n3_ n4_ n5_ n6_ n7_ n8_ n9_ n10_ n11_ n12_ n13_ n14_ n15_ n16_; clear hb hbox hg; obtain ⟨Ao93, co93, eo93⟩ := Kd.R_slice HO873.out; subst eo93; have hnb94 := NB875_843.out; have hnc94 := NB843_875.out; have hnb95 := NB875_848.out; have hnc95 := NB848_875.out; have hnb96 := NB875_870.out; have hnc96 := NB870_875.out; have hcz97_0 : w92.cell? ⟨gb875, 0, none⟩ = some (.slice none 0 0) := (blk_cell BK875.out 0).trans rfl; have hfz97_0 := blk_frozen BK875.out 0; have hcz98_0 : w92.cell? ⟨gb848, 0, none⟩ = some (.slice Ao11 t844.length co11) := (blk_cell BK848.out 0).trans rfl; have hfz98_0 := blk_frozen BK848.out 0) | (go_at_call 36; (with_reducible refine (laws_sameNat.calls kj3 _ _ t871 _ _ t844 true _ ?side1 ?side2 ?side3 ?side4 A80.out).mono ?_); (case side1 => refine (Kd.R_reads' (e := 3) (base := w.heap.size) (ok := fun k_ => (((True ∧ some k_ ≠ (.slice Ao7 t839.length co7 : Value).ownBlock) ∧ some k_ ≠ (.slice Ao11 t844.length co11 : Value).ownBlock) ∧ some k_ ≠ (.slice Ao86 t866.length co86 : Value).ownBlock)) (n := t871.length) (c := co93) ?_).2.2; exact (by apply Sq.ra; exact (Kd.R_mono (Kd.R_far (p := ⟨gb875, 0, none⟩) (Kd.R_types HO873.out BK875.out (by decide)) (fun _ hk => hk.2) (.slice Ao93 t871.length co93)) (fun _ h_ => h_.1)))); (case side2 => exact (Kd.R_reads' HO873.out).2.1); (case side3 => refine (Kd.R_reads' (e := 3) (base := w.heap.size) (ok := fun k_ => ((some k_ ≠ (.slice Ao7 t839.length co7 : Value).ownBlock ∧ some k_ ≠ (.slice Ao86 t866.length co86 : Value).ownBlock) ∧ some k_ ≠ (.slice Ao93 t871.length co93 : Value).ownBlock)) (n := t844.length) (c := co11) ?_).2.2; exact (by apply Sq.ra; exact (Kd.R_mono (Kd.R_far (p := ⟨gb875, 0, none⟩) (Kd.R_types HO_849000.out BK875.out (by decide)) (fun _ hk => hk.2) (.slice Ao93 t871.length co93)) (fun _ h_ => h_.1)))); (case side4 => exact (Kd.R_reads' HO_849000.out).2.1); rintro e w99 ⟨rfl, hb⟩; have n0_ := Sq.m (Kd.R_below (by apply Sq.ra; exact (Kd.R_mono (Kd.R_far (p := ⟨gb875, 0, none⟩) (Kd.R_types HO_844000.out BK875.out (by decide)) (fun _ hk => hk.2) (.slice Ao93 t871.length co93)) (fun _ h_ => h_.1))) hb); have n1_ := Sq.m (Kd.R_below (by apply Sq.ra; exact (Kd.R_mono (Kd.R_far (p := ⟨gb875, 0, none⟩) (Kd.R_types HO_849000.out BK875.out (by decide)) (fun _ hk => hk.2) (.slice Ao93 t871.length co93)) (fun _ h_ => h_.1))) hb); have n2_ := Sq.m (Kd.R_below (by apply Sq.ra; exact (Kd.R_mono (Kd.R_far (p := ⟨gb875, 0, none⟩) (Kd.R_types HO868.out BK875.out (by decide)) (fun _ hk => hk.2) (.slice Ao93 t871.length co93)) (fun _ h_ => h_.1))) hb); have n3_ := Sq.m (Kd.R_below (by apply Sq.ra; exact (Kd.R_mono (Kd.R_far (p := ⟨gb875, 0, none⟩) (Kd.R_types HO873.out BK875.out (by decide)) (fun _ hk => hk.2) (.slice Ao93 t871.length co93)) (fun _ h_ => h_.1))) hb); have n4_ := Sq.m (blk_below (g := gb843) (o := .cells #[.slice Ao7 t839.length co7] 26 (0, 0)) (by apply Sq.rb; refine blk_far ?_ NB843_875.out _; apply Sq.rb; exact BK843.out) hb); have n5_ := Sq.m (blk_below (g := gb848) (o := .cells #[.slice Ao11 t844.length co11] 26 (0, 0)) (by apply Sq.rb; refine blk_far ?_ NB848_875.out _; apply Sq.rb; exact BK848.out) hb); have n6_ := Sq.m (blk_below (g := gb870) (o := .cells #[.slice Ao86 t866.length co86] 26 (0, 0)) (by apply Sq.rb; refine blk_far ?_ NB870_875.out _; apply Sq.rb; exact BK870.out) hb); have n7_ := Sq.m (blk_below (g := gb875) (o := .cells #[.slice Ao93 t871.length co93] 26 (0, 0)) (by apply Sq.rb; refine blk_put (cs := #[.slice none 0 0]) ?_ 0 _ rfl; apply Sq.rb; exact BK875.out) hb); have n8_ := Sq.m (below_step (by repeat (first | (with_reducible first | exact HB.out | apply Sq.rc | refine below_set ?_ GE843.out | refine below_set ?_ GE848.out | refine below_set ?_ GE870.out | refine below_set ?_ GE875.out) | exact HB.out)) hb); clear HO_844000; clear HO_849000; clear HO868; clear HO873; clear BK843; clear BK848; clear BK870; clear BK875; clear HB; have HO_844000 := n0_; have HO_849000 := n1_; have HO868 := n2_; have HO873 := n3_; have BK843 := n4_; have BK848 := n5_; have BK870 := n6_; have BK875 := n7_; have HB := n8_; clear n0_ n1_ n2_ n3_ n4_ n5_ n6_ n7_ n8_; (try clear hb); (try clear hb2); (try clear hk); (try clear hi)))
         go_ret
         exact ⟨by first | rfl | (simp [errW_none, errW_some] <;> rfl) | (simp [*, errW_none, errW_some] <;> rfl), by repeat (first | (with_reducible first | exact HB.out | apply Sq.rc | refine below_set ?_ GE843.out | refine below_set ?_ GE848.out | refine below_set ?_ GE870.out | refine below_set ?_ GE875.out) | exact HB.out)⟩
        ·replace c81 := Bool.eq_false_iff.mpr c81
         subst c81
         have H1 : (some false) = some r := by rw [if_neg (show ¬ (false = true) by decide)] at H; exact H
         clear H
         have H := H1
         clear H1
         obtain rfl := Option.some.inj H
         have hnb100 := NB843_848.out
         have hnc100 := NB848_843.out
         have hcz101_0 : wc.cell? ⟨gb843, 0, none⟩ = some (.slice Ao7 t839.length co7) := (blk_cell BK843.out 0).trans rfl
         have hfz101_0 := blk_frozen BK843.out 0
         go_wp2_with (first | ((with_reducible refine gate_callee (f := 32) rfl ?_); refine goesL_ (some 62) rfl rfl Try.func32 (by kernel_rfl) rfl #[.agg #[.slice Ao7 t839.length co7], .int .i64 (wrap64 (t842 - 1))] rfl (by (try simp only [List.map_toArray, List.map_cons, List.map_nil]); first | done | rfl | (simp only [List.length_drop, List.length_take]; rfl) | (simp only [i64_w, u8_w, w64_b]; rfl)) ?_; (with_reducible refine (impl_NatPow.calls kj3 _ _ t839 (wrap64 (t842 - 1)) t866 true _ ?side1 ?side2 A75.out).mono ?_); (case side1 => repeat (first | exact (Kd.R_reads' HO_844000.out).2.2 | (with_reducible refine Kd.C_alloc ?_ _) | (with_reducible refine Kd.C_drewN ?_ _) | (with_reducible refine Kd.C_drew ?_))); (case side2 => exact (Kd.R_reads' HO_844000.out).2.1); rintro e w102 ⟨v867, rfl, ho0, hb⟩; refine ⟨_, rfl, ?_⟩; have n0_ := Sq.m (Kd.R_elder' (by apply Sq.ra; exact HO_844000.out) (Kd.R_base ho0) hb); have n1_ := Sq.m (Kd.R_elder' (by apply Sq.ra; exact HO_849000.out) (Kd.R_base ho0) hb); have n2_ := Sq.m (Kd.R_lower (Kd.R_new' (Kd.R_new' ho0 (Kd.R_lt (by apply Sq.ra; exact HO_844000.out))) (Kd.R_lt (by apply Sq.ra; exact HO_849000.out))) (below_size (by repeat (first | (with_reducible first | exact HB.out | apply Sq.rc | refine below_set ?_ GE843.out | refine below_set ?_ GE848.out) | exact HB.out)))); have n3_ := Sq.m (blk_below (g := gb843) (o := .cells #[.slice Ao7 t839.length co7] 26 (0, 0)) (by apply Sq.rb; exact BK843.out) hb); have n4_ := Sq.m (blk_below (g := gb848) (o := .cells #[.slice Ao11 t844.length co11] 26 (0, 0)) (by apply Sq.rb; exact BK848.out) hb); have n5_ := Sq.m (below_step (by repeat (first | (with_reducible first | exact HB.out | apply Sq.rc | refine below_set ?_ GE843.out | refine below_set ?_ GE848.out) | exact HB.out)) hb); clear HO_844000; clear HO_849000; clear BK843; clear BK848; clear HB; have HO_844000 := n0_; have HO_849000 := n1_; have HO868 := n2_; have BK843 := n3_; have BK848 := n4_; have HB := n5_; clear n0_ n1_ n2_ n3_ n4_ n5_; (try clear hb); (try clear hb2); (try clear hk); (try clear hi); (try clear ho0)) | ((with_reducible refine gate_dst (N := 9) rfl ?_); refine box_event ?hg (N := 9) ?hd (cs := #[.slice none 0 0]) (t := 26) ?hr ?_; (case hd => rfl); (case hg => rfl); (case hr => first | (go_simp; done) | (go_simp; rfl)); intro gb870 hg w103 hbox hb; have n0_ := Sq.m (Kd.R_below (by apply Sq.ra; exact HO_844000.out) hb); have n1_ := Sq.m (Kd.R_below (by apply Sq.ra; exact HO_849000.out) hb); have n2_ := Sq.m (Kd.R_below (by apply Sq.ra; exact HO868.out) hb); have n3_ := Sq.m (blk_below (g := gb843) (o := .cells #[.slice Ao7 t839.length co7] 26 (0, 0)) (by apply Sq.rb; exact BK843.out) hb); have n4_ := Sq.m (blk_below (g := gb848) (o := .cells #[.slice Ao11 t844.length co11] 26 (0, 0)) (by apply Sq.rb; exact BK848.out) hb); have n5_ := Sq.m (below_step (by repeat (first | (with_reducible first | exact HB.out | apply Sq.rc | refine below_set ?_ GE843.out | refine below_set ?_ GE848.out) | exact HB.out)) hb); have n6_ := Sq.m (hbox); have n7_ := Sq.m ((by rw [hg]; exact (below_size (by repeat (first | (with_reducible first | exact HB.out | apply Sq.rc | refine below_set ?_ GE843.out | refine below_set ?_ GE848.out) | exact HB.out))) : w.heap.size ≤ gb870)); have n8_ := Sq.m ((by rw [hg]; exact (below_size (by repeat (first | (with_reducible first | exact HB.out | apply Sq.rc | refine below_set ?_ GE843.out | refine below_set ?_ GE848.out) | exact HB.out))) : w.heap.size ≤ gb870)); have n9_ := Sq.m ((by rw [hg]; exact Nat.ne_of_lt (blk_lt (g := gb843) (o := .cells #[.slice Ao7 t839.length co7] 26 (0, 0)) (by apply Sq.rb; exact BK843.out)) : gb843 ≠ gb870)); have n10_ := Sq.m ((by rw [hg]; exact Nat.ne_of_gt (blk_lt (g := gb843) (o := .cells #[.slice Ao7 t839.length co7] 26 (0, 0)) (by apply Sq.rb; exact BK843.out)) : gb870 ≠ gb843)); have n11_ := Sq.m ((by rw [hg]; exact Nat.ne_of_lt (blk_lt (g := gb848) (o := .cells #[.slice Ao11 t844.length co11] 26 (0, 0)) (by apply Sq.rb; exact BK848.out)) : gb848 ≠ gb870)); have n12_ := Sq.m ((by rw [hg]; exact Nat.ne_of_gt (blk_lt (g := gb848) (o := .cells #[.slice Ao11 t844.length co11] 26 (0, 0)) (by apply Sq.rb; exact BK848.out)) : gb870 ≠ gb848)); clear HO_844000; clear HO_849000; clear HO868; clear BK843; clear BK848; clear HB; have HO_844000 := n0_; have HO_849000 := n1_; have HO868 := n2_; have BK843 := n3_; have BK848 := n4_; have HB := n5_; have BK870 := n6_; have GW870 := n7_; have GE870 := n8_; have NB843_870 := n9_; have NB870_843 := n10_; have NB848_870 := n11_; have NB870_848 := n12_; clear n0_ n1_ n2_ n3_ n4_ n5_ n6_ n7_ n8_ n9_ n10_ n11_ n12_; clear hb hbox hg; obtain ⟨Ao104, co104, eo104⟩ := Kd.R_slice HO868.out; subst eo104; have hnb105 := NB870_843.out; have hnc105 := NB843_870.out; have hnb106 := NB870_848.out; have hnc106 := NB848_870.out; have hcz107_0 : w103.cell? ⟨gb870, 0, none⟩ = some (.slice none 0 0) := (blk_cell BK870.out 0).trans rfl; have hfz107_0 := blk_frozen BK870.out 0; have hcz108_0 : w103.cell? ⟨gb843, 0, none⟩ = some (.slice Ao7 t839.length co7) := (blk_cell BK843.out 0).trans rfl; have hfz108_0 := blk_frozen BK843.out 0) | ((with_reducible refine gate_callee (f := 18) rfl ?_); refine goesL_ (some 68) rfl rfl Try.func18 (by kernel_rfl) rfl #[.agg #[.slice Ao104 t866.length co104], .agg #[.slice Ao7 t839.length co7]] rfl (by (try simp only [List.map_toArray, List.map_cons, List.map_nil]); first | done | rfl | (simp only [List.length_drop, List.length_take]; rfl) | (simp only [i64_w, u8_w, w64_b]; rfl)) ?_; (with_reducible refine (impl_NatMul.calls kj3 _ _ t866 _ _ t839 t871 true _ ?side1 ?side2 ?side3 ?side4 A76.out).mono ?_); (case side1 => refine (Kd.R_reads' (e := 3) (base := w.heap.size) (ok := fun k_ => ((True ∧ some k_ ≠ (.slice Ao7 t839.length co7 : Value).ownBlock) ∧ some k_ ≠ (.slice Ao11 t844.length co11 : Value).ownBlock)) (n := t866.length) (c := co104) ?_).2.2; exact (by apply Sq.ra; exact (Kd.R_mono (Kd.R_far (p := ⟨gb870, 0, none⟩) (Kd.R_types HO868.out BK870.out (by decide)) (fun _ hk => hk.2) (.slice Ao104 t866.length co104)) (fun _ h_ => h_.1)))); (case side2 => exact (Kd.R_reads' HO868.out).2.1); (case side3 => refine (Kd.R_reads' (e := 3) (base := w.heap.size) (ok := fun k_ => (some k_ ≠ (.slice Ao11 t844.length co11 : Value).ownBlock ∧ some k_ ≠ (.slice Ao104 t866.length co104 : Value).ownBlock)) (n := t839.length) (c := co7) ?_).2.2; exact (by apply Sq.ra; exact (Kd.R_mono (Kd.R_far (p := ⟨gb870, 0, none⟩) (Kd.R_types HO_844000.out BK870.out (by decide)) (fun _ hk => hk.2) (.slice Ao104 t866.length co104)) (fun _ h_ => h_.1)))); (case side4 => exact (Kd.R_reads' HO_844000.out).2.1); rintro e w109 ⟨v872, rfl, ho0, hb⟩; refine ⟨_, rfl, ?_⟩; have n0_ := Sq.m (Kd.R_elder' (by apply Sq.ra; exact (Kd.R_mono (Kd.R_far (p := ⟨gb870, 0, none⟩) (Kd.R_types HO_844000.out BK870.out (by decide)) (fun _ hk => hk.2) (.slice Ao104 t866.length co104)) (fun _ h_ => h_.1))) (Kd.R_base ho0) hb); have n1_ := Sq.m (Kd.R_elder' (by apply Sq.ra; exact (Kd.R_mono (Kd.R_far (p := ⟨gb870, 0, none⟩) (Kd.R_types HO_849000.out BK870.out (by decide)) (fun _ hk => hk.2) (.slice Ao104 t866.length co104)) (fun _ h_ => h_.1))) (Kd.R_base ho0) hb); have n2_ := Sq.m (Kd.R_elder' (by apply Sq.ra; exact (Kd.R_mono (Kd.R_far (p := ⟨gb870, 0, none⟩) (Kd.R_types HO868.out BK870.out (by decide)) (fun _ hk => hk.2) (.slice Ao104 t866.length co104)) (fun _ h_ => h_.1))) (Kd.R_base ho0) hb); have n3_ := Sq.m (Kd.R_lower (Kd.R_new' (Kd.R_new' (Kd.R_new' ho0 (Kd.R_lt (by apply Sq.ra; exact (Kd.R_mono (Kd.R_far (p := ⟨gb870, 0, none⟩) (Kd.R_types HO_844000.out BK870.out (by decide)) (fun _ hk => hk.2) (.slice Ao104 t866.length co104)) (fun _ h_ => h_.1))))) (Kd.R_lt (by apply Sq.ra; exact (Kd.R_mono (Kd.R_far (p := ⟨gb870, 0, none⟩) (Kd.R_types HO_849000.out BK870.out (by decide)) (fun _ hk => hk.2) (.slice Ao104 t866.length co104)) (fun _ h_ => h_.1))))) (Kd.R_lt (by apply Sq.ra; exact (Kd.R_mono (Kd.R_far (p := ⟨gb870, 0, none⟩) (Kd.R_types HO868.out BK870.out (by decide)) (fun _ hk => hk.2) (.slice Ao104 t866.length co104)) (fun _ h_ => h_.1))))) (below_size (by repeat (first | (with_reducible first | exact HB.out | apply Sq.rc | refine below_set ?_ GE843.out | refine below_set ?_ GE848.out | refine below_set ?_ GE870.out) | exact HB.out)))); have n4_ := Sq.m (blk_below (g := gb843) (o := .cells #[.slice Ao7 t839.length co7] 26 (0, 0)) (by apply Sq.rb; refine blk_far ?_ NB843_870.out _; apply Sq.rb; exact BK843.out) hb); have n5_ := Sq.m (blk_below (g := gb848) (o := .cells #[.slice Ao11 t844.length co11] 26 (0, 0)) (by apply Sq.rb; refine blk_far ?_ NB848_870.out _; apply Sq.rb; exact BK848.out) hb); have n6_ := Sq.m (blk_below (g := gb870) (o := .cells #[.slice Ao104 t866.length co104] 26 (0, 0)) (by apply Sq.rb; refine blk_put (cs := #[.slice none 0 0]) ?_ 0 _ rfl; apply Sq.rb; exact BK870.out) hb); have n7_ := Sq.m (below_step (by repeat (first | (with_reducible first | exact HB.out | apply Sq.rc | refine below_set ?_ GE843.out | refine below_set ?_ GE848.out | refine below_set ?_ GE870.out) | exact HB.out)) hb); clear HO_844000; clear HO_849000; clear HO868; clear BK843; clear BK848; clear BK870; clear HB; have HO_844000 := n0_; have HO_849000 := n1_; have HO868 := n2_; have HO873 := n3_; have BK843 := n4_; have BK848 := n5_; have BK870 := n6_; have HB := n7_; clear n0_ n1_ n2_ n3_ n4_ n5_ n6_ n7_; (try clear hb); (try clear hb2); (try clear hk); (try clear hi); (try clear ho0)) | ((with_reducible refine gate_dst (N := 11) rfl ?_); refine box_event ?hg (N := 11) ?hd (cs := #[.slice none 0 0]) (t := 26) ?hr ?_; (case hd => rfl); (case hg => rfl); (case hr => first | (go_simp; done) | (go_simp; rfl)); intro gb875 hg w110 hbox hb; have n0_ := Sq.m (Kd.R_below (by apply Sq.ra; exact HO_844000.out) hb); have n1_ := Sq.m (Kd.R_below (by apply Sq.ra; exact HO_849000.out) hb); have n2_ := Sq.m (Kd.R_below (by apply Sq.ra; exact HO868.out) hb); have n3_ := Sq.m (Kd.R_below (by apply Sq.ra; exact HO873.out) hb); have n4_ := Sq.m (blk_below (g := gb843) (o := .cells #[.slice Ao7 t839.length co7] 26 (0, 0)) (by apply Sq.rb; exact BK843.out) hb); have n5_ := Sq.m (blk_below (g := gb848) (o := .cells #[.slice Ao11 t844.length co11] 26 (0, 0)) (by apply Sq.rb; exact BK848.out) hb); have n6_ := Sq.m (blk_below (g := gb870) (o := .cells #[.slice Ao104 t866.length co104] 26 (0, 0)) (by apply Sq.rb; exact BK870.out) hb); have n7_ := Sq.m (below_step (by repeat (first | (with_reducible first | exact HB.out | apply Sq.rc | refine below_set ?_ GE843.out | refine below_set ?_ GE848.out | refine below_set ?_ GE870.out) | exact HB.out)) hb); have n8_ := Sq.m (hbox); have n9_ := Sq.m ((by rw [hg]; exact (below_size (by repeat (first | (with_reducible first | exact HB.out | apply Sq.rc | refine below_set ?_ GE843.out | refine below_set ?_ GE848.out | refine below_set ?_ GE870.out) | exact HB.out))) : w.heap.size ≤ gb875)); have n10_ := Sq.m ((by rw [hg]; exact (below_size (by repeat (first | (with_reducible first | exact HB.out | apply Sq.rc | refine below_set ?_ GE843.out | refine below_set ?_ GE848.out | refine below_set ?_ GE870.out) | exact HB.out))) : w.heap.size ≤ gb875)); have n11_ := Sq.m ((by rw [hg]; exact Nat.ne_of_lt (blk_lt (g := gb843) (o := .cells #[.slice Ao7 t839.length co7] 26 (0, 0)) (by apply Sq.rb; exact BK843.out)) : gb843 ≠ gb875)); have n12_ := Sq.m ((by rw [hg]; exact Nat.ne_of_gt (blk_lt (g := gb843) (o := .cells #[.slice Ao7 t839.length co7] 26 (0, 0)) (by apply Sq.rb; exact BK843.out)) : gb875 ≠ gb843)); have n13_ := Sq.m ((by rw [hg]; exact Nat.ne_of_lt (blk_lt (g := gb848) (o := .cells #[.slice Ao11 t844.length co11] 26 (0, 0)) (by apply Sq.rb; exact BK848.out)) : gb848 ≠ gb875)); have n14_ := Sq.m ((by rw [hg]; exact Nat.ne_of_gt (blk_lt (g := gb848) (o := .cells #[.slice Ao11 t844.length co11] 26 (0, 0)) (by apply Sq.rb; exact BK848.out)) : gb875 ≠ gb848)); have n15_ := Sq.m ((by rw [hg]; exact Nat.ne_of_lt (blk_lt (g := gb870) (o := .cells #[.slice Ao104 t866.length co104] 26 (0, 0)) (by apply Sq.rb; exact BK870.out)) : gb870 ≠ gb875)); have n16_ := Sq.m ((by rw [hg]; exact Nat.ne_of_gt (blk_lt (g := gb870) (o := .cells #[.slice Ao104 t866.length co104] 26 (0, 0)) (by apply Sq.rb; exact BK870.out)) : gb875 ≠ gb870)); clear HO_844000; clear HO_849000; clear HO868; clear HO873; clear BK843; clear BK848; clear BK870; clear HB; have HO_844000 := n0_; have HO_849000 := n1_; have HO868 := n2_; have HO873 := n3_; have BK843 := n4_; have BK848 := n5_; have BK870 := n6_; have HB := n7_; have BK875 := n8_; have GW875 := n9_; have GE875 := n10_; have NB843_875 := n11_; have NB875_843 := n12_; have NB848_875 := n13_; have NB875_848 := n14_; have NB870_875 := n15_; have NB875_870 := n16_; clear n0_ n1_ n2_ n3_ n4_ n5_ n6_ n7_ n8_ n9_ n10_ n11_ n12_ n13_ n14_ n15_ n16_; clear hb hbox hg; obtain ⟨Ao111, co111, eo111⟩ := Kd.R_slice HO873.out; subst eo111; have hnb112 := NB875_843.out; have hnc112 := NB843_875.out; have hnb113 := NB875_848.out; have hnc113 := NB848_875.out; have hnb114 := NB875_870.out; have hnc114 := NB870_875.out; have hcz115_0 : w110.cell? ⟨gb875, 0, none⟩ = some (.slice none 0 0) := (blk_cell BK875.out 0).trans rfl; have hfz115_0 := blk_frozen BK875.out 0; have hcz116_0 : w110.cell? ⟨gb848, 0, none⟩ = some (.slice Ao11 t844.length co11) := (blk_cell BK848.out 0).trans rfl; have hfz116_0 := blk_frozen BK848.out 0) | (go_at_call 36; (with_reducible refine (laws_sameNat.calls kj3 _ _ t871 _ _ t844 false _ ?side1 ?side2 ?side3 ?side4 A80.out).mono ?_); (case side1 => refine (Kd.R_reads' (e := 3) (base := w.heap.size) (ok := fun k_ => (((True ∧ some k_ ≠ (.slice Ao7 t839.length co7 : Value).ownBlock) ∧ some k_ ≠ (.slice Ao11 t844.length co11 : Value).ownBlock) ∧ some k_ ≠ (.slice Ao104 t866.length co104 : Value).ownBlock)) (n := t871.length) (c := co111) ?_).2.2; exact (by apply Sq.ra; exact (Kd.R_mono (Kd.R_far (p := ⟨gb875, 0, none⟩) (Kd.R_types HO873.out BK875.out (by decide)) (fun _ hk => hk.2) (.slice Ao111 t871.length co111)) (fun _ h_ => h_.1)))); (case side2 => exact (Kd.R_reads' HO873.out).2.1); (case side3 => refine (Kd.R_reads' (e := 3) (base := w.heap.size) (ok := fun k_ => ((some k_ ≠ (.slice Ao7 t839.length co7 : Value).ownBlock ∧ some k_ ≠ (.slice Ao104 t866.length co104 : Value).ownBlock) ∧ some k_ ≠ (.slice Ao111 t871.length co111 : Value).ownBlock)) (n := t844.length) (c := co11) ?_).2.2; exact (by apply Sq.ra; exact (Kd.R_mono (Kd.R_far (p := ⟨gb875, 0, none⟩) (Kd.R_types HO_849000.out BK875.out (by decide)) (fun _ hk => hk.2) (.slice Ao111 t871.length co111)) (fun _ h_ => h_.1)))); (case side4 => exact (Kd.R_reads' HO_849000.out).2.1); rintro e w117 ⟨rfl, hb⟩; have n0_ := Sq.m (Kd.R_below (by apply Sq.ra; exact (Kd.R_mono (Kd.R_far (p := ⟨gb875, 0, none⟩) (Kd.R_types HO_844000.out BK875.out (by decide)) (fun _ hk => hk.2) (.slice Ao111 t871.length co111)) (fun _ h_ => h_.1))) hb); have n1_ := Sq.m (Kd.R_below (by apply Sq.ra; exact (Kd.R_mono (Kd.R_far (p := ⟨gb875, 0, none⟩) (Kd.R_types HO_849000.out BK875.out (by decide)) (fun _ hk => hk.2) (.slice Ao111 t871.length co111)) (fun _ h_ => h_.1))) hb); have n2_ := Sq.m (Kd.R_below (by apply Sq.ra; exact (Kd.R_mono (Kd.R_far (p := ⟨gb875, 0, none⟩) (Kd.R_types HO868.out BK875.out (by decide)) (fun _ hk => hk.2) (.slice Ao111 t871.length co111)) (fun _ h_ => h_.1))) hb); have n3_ := Sq.m (Kd.R_below (by apply Sq.ra; exact (Kd.R_mono (Kd.R_far (p := ⟨gb875, 0, none⟩) (Kd.R_types HO873.out BK875.out (by decide)) (fun _ hk => hk.2) (.slice Ao111 t871.length co111)) (fun _ h_ => h_.1))) hb); have n4_ := Sq.m (blk_below (g := gb843) (o := .cells #[.slice Ao7 t839.length co7] 26 (0, 0)) (by apply Sq.rb; refine blk_far ?_ NB843_875.out _; apply Sq.rb; exact BK843.out) hb); have n5_ := Sq.m (blk_below (g := gb848) (o := .cells #[.slice Ao11 t844.length co11] 26 (0, 0)) (by apply Sq.rb; refine blk_far ?_ NB848_875.out _; apply Sq.rb; exact BK848.out) hb); have n6_ := Sq.m (blk_below (g := gb870) (o := .cells #[.slice Ao104 t866.length co104] 26 (0, 0)) (by apply Sq.rb; refine blk_far ?_ NB870_875.out _; apply Sq.rb; exact BK870.out) hb); have n7_ := Sq.m (blk_below (g := gb875) (o := .cells #[.slice Ao111 t871.length co111] 26 (0, 0)) (by apply Sq.rb; refine blk_put (cs := #[.slice none 0 0]) ?_ 0 _ rfl; apply Sq.rb; exact BK875.out) hb); have n8_ := Sq.m (below_step (by repeat (first | (with_reducible first | exact HB.out | apply Sq.rc | refine below_set ?_ GE843.out | refine below_set ?_ GE848.out | refine below_set ?_ GE870.out | refine below_set ?_ GE875.out) | exact HB.out)) hb); clear HO_844000; clear HO_849000; clear HO868; clear HO873; clear BK843; clear BK848; clear BK870; clear BK875; clear HB; have HO_844000 := n0_; have HO_849000 := n1_; have HO868 := n2_; have HO873 := n3_; have BK843 := n4_; have BK848 := n5_; have BK870 := n6_; have BK875 := n7_; have HB := n8_; clear n0_ n1_ n2_ n3_ n4_ n5_ n6_ n7_ n8_; (try clear hb); (try clear hb2); (try clear hk); (try clear hi)))
         go_ret
         exact ⟨by first | rfl | (simp [errW_none, errW_some] <;> rfl) | (simp [*, errW_none, errW_some] <;> rfl), by repeat (first | (with_reducible first | exact HB.out | apply Sq.rc | refine below_set ?_ GE843.out | refine below_set ?_ GE848.out | refine below_set ?_ GE870.out | refine below_set ?_ GE875.out) | exact HB.out)⟩
       ·replace c79 := Bool.eq_false_iff.mpr c79
        subst c79
        have H1 : (some false) = some r := by rw [if_neg (show ¬ (false = true) by decide)] at H; exact H
        clear H
        have H := H1
        clear H1
        obtain rfl := Option.some.inj H
        have hnb118 := NB843_848.out
        have hnc118 := NB848_843.out
        have hcz119_0 : wc.cell? ⟨gb843, 0, none⟩ = some (.slice Ao7 t839.length co7) := (blk_cell BK843.out 0).trans rfl
        have hfz119_0 := blk_frozen BK843.out 0
        go_wp2_with (first | ((with_reducible refine gate_callee (f := 32) rfl ?_); refine goesL_ (some 62) rfl rfl Try.func32 (by kernel_rfl) rfl #[.agg #[.slice Ao7 t839.length co7], .int .i64 (wrap64 (t842 - 1))] rfl (by (try simp only [List.map_toArray, List.map_cons, List.map_nil]); first | done | rfl | (simp only [List.length_drop, List.length_take]; rfl) | (simp only [i64_w, u8_w, w64_b]; rfl)) ?_; (with_reducible refine (impl_NatPow.calls kj3 _ _ t839 (wrap64 (t842 - 1)) t866 true _ ?side1 ?side2 A75.out).mono ?_); (case side1 => repeat (first | exact (Kd.R_reads' HO_844000.out).2.2 | (with_reducible refine Kd.C_alloc ?_ _) | (with_reducible refine Kd.C_drewN ?_ _) | (with_reducible refine Kd.C_drew ?_))); (case side2 => exact (Kd.R_reads' HO_844000.out).2.1); rintro e w120 ⟨v867, rfl, ho0, hb⟩; refine ⟨_, rfl, ?_⟩; have n0_ := Sq.m (Kd.R_elder' (by apply Sq.ra; exact HO_844000.out) (Kd.R_base ho0) hb); have n1_ := Sq.m (Kd.R_elder' (by apply Sq.ra; exact HO_849000.out) (Kd.R_base ho0) hb); have n2_ := Sq.m (Kd.R_lower (Kd.R_new' (Kd.R_new' ho0 (Kd.R_lt (by apply Sq.ra; exact HO_844000.out))) (Kd.R_lt (by apply Sq.ra; exact HO_849000.out))) (below_size (by repeat (first | (with_reducible first | exact HB.out | apply Sq.rc | refine below_set ?_ GE843.out | refine below_set ?_ GE848.out) | exact HB.out)))); have n3_ := Sq.m (blk_below (g := gb843) (o := .cells #[.slice Ao7 t839.length co7] 26 (0, 0)) (by apply Sq.rb; exact BK843.out) hb); have n4_ := Sq.m (blk_below (g := gb848) (o := .cells #[.slice Ao11 t844.length co11] 26 (0, 0)) (by apply Sq.rb; exact BK848.out) hb); have n5_ := Sq.m (below_step (by repeat (first | (with_reducible first | exact HB.out | apply Sq.rc | refine below_set ?_ GE843.out | refine below_set ?_ GE848.out) | exact HB.out)) hb); clear HO_844000; clear HO_849000; clear BK843; clear BK848; clear HB; have HO_844000 := n0_; have HO_849000 := n1_; have HO868 := n2_; have BK843 := n3_; have BK848 := n4_; have HB := n5_; clear n0_ n1_ n2_ n3_ n4_ n5_; (try clear hb); (try clear hb2); (try clear hk); (try clear hi); (try clear ho0)) | ((with_reducible refine gate_dst (N := 9) rfl ?_); refine box_event ?hg (N := 9) ?hd (cs := #[.slice none 0 0]) (t := 26) ?hr ?_; (case hd => rfl); (case hg => rfl); (case hr => first | (go_simp; done) | (go_simp; rfl)); intro gb870 hg w121 hbox hb; have n0_ := Sq.m (Kd.R_below (by apply Sq.ra; exact HO_844000.out) hb); have n1_ := Sq.m (Kd.R_below (by apply Sq.ra; exact HO_849000.out) hb); have n2_ := Sq.m (Kd.R_below (by apply Sq.ra; exact HO868.out) hb); have n3_ := Sq.m (blk_below (g := gb843) (o := .cells #[.slice Ao7 t839.length co7] 26 (0, 0)) (by apply Sq.rb; exact BK843.out) hb); have n4_ := Sq.m (blk_below (g := gb848) (o := .cells #[.slice Ao11 t844.length co11] 26 (0, 0)) (by apply Sq.rb; exact BK848.out) hb); have n5_ := Sq.m (below_step (by repeat (first | (with_reducible first | exact HB.out | apply Sq.rc | refine below_set ?_ GE843.out | refine below_set ?_ GE848.out) | exact HB.out)) hb); have n6_ := Sq.m (hbox); have n7_ := Sq.m ((by rw [hg]; exact (below_size (by repeat (first | (with_reducible first | exact HB.out | apply Sq.rc | refine below_set ?_ GE843.out | refine below_set ?_ GE848.out) | exact HB.out))) : w.heap.size ≤ gb870)); have n8_ := Sq.m ((by rw [hg]; exact (below_size (by repeat (first | (with_reducible first | exact HB.out | apply Sq.rc | refine below_set ?_ GE843.out | refine below_set ?_ GE848.out) | exact HB.out))) : w.heap.size ≤ gb870)); have n9_ := Sq.m ((by rw [hg]; exact Nat.ne_of_lt (blk_lt (g := gb843) (o := .cells #[.slice Ao7 t839.length co7] 26 (0, 0)) (by apply Sq.rb; exact BK843.out)) : gb843 ≠ gb870)); have n10_ := Sq.m ((by rw [hg]; exact Nat.ne_of_gt (blk_lt (g := gb843) (o := .cells #[.slice Ao7 t839.length co7] 26 (0, 0)) (by apply Sq.rb; exact BK843.out)) : gb870 ≠ gb843)); have n11_ := Sq.m ((by rw [hg]; exact Nat.ne_of_lt (blk_lt (g := gb848) (o := .cells #[.slice Ao11 t844.length co11] 26 (0, 0)) (by apply Sq.rb; exact BK848.out)) : gb848 ≠ gb870)); have n12_ := Sq.m ((by rw [hg]; exact Nat.ne_of_gt (blk_lt (g := gb848) (o := .cells #[.slice Ao11 t844.length co11] 26 (0, 0)) (by apply Sq.rb; exact BK848.out)) : gb870 ≠ gb848)); clear HO_844000; clear HO_849000; clear HO868; clear BK843; clear BK848; clear HB; have HO_844000 := n0_; have HO_849000 := n1_; have HO868 := n2_; have BK843 := n3_; have BK848 := n4_; have HB := n5_; have BK870 := n6_; have GW870 := n7_; have GE870 := n8_; have NB843_870 := n9_; have NB870_843 := n10_; have NB848_870 := n11_; have NB870_848 := n12_; clear n0_ n1_ n2_ n3_ n4_ n5_ n6_ n7_ n8_ n9_ n10_ n11_ n12_; clear hb hbox hg; obtain ⟨Ao122, co122, eo122⟩ := Kd.R_slice HO868.out; subst eo122; have hnb123 := NB870_843.out; have hnc123 := NB843_870.out; have hnb124 := NB870_848.out; have hnc124 := NB848_870.out; have hcz125_0 : w121.cell? ⟨gb870, 0, none⟩ = some (.slice none 0 0) := (blk_cell BK870.out 0).trans rfl; have hfz125_0 := blk_frozen BK870.out 0; have hcz126_0 : w121.cell? ⟨gb843, 0, none⟩ = some (.slice Ao7 t839.length co7) := (blk_cell BK843.out 0).trans rfl; have hfz126_0 := blk_frozen BK843.out 0) | ((with_reducible refine gate_callee (f := 18) rfl ?_); refine goesL_ (some 68) rfl rfl Try.func18 (by kernel_rfl) rfl #[.agg #[.slice Ao122 t866.length co122], .agg #[.slice Ao7 t839.length co7]] rfl (by (try simp only [List.map_toArray, List.map_cons, List.map_nil]); first | done | rfl | (simp only [List.length_drop, List.length_take]; rfl) | (simp only [i64_w, u8_w, w64_b]; rfl)) ?_; (with_reducible refine (impl_NatMul.calls kj3 _ _ t866 _ _ t839 t871 false _ ?side1 ?side2 ?side3 ?side4 A76.out).mono ?_); (case side1 => refine (Kd.R_reads' (e := 3) (base := w.heap.size) (ok := fun k_ => ((True ∧ some k_ ≠ (.slice Ao7 t839.length co7 : Value).ownBlock) ∧ some k_ ≠ (.slice Ao11 t844.length co11 : Value).ownBlock)) (n := t866.length) (c := co122) ?_).2.2; exact (by apply Sq.ra; exact (Kd.R_mono (Kd.R_far (p := ⟨gb870, 0, none⟩) (Kd.R_types HO868.out BK870.out (by decide)) (fun _ hk => hk.2) (.slice Ao122 t866.length co122)) (fun _ h_ => h_.1)))); (case side2 => exact (Kd.R_reads' HO868.out).2.1); (case side3 => refine (Kd.R_reads' (e := 3) (base := w.heap.size) (ok := fun k_ => (some k_ ≠ (.slice Ao11 t844.length co11 : Value).ownBlock ∧ some k_ ≠ (.slice Ao122 t866.length co122 : Value).ownBlock)) (n := t839.length) (c := co7) ?_).2.2; exact (by apply Sq.ra; exact (Kd.R_mono (Kd.R_far (p := ⟨gb870, 0, none⟩) (Kd.R_types HO_844000.out BK870.out (by decide)) (fun _ hk => hk.2) (.slice Ao122 t866.length co122)) (fun _ h_ => h_.1)))); (case side4 => exact (Kd.R_reads' HO_844000.out).2.1); rintro e w127 ⟨v872, rfl, ho0, hb⟩; refine ⟨_, rfl, ?_⟩; have n0_ := Sq.m (Kd.R_elder' (by apply Sq.ra; exact (Kd.R_mono (Kd.R_far (p := ⟨gb870, 0, none⟩) (Kd.R_types HO_844000.out BK870.out (by decide)) (fun _ hk => hk.2) (.slice Ao122 t866.length co122)) (fun _ h_ => h_.1))) (Kd.R_base ho0) hb); have n1_ := Sq.m (Kd.R_elder' (by apply Sq.ra; exact (Kd.R_mono (Kd.R_far (p := ⟨gb870, 0, none⟩) (Kd.R_types HO_849000.out BK870.out (by decide)) (fun _ hk => hk.2) (.slice Ao122 t866.length co122)) (fun _ h_ => h_.1))) (Kd.R_base ho0) hb); have n2_ := Sq.m (Kd.R_elder' (by apply Sq.ra; exact (Kd.R_mono (Kd.R_far (p := ⟨gb870, 0, none⟩) (Kd.R_types HO868.out BK870.out (by decide)) (fun _ hk => hk.2) (.slice Ao122 t866.length co122)) (fun _ h_ => h_.1))) (Kd.R_base ho0) hb); have n3_ := Sq.m (Kd.R_lower (Kd.R_new' (Kd.R_new' (Kd.R_new' ho0 (Kd.R_lt (by apply Sq.ra; exact (Kd.R_mono (Kd.R_far (p := ⟨gb870, 0, none⟩) (Kd.R_types HO_844000.out BK870.out (by decide)) (fun _ hk => hk.2) (.slice Ao122 t866.length co122)) (fun _ h_ => h_.1))))) (Kd.R_lt (by apply Sq.ra; exact (Kd.R_mono (Kd.R_far (p := ⟨gb870, 0, none⟩) (Kd.R_types HO_849000.out BK870.out (by decide)) (fun _ hk => hk.2) (.slice Ao122 t866.length co122)) (fun _ h_ => h_.1))))) (Kd.R_lt (by apply Sq.ra; exact (Kd.R_mono (Kd.R_far (p := ⟨gb870, 0, none⟩) (Kd.R_types HO868.out BK870.out (by decide)) (fun _ hk => hk.2) (.slice Ao122 t866.length co122)) (fun _ h_ => h_.1))))) (below_size (by repeat (first | (with_reducible first | exact HB.out | apply Sq.rc | refine below_set ?_ GE843.out | refine below_set ?_ GE848.out | refine below_set ?_ GE870.out) | exact HB.out)))); have n4_ := Sq.m (blk_below (g := gb843) (o := .cells #[.slice Ao7 t839.length co7] 26 (0, 0)) (by apply Sq.rb; refine blk_far ?_ NB843_870.out _; apply Sq.rb; exact BK843.out) hb); have n5_ := Sq.m (blk_below (g := gb848) (o := .cells #[.slice Ao11 t844.length co11] 26 (0, 0)) (by apply Sq.rb; refine blk_far ?_ NB848_870.out _; apply Sq.rb; exact BK848.out) hb); have n6_ := Sq.m (blk_below (g := gb870) (o := .cells #[.slice Ao122 t866.length co122] 26 (0, 0)) (by apply Sq.rb; refine blk_put (cs := #[.slice none 0 0]) ?_ 0 _ rfl; apply Sq.rb; exact BK870.out) hb); have n7_ := Sq.m (below_step (by repeat (first | (with_reducible first | exact HB.out | apply Sq.rc | refine below_set ?_ GE843.out | refine below_set ?_ GE848.out | refine below_set ?_ GE870.out) | exact HB.out)) hb); clear HO_844000; clear HO_849000; clear HO868; clear BK843; clear BK848; clear BK870; clear HB; have HO_844000 := n0_; have HO_849000 := n1_; have HO868 := n2_; have HO873 := n3_; have BK843 := n4_; have BK848 := n5_; have BK870 := n6_; have HB := n7_; clear n0_ n1_ n2_ n3_ n4_ n5_ n6_ n7_; (try clear hb); (try clear hb2); (try clear hk); (try clear hi); (try clear ho0)) | ((with_reducible refine gate_dst (N := 11) rfl ?_); refine box_event ?hg (N := 11) ?hd (cs := #[.slice none 0 0]) (t := 26) ?hr ?_; (case hd => rfl); (case hg => rfl); (case hr => first | (go_simp; done) | (go_simp; rfl)); intro gb875 hg w128 hbox hb; have n0_ := Sq.m (Kd.R_below (by apply Sq.ra; exact HO_844000.out) hb); have n1_ := Sq.m (Kd.R_below (by apply Sq.ra; exact HO_849000.out) hb); have n2_ := Sq.m (Kd.R_below (by apply Sq.ra; exact HO868.out) hb); have n3_ := Sq.m (Kd.R_below (by apply Sq.ra; exact HO873.out) hb); have n4_ := Sq.m (blk_below (g := gb843) (o := .cells #[.slice Ao7 t839.length co7] 26 (0, 0)) (by apply Sq.rb; exact BK843.out) hb); have n5_ := Sq.m (blk_below (g := gb848) (o := .cells #[.slice Ao11 t844.length co11] 26 (0, 0)) (by apply Sq.rb; exact BK848.out) hb); have n6_ := Sq.m (blk_below (g := gb870) (o := .cells #[.slice Ao122 t866.length co122] 26 (0, 0)) (by apply Sq.rb; exact BK870.out) hb); have n7_ := Sq.m (below_step (by repeat (first | (with_reducible first | exact HB.out | apply Sq.rc | refine below_set ?_ GE843.out | refine below_set ?_ GE848.out | refine below_set ?_ GE870.out) | exact HB.out)) hb); have n8_ := Sq.m (hbox); have n9_ := Sq.m ((by rw [hg]; exact (below_size (by repeat (first | (with_reducible first | exact HB.out | apply Sq.rc | refine below_set ?_ GE843.out | refine below_set ?_ GE848.out | refine below_set ?_ GE870.out) | exact HB.out))) : w.heap.size ≤ gb875)); have n10_ := Sq.m ((by rw [hg]; exact (below_size (by repeat (first | (with_reducible first | exact HB.out | apply Sq.rc | refine below_set ?_ GE843.out | refine below_set ?_ GE848.out | refine below_set ?_ GE870.out) | exact HB.out))) : w.heap.size ≤ gb875)); have n11_ := Sq.m ((by rw [hg]; exact Nat.ne_of_lt (blk_lt (g := gb843) (o := .cells #[.slice Ao7 t839.length co7] 26 (0, 0)) (by apply Sq.rb; exact BK843.out)) : gb843 ≠ gb875)); have n12_ := Sq.m ((by rw [hg]; exact Nat.ne_of_gt (blk_lt (g := gb843) (o := .cells #[.slice Ao7 t839.length co7] 26 (0, 0)) (by apply Sq.rb; exact BK843.out)) : gb875 ≠ gb843)); have n13_ := Sq.m ((by rw [hg]; exact Nat.ne_of_lt (blk_lt (g := gb848) (o := .cells #[.slice Ao11 t844.length co11] 26 (0, 0)) (by apply Sq.rb; exact BK848.out)) : gb848 ≠ gb875)); have n14_ := Sq.m ((by rw [hg]; exact Nat.ne_of_gt (blk_lt (g := gb848) (o := .cells #[.slice Ao11 t844.length co11] 26 (0, 0)) (by apply Sq.rb; exact BK848.out)) : gb875 ≠ gb848)); have n15_ := Sq.m ((by rw [hg]; exact Nat.ne_of_lt (blk_lt (g := gb870) (o := .cells #[.slice Ao122 t866.length co122] 26 (0, 0)) (by apply Sq.rb; exact BK870.out)) : gb870 ≠ gb875)); have n16_ := Sq.m ((by rw [hg]; exact Nat.ne_of_gt (blk_lt (g := gb870) (o := .cells #[.slice Ao122 t866.length co122] 26 (0, 0)) (by apply Sq.rb; exact BK870.out)) : gb875 ≠ gb870)); clear HO_844000; clear HO_849000; clear HO868; clear HO873; clear BK843; clear BK848; clear BK870; clear HB; have HO_844000 := n0_; have HO_849000 := n1_; have HO868 := n2_; have HO873 := n3_; have BK843 := n4_; have BK848 := n5_; have BK870 := n6_; have HB := n7_; have BK875 := n8_; have GW875 := n9_; have GE875 := n10_; have NB843_875 := n11_; have NB875_843 := n12_; have NB848_875 := n13_; have NB875_848 := n14_; have NB870_875 := n15_; have NB875_870 := n16_; clear n0_ n1_ n2_ n3_ n4_ n5_ n6_ n7_ n8_ n9_ n10_ n11_ n12_ n13_ n14_ n15_ n16_; clear hb hbox hg; obtain ⟨Ao129, co129, eo129⟩ := Kd.R_slice HO873.out; subst eo129; have hnb130 := NB875_843.out; have hnc130 := NB843_875.out; have hnb131 := NB875_848.out; have hnc131 := NB848_875.out; have hnb132 := NB875_870.out; have hnc132 := NB870_875.out; have hcz133_0 : w128.cell? ⟨gb875, 0, none⟩ = some (.slice none 0 0) := (blk_cell BK875.out 0).trans rfl; have hfz133_0 := blk_frozen BK875.out 0))
        go_ret
        exact ⟨by first | rfl | (simp [errW_none, errW_some] <;> rfl) | (simp [*, errW_none, errW_some] <;> rfl), by repeat (first | (with_reducible first | exact HB.out | apply Sq.rc | refine below_set ?_ GE843.out | refine below_set ?_ GE848.out | refine below_set ?_ GE870.out | refine below_set ?_ GE875.out) | exact HB.out)⟩
      ·replace c78 := Bool.eq_false_iff.mpr c78
       subst c78
       have H1 : (some false) = some r := by rw [if_neg (show ¬ (false = true) by decide)] at H; exact H
       clear H
       have H := H1
       clear H1
       obtain rfl := Option.some.inj H
       have hnb134 := NB843_848.out
       have hnc134 := NB848_843.out
       have hcz135_0 : wc.cell? ⟨gb843, 0, none⟩ = some (.slice Ao7 t839.length co7) := (blk_cell BK843.out 0).trans rfl
       have hfz135_0 := blk_frozen BK843.out 0
       go_wp2_with (first | ((with_reducible refine gate_callee (f := 32) rfl ?_); refine goesL_ (some 62) rfl rfl Try.func32 (by kernel_rfl) rfl #[.agg #[.slice Ao7 t839.length co7], .int .i64 (wrap64 (t842 - 1))] rfl (by (try simp only [List.map_toArray, List.map_cons, List.map_nil]); first | done | rfl | (simp only [List.length_drop, List.length_take]; rfl) | (simp only [i64_w, u8_w, w64_b]; rfl)) ?_; (with_reducible refine (impl_NatPow.calls kj3 _ _ t839 (wrap64 (t842 - 1)) t866 false _ ?side1 ?side2 A75.out).mono ?_); (case side1 => repeat (first | exact (Kd.R_reads' HO_844000.out).2.2 | (with_reducible refine Kd.C_alloc ?_ _) | (with_reducible refine Kd.C_drewN ?_ _) | (with_reducible refine Kd.C_drew ?_))); (case side2 => exact (Kd.R_reads' HO_844000.out).2.1); rintro e w136 ⟨v867, rfl, ho0, hb⟩; refine ⟨_, rfl, ?_⟩; have n0_ := Sq.m (Kd.R_elder' (by apply Sq.ra; exact HO_844000.out) (Kd.R_base ho0) hb); have n1_ := Sq.m (Kd.R_elder' (by apply Sq.ra; exact HO_849000.out) (Kd.R_base ho0) hb); have n2_ := Sq.m (Kd.R_lower (Kd.R_new' (Kd.R_new' ho0 (Kd.R_lt (by apply Sq.ra; exact HO_844000.out))) (Kd.R_lt (by apply Sq.ra; exact HO_849000.out))) (below_size (by repeat (first | (with_reducible first | exact HB.out | apply Sq.rc | refine below_set ?_ GE843.out | refine below_set ?_ GE848.out) | exact HB.out)))); have n3_ := Sq.m (blk_below (g := gb843) (o := .cells #[.slice Ao7 t839.length co7] 26 (0, 0)) (by apply Sq.rb; exact BK843.out) hb); have n4_ := Sq.m (blk_below (g := gb848) (o := .cells #[.slice Ao11 t844.length co11] 26 (0, 0)) (by apply Sq.rb; exact BK848.out) hb); have n5_ := Sq.m (below_step (by repeat (first | (with_reducible first | exact HB.out | apply Sq.rc | refine below_set ?_ GE843.out | refine below_set ?_ GE848.out) | exact HB.out)) hb); clear HO_844000; clear HO_849000; clear BK843; clear BK848; clear HB; have HO_844000 := n0_; have HO_849000 := n1_; have HO868 := n2_; have BK843 := n3_; have BK848 := n4_; have HB := n5_; clear n0_ n1_ n2_ n3_ n4_ n5_; (try clear hb); (try clear hb2); (try clear hk); (try clear hi); (try clear ho0)) | ((with_reducible refine gate_dst (N := 9) rfl ?_); refine box_event ?hg (N := 9) ?hd (cs := #[.slice none 0 0]) (t := 26) ?hr ?_; (case hd => rfl); (case hg => rfl); (case hr => first | (go_simp; done) | (go_simp; rfl)); intro gb870 hg w137 hbox hb; have n0_ := Sq.m (Kd.R_below (by apply Sq.ra; exact HO_844000.out) hb); have n1_ := Sq.m (Kd.R_below (by apply Sq.ra; exact HO_849000.out) hb); have n2_ := Sq.m (Kd.R_below (by apply Sq.ra; exact HO868.out) hb); have n3_ := Sq.m (blk_below (g := gb843) (o := .cells #[.slice Ao7 t839.length co7] 26 (0, 0)) (by apply Sq.rb; exact BK843.out) hb); have n4_ := Sq.m (blk_below (g := gb848) (o := .cells #[.slice Ao11 t844.length co11] 26 (0, 0)) (by apply Sq.rb; exact BK848.out) hb); have n5_ := Sq.m (below_step (by repeat (first | (with_reducible first | exact HB.out | apply Sq.rc | refine below_set ?_ GE843.out | refine below_set ?_ GE848.out) | exact HB.out)) hb); have n6_ := Sq.m (hbox); have n7_ := Sq.m ((by rw [hg]; exact (below_size (by repeat (first | (with_reducible first | exact HB.out | apply Sq.rc | refine below_set ?_ GE843.out | refine below_set ?_ GE848.out) | exact HB.out))) : w.heap.size ≤ gb870)); have n8_ := Sq.m ((by rw [hg]; exact (below_size (by repeat (first | (with_reducible first | exact HB.out | apply Sq.rc | refine below_set ?_ GE843.out | refine below_set ?_ GE848.out) | exact HB.out))) : w.heap.size ≤ gb870)); have n9_ := Sq.m ((by rw [hg]; exact Nat.ne_of_lt (blk_lt (g := gb843) (o := .cells #[.slice Ao7 t839.length co7] 26 (0, 0)) (by apply Sq.rb; exact BK843.out)) : gb843 ≠ gb870)); have n10_ := Sq.m ((by rw [hg]; exact Nat.ne_of_gt (blk_lt (g := gb843) (o := .cells #[.slice Ao7 t839.length co7] 26 (0, 0)) (by apply Sq.rb; exact BK843.out)) : gb870 ≠ gb843)); have n11_ := Sq.m ((by rw [hg]; exact Nat.ne_of_lt (blk_lt (g := gb848) (o := .cells #[.slice Ao11 t844.length co11] 26 (0, 0)) (by apply Sq.rb; exact BK848.out)) : gb848 ≠ gb870)); have n12_ := Sq.m ((by rw [hg]; exact Nat.ne_of_gt (blk_lt (g := gb848) (o := .cells #[.slice Ao11 t844.length co11] 26 (0, 0)) (by apply Sq.rb; exact BK848.out)) : gb870 ≠ gb848)); clear HO_844000; clear HO_849000; clear HO868; clear BK843; clear BK848; clear HB; have HO_844000 := n0_; have HO_849000 := n1_; have HO868 := n2_; have BK843 := n3_; have BK848 := n4_; have HB := n5_; have BK870 := n6_; have GW870 := n7_; have GE870 := n8_; have NB843_870 := n9_; have NB870_843 := n10_; have NB848_870 := n11_; have NB870_848 := n12_; clear n0_ n1_ n2_ n3_ n4_ n5_ n6_ n7_ n8_ n9_ n10_ n11_ n12_; clear hb hbox hg; obtain ⟨Ao138, co138, eo138⟩ := Kd.R_slice HO868.out; subst eo138; have hnb139 := NB870_843.out; have hnc139 := NB843_870.out; have hnb140 := NB870_848.out; have hnc140 := NB848_870.out; have hcz141_0 : w137.cell? ⟨gb870, 0, none⟩ = some (.slice none 0 0) := (blk_cell BK870.out 0).trans rfl; have hfz141_0 := blk_frozen BK870.out 0; have hcz142_0 : w137.cell? ⟨gb843, 0, none⟩ = some (.slice Ao7 t839.length co7) := (blk_cell BK843.out 0).trans rfl; have hfz142_0 := blk_frozen BK843.out 0) | ((with_reducible refine gate_callee (f := 18) rfl ?_); refine goesL_ (some 68) rfl rfl Try.func18 (by kernel_rfl) rfl #[.agg #[.slice Ao138 t866.length co138], .agg #[.slice Ao7 t839.length co7]] rfl (by (try simp only [List.map_toArray, List.map_cons, List.map_nil]); first | done | rfl | (simp only [List.length_drop, List.length_take]; rfl) | (simp only [i64_w, u8_w, w64_b]; rfl)) ?_; (with_reducible refine (impl_NatMul.calls kj3 _ _ t866 _ _ t839 t871 t874 _ ?side1 ?side2 ?side3 ?side4 A76.out).mono ?_); (case side1 => refine (Kd.R_reads' (e := 3) (base := w.heap.size) (ok := fun k_ => ((True ∧ some k_ ≠ (.slice Ao7 t839.length co7 : Value).ownBlock) ∧ some k_ ≠ (.slice Ao11 t844.length co11 : Value).ownBlock)) (n := t866.length) (c := co138) ?_).2.2; exact (by apply Sq.ra; exact (Kd.R_mono (Kd.R_far (p := ⟨gb870, 0, none⟩) (Kd.R_types HO868.out BK870.out (by decide)) (fun _ hk => hk.2) (.slice Ao138 t866.length co138)) (fun _ h_ => h_.1)))); (case side2 => exact (Kd.R_reads' HO868.out).2.1); (case side3 => refine (Kd.R_reads' (e := 3) (base := w.heap.size) (ok := fun k_ => (some k_ ≠ (.slice Ao11 t844.length co11 : Value).ownBlock ∧ some k_ ≠ (.slice Ao138 t866.length co138 : Value).ownBlock)) (n := t839.length) (c := co7) ?_).2.2; exact (by apply Sq.ra; exact (Kd.R_mono (Kd.R_far (p := ⟨gb870, 0, none⟩) (Kd.R_types HO_844000.out BK870.out (by decide)) (fun _ hk => hk.2) (.slice Ao138 t866.length co138)) (fun _ h_ => h_.1)))); (case side4 => exact (Kd.R_reads' HO_844000.out).2.1); rintro e w143 ⟨v872, rfl, ho0, hb⟩; refine ⟨_, rfl, ?_⟩; have n0_ := Sq.m (Kd.R_elder' (by apply Sq.ra; exact (Kd.R_mono (Kd.R_far (p := ⟨gb870, 0, none⟩) (Kd.R_types HO_844000.out BK870.out (by decide)) (fun _ hk => hk.2) (.slice Ao138 t866.length co138)) (fun _ h_ => h_.1))) (Kd.R_base ho0) hb); have n1_ := Sq.m (Kd.R_elder' (by apply Sq.ra; exact (Kd.R_mono (Kd.R_far (p := ⟨gb870, 0, none⟩) (Kd.R_types HO_849000.out BK870.out (by decide)) (fun _ hk => hk.2) (.slice Ao138 t866.length co138)) (fun _ h_ => h_.1))) (Kd.R_base ho0) hb); have n2_ := Sq.m (Kd.R_elder' (by apply Sq.ra; exact (Kd.R_mono (Kd.R_far (p := ⟨gb870, 0, none⟩) (Kd.R_types HO868.out BK870.out (by decide)) (fun _ hk => hk.2) (.slice Ao138 t866.length co138)) (fun _ h_ => h_.1))) (Kd.R_base ho0) hb); have n3_ := Sq.m (Kd.R_lower (Kd.R_new' (Kd.R_new' (Kd.R_new' ho0 (Kd.R_lt (by apply Sq.ra; exact (Kd.R_mono (Kd.R_far (p := ⟨gb870, 0, none⟩) (Kd.R_types HO_844000.out BK870.out (by decide)) (fun _ hk => hk.2) (.slice Ao138 t866.length co138)) (fun _ h_ => h_.1))))) (Kd.R_lt (by apply Sq.ra; exact (Kd.R_mono (Kd.R_far (p := ⟨gb870, 0, none⟩) (Kd.R_types HO_849000.out BK870.out (by decide)) (fun _ hk => hk.2) (.slice Ao138 t866.length co138)) (fun _ h_ => h_.1))))) (Kd.R_lt (by apply Sq.ra; exact (Kd.R_mono (Kd.R_far (p := ⟨gb870, 0, none⟩) (Kd.R_types HO868.out BK870.out (by decide)) (fun _ hk => hk.2) (.slice Ao138 t866.length co138)) (fun _ h_ => h_.1))))) (below_size (by repeat (first | (with_reducible first | exact HB.out | apply Sq.rc | refine below_set ?_ GE843.out | refine below_set ?_ GE848.out | refine below_set ?_ GE870.out) | exact HB.out)))); have n4_ := Sq.m (blk_below (g := gb843) (o := .cells #[.slice Ao7 t839.length co7] 26 (0, 0)) (by apply Sq.rb; refine blk_far ?_ NB843_870.out _; apply Sq.rb; exact BK843.out) hb); have n5_ := Sq.m (blk_below (g := gb848) (o := .cells #[.slice Ao11 t844.length co11] 26 (0, 0)) (by apply Sq.rb; refine blk_far ?_ NB848_870.out _; apply Sq.rb; exact BK848.out) hb); have n6_ := Sq.m (blk_below (g := gb870) (o := .cells #[.slice Ao138 t866.length co138] 26 (0, 0)) (by apply Sq.rb; refine blk_put (cs := #[.slice none 0 0]) ?_ 0 _ rfl; apply Sq.rb; exact BK870.out) hb); have n7_ := Sq.m (below_step (by repeat (first | (with_reducible first | exact HB.out | apply Sq.rc | refine below_set ?_ GE843.out | refine below_set ?_ GE848.out | refine below_set ?_ GE870.out) | exact HB.out)) hb); clear HO_844000; clear HO_849000; clear HO868; clear BK843; clear BK848; clear BK870; clear HB; have HO_844000 := n0_; have HO_849000 := n1_; have HO868 := n2_; have HO873 := n3_; have BK843 := n4_; have BK848 := n5_; have BK870 := n6_; have HB := n7_; clear n0_ n1_ n2_ n3_ n4_ n5_ n6_ n7_; (try clear hb); (try clear hb2); (try clear hk); (try clear hi); (try clear ho0)) | ((with_reducible refine gate_dst (N := 11) rfl ?_); refine box_event ?hg (N := 11) ?hd (cs := #[.slice none 0 0]) (t := 26) ?hr ?_; (case hd => rfl); (case hg => rfl); (case hr => first | (go_simp; done) | (go_simp; rfl)); intro gb875 hg w144 hbox hb; have n0_ := Sq.m (Kd.R_below (by apply Sq.ra; exact HO_844000.out) hb); have n1_ := Sq.m (Kd.R_below (by apply Sq.ra; exact HO_849000.out) hb); have n2_ := Sq.m (Kd.R_below (by apply Sq.ra; exact HO868.out) hb); have n3_ := Sq.m (Kd.R_below (by apply Sq.ra; exact HO873.out) hb); have n4_ := Sq.m (blk_below (g := gb843) (o := .cells #[.slice Ao7 t839.length co7] 26 (0, 0)) (by apply Sq.rb; exact BK843.out) hb); have n5_ := Sq.m (blk_below (g := gb848) (o := .cells #[.slice Ao11 t844.length co11] 26 (0, 0)) (by apply Sq.rb; exact BK848.out) hb); have n6_ := Sq.m (blk_below (g := gb870) (o := .cells #[.slice Ao138 t866.length co138] 26 (0, 0)) (by apply Sq.rb; exact BK870.out) hb); have n7_ := Sq.m (below_step (by repeat (first | (with_reducible first | exact HB.out | apply Sq.rc | refine below_set ?_ GE843.out | refine below_set ?_ GE848.out | refine below_set ?_ GE870.out) | exact HB.out)) hb); have n8_ := Sq.m (hbox); have n9_ := Sq.m ((by rw [hg]; exact (below_size (by repeat (first | (with_reducible first | exact HB.out | apply Sq.rc | refine below_set ?_ GE843.out | refine below_set ?_ GE848.out | refine below_set ?_ GE870.out) | exact HB.out))) : w.heap.size ≤ gb875)); have n10_ := Sq.m ((by rw [hg]; exact (below_size (by repeat (first | (with_reducible first | exact HB.out | apply Sq.rc | refine below_set ?_ GE843.out | refine below_set ?_ GE848.out | refine below_set ?_ GE870.out) | exact HB.out))) : w.heap.size ≤ gb875)); have n11_ := Sq.m ((by rw [hg]; exact Nat.ne_of_lt (blk_lt (g := gb843) (o := .cells #[.slice Ao7 t839.length co7] 26 (0, 0)) (by apply Sq.rb; exact BK843.out)) : gb843 ≠ gb875)); have n12_ := Sq.m ((by rw [hg]; exact Nat.ne_of_gt (blk_lt (g := gb843) (o := .cells #[.slice Ao7 t839.length co7] 26 (0, 0)) (by apply Sq.rb; exact BK843.out)) : gb875 ≠ gb843)); have n13_ := Sq.m ((by rw [hg]; exact Nat.ne_of_lt (blk_lt (g := gb848) (o := .cells #[.slice Ao11 t844.length co11] 26 (0, 0)) (by apply Sq.rb; exact BK848.out)) : gb848 ≠ gb875)); have n14_ := Sq.m ((by rw [hg]; exact Nat.ne_of_gt (blk_lt (g := gb848) (o := .cells #[.slice Ao11 t844.length co11] 26 (0, 0)) (by apply Sq.rb; exact BK848.out)) : gb875 ≠ gb848)); have n15_ := Sq.m ((by rw [hg]; exact Nat.ne_of_lt (blk_lt (g := gb870) (o := .cells #[.slice Ao138 t866.length co138] 26 (0, 0)) (by apply Sq.rb; exact BK870.out)) : gb870 ≠ gb875)); have n16_ := Sq.m ((by rw [hg]; exact Nat.ne_of_gt (blk_lt (g := gb870) (o := .cells #[.slice Ao138 t866.length co138] 26 (0, 0)) (by apply Sq.rb; exact BK870.out)) : gb875 ≠ gb870)); clear HO_844000; clear HO_849000; clear HO868; clear HO873; clear BK843; clear BK848; clear BK870; clear HB; have HO_844000 := n0_; have HO_849000 := n1_; have HO868 := n2_; have HO873 := n3_; have BK843 := n4_; have BK848 := n5_; have BK870 := n6_; have HB := n7_; have BK875 := n8_; have GW875 := n9_; have GE875 := n10_; have NB843_875 := n11_; have NB875_843 := n12_; have NB848_875 := n13_; have NB875_848 := n14_; have NB870_875 := n15_; have NB875_870 := n16_; clear n0_ n1_ n2_ n3_ n4_ n5_ n6_ n7_ n8_ n9_ n10_ n11_ n12_ n13_ n14_ n15_ n16_; clear hb hbox hg; obtain ⟨Ao145, co145, eo145⟩ := Kd.R_slice HO873.out; subst eo145; have hnb146 := NB875_843.out; have hnc146 := NB843_875.out; have hnb147 := NB875_848.out; have hnc147 := NB848_875.out; have hnb148 := NB875_870.out; have hnc148 := NB870_875.out; have hcz149_0 : w144.cell? ⟨gb875, 0, none⟩ = some (.slice none 0 0) := (blk_cell BK875.out 0).trans rfl; have hfz149_0 := blk_frozen BK875.out 0))
       go_ret
       exact ⟨by first | rfl | (simp [errW_none, errW_some] <;> rfl) | (simp [*, errW_none, errW_some] <;> rfl), by repeat (first | (with_reducible first | exact HB.out | apply Sq.rc | refine below_set ?_ GE843.out | refine below_set ?_ GE848.out | refine below_set ?_ GE870.out | refine below_set ?_ GE875.out) | exact HB.out)⟩
     ·replace c77 := Bool.eq_false_iff.mpr c77
      subst c77
      have H1 : (if t869 = true then (if t874 = true then (some false) else (some true)) else (some true)) = some r := by rw [if_neg (show ¬ (false = true) by decide)] at H; exact H
      clear H
      have H := H1
      clear H1
      by_cases c150 : t869 = true
      ·subst c150
       have H1 : (if t874 = true then (some false) else (some true)) = some r := by rw [if_pos rfl] at H; exact H
       clear H
       have H := H1
       clear H1
       by_cases c151 : t874 = true
       ·subst c151
        have H1 : (some false) = some r := by rw [if_pos rfl] at H; exact H
        clear H
        have H := H1
        clear H1
        obtain rfl := Option.some.inj H
        have hnb152 := NB843_848.out
        have hnc152 := NB848_843.out
        have hcz153_0 : wc.cell? ⟨gb843, 0, none⟩ = some (.slice Ao7 t839.length co7) := (blk_cell BK843.out 0).trans rfl
        have hfz153_0 := blk_frozen BK843.out 0
        go_wp2_with (first | ((with_reducible refine gate_callee (f := 32) rfl ?_); refine goesL_ (some 62) rfl rfl Try.func32 (by kernel_rfl) rfl #[.agg #[.slice Ao7 t839.length co7], .int .i64 (wrap64 (t842 - 1))] rfl (by (try simp only [List.map_toArray, List.map_cons, List.map_nil]); first | done | rfl | (simp only [List.length_drop, List.length_take]; rfl) | (simp only [i64_w, u8_w, w64_b]; rfl)) ?_; (with_reducible refine (impl_NatPow.calls kj3 _ _ t839 (wrap64 (t842 - 1)) t866 true _ ?side1 ?side2 A75.out).mono ?_); (case side1 => repeat (first | exact (Kd.R_reads' HO_844000.out).2.2 | (with_reducible refine Kd.C_alloc ?_ _) | (with_reducible refine Kd.C_drewN ?_ _) | (with_reducible refine Kd.C_drew ?_))); (case side2 => exact (Kd.R_reads' HO_844000.out).2.1); rintro e w154 ⟨v867, rfl, ho0, hb⟩; refine ⟨_, rfl, ?_⟩; have n0_ := Sq.m (Kd.R_elder' (by apply Sq.ra; exact HO_844000.out) (Kd.R_base ho0) hb); have n1_ := Sq.m (Kd.R_elder' (by apply Sq.ra; exact HO_849000.out) (Kd.R_base ho0) hb); have n2_ := Sq.m (Kd.R_lower (Kd.R_new' (Kd.R_new' ho0 (Kd.R_lt (by apply Sq.ra; exact HO_844000.out))) (Kd.R_lt (by apply Sq.ra; exact HO_849000.out))) (below_size (by repeat (first | (with_reducible first | exact HB.out | apply Sq.rc | refine below_set ?_ GE843.out | refine below_set ?_ GE848.out) | exact HB.out)))); have n3_ := Sq.m (blk_below (g := gb843) (o := .cells #[.slice Ao7 t839.length co7] 26 (0, 0)) (by apply Sq.rb; exact BK843.out) hb); have n4_ := Sq.m (blk_below (g := gb848) (o := .cells #[.slice Ao11 t844.length co11] 26 (0, 0)) (by apply Sq.rb; exact BK848.out) hb); have n5_ := Sq.m (below_step (by repeat (first | (with_reducible first | exact HB.out | apply Sq.rc | refine below_set ?_ GE843.out | refine below_set ?_ GE848.out) | exact HB.out)) hb); clear HO_844000; clear HO_849000; clear BK843; clear BK848; clear HB; have HO_844000 := n0_; have HO_849000 := n1_; have HO868 := n2_; have BK843 := n3_; have BK848 := n4_; have HB := n5_; clear n0_ n1_ n2_ n3_ n4_ n5_; (try clear hb); (try clear hb2); (try clear hk); (try clear hi); (try clear ho0)) | ((with_reducible refine gate_dst (N := 9) rfl ?_); refine box_event ?hg (N := 9) ?hd (cs := #[.slice none 0 0]) (t := 26) ?hr ?_; (case hd => rfl); (case hg => rfl); (case hr => first | (go_simp; done) | (go_simp; rfl)); intro gb870 hg w155 hbox hb; have n0_ := Sq.m (Kd.R_below (by apply Sq.ra; exact HO_844000.out) hb); have n1_ := Sq.m (Kd.R_below (by apply Sq.ra; exact HO_849000.out) hb); have n2_ := Sq.m (Kd.R_below (by apply Sq.ra; exact HO868.out) hb); have n3_ := Sq.m (blk_below (g := gb843) (o := .cells #[.slice Ao7 t839.length co7] 26 (0, 0)) (by apply Sq.rb; exact BK843.out) hb); have n4_ := Sq.m (blk_below (g := gb848) (o := .cells #[.slice Ao11 t844.length co11] 26 (0, 0)) (by apply Sq.rb; exact BK848.out) hb); have n5_ := Sq.m (below_step (by repeat (first | (with_reducible first | exact HB.out | apply Sq.rc | refine below_set ?_ GE843.out | refine below_set ?_ GE848.out) | exact HB.out)) hb); have n6_ := Sq.m (hbox); have n7_ := Sq.m ((by rw [hg]; exact (below_size (by repeat (first | (with_reducible first | exact HB.out | apply Sq.rc | refine below_set ?_ GE843.out | refine below_set ?_ GE848.out) | exact HB.out))) : w.heap.size ≤ gb870)); have n8_ := Sq.m ((by rw [hg]; exact (below_size (by repeat (first | (with_reducible first | exact HB.out | apply Sq.rc | refine below_set ?_ GE843.out | refine below_set ?_ GE848.out) | exact HB.out))) : w.heap.size ≤ gb870)); have n9_ := Sq.m ((by rw [hg]; exact Nat.ne_of_lt (blk_lt (g := gb843) (o := .cells #[.slice Ao7 t839.length co7] 26 (0, 0)) (by apply Sq.rb; exact BK843.out)) : gb843 ≠ gb870)); have n10_ := Sq.m ((by rw [hg]; exact Nat.ne_of_gt (blk_lt (g := gb843) (o := .cells #[.slice Ao7 t839.length co7] 26 (0, 0)) (by apply Sq.rb; exact BK843.out)) : gb870 ≠ gb843)); have n11_ := Sq.m ((by rw [hg]; exact Nat.ne_of_lt (blk_lt (g := gb848) (o := .cells #[.slice Ao11 t844.length co11] 26 (0, 0)) (by apply Sq.rb; exact BK848.out)) : gb848 ≠ gb870)); have n12_ := Sq.m ((by rw [hg]; exact Nat.ne_of_gt (blk_lt (g := gb848) (o := .cells #[.slice Ao11 t844.length co11] 26 (0, 0)) (by apply Sq.rb; exact BK848.out)) : gb870 ≠ gb848)); clear HO_844000; clear HO_849000; clear HO868; clear BK843; clear BK848; clear HB; have HO_844000 := n0_; have HO_849000 := n1_; have HO868 := n2_; have BK843 := n3_; have BK848 := n4_; have HB := n5_; have BK870 := n6_; have GW870 := n7_; have GE870 := n8_; have NB843_870 := n9_; have NB870_843 := n10_; have NB848_870 := n11_; have NB870_848 := n12_; clear n0_ n1_ n2_ n3_ n4_ n5_ n6_ n7_ n8_ n9_ n10_ n11_ n12_; clear hb hbox hg; obtain ⟨Ao156, co156, eo156⟩ := Kd.R_slice HO868.out; subst eo156; have hnb157 := NB870_843.out; have hnc157 := NB843_870.out; have hnb158 := NB870_848.out; have hnc158 := NB848_870.out; have hcz159_0 : w155.cell? ⟨gb870, 0, none⟩ = some (.slice none 0 0) := (blk_cell BK870.out 0).trans rfl; have hfz159_0 := blk_frozen BK870.out 0; have hcz160_0 : w155.cell? ⟨gb843, 0, none⟩ = some (.slice Ao7 t839.length co7) := (blk_cell BK843.out 0).trans rfl; have hfz160_0 := blk_frozen BK843.out 0) | ((with_reducible refine gate_callee (f := 18) rfl ?_); refine goesL_ (some 68) rfl rfl Try.func18 (by kernel_rfl) rfl #[.agg #[.slice Ao156 t866.length co156], .agg #[.slice Ao7 t839.length co7]] rfl (by (try simp only [List.map_toArray, List.map_cons, List.map_nil]); first | done | rfl | (simp only [List.length_drop, List.length_take]; rfl) | (simp only [i64_w, u8_w, w64_b]; rfl)) ?_; (with_reducible refine (impl_NatMul.calls kj3 _ _ t866 _ _ t839 t871 true _ ?side1 ?side2 ?side3 ?side4 A76.out).mono ?_); (case side1 => refine (Kd.R_reads' (e := 3) (base := w.heap.size) (ok := fun k_ => ((True ∧ some k_ ≠ (.slice Ao7 t839.length co7 : Value).ownBlock) ∧ some k_ ≠ (.slice Ao11 t844.length co11 : Value).ownBlock)) (n := t866.length) (c := co156) ?_).2.2; exact (by apply Sq.ra; exact (Kd.R_mono (Kd.R_far (p := ⟨gb870, 0, none⟩) (Kd.R_types HO868.out BK870.out (by decide)) (fun _ hk => hk.2) (.slice Ao156 t866.length co156)) (fun _ h_ => h_.1)))); (case side2 => exact (Kd.R_reads' HO868.out).2.1); (case side3 => refine (Kd.R_reads' (e := 3) (base := w.heap.size) (ok := fun k_ => (some k_ ≠ (.slice Ao11 t844.length co11 : Value).ownBlock ∧ some k_ ≠ (.slice Ao156 t866.length co156 : Value).ownBlock)) (n := t839.length) (c := co7) ?_).2.2; exact (by apply Sq.ra; exact (Kd.R_mono (Kd.R_far (p := ⟨gb870, 0, none⟩) (Kd.R_types HO_844000.out BK870.out (by decide)) (fun _ hk => hk.2) (.slice Ao156 t866.length co156)) (fun _ h_ => h_.1)))); (case side4 => exact (Kd.R_reads' HO_844000.out).2.1); rintro e w161 ⟨v872, rfl, ho0, hb⟩; refine ⟨_, rfl, ?_⟩; have n0_ := Sq.m (Kd.R_elder' (by apply Sq.ra; exact (Kd.R_mono (Kd.R_far (p := ⟨gb870, 0, none⟩) (Kd.R_types HO_844000.out BK870.out (by decide)) (fun _ hk => hk.2) (.slice Ao156 t866.length co156)) (fun _ h_ => h_.1))) (Kd.R_base ho0) hb); have n1_ := Sq.m (Kd.R_elder' (by apply Sq.ra; exact (Kd.R_mono (Kd.R_far (p := ⟨gb870, 0, none⟩) (Kd.R_types HO_849000.out BK870.out (by decide)) (fun _ hk => hk.2) (.slice Ao156 t866.length co156)) (fun _ h_ => h_.1))) (Kd.R_base ho0) hb); have n2_ := Sq.m (Kd.R_elder' (by apply Sq.ra; exact (Kd.R_mono (Kd.R_far (p := ⟨gb870, 0, none⟩) (Kd.R_types HO868.out BK870.out (by decide)) (fun _ hk => hk.2) (.slice Ao156 t866.length co156)) (fun _ h_ => h_.1))) (Kd.R_base ho0) hb); have n3_ := Sq.m (Kd.R_lower (Kd.R_new' (Kd.R_new' (Kd.R_new' ho0 (Kd.R_lt (by apply Sq.ra; exact (Kd.R_mono (Kd.R_far (p := ⟨gb870, 0, none⟩) (Kd.R_types HO_844000.out BK870.out (by decide)) (fun _ hk => hk.2) (.slice Ao156 t866.length co156)) (fun _ h_ => h_.1))))) (Kd.R_lt (by apply Sq.ra; exact (Kd.R_mono (Kd.R_far (p := ⟨gb870, 0, none⟩) (Kd.R_types HO_849000.out BK870.out (by decide)) (fun _ hk => hk.2) (.slice Ao156 t866.length co156)) (fun _ h_ => h_.1))))) (Kd.R_lt (by apply Sq.ra; exact (Kd.R_mono (Kd.R_far (p := ⟨gb870, 0, none⟩) (Kd.R_types HO868.out BK870.out (by decide)) (fun _ hk => hk.2) (.slice Ao156 t866.length co156)) (fun _ h_ => h_.1))))) (below_size (by repeat (first | (with_reducible first | exact HB.out | apply Sq.rc | refine below_set ?_ GE843.out | refine below_set ?_ GE848.out | refine below_set ?_ GE870.out) | exact HB.out)))); have n4_ := Sq.m (blk_below (g := gb843) (o := .cells #[.slice Ao7 t839.length co7] 26 (0, 0)) (by apply Sq.rb; refine blk_far ?_ NB843_870.out _; apply Sq.rb; exact BK843.out) hb); have n5_ := Sq.m (blk_below (g := gb848) (o := .cells #[.slice Ao11 t844.length co11] 26 (0, 0)) (by apply Sq.rb; refine blk_far ?_ NB848_870.out _; apply Sq.rb; exact BK848.out) hb); have n6_ := Sq.m (blk_below (g := gb870) (o := .cells #[.slice Ao156 t866.length co156] 26 (0, 0)) (by apply Sq.rb; refine blk_put (cs := #[.slice none 0 0]) ?_ 0 _ rfl; apply Sq.rb; exact BK870.out) hb); have n7_ := Sq.m (below_step (by repeat (first | (with_reducible first | exact HB.out | apply Sq.rc | refine below_set ?_ GE843.out | refine below_set ?_ GE848.out | refine below_set ?_ GE870.out) | exact HB.out)) hb); clear HO_844000; clear HO_849000; clear HO868; clear BK843; clear BK848; clear BK870; clear HB; have HO_844000 := n0_; have HO_849000 := n1_; have HO868 := n2_; have HO873 := n3_; have BK843 := n4_; have BK848 := n5_; have BK870 := n6_; have HB := n7_; clear n0_ n1_ n2_ n3_ n4_ n5_ n6_ n7_; (try clear hb); (try clear hb2); (try clear hk); (try clear hi); (try clear ho0)) | ((with_reducible refine gate_dst (N := 11) rfl ?_); refine box_event ?hg (N := 11) ?hd (cs := #[.slice none 0 0]) (t := 26) ?hr ?_; (case hd => rfl); (case hg => rfl); (case hr => first | (go_simp; done) | (go_simp; rfl)); intro gb875 hg w162 hbox hb; have n0_ := Sq.m (Kd.R_below (by apply Sq.ra; exact HO_844000.out) hb); have n1_ := Sq.m (Kd.R_below (by apply Sq.ra; exact HO_849000.out) hb); have n2_ := Sq.m (Kd.R_below (by apply Sq.ra; exact HO868.out) hb); have n3_ := Sq.m (Kd.R_below (by apply Sq.ra; exact HO873.out) hb); have n4_ := Sq.m (blk_below (g := gb843) (o := .cells #[.slice Ao7 t839.length co7] 26 (0, 0)) (by apply Sq.rb; exact BK843.out) hb); have n5_ := Sq.m (blk_below (g := gb848) (o := .cells #[.slice Ao11 t844.length co11] 26 (0, 0)) (by apply Sq.rb; exact BK848.out) hb); have n6_ := Sq.m (blk_below (g := gb870) (o := .cells #[.slice Ao156 t866.length co156] 26 (0, 0)) (by apply Sq.rb; exact BK870.out) hb); have n7_ := Sq.m (below_step (by repeat (first | (with_reducible first | exact HB.out | apply Sq.rc | refine below_set ?_ GE843.out | refine below_set ?_ GE848.out | refine below_set ?_ GE870.out) | exact HB.out)) hb); have n8_ := Sq.m (hbox); have n9_ := Sq.m ((by rw [hg]; exact (below_size (by repeat (first | (with_reducible first | exact HB.out | apply Sq.rc | refine below_set ?_ GE843.out | refine below_set ?_ GE848.out | refine below_set ?_ GE870.out) | exact HB.out))) : w.heap.size ≤ gb875)); have n10_ := Sq.m ((by rw [hg]; exact (below_size (by repeat (first | (with_reducible first | exact HB.out | apply Sq.rc | refine below_set ?_ GE843.out | refine below_set ?_ GE848.out | refine below_set ?_ GE870.out) | exact HB.out))) : w.heap.size ≤ gb875)); have n11_ := Sq.m ((by rw [hg]; exact Nat.ne_of_lt (blk_lt (g := gb843) (o := .cells #[.slice Ao7 t839.length co7] 26 (0, 0)) (by apply Sq.rb; exact BK843.out)) : gb843 ≠ gb875)); have n12_ := Sq.m ((by rw [hg]; exact Nat.ne_of_gt (blk_lt (g := gb843) (o := .cells #[.slice Ao7 t839.length co7] 26 (0, 0)) (by apply Sq.rb; exact BK843.out)) : gb875 ≠ gb843)); have n13_ := Sq.m ((by rw [hg]; exact Nat.ne_of_lt (blk_lt (g := gb848) (o := .cells #[.slice Ao11 t844.length co11] 26 (0, 0)) (by apply Sq.rb; exact BK848.out)) : gb848 ≠ gb875)); have n14_ := Sq.m ((by rw [hg]; exact Nat.ne_of_gt (blk_lt (g := gb848) (o := .cells #[.slice Ao11 t844.length co11] 26 (0, 0)) (by apply Sq.rb; exact BK848.out)) : gb875 ≠ gb848)); have n15_ := Sq.m ((by rw [hg]; exact Nat.ne_of_lt (blk_lt (g := gb870) (o := .cells #[.slice Ao156 t866.length co156] 26 (0, 0)) (by apply Sq.rb; exact BK870.out)) : gb870 ≠ gb875)); have n16_ := Sq.m ((by rw [hg]; exact Nat.ne_of_gt (blk_lt (g := gb870) (o := .cells #[.slice Ao156 t866.length co156] 26 (0, 0)) (by apply Sq.rb; exact BK870.out)) : gb875 ≠ gb870)); clear HO_844000; clear HO_849000; clear HO868; clear HO873; clear BK843; clear BK848; clear BK870; clear HB; have HO_844000 := n0_; have HO_849000 := n1_; have HO868 := n2_; have HO873 := n3_; have BK843 := n4_; have BK848 := n5_; have BK870 := n6_; have HB := n7_; have BK875 := n8_; have GW875 := n9_; have GE875 := n10_; have NB843_875 := n11_; have NB875_843 := n12_; have NB848_875 := n13_; have NB875_848 := n14_; have NB870_875 := n15_; have NB875_870 := n16_; clear n0_ n1_ n2_ n3_ n4_ n5_ n6_ n7_ n8_ n9_ n10_ n11_ n12_ n13_ n14_ n15_ n16_; clear hb hbox hg; obtain ⟨Ao163, co163, eo163⟩ := Kd.R_slice HO873.out; subst eo163; have hnb164 := NB875_843.out; have hnc164 := NB843_875.out; have hnb165 := NB875_848.out; have hnc165 := NB848_875.out; have hnb166 := NB875_870.out; have hnc166 := NB870_875.out; have hcz167_0 : w162.cell? ⟨gb875, 0, none⟩ = some (.slice none 0 0) := (blk_cell BK875.out 0).trans rfl; have hfz167_0 := blk_frozen BK875.out 0))
        go_ret
        exact ⟨by first | rfl | (simp [errW_none, errW_some] <;> rfl) | (simp [*, errW_none, errW_some] <;> rfl), by repeat (first | (with_reducible first | exact HB.out | apply Sq.rc | refine below_set ?_ GE843.out | refine below_set ?_ GE848.out | refine below_set ?_ GE870.out | refine below_set ?_ GE875.out) | exact HB.out)⟩
       ·replace c151 := Bool.eq_false_iff.mpr c151
        subst c151
        have H1 : (some true) = some r := by rw [if_neg (show ¬ (false = true) by decide)] at H; exact H
        clear H
        have H := H1
        clear H1
        obtain rfl := Option.some.inj H
        have hnb168 := NB843_848.out
        have hnc168 := NB848_843.out
        have hcz169_0 : wc.cell? ⟨gb843, 0, none⟩ = some (.slice Ao7 t839.length co7) := (blk_cell BK843.out 0).trans rfl
        have hfz169_0 := blk_frozen BK843.out 0
        go_wp2_with (first | ((with_reducible refine gate_callee (f := 32) rfl ?_); refine goesL_ (some 62) rfl rfl Try.func32 (by kernel_rfl) rfl #[.agg #[.slice Ao7 t839.length co7], .int .i64 (wrap64 (t842 - 1))] rfl (by (try simp only [List.map_toArray, List.map_cons, List.map_nil]); first | done | rfl | (simp only [List.length_drop, List.length_take]; rfl) | (simp only [i64_w, u8_w, w64_b]; rfl)) ?_; (with_reducible refine (impl_NatPow.calls kj3 _ _ t839 (wrap64 (t842 - 1)) t866 true _ ?side1 ?side2 A75.out).mono ?_); (case side1 => repeat (first | exact (Kd.R_reads' HO_844000.out).2.2 | (with_reducible refine Kd.C_alloc ?_ _) | (with_reducible refine Kd.C_drewN ?_ _) | (with_reducible refine Kd.C_drew ?_))); (case side2 => exact (Kd.R_reads' HO_844000.out).2.1); rintro e w170 ⟨v867, rfl, ho0, hb⟩; refine ⟨_, rfl, ?_⟩; have n0_ := Sq.m (Kd.R_elder' (by apply Sq.ra; exact HO_844000.out) (Kd.R_base ho0) hb); have n1_ := Sq.m (Kd.R_elder' (by apply Sq.ra; exact HO_849000.out) (Kd.R_base ho0) hb); have n2_ := Sq.m (Kd.R_lower (Kd.R_new' (Kd.R_new' ho0 (Kd.R_lt (by apply Sq.ra; exact HO_844000.out))) (Kd.R_lt (by apply Sq.ra; exact HO_849000.out))) (below_size (by repeat (first | (with_reducible first | exact HB.out | apply Sq.rc | refine below_set ?_ GE843.out | refine below_set ?_ GE848.out) | exact HB.out)))); have n3_ := Sq.m (blk_below (g := gb843) (o := .cells #[.slice Ao7 t839.length co7] 26 (0, 0)) (by apply Sq.rb; exact BK843.out) hb); have n4_ := Sq.m (blk_below (g := gb848) (o := .cells #[.slice Ao11 t844.length co11] 26 (0, 0)) (by apply Sq.rb; exact BK848.out) hb); have n5_ := Sq.m (below_step (by repeat (first | (with_reducible first | exact HB.out | apply Sq.rc | refine below_set ?_ GE843.out | refine below_set ?_ GE848.out) | exact HB.out)) hb); clear HO_844000; clear HO_849000; clear BK843; clear BK848; clear HB; have HO_844000 := n0_; have HO_849000 := n1_; have HO868 := n2_; have BK843 := n3_; have BK848 := n4_; have HB := n5_; clear n0_ n1_ n2_ n3_ n4_ n5_; (try clear hb); (try clear hb2); (try clear hk); (try clear hi); (try clear ho0)) | ((with_reducible refine gate_dst (N := 9) rfl ?_); refine box_event ?hg (N := 9) ?hd (cs := #[.slice none 0 0]) (t := 26) ?hr ?_; (case hd => rfl); (case hg => rfl); (case hr => first | (go_simp; done) | (go_simp; rfl)); intro gb870 hg w171 hbox hb; have n0_ := Sq.m (Kd.R_below (by apply Sq.ra; exact HO_844000.out) hb); have n1_ := Sq.m (Kd.R_below (by apply Sq.ra; exact HO_849000.out) hb); have n2_ := Sq.m (Kd.R_below (by apply Sq.ra; exact HO868.out) hb); have n3_ := Sq.m (blk_below (g := gb843) (o := .cells #[.slice Ao7 t839.length co7] 26 (0, 0)) (by apply Sq.rb; exact BK843.out) hb); have n4_ := Sq.m (blk_below (g := gb848) (o := .cells #[.slice Ao11 t844.length co11] 26 (0, 0)) (by apply Sq.rb; exact BK848.out) hb); have n5_ := Sq.m (below_step (by repeat (first | (with_reducible first | exact HB.out | apply Sq.rc | refine below_set ?_ GE843.out | refine below_set ?_ GE848.out) | exact HB.out)) hb); have n6_ := Sq.m (hbox); have n7_ := Sq.m ((by rw [hg]; exact (below_size (by repeat (first | (with_reducible first | exact HB.out | apply Sq.rc | refine below_set ?_ GE843.out | refine below_set ?_ GE848.out) | exact HB.out))) : w.heap.size ≤ gb870)); have n8_ := Sq.m ((by rw [hg]; exact (below_size (by repeat (first | (with_reducible first | exact HB.out | apply Sq.rc | refine below_set ?_ GE843.out | refine below_set ?_ GE848.out) | exact HB.out))) : w.heap.size ≤ gb870)); have n9_ := Sq.m ((by rw [hg]; exact Nat.ne_of_lt (blk_lt (g := gb843) (o := .cells #[.slice Ao7 t839.length co7] 26 (0, 0)) (by apply Sq.rb; exact BK843.out)) : gb843 ≠ gb870)); have n10_ := Sq.m ((by rw [hg]; exact Nat.ne_of_gt (blk_lt (g := gb843) (o := .cells #[.slice Ao7 t839.length co7] 26 (0, 0)) (by apply Sq.rb; exact BK843.out)) : gb870 ≠ gb843)); have n11_ := Sq.m ((by rw [hg]; exact Nat.ne_of_lt (blk_lt (g := gb848) (o := .cells #[.slice Ao11 t844.length co11] 26 (0, 0)) (by apply Sq.rb; exact BK848.out)) : gb848 ≠ gb870)); have n12_ := Sq.m ((by rw [hg]; exact Nat.ne_of_gt (blk_lt (g := gb848) (o := .cells #[.slice Ao11 t844.length co11] 26 (0, 0)) (by apply Sq.rb; exact BK848.out)) : gb870 ≠ gb848)); clear HO_844000; clear HO_849000; clear HO868; clear BK843; clear BK848; clear HB; have HO_844000 := n0_; have HO_849000 := n1_; have HO868 := n2_; have BK843 := n3_; have BK848 := n4_; have HB := n5_; have BK870 := n6_; have GW870 := n7_; have GE870 := n8_; have NB843_870 := n9_; have NB870_843 := n10_; have NB848_870 := n11_; have NB870_848 := n12_; clear n0_ n1_ n2_ n3_ n4_ n5_ n6_ n7_ n8_ n9_ n10_ n11_ n12_; clear hb hbox hg; obtain ⟨Ao172, co172, eo172⟩ := Kd.R_slice HO868.out; subst eo172; have hnb173 := NB870_843.out; have hnc173 := NB843_870.out; have hnb174 := NB870_848.out; have hnc174 := NB848_870.out; have hcz175_0 : w171.cell? ⟨gb870, 0, none⟩ = some (.slice none 0 0) := (blk_cell BK870.out 0).trans rfl; have hfz175_0 := blk_frozen BK870.out 0; have hcz176_0 : w171.cell? ⟨gb843, 0, none⟩ = some (.slice Ao7 t839.length co7) := (blk_cell BK843.out 0).trans rfl; have hfz176_0 := blk_frozen BK843.out 0) | ((with_reducible refine gate_callee (f := 18) rfl ?_); refine goesL_ (some 68) rfl rfl Try.func18 (by kernel_rfl) rfl #[.agg #[.slice Ao172 t866.length co172], .agg #[.slice Ao7 t839.length co7]] rfl (by (try simp only [List.map_toArray, List.map_cons, List.map_nil]); first | done | rfl | (simp only [List.length_drop, List.length_take]; rfl) | (simp only [i64_w, u8_w, w64_b]; rfl)) ?_; (with_reducible refine (impl_NatMul.calls kj3 _ _ t866 _ _ t839 t871 false _ ?side1 ?side2 ?side3 ?side4 A76.out).mono ?_); (case side1 => refine (Kd.R_reads' (e := 3) (base := w.heap.size) (ok := fun k_ => ((True ∧ some k_ ≠ (.slice Ao7 t839.length co7 : Value).ownBlock) ∧ some k_ ≠ (.slice Ao11 t844.length co11 : Value).ownBlock)) (n := t866.length) (c := co172) ?_).2.2; exact (by apply Sq.ra; exact (Kd.R_mono (Kd.R_far (p := ⟨gb870, 0, none⟩) (Kd.R_types HO868.out BK870.out (by decide)) (fun _ hk => hk.2) (.slice Ao172 t866.length co172)) (fun _ h_ => h_.1)))); (case side2 => exact (Kd.R_reads' HO868.out).2.1); (case side3 => refine (Kd.R_reads' (e := 3) (base := w.heap.size) (ok := fun k_ => (some k_ ≠ (.slice Ao11 t844.length co11 : Value).ownBlock ∧ some k_ ≠ (.slice Ao172 t866.length co172 : Value).ownBlock)) (n := t839.length) (c := co7) ?_).2.2; exact (by apply Sq.ra; exact (Kd.R_mono (Kd.R_far (p := ⟨gb870, 0, none⟩) (Kd.R_types HO_844000.out BK870.out (by decide)) (fun _ hk => hk.2) (.slice Ao172 t866.length co172)) (fun _ h_ => h_.1)))); (case side4 => exact (Kd.R_reads' HO_844000.out).2.1); rintro e w177 ⟨v872, rfl, ho0, hb⟩; refine ⟨_, rfl, ?_⟩; have n0_ := Sq.m (Kd.R_elder' (by apply Sq.ra; exact (Kd.R_mono (Kd.R_far (p := ⟨gb870, 0, none⟩) (Kd.R_types HO_844000.out BK870.out (by decide)) (fun _ hk => hk.2) (.slice Ao172 t866.length co172)) (fun _ h_ => h_.1))) (Kd.R_base ho0) hb); have n1_ := Sq.m (Kd.R_elder' (by apply Sq.ra; exact (Kd.R_mono (Kd.R_far (p := ⟨gb870, 0, none⟩) (Kd.R_types HO_849000.out BK870.out (by decide)) (fun _ hk => hk.2) (.slice Ao172 t866.length co172)) (fun _ h_ => h_.1))) (Kd.R_base ho0) hb); have n2_ := Sq.m (Kd.R_elder' (by apply Sq.ra; exact (Kd.R_mono (Kd.R_far (p := ⟨gb870, 0, none⟩) (Kd.R_types HO868.out BK870.out (by decide)) (fun _ hk => hk.2) (.slice Ao172 t866.length co172)) (fun _ h_ => h_.1))) (Kd.R_base ho0) hb); have n3_ := Sq.m (Kd.R_lower (Kd.R_new' (Kd.R_new' (Kd.R_new' ho0 (Kd.R_lt (by apply Sq.ra; exact (Kd.R_mono (Kd.R_far (p := ⟨gb870, 0, none⟩) (Kd.R_types HO_844000.out BK870.out (by decide)) (fun _ hk => hk.2) (.slice Ao172 t866.length co172)) (fun _ h_ => h_.1))))) (Kd.R_lt (by apply Sq.ra; exact (Kd.R_mono (Kd.R_far (p := ⟨gb870, 0, none⟩) (Kd.R_types HO_849000.out BK870.out (by decide)) (fun _ hk => hk.2) (.slice Ao172 t866.length co172)) (fun _ h_ => h_.1))))) (Kd.R_lt (by apply Sq.ra; exact (Kd.R_mono (Kd.R_far (p := ⟨gb870, 0, none⟩) (Kd.R_types HO868.out BK870.out (by decide)) (fun _ hk => hk.2) (.slice Ao172 t866.length co172)) (fun _ h_ => h_.1))))) (below_size (by repeat (first | (with_reducible first | exact HB.out | apply Sq.rc | refine below_set ?_ GE843.out | refine below_set ?_ GE848.out | refine below_set ?_ GE870.out) | exact HB.out)))); have n4_ := Sq.m (blk_below (g := gb843) (o := .cells #[.slice Ao7 t839.length co7] 26 (0, 0)) (by apply Sq.rb; refine blk_far ?_ NB843_870.out _; apply Sq.rb; exact BK843.out) hb); have n5_ := Sq.m (blk_below (g := gb848) (o := .cells #[.slice Ao11 t844.length co11] 26 (0, 0)) (by apply Sq.rb; refine blk_far ?_ NB848_870.out _; apply Sq.rb; exact BK848.out) hb); have n6_ := Sq.m (blk_below (g := gb870) (o := .cells #[.slice Ao172 t866.length co172] 26 (0, 0)) (by apply Sq.rb; refine blk_put (cs := #[.slice none 0 0]) ?_ 0 _ rfl; apply Sq.rb; exact BK870.out) hb); have n7_ := Sq.m (below_step (by repeat (first | (with_reducible first | exact HB.out | apply Sq.rc | refine below_set ?_ GE843.out | refine below_set ?_ GE848.out | refine below_set ?_ GE870.out) | exact HB.out)) hb); clear HO_844000; clear HO_849000; clear HO868; clear BK843; clear BK848; clear BK870; clear HB; have HO_844000 := n0_; have HO_849000 := n1_; have HO868 := n2_; have HO873 := n3_; have BK843 := n4_; have BK848 := n5_; have BK870 := n6_; have HB := n7_; clear n0_ n1_ n2_ n3_ n4_ n5_ n6_ n7_; (try clear hb); (try clear hb2); (try clear hk); (try clear hi); (try clear ho0)) | ((with_reducible refine gate_dst (N := 11) rfl ?_); refine box_event ?hg (N := 11) ?hd (cs := #[.slice none 0 0]) (t := 26) ?hr ?_; (case hd => rfl); (case hg => rfl); (case hr => first | (go_simp; done) | (go_simp; rfl)); intro gb875 hg w178 hbox hb; have n0_ := Sq.m (Kd.R_below (by apply Sq.ra; exact HO_844000.out) hb); have n1_ := Sq.m (Kd.R_below (by apply Sq.ra; exact HO_849000.out) hb); have n2_ := Sq.m (Kd.R_below (by apply Sq.ra; exact HO868.out) hb); have n3_ := Sq.m (Kd.R_below (by apply Sq.ra; exact HO873.out) hb); have n4_ := Sq.m (blk_below (g := gb843) (o := .cells #[.slice Ao7 t839.length co7] 26 (0, 0)) (by apply Sq.rb; exact BK843.out) hb); have n5_ := Sq.m (blk_below (g := gb848) (o := .cells #[.slice Ao11 t844.length co11] 26 (0, 0)) (by apply Sq.rb; exact BK848.out) hb); have n6_ := Sq.m (blk_below (g := gb870) (o := .cells #[.slice Ao172 t866.length co172] 26 (0, 0)) (by apply Sq.rb; exact BK870.out) hb); have n7_ := Sq.m (below_step (by repeat (first | (with_reducible first | exact HB.out | apply Sq.rc | refine below_set ?_ GE843.out | refine below_set ?_ GE848.out | refine below_set ?_ GE870.out) | exact HB.out)) hb); have n8_ := Sq.m (hbox); have n9_ := Sq.m ((by rw [hg]; exact (below_size (by repeat (first | (with_reducible first | exact HB.out | apply Sq.rc | refine below_set ?_ GE843.out | refine below_set ?_ GE848.out | refine below_set ?_ GE870.out) | exact HB.out))) : w.heap.size ≤ gb875)); have n10_ := Sq.m ((by rw [hg]; exact (below_size (by repeat (first | (with_reducible first | exact HB.out | apply Sq.rc | refine below_set ?_ GE843.out | refine below_set ?_ GE848.out | refine below_set ?_ GE870.out) | exact HB.out))) : w.heap.size ≤ gb875)); have n11_ := Sq.m ((by rw [hg]; exact Nat.ne_of_lt (blk_lt (g := gb843) (o := .cells #[.slice Ao7 t839.length co7] 26 (0, 0)) (by apply Sq.rb; exact BK843.out)) : gb843 ≠ gb875)); have n12_ := Sq.m ((by rw [hg]; exact Nat.ne_of_gt (blk_lt (g := gb843) (o := .cells #[.slice Ao7 t839.length co7] 26 (0, 0)) (by apply Sq.rb; exact BK843.out)) : gb875 ≠ gb843)); have n13_ := Sq.m ((by rw [hg]; exact Nat.ne_of_lt (blk_lt (g := gb848) (o := .cells #[.slice Ao11 t844.length co11] 26 (0, 0)) (by apply Sq.rb; exact BK848.out)) : gb848 ≠ gb875)); have n14_ := Sq.m ((by rw [hg]; exact Nat.ne_of_gt (blk_lt (g := gb848) (o := .cells #[.slice Ao11 t844.length co11] 26 (0, 0)) (by apply Sq.rb; exact BK848.out)) : gb875 ≠ gb848)); have n15_ := Sq.m ((by rw [hg]; exact Nat.ne_of_lt (blk_lt (g := gb870) (o := .cells #[.slice Ao172 t866.length co172] 26 (0, 0)) (by apply Sq.rb; exact BK870.out)) : gb870 ≠ gb875)); have n16_ := Sq.m ((by rw [hg]; exact Nat.ne_of_gt (blk_lt (g := gb870) (o := .cells #[.slice Ao172 t866.length co172] 26 (0, 0)) (by apply Sq.rb; exact BK870.out)) : gb875 ≠ gb870)); clear HO_844000; clear HO_849000; clear HO868; clear HO873; clear BK843; clear BK848; clear BK870; clear HB; have HO_844000 := n0_; have HO_849000 := n1_; have HO868 := n2_; have HO873 := n3_; have BK843 := n4_; have BK848 := n5_; have BK870 := n6_; have HB := n7_; have BK875 := n8_; have GW875 := n9_; have GE875 := n10_; have NB843_875 := n11_; have NB875_843 := n12_; have NB848_875 := n13_; have NB875_848 := n14_; have NB870_875 := n15_; have NB875_870 := n16_; clear n0_ n1_ n2_ n3_ n4_ n5_ n6_ n7_ n8_ n9_ n10_ n11_ n12_ n13_ n14_ n15_ n16_; clear hb hbox hg; obtain ⟨Ao179, co179, eo179⟩ := Kd.R_slice HO873.out; subst eo179; have hnb180 := NB875_843.out; have hnc180 := NB843_875.out; have hnb181 := NB875_848.out; have hnc181 := NB848_875.out; have hnb182 := NB875_870.out; have hnc182 := NB870_875.out; have hcz183_0 : w178.cell? ⟨gb875, 0, none⟩ = some (.slice none 0 0) := (blk_cell BK875.out 0).trans rfl; have hfz183_0 := blk_frozen BK875.out 0))
        go_ret
        exact ⟨by first | rfl | (simp [errW_none, errW_some] <;> rfl) | (simp [*, errW_none, errW_some] <;> rfl), by repeat (first | (with_reducible first | exact HB.out | apply Sq.rc | refine below_set ?_ GE843.out | refine below_set ?_ GE848.out | refine below_set ?_ GE870.out | refine below_set ?_ GE875.out) | exact HB.out)⟩
      ·replace c150 := Bool.eq_false_iff.mpr c150
       subst c150
       have H1 : (some true) = some r := by rw [if_neg (show ¬ (false = true) by decide)] at H; exact H
       clear H
       have H := H1
       clear H1
       obtain rfl := Option.some.inj H
       have hnb184 := NB843_848.out
       have hnc184 := NB848_843.out
       have hcz185_0 : wc.cell? ⟨gb843, 0, none⟩ = some (.slice Ao7 t839.length co7) := (blk_cell BK843.out 0).trans rfl
       have hfz185_0 := blk_frozen BK843.out 0
       go_wp2_with (first | ((with_reducible refine gate_callee (f := 32) rfl ?_); refine goesL_ (some 62) rfl rfl Try.func32 (by kernel_rfl) rfl #[.agg #[.slice Ao7 t839.length co7], .int .i64 (wrap64 (t842 - 1))] rfl (by (try simp only [List.map_toArray, List.map_cons, List.map_nil]); first | done | rfl | (simp only [List.length_drop, List.length_take]; rfl) | (simp only [i64_w, u8_w, w64_b]; rfl)) ?_; (with_reducible refine (impl_NatPow.calls kj3 _ _ t839 (wrap64 (t842 - 1)) t866 false _ ?side1 ?side2 A75.out).mono ?_); (case side1 => repeat (first | exact (Kd.R_reads' HO_844000.out).2.2 | (with_reducible refine Kd.C_alloc ?_ _) | (with_reducible refine Kd.C_drewN ?_ _) | (with_reducible refine Kd.C_drew ?_))); (case side2 => exact (Kd.R_reads' HO_844000.out).2.1); rintro e w186 ⟨v867, rfl, ho0, hb⟩; refine ⟨_, rfl, ?_⟩; have n0_ := Sq.m (Kd.R_elder' (by apply Sq.ra; exact HO_844000.out) (Kd.R_base ho0) hb); have n1_ := Sq.m (Kd.R_elder' (by apply Sq.ra; exact HO_849000.out) (Kd.R_base ho0) hb); have n2_ := Sq.m (Kd.R_lower (Kd.R_new' (Kd.R_new' ho0 (Kd.R_lt (by apply Sq.ra; exact HO_844000.out))) (Kd.R_lt (by apply Sq.ra; exact HO_849000.out))) (below_size (by repeat (first | (with_reducible first | exact HB.out | apply Sq.rc | refine below_set ?_ GE843.out | refine below_set ?_ GE848.out) | exact HB.out)))); have n3_ := Sq.m (blk_below (g := gb843) (o := .cells #[.slice Ao7 t839.length co7] 26 (0, 0)) (by apply Sq.rb; exact BK843.out) hb); have n4_ := Sq.m (blk_below (g := gb848) (o := .cells #[.slice Ao11 t844.length co11] 26 (0, 0)) (by apply Sq.rb; exact BK848.out) hb); have n5_ := Sq.m (below_step (by repeat (first | (with_reducible first | exact HB.out | apply Sq.rc | refine below_set ?_ GE843.out | refine below_set ?_ GE848.out) | exact HB.out)) hb); clear HO_844000; clear HO_849000; clear BK843; clear BK848; clear HB; have HO_844000 := n0_; have HO_849000 := n1_; have HO868 := n2_; have BK843 := n3_; have BK848 := n4_; have HB := n5_; clear n0_ n1_ n2_ n3_ n4_ n5_; (try clear hb); (try clear hb2); (try clear hk); (try clear hi); (try clear ho0)) | ((with_reducible refine gate_dst (N := 9) rfl ?_); refine box_event ?hg (N := 9) ?hd (cs := #[.slice none 0 0]) (t := 26) ?hr ?_; (case hd => rfl); (case hg => rfl); (case hr => first | (go_simp; done) | (go_simp; rfl)); intro gb870 hg w187 hbox hb; have n0_ := Sq.m (Kd.R_below (by apply Sq.ra; exact HO_844000.out) hb); have n1_ := Sq.m (Kd.R_below (by apply Sq.ra; exact HO_849000.out) hb); have n2_ := Sq.m (Kd.R_below (by apply Sq.ra; exact HO868.out) hb); have n3_ := Sq.m (blk_below (g := gb843) (o := .cells #[.slice Ao7 t839.length co7] 26 (0, 0)) (by apply Sq.rb; exact BK843.out) hb); have n4_ := Sq.m (blk_below (g := gb848) (o := .cells #[.slice Ao11 t844.length co11] 26 (0, 0)) (by apply Sq.rb; exact BK848.out) hb); have n5_ := Sq.m (below_step (by repeat (first | (with_reducible first | exact HB.out | apply Sq.rc | refine below_set ?_ GE843.out | refine below_set ?_ GE848.out) | exact HB.out)) hb); have n6_ := Sq.m (hbox); have n7_ := Sq.m ((by rw [hg]; exact (below_size (by repeat (first | (with_reducible first | exact HB.out | apply Sq.rc | refine below_set ?_ GE843.out | refine below_set ?_ GE848.out) | exact HB.out))) : w.heap.size ≤ gb870)); have n8_ := Sq.m ((by rw [hg]; exact (below_size (by repeat (first | (with_reducible first | exact HB.out | apply Sq.rc | refine below_set ?_ GE843.out | refine below_set ?_ GE848.out) | exact HB.out))) : w.heap.size ≤ gb870)); have n9_ := Sq.m ((by rw [hg]; exact Nat.ne_of_lt (blk_lt (g := gb843) (o := .cells #[.slice Ao7 t839.length co7] 26 (0, 0)) (by apply Sq.rb; exact BK843.out)) : gb843 ≠ gb870)); have n10_ := Sq.m ((by rw [hg]; exact Nat.ne_of_gt (blk_lt (g := gb843) (o := .cells #[.slice Ao7 t839.length co7] 26 (0, 0)) (by apply Sq.rb; exact BK843.out)) : gb870 ≠ gb843)); have n11_ := Sq.m ((by rw [hg]; exact Nat.ne_of_lt (blk_lt (g := gb848) (o := .cells #[.slice Ao11 t844.length co11] 26 (0, 0)) (by apply Sq.rb; exact BK848.out)) : gb848 ≠ gb870)); have n12_ := Sq.m ((by rw [hg]; exact Nat.ne_of_gt (blk_lt (g := gb848) (o := .cells #[.slice Ao11 t844.length co11] 26 (0, 0)) (by apply Sq.rb; exact BK848.out)) : gb870 ≠ gb848)); clear HO_844000; clear HO_849000; clear HO868; clear BK843; clear BK848; clear HB; have HO_844000 := n0_; have HO_849000 := n1_; have HO868 := n2_; have BK843 := n3_; have BK848 := n4_; have HB := n5_; have BK870 := n6_; have GW870 := n7_; have GE870 := n8_; have NB843_870 := n9_; have NB870_843 := n10_; have NB848_870 := n11_; have NB870_848 := n12_; clear n0_ n1_ n2_ n3_ n4_ n5_ n6_ n7_ n8_ n9_ n10_ n11_ n12_; clear hb hbox hg; obtain ⟨Ao188, co188, eo188⟩ := Kd.R_slice HO868.out; subst eo188; have hnb189 := NB870_843.out; have hnc189 := NB843_870.out; have hnb190 := NB870_848.out; have hnc190 := NB848_870.out; have hcz191_0 : w187.cell? ⟨gb870, 0, none⟩ = some (.slice none 0 0) := (blk_cell BK870.out 0).trans rfl; have hfz191_0 := blk_frozen BK870.out 0; have hcz192_0 : w187.cell? ⟨gb843, 0, none⟩ = some (.slice Ao7 t839.length co7) := (blk_cell BK843.out 0).trans rfl; have hfz192_0 := blk_frozen BK843.out 0) | ((with_reducible refine gate_callee (f := 18) rfl ?_); refine goesL_ (some 68) rfl rfl Try.func18 (by kernel_rfl) rfl #[.agg #[.slice Ao188 t866.length co188], .agg #[.slice Ao7 t839.length co7]] rfl (by (try simp only [List.map_toArray, List.map_cons, List.map_nil]); first | done | rfl | (simp only [List.length_drop, List.length_take]; rfl) | (simp only [i64_w, u8_w, w64_b]; rfl)) ?_; (with_reducible refine (impl_NatMul.calls kj3 _ _ t866 _ _ t839 t871 t874 _ ?side1 ?side2 ?side3 ?side4 A76.out).mono ?_); (case side1 => refine (Kd.R_reads' (e := 3) (base := w.heap.size) (ok := fun k_ => ((True ∧ some k_ ≠ (.slice Ao7 t839.length co7 : Value).ownBlock) ∧ some k_ ≠ (.slice Ao11 t844.length co11 : Value).ownBlock)) (n := t866.length) (c := co188) ?_).2.2; exact (by apply Sq.ra; exact (Kd.R_mono (Kd.R_far (p := ⟨gb870, 0, none⟩) (Kd.R_types HO868.out BK870.out (by decide)) (fun _ hk => hk.2) (.slice Ao188 t866.length co188)) (fun _ h_ => h_.1)))); (case side2 => exact (Kd.R_reads' HO868.out).2.1); (case side3 => refine (Kd.R_reads' (e := 3) (base := w.heap.size) (ok := fun k_ => (some k_ ≠ (.slice Ao11 t844.length co11 : Value).ownBlock ∧ some k_ ≠ (.slice Ao188 t866.length co188 : Value).ownBlock)) (n := t839.length) (c := co7) ?_).2.2; exact (by apply Sq.ra; exact (Kd.R_mono (Kd.R_far (p := ⟨gb870, 0, none⟩) (Kd.R_types HO_844000.out BK870.out (by decide)) (fun _ hk => hk.2) (.slice Ao188 t866.length co188)) (fun _ h_ => h_.1)))); (case side4 => exact (Kd.R_reads' HO_844000.out).2.1); rintro e w193 ⟨v872, rfl, ho0, hb⟩; refine ⟨_, rfl, ?_⟩; have n0_ := Sq.m (Kd.R_elder' (by apply Sq.ra; exact (Kd.R_mono (Kd.R_far (p := ⟨gb870, 0, none⟩) (Kd.R_types HO_844000.out BK870.out (by decide)) (fun _ hk => hk.2) (.slice Ao188 t866.length co188)) (fun _ h_ => h_.1))) (Kd.R_base ho0) hb); have n1_ := Sq.m (Kd.R_elder' (by apply Sq.ra; exact (Kd.R_mono (Kd.R_far (p := ⟨gb870, 0, none⟩) (Kd.R_types HO_849000.out BK870.out (by decide)) (fun _ hk => hk.2) (.slice Ao188 t866.length co188)) (fun _ h_ => h_.1))) (Kd.R_base ho0) hb); have n2_ := Sq.m (Kd.R_elder' (by apply Sq.ra; exact (Kd.R_mono (Kd.R_far (p := ⟨gb870, 0, none⟩) (Kd.R_types HO868.out BK870.out (by decide)) (fun _ hk => hk.2) (.slice Ao188 t866.length co188)) (fun _ h_ => h_.1))) (Kd.R_base ho0) hb); have n3_ := Sq.m (Kd.R_lower (Kd.R_new' (Kd.R_new' (Kd.R_new' ho0 (Kd.R_lt (by apply Sq.ra; exact (Kd.R_mono (Kd.R_far (p := ⟨gb870, 0, none⟩) (Kd.R_types HO_844000.out BK870.out (by decide)) (fun _ hk => hk.2) (.slice Ao188 t866.length co188)) (fun _ h_ => h_.1))))) (Kd.R_lt (by apply Sq.ra; exact (Kd.R_mono (Kd.R_far (p := ⟨gb870, 0, none⟩) (Kd.R_types HO_849000.out BK870.out (by decide)) (fun _ hk => hk.2) (.slice Ao188 t866.length co188)) (fun _ h_ => h_.1))))) (Kd.R_lt (by apply Sq.ra; exact (Kd.R_mono (Kd.R_far (p := ⟨gb870, 0, none⟩) (Kd.R_types HO868.out BK870.out (by decide)) (fun _ hk => hk.2) (.slice Ao188 t866.length co188)) (fun _ h_ => h_.1))))) (below_size (by repeat (first | (with_reducible first | exact HB.out | apply Sq.rc | refine below_set ?_ GE843.out | refine below_set ?_ GE848.out | refine below_set ?_ GE870.out) | exact HB.out)))); have n4_ := Sq.m (blk_below (g := gb843) (o := .cells #[.slice Ao7 t839.length co7] 26 (0, 0)) (by apply Sq.rb; refine blk_far ?_ NB843_870.out _; apply Sq.rb; exact BK843.out) hb); have n5_ := Sq.m (blk_below (g := gb848) (o := .cells #[.slice Ao11 t844.length co11] 26 (0, 0)) (by apply Sq.rb; refine blk_far ?_ NB848_870.out _; apply Sq.rb; exact BK848.out) hb); have n6_ := Sq.m (blk_below (g := gb870) (o := .cells #[.slice Ao188 t866.length co188] 26 (0, 0)) (by apply Sq.rb; refine blk_put (cs := #[.slice none 0 0]) ?_ 0 _ rfl; apply Sq.rb; exact BK870.out) hb); have n7_ := Sq.m (below_step (by repeat (first | (with_reducible first | exact HB.out | apply Sq.rc | refine below_set ?_ GE843.out | refine below_set ?_ GE848.out | refine below_set ?_ GE870.out) | exact HB.out)) hb); clear HO_844000; clear HO_849000; clear HO868; clear BK843; clear BK848; clear BK870; clear HB; have HO_844000 := n0_; have HO_849000 := n1_; have HO868 := n2_; have HO873 := n3_; have BK843 := n4_; have BK848 := n5_; have BK870 := n6_; have HB := n7_; clear n0_ n1_ n2_ n3_ n4_ n5_ n6_ n7_; (try clear hb); (try clear hb2); (try clear hk); (try clear hi); (try clear ho0)) | ((with_reducible refine gate_dst (N := 11) rfl ?_); refine box_event ?hg (N := 11) ?hd (cs := #[.slice none 0 0]) (t := 26) ?hr ?_; (case hd => rfl); (case hg => rfl); (case hr => first | (go_simp; done) | (go_simp; rfl)); intro gb875 hg w194 hbox hb; have n0_ := Sq.m (Kd.R_below (by apply Sq.ra; exact HO_844000.out) hb); have n1_ := Sq.m (Kd.R_below (by apply Sq.ra; exact HO_849000.out) hb); have n2_ := Sq.m (Kd.R_below (by apply Sq.ra; exact HO868.out) hb); have n3_ := Sq.m (Kd.R_below (by apply Sq.ra; exact HO873.out) hb); have n4_ := Sq.m (blk_below (g := gb843) (o := .cells #[.slice Ao7 t839.length co7] 26 (0, 0)) (by apply Sq.rb; exact BK843.out) hb); have n5_ := Sq.m (blk_below (g := gb848) (o := .cells #[.slice Ao11 t844.length co11] 26 (0, 0)) (by apply Sq.rb; exact BK848.out) hb); have n6_ := Sq.m (blk_below (g := gb870) (o := .cells #[.slice Ao188 t866.length co188] 26 (0, 0)) (by apply Sq.rb; exact BK870.out) hb); have n7_ := Sq.m (below_step (by repeat (first | (with_reducible first | exact HB.out | apply Sq.rc | refine below_set ?_ GE843.out | refine below_set ?_ GE848.out | refine below_set ?_ GE870.out) | exact HB.out)) hb); have n8_ := Sq.m (hbox); have n9_ := Sq.m ((by rw [hg]; exact (below_size (by repeat (first | (with_reducible first | exact HB.out | apply Sq.rc | refine below_set ?_ GE843.out | refine below_set ?_ GE848.out | refine below_set ?_ GE870.out) | exact HB.out))) : w.heap.size ≤ gb875)); have n10_ := Sq.m ((by rw [hg]; exact (below_size (by repeat (first | (with_reducible first | exact HB.out | apply Sq.rc | refine below_set ?_ GE843.out | refine below_set ?_ GE848.out | refine below_set ?_ GE870.out) | exact HB.out))) : w.heap.size ≤ gb875)); have n11_ := Sq.m ((by rw [hg]; exact Nat.ne_of_lt (blk_lt (g := gb843) (o := .cells #[.slice Ao7 t839.length co7] 26 (0, 0)) (by apply Sq.rb; exact BK843.out)) : gb843 ≠ gb875)); have n12_ := Sq.m ((by rw [hg]; exact Nat.ne_of_gt (blk_lt (g := gb843) (o := .cells #[.slice Ao7 t839.length co7] 26 (0, 0)) (by apply Sq.rb; exact BK843.out)) : gb875 ≠ gb843)); have n13_ := Sq.m ((by rw [hg]; exact Nat.ne_of_lt (blk_lt (g := gb848) (o := .cells #[.slice Ao11 t844.length co11] 26 (0, 0)) (by apply Sq.rb; exact BK848.out)) : gb848 ≠ gb875)); have n14_ := Sq.m ((by rw [hg]; exact Nat.ne_of_gt (blk_lt (g := gb848) (o := .cells #[.slice Ao11 t844.length co11] 26 (0, 0)) (by apply Sq.rb; exact BK848.out)) : gb875 ≠ gb848)); have n15_ := Sq.m ((by rw [hg]; exact Nat.ne_of_lt (blk_lt (g := gb870) (o := .cells #[.slice Ao188 t866.length co188] 26 (0, 0)) (by apply Sq.rb; exact BK870.out)) : gb870 ≠ gb875)); have n16_ := Sq.m ((by rw [hg]; exact Nat.ne_of_gt (blk_lt (g := gb870) (o := .cells #[.slice Ao188 t866.length co188] 26 (0, 0)) (by apply Sq.rb; exact BK870.out)) : gb875 ≠ gb870)); clear HO_844000; clear HO_849000; clear HO868; clear HO873; clear BK843; clear BK848; clear BK870; clear HB; have HO_844000 := n0_; have HO_849000 := n1_; have HO868 := n2_; have HO873 := n3_; have BK843 := n4_; have BK848 := n5_; have BK870 := n6_; have HB := n7_; have BK875 := n8_; have GW875 := n9_; have GE875 := n10_; have NB843_875 := n11_; have NB875_843 := n12_; have NB848_875 := n13_; have NB875_848 := n14_; have NB870_875 := n15_; have NB875_870 := n16_; clear n0_ n1_ n2_ n3_ n4_ n5_ n6_ n7_ n8_ n9_ n10_ n11_ n12_ n13_ n14_ n15_ n16_; clear hb hbox hg; obtain ⟨Ao195, co195, eo195⟩ := Kd.R_slice HO873.out; subst eo195; have hnb196 := NB875_843.out; have hnc196 := NB843_875.out; have hnb197 := NB875_848.out; have hnc197 := NB848_875.out; have hnb198 := NB875_870.out; have hnc198 := NB870_875.out; have hcz199_0 : w194.cell? ⟨gb875, 0, none⟩ = some (.slice none 0 0) := (blk_cell BK875.out 0).trans rfl; have hfz199_0 := blk_frozen BK875.out 0))
       go_ret
       exact ⟨by first | rfl | (simp [errW_none, errW_some] <;> rfl) | (simp [*, errW_none, errW_some] <;> rfl), by repeat (first | (with_reducible first | exact HB.out | apply Sq.rc | refine below_set ?_ GE843.out | refine below_set ?_ GE848.out | refine below_set ?_ GE870.out | refine below_set ?_ GE875.out) | exact HB.out)⟩

/-- THE ONE PURE STATEMENT of laws_FnNatPows: yours. -/
def laws_FnNatPows.Pure : Prop := ∀ (l0 : List Int), l0.length ≤ maxLen → l0.length * 1 ≤ 140737488351232 → (∀ x ∈ l0, (Lit.int .u8 x).wf = true) → ∃ k, laws_FnNatPows.f k l0 = some true
theorem laws_FnNatPows.walk (P : laws_FnNatPows.Pure) (a0 : Option Addr) (len0 cap0 : Nat) (z0 : List Int) (w : World) (w0 : (a0 = none ∧ len0 = 0 ∧ cap0 = 0 ∧ z0 = []) ∨ ∃ x, a0 = some x ∧ len0 ≤ cap0 ∧ cap0 ≤ maxLen ∧ z0.length = cap0 ∧ (∀ i, i < z0.length → w.cell? (x.add i) = some (.int .u8 (z0.getD i 0))) ∧ ∀ n ∈ z0, (Lit.int .u8 n).wf = true) (y0 : len0 * 1 ≤ 140737488351232) :
  Calls Try.prog 8 #[.slice a0 len0 cap0] w fun e w' => e = .returned (.bool true) ∧ Below w.heap.size w w' := by
 obtain ⟨l0, rfl, hr0, hm0, hw0, hc0⟩ := ReadsInt.ofRowC w0
 obtain ⟨k, h⟩ := P l0 hm0 y0 hw0
 refine (laws_FnNatPows.calls k _ _ l0 true w (Kd.C_of_reads (d := (0 : Int)) (h1 := fun _ => rfl) hr0) hc0 h).mono ?_
 rintro e w' ⟨rfl, hd⟩
 exact ⟨rfl, hd⟩

end Go.Proofs.Ytjepgnfgalnjhaa.Q
