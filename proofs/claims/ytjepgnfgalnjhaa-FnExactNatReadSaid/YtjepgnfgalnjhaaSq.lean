/- Short words for the steps that a long printed text takes again and again: facts of a world hold in the world some draws and new blocks later. No conditions. -/
import Derived.Test.YtjepgnfgalnjhaaWAll
set_option linter.unusedVariables false
namespace Go.Proofs.YtjepgnfgalnjhaaW.PrintWords
open Go.RowKit
/-- The second world is the first, some orders drawn and some blocks made since. -/
class Sq (w : outParam World) (w' : World) : Prop where mk_ ::
  out : Below w.heap.size w w'
instance (priority := low) Sq.refl_ (w : World) : Sq w w := ⟨Below.refl _ _⟩
instance Sq.alloc_ (w w' : World) (o : Obj) [h : Sq w w'] : Sq w (w'.alloc o) := ⟨below_alloc h.out o⟩
instance Sq.drew_ (w w' : World) [h : Sq w w'] : Sq w w'.drew := ⟨below_drew h.out⟩
instance Sq.drewN_ (w w' : World) (n : Nat) [h : Sq w w'] : Sq w (w'.drewN n) := ⟨pw_below_drewN h.out n⟩
theorem Sq.ra {α : Type} {d : Kd α} {w w' : World} {e base : Nat} {ok : Nat → Prop} {v : Value} {xs : List α} [i : Sq w w'] (h : d.R e w base ok v xs) : d.R e w' base ok v xs := Kd.R_below h i.out
theorem Sq.rb {w w' : World} {g : Nat} {o : Obj} [i : Sq w w'] (h : w.heap[g]? = some o) : w'.heap[g]? = some o := blk_below h i.out
/-- One such step. -/
class Sq1 (w : outParam World) (w' : World) : Prop where mk_ ::
  out : Below w.heap.size w w'
instance Sq1.alloc_ (w : World) (o : Obj) : Sq1 w (w.alloc o) := ⟨below_alloc (Below.refl _ _) o⟩
instance Sq1.drew_ (w : World) : Sq1 w w.drew := ⟨below_drew (Below.refl _ _)⟩
instance Sq1.drewN_ (w : World) (n : Nat) : Sq1 w (w.drewN n) := ⟨pw_below_drewN (Below.refl _ _) n⟩
theorem Sq.rc {w0 w w' : World} [i : Sq1 w w'] (h : Below w0.heap.size w0 w) : Below w0.heap.size w0 w' := below_then h h.size i.out
theorem Sq.m {p : Prop} (h : p) : Aside0 p := ⟨h⟩
end Go.Proofs.YtjepgnfgalnjhaaW.PrintWords
