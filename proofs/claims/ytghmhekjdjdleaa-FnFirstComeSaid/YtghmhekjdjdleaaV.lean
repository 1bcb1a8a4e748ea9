/- Short words for steps that the walks take again and again: a fact that holds at a world holds at one that stands some allocations and draws behind it; conditions: none. -/
import Derived.Test.YtghmhekjdjdleaaWWords
import Derived.Test.YtghmhekjdjdleaaWLast
import Derived.Test.YtghmhekjdjdleaaWMore
namespace Go.Proofs.YtghmhekjdjdleaaW.PrintWords
open Go.RowKit Go.Proofs.YtghmhekjdjdleaaW.PrintLast Go.Proofs.YtghmhekjdjdleaaW.PrintMore
section
variable {w W w1 : World}
theorem pkB (h : Below w.heap.size w W) (hb : Below W.heap.size W w1 := by with_reducible repeat (first | exact Below.refl _ _ | apply below_alloc | apply pw_below_drewN | apply below_drew1)) : Below w.heap.size w w1 := below_then h h.size hb
theorem pkR {α : Type} {d : Kd α} {e base : Nat} {ok : Nat → Prop} {v : Value} {xs : List α} (h : d.R e w base ok v xs) (hb : Below w.heap.size w w1 := by with_reducible repeat (first | exact Below.refl _ _ | apply below_alloc | apply pw_below_drewN | apply below_drew1)) : d.R e w1 base ok v xs := Kd.R_below h hb
theorem pkC {α : Type} {d : Kd α} {A : Option Addr} {n : Nat} {xs : List α} (h : d.C w A n xs) (hb : Below w.heap.size w w1 := by with_reducible repeat (first | exact Below.refl _ _ | apply below_alloc | apply pw_below_drewN | apply below_drew1)) : d.C w1 A n xs := Kd.C_below h hb
theorem pkK {g : Nat} {o : Obj} (h : w.heap[g]? = some o) (hb : Below w.heap.size w w1 := by with_reducible repeat (first | exact Below.refl _ _ | apply below_alloc | apply pw_below_drewN | apply below_drew1)) : w1.heap[g]? = some o := (hb.block g (Array.getElem?_eq_some_iff.1 h).1).trans h
end
end Go.Proofs.YtghmhekjdjdleaaW.PrintWords
