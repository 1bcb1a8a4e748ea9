import Derived.Test.YtalehmhjddnmoaaWWords
import Derived.Test.YtalehmhjddnmoaaWLast
import Derived.Test.YtalehmhjddnmoaaWMore
namespace Go.Proofs.YtalehmhjddnmoaaW.PrintWords
open Go.RowKit Go.Proofs.YtalehmhjddnmoaaW.PrintLast Go.Proofs.YtalehmhjddnmoaaW.PrintMore
section
variable {w W w1 : World}
theorem pkB (h : Below w.heap.size w W) (hb : Below W.heap.size W w1 := by with_reducible repeat (first | exact Below.refl _ _ | apply below_alloc | apply pw_below_drewN | apply below_drew1)) : Below w.heap.size w w1 := below_then h h.size hb
theorem pkK {g : Nat} {o : Obj} (h : w.heap[g]? = some o) (hb : Below w.heap.size w w1 := by with_reducible repeat (first | exact Below.refl _ _ | apply below_alloc | apply pw_below_drewN | apply below_drew1)) : w1.heap[g]? = some o := (hb.block g (Array.getElem?_eq_some_iff.1 h).1).trans h
end
end Go.Proofs.YtalehmhjddnmoaaW.PrintWords
