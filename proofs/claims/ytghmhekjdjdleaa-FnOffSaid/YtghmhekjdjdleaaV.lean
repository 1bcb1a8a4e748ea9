/- Short words for steps that the walks take again and again: a fact that holds at a world holds at one that stands some allocations and draws behind it; conditions: none. -/
import Derived.Test.YtghmhekjdjdleaaWWords
import Derived.Test.YtghmhekjdjdleaaWLast
import Derived.Test.YtghmhekjdjdleaaWMore
namespace Go.Proofs.YtghmhekjdjdleaaW.PrintWords
open Go.RowKit Go.Proofs.YtghmhekjdjdleaaW.PrintLast Go.Proofs.YtghmhekjdjdleaaW.PrintMore
section
variable {w W w1 : World}
theorem pkB (h : Below w.heap.size w W) (hb : Below W.heap.size W w1 := by with_reducible repeat (first | exact Below.refl _ _ | apply below_alloc | apply pw_below_drewN | apply below_drew1)) : Below w.heap.size w w1 := below_then h h.size hb
theorem pkR {α : Type} {d : Kd α} {e base : Nat} {ok : Nat → Prop} {v : Value} {xs : List α} (h : d.R e w base ok v xs) (hb : Below w.heap.size w w1 := by with_reducible repeat (first | exact Below.refl _ _ | apply below_alloc | apply pw_below_drewN | apply below_drew1)) : d.R e w1 base ok v xs := Kd.R_below h hb
theorem pkC {α : Type} {d : Kd α} {A : Option Addr} {n : Nat} {xs : List α} (h : d.C w A n xs) (hb : Below w.heap.size w w1 := by with_reducible repeat (first | exact Below.refl _ _ | apply below_alloc | apply pw_below_drewN | apply below_drew1)) : d.C w1 A n xs := Kd.C_below h hb
theorem pkK {g : Nat} {o : Obj} (h : w.heap[g]? = some o) (hb : Below w.heap.size w w1 := by with_reducible repeat (first | exact Below.refl _ _ | apply below_alloc | apply pw_below_drewN | apply below_drew1)) : w1.heap[g]? = some o := (hb.block g (Array.getElem?_eq_some_iff.1 h).1).trans h
theorem pkQ {α : Type} {d : Kd α} {e base : Nat} {ok : Nat → Prop} {v : Value} {xs : List α} (h : d.Q e w base ok v xs) (hb : Below w.heap.size w w1 := by with_reducible repeat (first | exact Below.refl _ _ | apply below_alloc | apply pw_below_drewN | apply below_drew1)) : d.Q e w1 base ok v xs := Kd.Q_below h hb
theorem pkW {B : Nat} {w W w1 : World} (_h : Below B w W) (hb : Below B w w1 := by repeat (first | (with_reducible first | exact Aside0.out (by assumption) | apply below_alloc | apply pw_below_drewN | apply below_drew1 | refine below_set ?_ (Aside0.out (by assumption))) | exact Aside0.out (by assumption))) : Below B w w1 := hb
theorem pkH {w W w1 : World} {g : Nat} {row : Option Nat} (_h : KeepBut w W g row) (h : KeepBut w w1 g row := by repeat (first | (with_reducible first | exact Aside0.out (by assumption) | apply KeepBut.set_ | apply keep_drewN | apply keep_drew | apply keep_alloc | refine keep_far ?_ (Aside0.out (by assumption)) _) | exact Aside0.out (by assumption))) : KeepBut w w1 g row := h
theorem mpx {α : Type} {a b : α} (h : a = b := by (try simp only [List.map_toArray, List.map_cons, List.map_nil]); first | done | rfl | (simp only [List.length_drop, List.length_take]; rfl) | (go_simp; done) | (simp [*]; done)) : a = b := h
theorem rfx {α : Type} {a b : α} (h : a = b := by first | rfl | (simp; done) | (simp [*]; done)) : a = b := h
theorem rfe {α : Type} {a b : α} (h : a = b := by first | rfl | (simp [errW_none, errW_some] <;> rfl) | (simp [*, errW_none, errW_some] <;> rfl)) : a = b := h
theorem ofd {p : Prop} [Decidable p] (h : decide p = true := by first | (with_reducible assumption) | assumption) : p := of_decide_eq_true h
theorem bq_t {a b : Bool} (h : ¬ (a != b) = true) : (a == b) = true := by
  cases a <;> cases b <;> simp_all
theorem bq_f {a b : Bool} (h : (a != b) = true) : (a == b) = false := by
  cases a <;> cases b <;> simp_all
theorem am {p : Prop} (h : p) : Aside0 p := ⟨h⟩
end
end Go.Proofs.YtghmhekjdjdleaaW.PrintWords
