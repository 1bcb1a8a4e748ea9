/- Arguments laid open to their cells; conditions: the reading itself. -/
import Derived.Test.YtdagpmnadapbjaaWWords
import Derived.WalkKit
import Derived.ProofKit
import Derived.OpenShut
import Derived.ChangeArms
import Derived.DataReads
import Derived.Deep.Slices
namespace Go.Proofs.YtdagpmnadapbjaaO
open Go.RowKit Go.WideShapes Go.ChangeShapes Go.Proofs.YtdagpmnadapbjaaW.PrintWords
section
variable {H : Type} {enc : TypeId × Value → H} {P : Program} {w : World} {base : Nat} {spare : Nat → Bool} {held : Bool}
def Rd (enc : TypeId × Value → H) (P : Program) (w : World) (base : Nat) (spare : Nat → Bool) (held : Bool) (t : TypeId) (cs : List Value) : Prop := ∃ n x, DataW.trod enc P w base spare held n t cs = some x
theorem rd_of {t : TypeId} {v : Value} {d : DataW H} {p : List MemPlace} (h : DataW.Trod enc P w base spare held t v d p) : Rd enc P w base spare held t v.cells.toList := by
 obtain ⟨n, hn⟩ := h
 exact ⟨n, _, hn⟩
theorem rd_int {t : TypeId} {k : IntKind} {cs : List Value} (ht : P.underlying t = some (.int k)) (h : Rd enc P w base spare held t cs) : ∃ z, cs = [.int k z] ∧ (Lit.int k z).wf = true := by
 obtain ⟨n, x, h⟩ := h
 obtain ⟨z, e, _, hw⟩ := DataW.trod_int ht h
 exact ⟨z, e, hw⟩
theorem choose_list {α : Type} {P : Nat → α → Prop} : ∀ n, (∀ i, i < n → ∃ x, P i x) → ∃ xs : List α, xs.length = n ∧ ∀ i x, xs[i]? = some x → P i x
 | 0, _ => ⟨[], rfl, by simp⟩
 | n + 1, h => by
  obtain ⟨xs, hl, hx⟩ := choose_list n (fun i hi => h i (by omega))
  obtain ⟨y, hy⟩ := h n (by omega)
  refine ⟨xs ++ [y], by simp [hl], fun i x hi => ?_⟩
  rcases Nat.lt_trichotomy i n with hlt | rfl | hgt
  ·rw [List.getElem?_append_left (by omega)] at hi
   exact hx i x hi
  ·rw [← hl, List.getElem?_concat_length] at hi
   injection hi with hi
   subst hi
   exact hy
  ·rw [List.getElem?_eq_none (by simp; omega)] at hi
   cases hi
theorem rd_slice {α : Type} (R : α → List Value → Prop) {t e : TypeId} {size : Nat} {cs : List Value} (ht : P.underlying t = some (.slice e)) (hs : P.cellsOf e = size) (hR : ∀ cs, Rd enc P w base spare held e cs → ∃ p, R p cs)
  (h : Rd enc P w base spare held t cs) : ∃ (A : Option Addr) (c : Nat) (xs : List α), cs = [.slice A xs.length c] ∧ xs.length ≤ c ∧ c ≤ maxLen ∧ ReadsRow R size w A xs.length xs := by
 obtain ⟨n, x, h⟩ := h
 rcases DataW.trod_slice ht h with ⟨rfl, _⟩ | ⟨a, len, cap, elems, rest, m, _, rfl, _, hb, hl, hm, hlen, hel, _⟩
 ·exact ⟨none, 0, [], rfl, Nat.le_refl _, Nat.zero_le _, rfl, Nat.zero_le _, fun h => absurd h (Nat.lt_irrefl 0)⟩
 ·have hex : ∀ i, i < len → ∃ p : α, ∃ c : List Value, c.length = size ∧ R p c ∧ ∀ j u, c[j]? = some u → w.cell? (a.add (i * size + j)) = some u := by
   intro i hi
   have h1 := hel i hi
   rw [List.getElem?_eq_getElem (by omega : i < elems.length), Option.bind_eq_some_iff] at h1
   obtain ⟨c, hc, hd⟩ := h1
   obtain ⟨_, hcl, hat⟩ := World.cells?_some hc
   obtain ⟨p, hp⟩ := hR c ⟨_, _, hd⟩
   refine ⟨p, c, by rw [hcl, hs], hp, fun j u hj => ?_⟩
   have hjl : j < P.cellsOf e := by rw [← hcl]; exact (List.getElem?_eq_some_iff.1 hj).1
   rw [← hj, ← hat j hjl, hs, Go.Deep.add_add]
  obtain ⟨xs, hxl, hxs⟩ := choose_list len hex
  subst hxl
  exact ⟨some a, cap, xs, rfl, hl, hm, rfl, by simp only [maxLen] at hm; omega, fun _ => ⟨a, rfl, hxs⟩⟩
theorem reads_imp {α : Type} {R R' : α → List Value → Prop} {size n : Nat} {A : Option Addr} {xs : List α} (h : ReadsRow R size w A n xs) (hi : ∀ p c, R p c → R' p c) : ReadsRow R' size w A n xs :=
 ⟨h.1, h.2.1, fun hn => by
  obtain ⟨ad, e, hc⟩ := h.2.2 hn
  refine ⟨ad, e, fun j p hj => ?_⟩
  obtain ⟨c, h1, h2, h3⟩ := hc j p hj
  exact ⟨c, h1, hi p c h2, h3⟩⟩
theorem reads_all {α : Type} {R : α → List Value → Prop} {Q : α → Prop} {size n : Nat} {A : Option Addr} {xs : List α} (h : ReadsRow R size w A n xs) (hi : ∀ p c, R p c → Q p) : ∀ x ∈ xs, Q x := by
 intro x hx
 obtain ⟨j, hj⟩ := List.mem_iff_getElem?.1 hx
 have hl : j < xs.length := (List.getElem?_eq_some_iff.1 hj).1
 obtain ⟨ad, e, hc⟩ := h.2.2 (by rw [← h.1]; omega)
 obtain ⟨c, _, h2, _⟩ := hc j x hj
 exact hi x c h2
end
end Go.Proofs.YtdagpmnadapbjaaO
