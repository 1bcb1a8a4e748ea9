/- Plain laws of what the shared parts of the statements compute (copies, comparisons, marks, searches), for every list; conditions: lengths below 2^63. -/
import Derived.Test.YtalehmhjddnmoaaZx1
import Derived.Test.YtalehmhjddnmoaaZx4
namespace Go.Proofs.Ytalehmhjddnmoaa.Q
open Go.RowKit Go.Proofs.Ytalehmhjddnmoaa.Z Go.Proofs.YtalehmhjddnmoaaW.PrintWords Go.Proofs.YtalehmhjddnmoaaW.PrintLast Go.Proofs.YtalehmhjddnmoaaW.PrintMore
set_option linter.unusedVariables false
set_option linter.unusedSimpArgs false
theorem w64 {x : Int} (h0 : -9223372036854775808 ≤ x) (h1 : x ≤ 9223372036854775807) : wrap64 x = x := by unfold wrap64; omega
theorem w64n {n m : Nat} (h : n < m) (hm : m ≤ 9223372036854775807) : wrap64 ((n : Int) + 1) = ((n + 1 : Nat) : Int) := by rw [w64 (by omega) (by omega)]; omega
theorem rd_nat (l : List Int) (n : Nat) : rd l (n : Int) = l.getD n 0 := by simp [rd]
theorem rdOf_nat {α : Type} (d : α) (l : List α) (n : Nat) : rdOf d l (n : Int) = l.getD n d := by simp [rdOf]
theorem drop_cons {α : Type} (d : α) (l : List α) (n : Nat) (h : n < l.length) : l.drop n = l.getD n d :: l.drop (n + 1) := by
  rw [List.drop_eq_getElem_cons h, List.getD_eq_getElem?_getD, List.getElem?_eq_getElem h]; rfl
theorem take_cons {α : Type} (d : α) (l : List α) (n : Nat) (h : n < l.length) : l.take (n + 1) = l.take n ++ [l.getD n d] := by
  rw [List.take_succ_eq_append_getElem h, List.getD_eq_getElem?_getD, List.getElem?_eq_getElem h]; rfl
noncomputable def bP (p : Prop) : Bool := @decide p (Classical.propDecidable p)
theorem bP_iff {p : Prop} : bP p = true ↔ p := by simp [bP]
theorem bP_pos {p : Prop} (h : p) : bP p = true := bP_iff.2 h
theorem bP_neg {p : Prop} (h : ¬ p) : bP p = false := by
  cases hb : bP p
  · rfl
  · exact absurd (bP_iff.1 hb) h
theorem bP_congr {p q : Prop} (h : p ↔ q) : bP p = bP q := by rw [propext h]
theorem bP_dec (p : Prop) [Decidable p] : decide p = bP p := by
  by_cases h : p
  · rw [bP_pos h, decide_eq_true h]
  · rw [bP_neg h, decide_eq_false h]
theorem Ev_eq {α : Type} {g : Nat → Option α} {r s : α} (h : Ev g r) (e : r = s) : Ev g s := e ▸ h
theorem Ev_ifpos {α : Type} {c : Prop} [Decidable c] {g f : Nat → Option α} {r : α} (h : c) (k : Ev g r) : Ev (fun n => if c then g n else f n) r := by
  simpa only [if_pos h] using k
theorem Ev_ifneg {α : Type} {c : Prop} [Decidable c] {g f : Nat → Option α} {r : α} (h : ¬ c) (k : Ev f r) : Ev (fun n => if c then g n else f n) r := by
  simpa only [if_neg h] using k
theorem Ev_some {α β : Type} {g : Option α} {f : Nat → α → Option β} {a : α} {r : β} (h : g = some a) (k : Ev (fun n => f n a) r) : Ev (fun n => g.bind (f n)) r := by
  simpa only [h, Option.bind_some] using k
theorem Ev_ofk {α : Type} {r : α} {g : Option α} (h : g = some r) : Ev (fun _ => g) r := ⟨0, fun _ _ => h⟩
def upFrom : Int → Nat → List Int
  | _, 0 => []
  | v, n + 1 => v :: upFrom (v + 1) n
theorem upFrom_length : ∀ n v, (upFrom v n).length = n
  | 0, _ => rfl
  | n + 1, v => by simp [upFrom, upFrom_length n]
def pos (a : Int) : List Int → Int → Int
  | [], _ => -1
  | x :: xs, i => if x = a then i else pos a xs (i + 1)
theorem pos_spec (a : Int) : ∀ (l : List Int) (i : Int), 0 ≤ i → (a ∈ l → i ≤ pos a l i ∧ pos a l i < i + l.length) ∧ (a ∉ l → pos a l i = -1)
  | [], i, _ => by simp [pos]
  | x :: xs, i, hi => by
    have ih := pos_spec a xs (i + 1) (by omega)
    unfold pos
    by_cases hx : x = a
    · rw [if_pos hx]
      refine ⟨fun _ => ⟨Int.le_refl _, by simp only [List.length_cons]; omega⟩, fun h => absurd (by rw [hx]; exact List.mem_cons_self) h⟩
    · rw [if_neg hx]
      refine ⟨fun h => ?_, fun h => ih.2 (fun h' => h (List.mem_cons_of_mem _ h'))⟩
      have h' : a ∈ xs := by
        rcases List.mem_cons.1 h with h | h
        · exact absurd h.symm hx
        · exact h
      have := ih.1 h'
      simp only [List.length_cons]
      omega
theorem pos_mem (a : Int) (l : List Int) : (0 ≤ pos a l 0) ↔ a ∈ l := by
  have h := pos_spec a l 0 (by omega)
  constructor
  · intro h0
    by_cases hm : a ∈ l
    · exact hm
    · have := h.2 hm; omega
  · intro hm
    exact (h.1 hm).1
theorem l1In_eq (a b c : Int) : spec_l1In.f a b c = some (bP (b ≤ a ∧ a ≤ c)) := by
  simp only [spec_l1In.f]
  by_cases h : a ≥ b
  · rw [if_pos h, bP_dec, bP_congr (show (a ≤ c) ↔ (b ≤ a ∧ a ≤ c) by omega)]
  · rw [if_neg h, bP_neg (by omega)]
theorem within_eq (a b c : Int) : impl_within.f a b c = some (bP (b ≤ a ∧ a ≤ c)) := by
  simp only [impl_within.f]
  by_cases h : a ≥ b
  · rw [if_pos h, bP_dec, bP_congr (show (a ≤ c) ↔ (b ≤ a ∧ a ≤ c) by omega)]
  · rw [if_neg h, bP_neg (by omega)]

end Go.Proofs.Ytalehmhjddnmoaa.Q
