/- Plain laws of what the printed functions compute, the program's and the reference's, for every number and list; conditions: those of each theorem. -/
import Derived.Test.YtghmhekjdjdleaaZx3
import Derived.Test.YtghmhekjdjdleaaZx4
import Derived.Test.YtghmhekjdjdleaaZx5
import Derived.Test.YtghmhekjdjdleaaZx6
import Derived.Test.YtghmhekjdjdleaaZx7
import Derived.Test.YtghmhekjdjdleaaZx9
import Derived.Test.YtghmhekjdjdleaaZx11
import Derived.Test.YtghmhekjdjdleaaZx13
import Derived.Test.YtghmhekjdjdleaaZx15
import Derived.Test.YtghmhekjdjdleaaZx18
import Derived.Test.YtghmhekjdjdleaaZx25
import Derived.Test.YtghmhekjdjdleaaZx27
import Derived.Test.YtghmhekjdjdleaaZx28
import Derived.Test.YtghmhekjdjdleaaZx29
import Derived.Test.YtghmhekjdjdleaaZx30
import Derived.Test.YtghmhekjdjdleaaZx31
import Derived.Test.YtghmhekjdjdleaaZx33
import Derived.Test.YtghmhekjdjdleaaZx34
import Derived.Test.YtghmhekjdjdleaaZx35
import Derived.Test.YtghmhekjdjdleaaZx38
import Derived.Test.YtghmhekjdjdleaaZx39
import Derived.Test.YtghmhekjdjdleaaZx40
import Derived.Test.YtghmhekjdjdleaaZx41
import Derived.Test.YtghmhekjdjdleaaZx42
import Derived.Test.YtghmhekjdjdleaaZx43
import Derived.Test.YtghmhekjdjdleaaZx46
namespace Go.Proofs.Ytghmhekjdjdleaa.Q
open Go.RowKit Go.Proofs.Ytghmhekjdjdleaa.Z Go.Proofs.YtghmhekjdjdleaaW.PrintWords Go.Proofs.YtghmhekjdjdleaaW.PrintLast Go.Proofs.YtghmhekjdjdleaaW.PrintMore
set_option linter.unusedVariables false
set_option linter.unusedSimpArgs false
theorem w64 {x : Int} (h0 : -9223372036854775808 ≤ x) (h1 : x ≤ 9223372036854775807) : wrap64 x = x := by unfold wrap64; omega
theorem w64n {n m : Nat} (h : n < m) (hm : m ≤ 9223372036854775807) : wrap64 ((n : Int) + 1) = ((n + 1 : Nat) : Int) := by rw [w64 (by omega) (by omega)]; omega
theorem rd_nat (l : List Int) (n : Nat) : rd l (n : Int) = l.getD n 0 := by simp [rd]
theorem drop_cons {α : Type} (d : α) (l : List α) (n : Nat) (h : n < l.length) : l.drop n = l.getD n d :: l.drop (n + 1) := by
  rw [List.drop_eq_getElem_cons h, List.getD_eq_getElem?_getD, List.getElem?_eq_getElem h]; rfl
noncomputable def bP (p : Prop) : Bool := @decide p (Classical.propDecidable p)
theorem bP_iff {p : Prop} : bP p = true ↔ p := by simp [bP]
theorem bP_pos {p : Prop} (h : p) : bP p = true := bP_iff.2 h
theorem bP_neg {p : Prop} (h : ¬ p) : bP p = false := by
  cases hb : bP p
  · rfl
  · exact absurd (bP_iff.1 hb) h
theorem bP_congr {p q : Prop} (h : p ↔ q) : bP p = bP q := by rw [propext h]
theorem bP_dec (p : Prop) [Decidable p] : decide p = bP p := by
  by_cases h : p
  · rw [bP_pos h, decide_eq_true h]
  · rw [bP_neg h, decide_eq_false h]
theorem Ev_eq {α : Type} {g : Nat → Option α} {r s : α} (h : Ev g r) (e : r = s) : Ev g s := e ▸ h
theorem Ev_ifpos {α : Type} {c : Prop} [Decidable c] {g f : Nat → Option α} {r : α} (h : c) (k : Ev g r) : Ev (fun n => if c then g n else f n) r := by
  simpa only [if_pos h] using k
theorem Ev_ifneg {α : Type} {c : Prop} [Decidable c] {g f : Nat → Option α} {r : α} (h : ¬ c) (k : Ev f r) : Ev (fun n => if c then g n else f n) r := by
  simpa only [if_neg h] using k
theorem Ev_some {α β : Type} {g : Option α} {f : Nat → α → Option β} {a : α} {r : β} (h : g = some a) (k : Ev (fun n => f n a) r) : Ev (fun n => g.bind (f n)) r := by
  simpa only [h, Option.bind_some] using k
def pos (a : Int) : List Int → Int → Int
  | [], _ => -1
  | x :: xs, i => if x = a then i else pos a xs (i + 1)
theorem pos_spec (a : Int) : ∀ (l : List Int) (i : Int), 0 ≤ i → (a ∈ l → i ≤ pos a l i ∧ pos a l i < i + l.length) ∧ (a ∉ l → pos a l i = -1)
  | [], i, _ => by simp [pos]
  | x :: xs, i, hi => by
    have ih := pos_spec a xs (i + 1) (by omega)
    unfold pos
    by_cases hx : x = a
    · rw [if_pos hx]
      refine ⟨fun _ => ⟨Int.le_refl _, by simp only [List.length_cons]; omega⟩, fun h => absurd (by rw [hx]; exact List.mem_cons_self) h⟩
    · rw [if_neg hx]
      refine ⟨fun h => ?_, fun h => ih.2 (fun h' => h (List.mem_cons_of_mem _ h'))⟩
      have h' : a ∈ xs := by
        rcases List.mem_cons.1 h with h | h
        · exact absurd h.symm hx
        · exact h
      have := ih.1 h'
      simp only [List.length_cons]
      omega
theorem pos_mem (a : Int) (l : List Int) : (0 ≤ pos a l 0) ↔ a ∈ l := by
  have h := pos_spec a l 0 (by omega)
  constructor
  · intro h0
    by_cases hm : a ∈ l
    · exact hm
    · have := h.2 hm; omega
  · intro hm
    exact (h.1 hm).1
theorem Index_l (l : List Int) (a : Int) (hl : l.length ≤ 9223372036854775807) : ∀ d n : Nat, n + d = l.length → Ev (fun k => slices_Index_int_int.l0 k l a (l.length : Int) n) (pos a (l.drop n) n)
  | 0, n, hd => by
    refine Ev.step (fun _ => rfl) ?_
    simp only [slices_Index_int_int.l0, if_neg (show ¬ (n : Int) < (l.length : Int) by omega)]
    rw [List.drop_eq_nil_of_le (by omega)]
    exact Ev.now _
  | d + 1, n, hd => by
    refine Ev.step (fun _ => rfl) ?_
    simp only [slices_Index_int_int.l0, if_pos (show (n : Int) < (l.length : Int) by omega), if_pos (show (0 : Int) ≤ (n : Int) by omega), w64n (show n < l.length by omega) hl, rd_nat]
    rw [drop_cons 0 l n (by omega)]
    by_cases h : a = l.getD n 0
    · simp only [if_pos h]
      refine Ev_eq (Ev.now _) ?_
      simp only [pos]
      rw [if_pos h.symm]
    · simp only [if_neg h]
      refine Ev_eq (Index_l l a hl d (n + 1) (by omega)) ?_
      simp only [pos]
      rw [if_neg (fun e => h e.symm)]
      rw [show ((n + 1 : Nat) : Int) = (n : Int) + 1 by omega]
theorem Index_ev (l : List Int) (a : Int) (hl : l.length ≤ 9223372036854775807) : Ev (fun k => slices_Index_int_int.f k l a) (pos a l 0) := by
  simp only [slices_Index_int_int.f]
  exact Index_l l a hl l.length 0 (by omega)
theorem Contains_ev (l : List Int) (a : Int) (hl : l.length ≤ 9223372036854775807) : Ev (fun k => slices_Contains_int_int.f k l a) (bP (a ∈ l)) := by
  simp only [slices_Contains_int_int.f]
  refine Ev.bind (Index_ev l a hl) ?_
  refine Ev_eq (Ev.now _) ?_
  rw [bP_dec]
  exact bP_congr (pos_mem a l)
theorem l1In_eq (a b c : Int) : spec_l1In.f a b c = some (bP (b ≤ a ∧ a ≤ c)) := by
  simp only [spec_l1In.f]
  by_cases h : a ≥ b
  · rw [if_pos h, bP_dec, bP_congr (show (a ≤ c) ↔ (b ≤ a ∧ a ≤ c) by omega)]
  · rw [if_neg h, bP_neg (by omega)]
theorem within_eq (a b c : Int) : impl_within.f a b c = some (bP (b ≤ a ∧ a ≤ c)) := by
  simp only [impl_within.f]
  by_cases h : a ≥ b
  · rw [if_pos h, bP_dec, bP_congr (show (a ≤ c) ↔ (b ≤ a ∧ a ≤ c) by omega)]
  · rw [if_neg h, bP_neg (by omega)]
theorem l2Has_l (l : List Int) (a : Int) (hl : l.length ≤ 9223372036854775807) : ∀ d n : Nat, n + d = l.length → Ev (fun k => spec_l2Has.l0 k l a n) (bP (a ∈ l.drop n))
  | 0, n, hd => by
    refine Ev.step (fun _ => rfl) ?_
    simp only [spec_l2Has.l0, if_neg (show ¬ (n : Int) < (l.length : Int) by omega)]
    rw [List.drop_eq_nil_of_le (by omega), bP_neg (by simp)]
    exact Ev.now _
  | d + 1, n, hd => by
    refine Ev.step (fun _ => rfl) ?_
    simp only [spec_l2Has.l0, if_pos (show (n : Int) < (l.length : Int) by omega), if_pos (show (0 : Int) ≤ (n : Int) by omega), w64n (show n < l.length by omega) hl, rd_nat]
    rw [drop_cons 0 l n (by omega)]
    by_cases h : l.getD n 0 = a
    · simp only [if_pos h]
      rw [bP_pos (by rw [h]; exact List.mem_cons_self)]
      exact Ev.now _
    · simp only [if_neg h]
      refine Ev_eq (l2Has_l l a hl d (n + 1) (by omega)) (bP_congr ?_)
      rw [List.mem_cons]
      exact ⟨.inr, fun h' => h'.resolve_left (fun e => h e.symm)⟩
theorem l2Has_ev (l : List Int) (a : Int) (hl : l.length ≤ 9223372036854775807) : Ev (fun k => spec_l2Has.f k l a) (bP (a ∈ l)) := by
  simp only [spec_l2Has.f]
  exact l2Has_l l a hl l.length 0 (by omega)
theorem l2Copy_eq (l : List Int) (hl : l.length < 17592186044416) : spec_l2Copy.f l = some l := by
  simp only [spec_l2Copy.f, Option.bind_some, List.length_nil, Nat.zero_add, if_pos hl, List.nil_append]
theorem Clone_eq (l : List Int) (hl : l.length < 17592186044416) : slices_Clone_int_int.f l = some l := by
  simp only [slices_Clone_int_int.f, Option.bind_some, List.length_nil, Nat.zero_add, if_pos hl, List.nil_append]
theorem CloneB_eq (l : List Bool) (hl : l.length < 140737488355328) : slices_Clone_bool_bool.f l = some l := by
  simp only [slices_Clone_bool_bool.f, Option.bind_some, List.length_nil, Nat.zero_add, if_pos hl, List.nil_append]
def tokFrom (p : List Int) (o : List Bool) (n : Nat) : Prop := ∀ i, n ≤ i → i < p.length → (-1 ≤ p.getD i 0 ∧ p.getD i 0 ≤ (i : Int) - 1) ∧ (0 ≤ p.getD i 0 → o.getD (p.getD i 0).toNat false = true → o.getD i false = true)
def tokOk (p : List Int) (o : List Bool) : Prop := p.length = o.length ∧ p.length ≤ 24 ∧ tokFrom p o 0
theorem tokFrom_step (p : List Int) (o : List Bool) (n : Nat) (h : n < p.length) : tokFrom p o n ↔ ((-1 ≤ p.getD n 0 ∧ p.getD n 0 ≤ (n : Int) - 1) ∧ (0 ≤ p.getD n 0 → o.getD (p.getD n 0).toNat false = true → o.getD n false = true)) ∧ tokFrom p o (n + 1) := by
  constructor
  · intro hf
    exact ⟨hf n (Nat.le_refl _) h, fun i hi => hf i (by omega)⟩
  · rintro ⟨h0, hf⟩ i hi hl
    rcases Nat.eq_or_lt_of_le hi with rfl | hlt
    · exact h0
    · exact hf i hlt hl
theorem rdOf_int {α : Type} (d : α) (l : List α) (i : Int) : rdOf d l i = l.getD i.toNat d := rfl
theorem specTok_l (p : List Int) (o : List Bool) (hl : p.length ≤ 24) (he : p.length = o.length) : ∀ d n : Nat, n + d = p.length → Ev (fun k => spec_TokensOk.l0 k n p o) (bP (tokFrom p o n))
  | 0, n, hn => by
    refine Ev.step (fun _ => rfl) ?_
    simp only [spec_TokensOk.l0, if_neg (show ¬ (n : Int) < (p.length : Int) by omega)]
    rw [bP_pos (show tokFrom p o n from fun i hi hl => by omega)]
    exact Ev.now _
  | d + 1, n, hn => by
    have ih := specTok_l p o hl he d (n + 1) (by omega)
    refine Ev.step (fun _ => rfl) ?_
    simp only [spec_TokensOk.l0, if_pos (show (n : Int) < (p.length : Int) by omega), if_pos (show (n : Int) < (o.length : Int) by omega), if_pos (show (0 : Int) ≤ (n : Int) by omega), w64n (show n < p.length by omega) (by omega), rd_nat, rdOf_int, Int.toNat_natCast, w64 (show -9223372036854775808 ≤ (n : Int) - 1 by omega) (show (n : Int) - 1 ≤ 9223372036854775807 by omega), l1In_eq, Option.bind_some]
    rw [bP_congr (tokFrom_step p o n (by omega))]
    by_cases h1 : -1 ≤ p.getD n 0 ∧ p.getD n 0 ≤ (n : Int) - 1
    · simp only [bP_pos h1, if_true]
      by_cases h2 : p.getD n 0 ≥ 0
      · simp only [if_pos h2, if_pos (show (0 : Int) ≤ p.getD n 0 from h2), if_pos (show p.getD n 0 < (o.length : Int) by omega)]
        by_cases h3 : o.getD (p.getD n 0).toNat false = true
        · simp only [if_pos h3]
          by_cases h4 : o.getD n false = true
          · simp only [if_pos h4]
            exact Ev_eq ih (bP_congr ⟨fun h => ⟨⟨h1, fun _ _ => h4⟩, h⟩, fun h => h.2⟩)
          · simp only [if_neg h4]
            rw [bP_neg (fun h => h4 (h.1.2 h2 h3))]
            exact Ev.now _
        · simp only [if_neg h3]
          exact Ev_eq ih (bP_congr ⟨fun h => ⟨⟨h1, fun _ h' => absurd h' h3⟩, h⟩, fun h => h.2⟩)
      · simp only [if_neg h2]
        exact Ev_eq ih (bP_congr ⟨fun h => ⟨⟨h1, fun h' => absurd h' (by omega)⟩, h⟩, fun h => h.2⟩)
    · simp only [bP_neg h1, if_neg (show ¬ (false = true) by decide)]
      rw [bP_neg (fun h => h1 h.1.1)]
      exact Ev.now _
theorem specTok_ev (p : List Int) (o : List Bool) : Ev (fun k => spec_TokensOk.f k p o) (bP (tokOk p o)) := by
  simp only [spec_TokensOk.f]
  by_cases h : (p.length : Int) = (o.length : Int)
  · refine Ev_ifpos h ?_
    refine Ev.step (fun _ => rfl) ?_
    simp only [spec_TokensOk.j0]
    by_cases h2 : (p.length : Int) > 24
    · refine Ev_ifpos (by simpa using h2) ?_
      rw [bP_neg (fun h3 => by have := h3.2.1; omega)]
      exact Ev.now _
    · refine Ev_ifneg (by simpa using h2) ?_
      exact Ev_eq (specTok_l p o (by omega) (by omega) p.length 0 (by omega)) (bP_congr ⟨fun h3 => ⟨by omega, by omega, h3⟩, fun h3 => h3.2.2⟩)
  · refine Ev_ifneg h ?_
    refine Ev.step (fun _ => rfl) ?_
    simp only [spec_TokensOk.j0, if_true]
    rw [bP_neg (fun h3 => by have := h3.1; omega)]
    exact Ev.now _
theorem implTok_l (p : List Int) (o : List Bool) (hl : p.length ≤ 24) (he : p.length = o.length) : ∀ d n : Nat, n + d = p.length → Ev (fun k => impl_TokensOk.l0 k p (p.length : Int) n p o) (bP (tokFrom p o n))
  | 0, n, hn => by
    refine Ev.step (fun _ => rfl) ?_
    simp only [impl_TokensOk.l0, if_neg (show ¬ (n : Int) < (p.length : Int) by omega)]
    rw [bP_pos (show tokFrom p o n from fun i hi hl => by omega)]
    exact Ev.now _
  | d + 1, n, hn => by
    have ih := implTok_l p o hl he d (n + 1) (by omega)
    refine Ev.step (fun _ => rfl) ?_
    simp only [impl_TokensOk.l0, if_pos (show (n : Int) < (p.length : Int) by omega), if_pos (show (n : Int) < (o.length : Int) by omega), if_pos (show (0 : Int) ≤ (n : Int) by omega), w64n (show n < p.length by omega) (by omega), rd_nat, rdOf_int, Int.toNat_natCast, w64 (show -9223372036854775808 ≤ (n : Int) - 1 by omega) (show (n : Int) - 1 ≤ 9223372036854775807 by omega), within_eq, Option.bind_some]
    rw [bP_congr (tokFrom_step p o n (by omega))]
    by_cases h1 : -1 ≤ p.getD n 0 ∧ p.getD n 0 ≤ (n : Int) - 1
    · simp only [bP_pos h1, if_true]
      by_cases h2 : p.getD n 0 ≥ 0
      · simp only [if_pos h2, if_pos (show (0 : Int) ≤ p.getD n 0 from h2), if_pos (show p.getD n 0 < (o.length : Int) by omega)]
        by_cases h3 : o.getD (p.getD n 0).toNat false = true
        · simp only [if_pos h3]
          by_cases h4 : o.getD n false = true
          · simp only [if_pos h4]
            exact Ev_eq ih (bP_congr ⟨fun h => ⟨⟨h1, fun _ _ => h4⟩, h⟩, fun h => h.2⟩)
          · simp only [if_neg h4]
            rw [bP_neg (fun h => h4 (h.1.2 h2 h3))]
            exact Ev.now _
        · simp only [if_neg h3]
          exact Ev_eq ih (bP_congr ⟨fun h => ⟨⟨h1, fun _ h' => absurd h' h3⟩, h⟩, fun h => h.2⟩)
      · simp only [if_neg h2]
        exact Ev_eq ih (bP_congr ⟨fun h => ⟨⟨h1, fun h' => absurd h' (by omega)⟩, h⟩, fun h => h.2⟩)
    · simp only [bP_neg h1, if_neg (show ¬ (false = true) by decide)]
      rw [bP_neg (fun h => h1 h.1.1)]
      exact Ev.now _
theorem implTok_ev (p : List Int) (o : List Bool) : Ev (fun k => impl_TokensOk.f k p o) (bP (tokOk p o)) := by
  simp only [impl_TokensOk.f]
  by_cases h : (p.length : Int) = (o.length : Int)
  · refine Ev_ifpos h ?_
    refine Ev.step (fun _ => rfl) ?_
    simp only [impl_TokensOk.j0]
    by_cases h2 : (p.length : Int) > 24
    · refine Ev_ifpos (by simpa using h2) ?_
      rw [bP_neg (fun h3 => by have := h3.2.1; omega)]
      exact Ev.now _
    · refine Ev_ifneg (by simpa using h2) ?_
      exact Ev_eq (implTok_l p o (by omega) (by omega) p.length 0 (by omega)) (bP_congr ⟨fun h3 => ⟨by omega, by omega, h3⟩, fun h3 => h3.2.2⟩)
  · refine Ev_ifneg h ?_
    refine Ev.step (fun _ => rfl) ?_
    simp only [impl_TokensOk.j0, if_true]
    rw [bP_neg (fun h3 => by have := h3.1; omega)]
    exact Ev.now _
theorem specIsOff_ev (p : List Int) (o : List Bool) (a : Int) : Ev (fun k => spec_IsOff.f k p o a) (bP (tokOk p o ∧ 0 ≤ a ∧ o.getD a.toNat false = true ∧ a < p.length)) := by
  simp only [spec_IsOff.f]
  refine Ev.bind (specTok_ev p o) ?_
  by_cases h1 : tokOk p o
  · have he := h1.1
    have hl := h1.2.1
    simp only [bP_pos h1, if_true, l1In_eq, Option.bind_some, w64 (show -9223372036854775808 ≤ (p.length : Int) - 1 by omega) (show (p.length : Int) - 1 ≤ 9223372036854775807 by omega)]
    by_cases h2 : 0 ≤ a ∧ a ≤ (p.length : Int) - 1
    · simp only [bP_pos h2, if_true, if_pos h2.1, if_pos (show a < (o.length : Int) by omega)]
      refine Ev_eq (Ev.now _) ?_
      rw [rdOf_int]
      cases hb : o.getD a.toNat false
      · rw [bP_neg (by simp)]
      · rw [bP_pos ⟨h1, h2.1, rfl, by omega⟩]
    · simp only [bP_neg h2, if_neg (show ¬ (false = true) by decide)]
      rw [bP_neg (fun h => h2 ⟨h.2.1, by omega⟩)]
      exact Ev.now _
  · simp only [bP_neg h1, if_neg (show ¬ (false = true) by decide)]
    rw [bP_neg (fun h => h1 h.1)]
    exact Ev.now _
theorem isToken_eq (p : List Int) (o : List Bool) (a : Int) (hl : p.length ≤ 1048577) : impl_isToken.f p o a = some (bP (0 ≤ a ∧ a ≤ (p.length : Int) - 1)) := by
  simp only [impl_isToken.f, within_eq, Option.bind_some, w64 (show -9223372036854775808 ≤ (p.length : Int) - 1 by omega) (show (p.length : Int) - 1 ≤ 9223372036854775807 by omega)]
theorem implIsOff_ev (p : List Int) (o : List Bool) (a : Int) : Ev (fun k => impl_IsOff.f k p o a) (bP (tokOk p o ∧ 0 ≤ a ∧ o.getD a.toNat false = true ∧ a < p.length)) := by
  simp only [impl_IsOff.f]
  refine Ev.bind (implTok_ev p o) ?_
  by_cases h1 : tokOk p o
  · have he := h1.1
    have hl := h1.2.1
    simp only [bP_pos h1, if_true, isToken_eq p o a (by omega), Option.bind_some]
    by_cases h2 : 0 ≤ a ∧ a ≤ (p.length : Int) - 1
    · simp only [bP_pos h2, if_true, if_pos h2.1, if_pos (show a < (o.length : Int) by omega)]
      refine Ev_eq (Ev.now _) ?_
      rw [rdOf_int]
      cases hb : o.getD a.toNat false
      · rw [bP_neg (by simp)]
      · rw [bP_pos ⟨h1, h2.1, rfl, by omega⟩]
    · simp only [bP_neg h2, if_neg (show ¬ (false = true) by decide)]
      rw [bP_neg (fun h => h2 ⟨h.2.1, by omega⟩)]
      exact Ev.now _
  · simp only [bP_neg h1, if_neg (show ¬ (false = true) by decide)]
    rw [bP_neg (fun h => h1 h.1)]
    exact Ev.now _
def undFrom (p : List Int) (t : Int) : List Int → Nat → Nat → List Int
  | acc, _, 0 => acc
  | acc, n, d + 1 => undFrom p t (if (n : Int) = t ∨ p.getD n 0 ∈ acc then acc ++ [(n : Int)] else acc) (n + 1) d
theorem undFrom_len (p : List Int) (t : Int) : ∀ d n acc, (undFrom p t acc n d).length ≤ acc.length + d
  | 0, _, acc => by simp [undFrom]
  | d + 1, n, acc => by
    simp only [undFrom]
    have := undFrom_len p t d (n + 1) (if (n : Int) = t ∨ p.getD n 0 ∈ acc then acc ++ [(n : Int)] else acc)
    split at this <;> rename_i hc
    · rw [if_pos hc]; simp at this ⊢; omega
    · rw [if_neg hc]; omega
theorem undFrom_mem (p : List Int) (t : Int) : ∀ d n acc, (∀ x ∈ acc, 0 ≤ x ∧ x < ((n + d : Nat) : Int)) → ∀ x ∈ undFrom p t acc n d, 0 ≤ x ∧ x < ((n + d : Nat) : Int)
  | 0, n, acc, h => by simpa [undFrom] using h
  | d + 1, n, acc, h => by
    simp only [undFrom]
    have := undFrom_mem p t d (n + 1) (if (n : Int) = t ∨ p.getD n 0 ∈ acc then acc ++ [(n : Int)] else acc) ?_
    · intro x hx
      have := this x hx
      omega
    · intro x hx
      split at hx
      · rcases List.mem_append.1 hx with hx | hx
        · have := h x hx; omega
        · simp at hx; omega
      · have := h x hx; omega
theorem undFrom_skip (p : List Int) (t : Int) : ∀ d n m, n + d = m → (∀ i : Nat, n ≤ i → i < m → (i : Int) ≠ t) → ∀ e, undFrom p t [] n (d + e) = undFrom p t [] m e
  | 0, n, m, h, _, e => by
    obtain rfl : n = m := by omega
    simp
  | d + 1, n, m, h, hi, e => by
    rw [show d + 1 + e = (d + e) + 1 by omega]
    simp only [undFrom]
    rw [if_neg (by simp; exact hi n (Nat.le_refl _) (by omega))]
    exact undFrom_skip p t d (n + 1) m (by omega) (fun i h1 h2 => hi i (by omega) h2) e
theorem specUnder_l (p : List Int) (o : List Bool) (t : Int) (hl : p.length ≤ 1048576) : ∀ d n : Nat, n + d = p.length → ∀ acc : List Int, acc.length ≤ n → Ev (fun k => spec_Under.l0 k t acc n p o) (undFrom p t acc n d)
  | 0, n, hn, acc, ha => by
    refine Ev.step (fun _ => rfl) ?_
    simp only [spec_Under.l0, if_neg (show ¬ (n : Int) < (p.length : Int) by omega), undFrom]
    exact Ev.now _
  | d + 1, n, hn, acc, ha => by
    refine Ev.step (fun _ => rfl) ?_
    simp only [spec_Under.l0, if_pos (show (n : Int) < (p.length : Int) by omega), if_pos (show (0 : Int) ≤ (n : Int) by omega), w64n (show n < p.length by omega) (by omega), rd_nat, undFrom, if_pos (show acc.length < 17592186044416 by omega)]
    by_cases h1 : (n : Int) = t
    · simp only [if_pos h1, if_pos (show (n : Int) = t ∨ p.getD n 0 ∈ acc from .inl h1)]
      exact specUnder_l p o t hl d (n + 1) (by omega) _ (by simp; omega)
    · simp only [if_neg h1]
      refine Ev.bind (l2Has_ev acc (p.getD n 0) (by omega)) ?_
      by_cases h2 : p.getD n 0 ∈ acc
      · simp only [bP_pos h2, if_true, if_pos (show (n : Int) = t ∨ p.getD n 0 ∈ acc from .inr h2)]
        exact specUnder_l p o t hl d (n + 1) (by omega) _ (by simp; omega)
      · simp only [bP_neg h2, if_neg (show ¬ (false = true) by decide), if_neg (show ¬ ((n : Int) = t ∨ p.getD n 0 ∈ acc) from fun h => h.elim h1 h2)]
        exact specUnder_l p o t hl d (n + 1) (by omega) _ (by omega)
theorem implUnder_l (p : List Int) (t : Int) (hl : p.length ≤ 1048576) : ∀ d n : Nat, n + d = p.length → ∀ acc : List Int, acc.length ≤ n → Ev (fun k => impl_under.l0 k t acc p (p.length : Int) n) (undFrom p t acc n d)
  | 0, n, hn, acc, ha => by
    refine Ev.step (fun _ => rfl) ?_
    simp only [impl_under.l0, if_neg (show ¬ (n : Int) < (p.length : Int) by omega), undFrom]
    exact Ev.now _
  | d + 1, n, hn, acc, ha => by
    refine Ev.step (fun _ => rfl) ?_
    simp only [impl_under.l0, if_pos (show (n : Int) < (p.length : Int) by omega), if_pos (show (0 : Int) ≤ (n : Int) by omega), w64n (show n < p.length by omega) (by omega), rd_nat, undFrom, if_pos (show acc.length < 17592186044416 by omega)]
    by_cases h1 : (n : Int) = t
    · simp only [if_pos h1, if_pos (show (n : Int) = t ∨ p.getD n 0 ∈ acc from .inl h1)]
      exact implUnder_l p t hl d (n + 1) (by omega) _ (by simp; omega)
    · simp only [if_neg h1]
      refine Ev.bind (Contains_ev acc (p.getD n 0) (by omega)) ?_
      by_cases h2 : p.getD n 0 ∈ acc
      · simp only [bP_pos h2, if_true, if_pos (show (n : Int) = t ∨ p.getD n 0 ∈ acc from .inr h2)]
        exact implUnder_l p t hl d (n + 1) (by omega) _ (by simp; omega)
      · simp only [bP_neg h2, if_neg (show ¬ (false = true) by decide), if_neg (show ¬ ((n : Int) = t ∨ p.getD n 0 ∈ acc) from fun h => h.elim h1 h2)]
        exact implUnder_l p t hl d (n + 1) (by omega) _ (by omega)
def undR (p : List Int) (t : Int) : List Int := undFrom p t [] 0 p.length
theorem undR_len (p : List Int) (t : Int) : (undR p t).length ≤ p.length := by
  have := undFrom_len p t p.length 0 []
  simpa [undR] using this
theorem undR_mem (p : List Int) (t : Int) : ∀ x ∈ undR p t, 0 ≤ x ∧ x < (p.length : Int) := by
  have := undFrom_mem p t p.length 0 [] (by simp)
  simpa [undR] using this
theorem implunder_ev (p : List Int) (o : List Bool) (t : Int) (hl : p.length ≤ 1048576) : Ev (fun k => impl_under.f k p o t) (undR p t) := by
  simp only [impl_under.f]
  exact implUnder_l p t hl p.length 0 (by omega) [] (by simp)
theorem specUnder_ev (p : List Int) (o : List Bool) (t : Int) (h1 : tokOk p o) (h2 : 0 ≤ t ∧ t ≤ (p.length : Int) - 1) : Ev (fun k => spec_Under.f k p o t) (undR p t) := by
  have hl := h1.2.1
  simp only [spec_Under.f, Option.bind_some]
  refine Ev.bind (specTok_ev p o) ?_
  simp only [bP_pos h1, if_true, l1In_eq, Option.bind_some, w64 (show -9223372036854775808 ≤ (p.length : Int) - 1 by omega) (show (p.length : Int) - 1 ≤ 9223372036854775807 by omega), bP_pos h2, Bool.not_true]
  refine Ev.step (fun _ => rfl) ?_
  simp only [spec_Under.j0, if_neg (show ¬ (false = true) by decide)]
  obtain ⟨m, rfl⟩ : ∃ m : Nat, t = (m : Int) := ⟨t.toNat, by omega⟩
  refine Ev_eq (specUnder_l p o m (by omega) (p.length - m) m (by omega) [] (by simp)) ?_
  have := undFrom_skip p m m 0 m (by omega) (fun i _ hi => by omega) (p.length - m)
  rw [← this, undR]
  congr 1
  omega
theorem l3Copy_eq (p : List Int) (o : List Bool) (hp : p.length < 17592186044416) (ho : o.length < 140737488355328) : spec_l3Copy.f p o = some (p, o) := by
  simp only [spec_l3Copy.f, l2Copy_eq p hp, Option.bind_some, List.length_nil, Nat.zero_add, if_pos ho, List.nil_append]
theorem copyTokens_eq (p : List Int) (o : List Bool) (hp : p.length < 17592186044416) (ho : o.length < 140737488355328) : impl_copyTokens.f p o = some (p, o) := by
  simp only [impl_copyTokens.f, Clone_eq p hp, CloneB_eq o ho, Option.bind_some]
theorem both_NewToken (p : List Int) (o : List Bool) (a : Int) (hp : p.length ≤ 1048576) (ho : o.length ≤ 1048576) : ∃ r : List Int × List Bool × Int × Int, Ev (fun k => spec_NewToken.f k p o a) r ∧ Ev (fun k => impl_NewToken.f k p o a) r ∧ r.1.length ≤ 1048577 ∧ r.2.1.length ≤ 1048577 ∧
    ((¬ (tokOk p o ∧ -1 ≤ a ∧ a < p.length) ∧ r = (p, o, -1, 1)) ∨ (tokOk p o ∧ -1 ≤ a ∧ a < p.length ∧ ((p.length = 24 ∧ r = (p, o, -1, 2)) ∨ (p.length < 24 ∧ r = (p ++ [a], o ++ [if a ≥ 0 then o.getD a.toNat false else false], (p.length : Int), 0))))) := by
  by_cases h1 : tokOk p o
  · have he := h1.1
    have hl := h1.2.1
    by_cases h2 : -1 ≤ a ∧ a ≤ (p.length : Int) - 1
    · by_cases h3 : p.length = 24
      · refine ⟨(p, o, -1, 2), ?_, ?_, by show p.length ≤ _; omega, by show o.length ≤ _; omega, .inr ⟨h1, by omega, by omega, .inl ⟨h3, rfl⟩⟩⟩
        · simp only [spec_NewToken.f, w64 (show -9223372036854775808 ≤ (p.length : Int) - 1 by omega) (show (p.length : Int) - 1 ≤ 9223372036854775807 by omega)]
          repeat (first
            | (dsimp only)
            | (with_reducible exact Ev.now _)
            | (simp only [bP_pos h1, bP_pos h2, if_true, Bool.not_true, Bool.not_false])
            | (with_reducible refine Ev.bind (specTok_ev _ _) ?_)
            | (with_reducible refine Ev_some (l1In_eq _ _ _) ?_)
            | (with_reducible refine Ev_some (l3Copy_eq _ _ (by omega) (by omega)) ?_)
            | (refine Ev_ifpos (by first | rfl | omega | (simp; omega)) ?_)
            | (refine Ev_ifneg (by first | omega | decide | (simp; omega)) ?_)
            | (refine Ev_ifneg (by simp only [bne_self_eq_false]; decide) ?_)
            | (refine Ev_ifpos (by simp) ?_)
            | (refine Ev_ifneg (by simp) ?_)
            | (refine Ev.step (fun _ => rfl) ?_; simp only [spec_NewToken.j0]))
        · simp only [impl_NewToken.f]
          by_cases h4 : a = -1
          · skip
            repeat (first
              | (dsimp only)
              | (with_reducible exact Ev.now _)
              | (simp only [bP_pos h1, if_true, Bool.not_true, Bool.not_false])
              | (with_reducible refine Ev.bind (implTok_ev _ _) ?_)
              | (with_reducible refine Ev_some (isToken_eq _ _ _ (by omega)) ?_)
              | (with_reducible refine Ev_some (copyTokens_eq _ _ (by omega) (by omega)) ?_)
              | (refine Ev_ifpos (by first | rfl | omega | (simp; omega)) ?_)
              | (refine Ev_ifneg (by first | omega | decide | (simp; omega)) ?_)
              | (refine Ev_ifneg (by simp only [bne_self_eq_false]; decide) ?_)
              | (refine Ev_ifpos (by simp) ?_)
              | (refine Ev_ifneg (by simp) ?_)
              | (refine Ev.step (fun _ => rfl) ?_; simp only [impl_NewToken.j0]))
          · have h5 : 0 ≤ a ∧ a ≤ (p.length : Int) - 1 := by omega
            repeat (first
              | (dsimp only)
              | (with_reducible exact Ev.now _)
              | (simp only [bP_pos h1, bP_pos h5, if_true, Bool.not_true, Bool.not_false])
              | (with_reducible refine Ev.bind (implTok_ev _ _) ?_)
              | (with_reducible refine Ev_some (isToken_eq _ _ _ (by omega)) ?_)
              | (with_reducible refine Ev_some (copyTokens_eq _ _ (by omega) (by omega)) ?_)
              | (refine Ev_ifpos (by first | rfl | omega | (simp; omega)) ?_)
              | (refine Ev_ifneg (by first | omega | decide | (simp; omega)) ?_)
              | (refine Ev_ifneg (by simp only [bne_self_eq_false]; decide) ?_)
              | (refine Ev_ifpos (by simp) ?_)
              | (refine Ev_ifneg (by simp) ?_)
              | (refine Ev.step (fun _ => rfl) ?_; simp only [impl_NewToken.j0]))
      · refine ⟨(p ++ [a], o ++ [if a ≥ 0 then o.getD a.toNat false else false], (p.length : Int), 0), ?_, ?_, by simp; omega, by simp; omega, .inr ⟨h1, by omega, by omega, .inr ⟨by omega, rfl⟩⟩⟩
        · simp only [spec_NewToken.f, w64 (show -9223372036854775808 ≤ (p.length : Int) - 1 by omega) (show (p.length : Int) - 1 ≤ 9223372036854775807 by omega)]
          by_cases h4 : a ≥ 0
          · rw [if_pos h4, ← rdOf_int]
            repeat (first
              | (dsimp only)
              | (with_reducible exact Ev.now _)
              | (simp only [bP_pos h1, bP_pos h2, if_true, Bool.not_true, Bool.not_false])
              | (with_reducible refine Ev.bind (specTok_ev _ _) ?_)
              | (with_reducible refine Ev_some (l1In_eq _ _ _) ?_)
              | (with_reducible refine Ev_some (l3Copy_eq _ _ (by omega) (by omega)) ?_)
              | (refine Ev_ifpos (by first | rfl | omega | (simp; omega)) ?_)
              | (refine Ev_ifneg (by first | omega | decide | (simp; omega)) ?_)
              | (refine Ev_ifneg (by simp only [bne_self_eq_false]; decide) ?_)
              | (refine Ev_ifpos (by simp) ?_)
              | (refine Ev_ifneg (by simp) ?_)
              | (refine Ev.step (fun _ => rfl) ?_; simp only [spec_NewToken.j0]))
          · rw [if_neg h4]
            repeat (first
              | (dsimp only)
              | (with_reducible exact Ev.now _)
              | (simp only [bP_pos h1, bP_pos h2, if_true, Bool.not_true, Bool.not_false])
              | (with_reducible refine Ev.bind (specTok_ev _ _) ?_)
              | (with_reducible refine Ev_some (l1In_eq _ _ _) ?_)
              | (with_reducible refine Ev_some (l3Copy_eq _ _ (by omega) (by omega)) ?_)
              | (refine Ev_ifpos (by first | rfl | omega | (simp; omega)) ?_)
              | (refine Ev_ifneg (by first | omega | decide | (simp; omega)) ?_)
              | (refine Ev_ifneg (by simp only [bne_self_eq_false]; decide) ?_)
              | (refine Ev_ifpos (by simp) ?_)
              | (refine Ev_ifneg (by simp) ?_)
              | (refine Ev.step (fun _ => rfl) ?_; simp only [spec_NewToken.j0]))
        · simp only [impl_NewToken.f]
          by_cases h4 : a = -1
          · rw [if_neg (show ¬ a ≥ 0 by omega)]
            repeat (first
              | (dsimp only)
              | (with_reducible exact Ev.now _)
              | (simp only [bP_pos h1, if_true, Bool.not_true, Bool.not_false])
              | (with_reducible refine Ev.bind (implTok_ev _ _) ?_)
              | (with_reducible refine Ev_some (isToken_eq _ _ _ (by omega)) ?_)
              | (with_reducible refine Ev_some (copyTokens_eq _ _ (by omega) (by omega)) ?_)
              | (refine Ev_ifpos (by first | rfl | omega | (simp; omega)) ?_)
              | (refine Ev_ifneg (by first | omega | decide | (simp; omega)) ?_)
              | (refine Ev_ifneg (by simp only [bne_self_eq_false]; decide) ?_)
              | (refine Ev_ifpos (by simp) ?_)
              | (refine Ev_ifneg (by simp) ?_)
              | (refine Ev.step (fun _ => rfl) ?_; simp only [impl_NewToken.j0]))
          · have h5 : 0 ≤ a ∧ a ≤ (p.length : Int) - 1 := by omega
            rw [if_pos (show a ≥ 0 by omega), ← rdOf_int]
            repeat (first
              | (dsimp only)
              | (with_reducible exact Ev.now _)
              | (simp only [bP_pos h1, bP_pos h5, if_true, Bool.not_true, Bool.not_false])
              | (with_reducible refine Ev.bind (implTok_ev _ _) ?_)
              | (with_reducible refine Ev_some (isToken_eq _ _ _ (by omega)) ?_)
              | (with_reducible refine Ev_some (copyTokens_eq _ _ (by omega) (by omega)) ?_)
              | (refine Ev_ifpos (by first | rfl | omega | (simp; omega)) ?_)
              | (refine Ev_ifneg (by first | omega | decide | (simp; omega)) ?_)
              | (refine Ev_ifneg (by simp only [bne_self_eq_false]; decide) ?_)
              | (refine Ev_ifpos (by simp) ?_)
              | (refine Ev_ifneg (by simp) ?_)
              | (refine Ev.step (fun _ => rfl) ?_; simp only [impl_NewToken.j0]))
    · refine ⟨(p, o, -1, 1), ?_, ?_, by show p.length ≤ _; omega, by show o.length ≤ _; omega, .inl ⟨fun h => h2 ⟨h.2.1, by have := h.2.2; omega⟩, rfl⟩⟩
      · simp only [spec_NewToken.f, w64 (show -9223372036854775808 ≤ (p.length : Int) - 1 by omega) (show (p.length : Int) - 1 ≤ 9223372036854775807 by omega)]
        repeat (first
          | (dsimp only)
          | (with_reducible exact Ev.now _)
          | (simp only [bP_pos h1, bP_neg h2, if_true, Bool.not_true, Bool.not_false])
          | (with_reducible refine Ev.bind (specTok_ev _ _) ?_)
          | (with_reducible refine Ev_some (l1In_eq _ _ _) ?_)
          | (with_reducible refine Ev_some (l3Copy_eq _ _ (by omega) (by omega)) ?_)
          | (refine Ev_ifpos (by first | rfl | omega | (simp; omega)) ?_)
          | (refine Ev_ifneg (by first | omega | decide | (simp; omega)) ?_)
          | (refine Ev_ifneg (by simp only [bne_self_eq_false]; decide) ?_)
          | (refine Ev_ifpos (by simp) ?_)
          | (refine Ev_ifneg (by simp) ?_)
          | (refine Ev.step (fun _ => rfl) ?_; simp only [spec_NewToken.j0]))
      · simp only [impl_NewToken.f]
        have h5 : ¬ (0 ≤ a ∧ a ≤ (p.length : Int) - 1) := by omega
        have h6 : ¬ a = -1 := by omega
        repeat (first
          | (dsimp only)
          | (with_reducible exact Ev.now _)
          | (simp only [bP_pos h1, bP_neg h5, if_true, Bool.not_true, Bool.not_false])
          | (with_reducible refine Ev.bind (implTok_ev _ _) ?_)
          | (with_reducible refine Ev_some (isToken_eq _ _ _ (by omega)) ?_)
          | (with_reducible refine Ev_some (copyTokens_eq _ _ (by omega) (by omega)) ?_)
          | (refine Ev_ifpos (by first | rfl | omega | (simp; omega)) ?_)
          | (refine Ev_ifneg (by first | omega | decide | (simp; omega)) ?_)
          | (refine Ev_ifneg (by simp only [bne_self_eq_false]; decide) ?_)
          | (refine Ev_ifpos (by simp) ?_)
          | (refine Ev_ifneg (by simp) ?_)
          | (refine Ev.step (fun _ => rfl) ?_; simp only [impl_NewToken.j0]))
  · refine ⟨(p, o, -1, 1), ?_, ?_, by show p.length ≤ _; omega, by show o.length ≤ _; omega, .inl ⟨fun h => h1 h.1, rfl⟩⟩
    · simp only [spec_NewToken.f]
      repeat (first
        | (dsimp only)
        | (with_reducible exact Ev.now _)
        | (simp only [bP_neg h1, if_true, Bool.not_true, Bool.not_false])
        | (with_reducible refine Ev.bind (specTok_ev _ _) ?_)
        | (with_reducible refine Ev_some (l1In_eq _ _ _) ?_)
        | (with_reducible refine Ev_some (l3Copy_eq _ _ (by omega) (by omega)) ?_)
        | (refine Ev_ifpos (by first | rfl | omega | (simp; omega)) ?_)
        | (refine Ev_ifneg (by first | omega | decide | (simp; omega)) ?_)
        | (refine Ev_ifneg (by simp only [bne_self_eq_false]; decide) ?_)
        | (refine Ev_ifpos (by simp) ?_)
        | (refine Ev_ifneg (by simp) ?_)
        | (refine Ev.step (fun _ => rfl) ?_; simp only [spec_NewToken.j0]))
    · simp only [impl_NewToken.f]
      repeat (first
        | (dsimp only)
        | (with_reducible exact Ev.now _)
        | (simp only [bP_neg h1, if_true, Bool.not_true, Bool.not_false])
        | (with_reducible refine Ev.bind (implTok_ev _ _) ?_)
        | (with_reducible refine Ev_some (isToken_eq _ _ _ (by omega)) ?_)
        | (with_reducible refine Ev_some (copyTokens_eq _ _ (by omega) (by omega)) ?_)
        | (refine Ev_ifpos (by first | rfl | omega | (simp; omega)) ?_)
        | (refine Ev_ifneg (by first | omega | decide | (simp; omega)) ?_)
        | (refine Ev_ifneg (by simp only [bne_self_eq_false]; decide) ?_)
        | (refine Ev_ifpos (by simp) ?_)
        | (refine Ev_ifneg (by simp) ?_)
        | (refine Ev.step (fun _ => rfl) ?_; simp only [impl_NewToken.j0]))
def canR : List Bool → List Int → List Int → List Bool × List Int
  | o, told, [] => (o, told)
  | o, told, x :: xs => if o.getD x.toNat false = true then canR o told xs else canR (o.set x.toNat true) (told ++ [x]) xs
theorem canR_len : ∀ (xs : List Int) (o : List Bool) (told : List Int), (canR o told xs).1.length = o.length ∧ (canR o told xs).2.length ≤ told.length + xs.length
  | [], o, told => by simp [canR]
  | x :: xs, o, told => by
    simp only [canR]
    split
    · have := canR_len xs o told
      simp; omega
    · have := canR_len xs (o.set x.toNat true) (told ++ [x])
      simp at this ⊢; omega
theorem specCancel_l (p : List Int) (xs : List Int) (hx : xs.length ≤ 1048576) : ∀ d n : Nat, n + d = xs.length → ∀ (o : List Bool) (told : List Int), told.length ≤ n → (∀ x ∈ xs, 0 ≤ x ∧ x < (o.length : Int)) → Ev (fun k => spec_Cancel.l0 k told xs n p o) (p, (canR o told (xs.drop n)).1, (canR o told (xs.drop n)).2, 0)
  | 0, n, hn, o, told, ht, hm => by
    refine Ev.step (fun _ => rfl) ?_
    simp only [spec_Cancel.l0, if_neg (show ¬ (n : Int) < (xs.length : Int) by omega)]
    rw [List.drop_eq_nil_of_le (by omega)]
    exact Ev.now _
  | d + 1, n, hn, o, told, ht, hm => by
    have hx0 : 0 ≤ xs.getD n 0 ∧ xs.getD n 0 < (o.length : Int) := by
      apply hm
      rw [List.getD_eq_getElem?_getD, List.getElem?_eq_getElem (by omega)]
      exact List.getElem_mem _
    refine Ev.step (fun _ => rfl) ?_
    simp only [spec_Cancel.l0, if_pos (show (n : Int) < (xs.length : Int) by omega), if_pos (show (0 : Int) ≤ (n : Int) by omega), w64n (show n < xs.length by omega) (by omega), rd_nat, rdOf_int, if_pos hx0.1, if_pos hx0.2, if_pos (show told.length < 17592186044416 by omega)]
    rw [drop_cons 0 xs n (by omega)]
    simp only [canR]
    by_cases h : o.getD (xs.getD n 0).toNat false = true
    · simp only [if_pos h]
      exact specCancel_l p xs hx d (n + 1) (by omega) o told (by omega) hm
    · simp only [if_neg h]
      exact specCancel_l p xs hx d (n + 1) (by omega) _ _ (by simp; omega) (by simpa using hm)
theorem implCancel_l (p : List Int) (xs : List Int) (hx : xs.length ≤ 1048576) : ∀ d n : Nat, n + d = xs.length → ∀ (o : List Bool) (told : List Int), told.length ≤ n → (∀ x ∈ xs, 0 ≤ x ∧ x < (o.length : Int)) → Ev (fun k => impl_Cancel.l0 k told xs (xs.length : Int) n p o) (p, (canR o told (xs.drop n)).1, (canR o told (xs.drop n)).2, 0)
  | 0, n, hn, o, told, ht, hm => by
    refine Ev.step (fun _ => rfl) ?_
    simp only [impl_Cancel.l0, if_neg (show ¬ (n : Int) < (xs.length : Int) by omega)]
    rw [List.drop_eq_nil_of_le (by omega)]
    exact Ev.now _
  | d + 1, n, hn, o, told, ht, hm => by
    have hx0 : 0 ≤ xs.getD n 0 ∧ xs.getD n 0 < (o.length : Int) := by
      apply hm
      rw [List.getD_eq_getElem?_getD, List.getElem?_eq_getElem (by omega)]
      exact List.getElem_mem _
    refine Ev.step (fun _ => rfl) ?_
    simp only [impl_Cancel.l0, if_pos (show (n : Int) < (xs.length : Int) by omega), if_pos (show (0 : Int) ≤ (n : Int) by omega), w64n (show n < xs.length by omega) (by omega), rd_nat, rdOf_int, if_pos hx0.1, if_pos hx0.2, if_pos (show told.length < 17592186044416 by omega)]
    rw [drop_cons 0 xs n (by omega)]
    simp only [canR]
    by_cases h : o.getD (xs.getD n 0).toNat false = true
    · simp only [if_pos h]
      have hs : o.set (xs.getD n 0).toNat true = o := by
        refine List.ext_getElem? fun i => ?_
        rw [List.getElem?_set]
        split
        · rename_i hi
          subst hi
          rw [List.getD_eq_getElem?_getD, List.getElem?_eq_getElem (by omega)] at h
          rw [if_pos (by omega), List.getElem?_eq_getElem (by omega)]
          simpa using h.symm
        · rfl
      rw [hs]
      exact implCancel_l p xs hx d (n + 1) (by omega) o told (by omega) hm
    · simp only [if_neg h]
      exact implCancel_l p xs hx d (n + 1) (by omega) _ _ (by simp; omega) (by simpa using hm)
theorem both_Cancel (p : List Int) (o : List Bool) (a : Int) (hp : p.length ≤ 1048576) (ho : o.length ≤ 1048576) : ∃ r : List Int × List Bool × List Int × Int, Ev (fun k => spec_Cancel.f k p o a) r ∧ Ev (fun k => impl_Cancel.f k p o a) r ∧ r.1.length ≤ 1048577 ∧ r.2.1.length ≤ 1048577 ∧ r.2.2.1.length ≤ 1048577 ∧
    ((¬ (tokOk p o ∧ 0 ≤ a ∧ a < p.length) ∧ (r = (p, o, [], 1) ∨ r = (p, o, [], 3))) ∨ (tokOk p o ∧ 0 ≤ a ∧ a < p.length ∧ r = (p, (canR o [] (undR p a)).1, (canR o [] (undR p a)).2, 0))) := by
  by_cases h1 : tokOk p o
  · have he := h1.1
    have hl := h1.2.1
    by_cases h2 : 0 ≤ a ∧ a ≤ (p.length : Int) - 1
    · have hu := undR_len p a
      have hc := canR_len (undR p a) o []
      have hm : ∀ x ∈ undR p a, 0 ≤ x ∧ x < (o.length : Int) := fun x hx => by have := undR_mem p a x hx; omega
      refine ⟨(p, (canR o [] (undR p a)).1, (canR o [] (undR p a)).2, 0), ?_, ?_, by show p.length ≤ _; omega, ?_, ?_, .inr ⟨h1, h2.1, by omega, rfl⟩⟩
      · simp only [spec_Cancel.f, l3Copy_eq p o (by omega) (by omega), Option.bind_some]
        refine Ev.bind (specTok_ev p o) ?_
        simp only [bP_pos h1, if_true, l1In_eq, Option.bind_some, w64 (show -9223372036854775808 ≤ (p.length : Int) - 1 by omega) (show (p.length : Int) - 1 ≤ 9223372036854775807 by omega), bP_pos h2]
        refine Ev.bind (specUnder_ev p o a h1 h2) ?_
        simpa using specCancel_l p (undR p a) (by omega) (undR p a).length 0 (by omega) o [] (by simp) hm
      · simp only [impl_Cancel.f, copyTokens_eq p o (by omega) (by omega), Option.bind_some]
        refine Ev.bind (implTok_ev p o) ?_
        simp only [bP_pos h1, if_true, isToken_eq p o a (by omega), Option.bind_some, bP_pos h2]
        refine Ev.bind (implunder_ev p o a (by omega)) ?_
        simpa using implCancel_l p (undR p a) (by omega) (undR p a).length 0 (by omega) o [] (by simp) hm
      · show (canR o [] (undR p a)).1.length ≤ _
        omega
      · show (canR o [] (undR p a)).2.length ≤ _
        simp at hc; omega
    · refine ⟨(p, o, [], 3), ?_, ?_, by show p.length ≤ _; omega, by show o.length ≤ _; omega, by simp, .inl ⟨fun h => h2 ⟨h.2.1, by have := h.2.2; omega⟩, .inr rfl⟩⟩
      · simp only [spec_Cancel.f, w64 (show -9223372036854775808 ≤ (p.length : Int) - 1 by omega) (show (p.length : Int) - 1 ≤ 9223372036854775807 by omega)]
        repeat (first
          | (dsimp only)
          | (with_reducible exact Ev.now _)
          | (simp only [bP_pos h1, bP_neg h2, if_true, Bool.not_true, Bool.not_false])
          | (with_reducible refine Ev.bind (specTok_ev _ _) ?_)
          | (with_reducible refine Ev_some (l1In_eq _ _ _) ?_)
          | (with_reducible refine Ev_some (l3Copy_eq _ _ (by omega) (by omega)) ?_)
          | (refine Ev_ifpos (by first | rfl | omega | (simp; omega)) ?_)
          | (refine Ev_ifneg (by first | omega | decide | (simp; omega)) ?_)
          | (refine Ev_ifneg (by simp only [bne_self_eq_false]; decide) ?_)
          | (refine Ev_ifpos (by simp) ?_)
          | (refine Ev_ifneg (by simp) ?_))
      · simp only [impl_Cancel.f]
        repeat (first
          | (dsimp only)
          | (with_reducible exact Ev.now _)
          | (simp only [bP_pos h1, bP_neg h2, if_true, Bool.not_true, Bool.not_false])
          | (with_reducible refine Ev.bind (implTok_ev _ _) ?_)
          | (with_reducible refine Ev_some (isToken_eq _ _ _ (by omega)) ?_)
          | (with_reducible refine Ev_some (copyTokens_eq _ _ (by omega) (by omega)) ?_)
          | (refine Ev_ifpos (by first | rfl | omega | (simp; omega)) ?_)
          | (refine Ev_ifneg (by first | omega | decide | (simp; omega)) ?_)
          | (refine Ev_ifneg (by simp only [bne_self_eq_false]; decide) ?_)
          | (refine Ev_ifpos (by simp) ?_)
          | (refine Ev_ifneg (by simp) ?_))
  · refine ⟨(p, o, [], 1), ?_, ?_, by show p.length ≤ _; omega, by show o.length ≤ _; omega, by simp, .inl ⟨fun h => h1 h.1, .inl rfl⟩⟩
    · simp only [spec_Cancel.f]
      repeat (first
        | (dsimp only)
        | (with_reducible exact Ev.now _)
        | (simp only [bP_neg h1, if_true, Bool.not_true, Bool.not_false])
        | (with_reducible refine Ev.bind (specTok_ev _ _) ?_)
        | (with_reducible refine Ev_some (l1In_eq _ _ _) ?_)
        | (with_reducible refine Ev_some (l3Copy_eq _ _ (by omega) (by omega)) ?_)
        | (refine Ev_ifpos (by first | rfl | omega | (simp; omega)) ?_)
        | (refine Ev_ifneg (by first | omega | decide | (simp; omega)) ?_)
        | (refine Ev_ifneg (by simp only [bne_self_eq_false]; decide) ?_)
        | (refine Ev_ifpos (by simp) ?_)
        | (refine Ev_ifneg (by simp) ?_))
    · simp only [impl_Cancel.f]
      repeat (first
        | (dsimp only)
        | (with_reducible exact Ev.now _)
        | (simp only [bP_neg h1, if_true, Bool.not_true, Bool.not_false])
        | (with_reducible refine Ev.bind (implTok_ev _ _) ?_)
        | (with_reducible refine Ev_some (isToken_eq _ _ _ (by omega)) ?_)
        | (with_reducible refine Ev_some (copyTokens_eq _ _ (by omega) (by omega)) ?_)
        | (refine Ev_ifpos (by first | rfl | omega | (simp; omega)) ?_)
        | (refine Ev_ifneg (by first | omega | decide | (simp; omega)) ?_)
        | (refine Ev_ifneg (by simp only [bne_self_eq_false]; decide) ?_)
        | (refine Ev_ifpos (by simp) ?_)
        | (refine Ev_ifneg (by simp) ?_))
theorem and255 (x : Int) : 0 ≤ Go.bits .and .i64 x 255 ∧ Go.bits .and .i64 x 255 ≤ 255 := by
  have h : (BitVec.ofInt IntKind.i64.bits x &&& BitVec.ofInt IntKind.i64.bits 255).toNat ≤ 255 := by
    rw [BitVec.toNat_and]
    exact Nat.le_trans Nat.and_le_right (by decide)
  unfold Go.bits
  dsimp only
  generalize (BitVec.ofInt IntKind.i64.bits x &&& BitVec.ofInt IntKind.i64.bits 255).toNat = n at h
  have e : IntKind.wrap .i64 (n : Int) = n := by
    unfold IntKind.wrap
    simp only [IntKind.bits, IntKind.signed]
    first | omega | (split <;> omega) | (simp; omega)
  rw [e]
  omega
theorem l1Byte_ex (s : List Int) (i x : Int) (hs : s.length ≤ 4611686018427387904) (h0 : 0 ≤ i) : ∃ b i' x', spec_l1Byte.f s i x = some (b, i', x') ∧ (0 ≤ b ∧ b ≤ 255) ∧ 0 ≤ i' := by
  simp only [spec_l1Byte.f]
  by_cases h : i < (s.length : Int)
  · rw [if_pos h, if_pos h0]
    exact ⟨_, _, _, rfl, and255 _, by rw [w64 (by omega) (by omega)]; omega⟩
  · rw [if_neg h]
    exact ⟨_, _, _, rfl, and255 _, h0⟩
theorem l1Below_ex (s : List Int) (i x a : Int) (hs : s.length ≤ 4611686018427387904) (h0 : 0 ≤ i) : ∃ r i' x', spec_l1Below.f s i x a = some (r, i', x') ∧ 0 ≤ r ∧ (0 < a → r < a) ∧ (a ≤ 0 → r = 0) ∧ 0 ≤ i' := by
  simp only [spec_l1Below.f]
  by_cases h : a ≤ 0
  · rw [if_pos h]
    exact ⟨0, i, x, rfl, by omega, by omega, fun _ => rfl, h0⟩
  · rw [if_neg h]
    by_cases h2 : a ≤ 256
    · rw [if_pos h2]
      obtain ⟨b, i1, x1, e1, hb, h1⟩ := l1Byte_ex s i x hs h0
      simp only [e1, Option.bind_some, if_neg (show ¬ a = 0 by omega)]
      exact ⟨_, _, _, rfl, Int.tmod_nonneg _ hb.1, fun hp => Int.tmod_lt_of_pos _ hp, fun hn => absurd hn h, h1⟩
    · rw [if_neg h2]
      obtain ⟨b1, i1, x1, e1, hb1, h1⟩ := l1Byte_ex s i x hs h0
      obtain ⟨b2, i2, x2, e2, hb2, h2'⟩ := l1Byte_ex s i1 x1 hs h1
      obtain ⟨b3, i3, x3, e3, hb3, h3⟩ := l1Byte_ex s i2 x2 hs h2'
      obtain ⟨b4, i4, x4, e4, hb4, h4⟩ := l1Byte_ex s i3 x3 hs h3
      simp only [e1, e2, e3, e4, Option.bind_some, if_neg (show ¬ a = 0 by omega), w64 (show -9223372036854775808 ≤ b1 * 16777216 by omega) (show b1 * 16777216 ≤ 9223372036854775807 by omega), w64 (show -9223372036854775808 ≤ b2 * 65536 by omega) (show b2 * 65536 ≤ 9223372036854775807 by omega), w64 (show -9223372036854775808 ≤ b3 * 256 by omega) (show b3 * 256 ≤ 9223372036854775807 by omega), w64 (show -9223372036854775808 ≤ b1 * 16777216 + b2 * 65536 by omega) (show b1 * 16777216 + b2 * 65536 ≤ 9223372036854775807 by omega), w64 (show -9223372036854775808 ≤ b1 * 16777216 + b2 * 65536 + b3 * 256 by omega) (show b1 * 16777216 + b2 * 65536 + b3 * 256 ≤ 9223372036854775807 by omega), w64 (show -9223372036854775808 ≤ b1 * 16777216 + b2 * 65536 + b3 * 256 + b4 by omega) (show b1 * 16777216 + b2 * 65536 + b3 * 256 + b4 ≤ 9223372036854775807 by omega)]
      exact ⟨_, _, _, rfl, Int.tmod_nonneg _ (by omega), fun hp => Int.tmod_lt_of_pos _ hp, fun hn => absurd hn h, h4⟩
theorem l1Once_ex (s : List Int) (i x a : Int) (hs : s.length ≤ 4611686018427387904) (h0 : 0 ≤ i) : ∃ b i' x', spec_l1Once.f s i x a = some (b, i', x') ∧ 0 ≤ i' := by
  obtain ⟨r, i', x', e, _, _, _, h⟩ := l1Below_ex s i x a hs h0
  simp only [spec_l1Once.f, e, Option.bind_some]
  exact ⟨_, _, _, rfl, h⟩
theorem l1New_l (s : List Int) (hs : s.length ≤ 4611686018427387904) : ∀ d n : Nat, n + d = 4001 → ∀ x : Int, ∃ x' : Int, Ev (fun k => spec_l1New.l0 k s x n) (s, 0, x')
  | 0, n, hn, x => by
    refine ⟨x, Ev.step (fun _ => rfl) ?_⟩
    simp only [spec_l1New.l0]
    by_cases h : (n : Int) < (s.length : Int)
    · simp only [if_pos h, if_neg (show ¬ (n : Int) < 4000 by omega)]
      exact Ev.now _
    · simp only [if_neg h]
      exact Ev.now _
  | d + 1, n, hn, x => by
    by_cases h : (n : Int) < (s.length : Int)
    · by_cases h2 : (n : Int) < 4000
      · obtain ⟨x', h3⟩ := l1New_l s hs d (n + 1) (by omega) (Go.bits .and .i64 (wrap64 ((wrap64 ((wrap64 (x * 131)) + (wrap64 (rd s n)))) + 7)) 1073741823)
        refine ⟨x', Ev.step (fun _ => rfl) ?_⟩
        simp only [spec_l1New.l0, if_pos h, if_pos h2, if_pos (show (0 : Int) ≤ (n : Int) by omega), w64n (show n < s.length by omega) (show s.length ≤ 9223372036854775807 by omega)]
        exact h3
      · refine ⟨x, Ev.step (fun _ => rfl) ?_⟩
        simp only [spec_l1New.l0, if_pos h, if_neg h2]
        exact Ev.now _
    · refine ⟨x, Ev.step (fun _ => rfl) ?_⟩
      simp only [spec_l1New.l0, if_neg h]
      exact Ev.now _
theorem l1New_ev (s : List Int) (hs : s.length ≤ 4611686018427387904) : ∃ x' : Int, Ev (fun k => spec_l1New.f k s) (s, 0, x') := by
  simp only [spec_l1New.f]
  exact l1New_l s hs 4001 0 (by omega) _
theorem sameInts_l (a b : List Int) (hl : a.length ≤ 9223372036854775807) (he : a.length = b.length) : ∀ d n : Nat, n + d = a.length → Ev (fun k => laws_sameInts.l0 k a b n) (bP (a.drop n = b.drop n))
  | 0, n, hd => by
    refine Ev.step (fun _ => rfl) ?_
    simp only [laws_sameInts.l0, if_neg (show ¬ (n : Int) < (a.length : Int) by omega)]
    rw [bP_pos (by rw [List.drop_eq_nil_of_le (by omega), List.drop_eq_nil_of_le (by omega)])]
    exact Ev.now _
  | d + 1, n, hd => by
    refine Ev.step (fun _ => rfl) ?_
    simp only [laws_sameInts.l0, if_pos (show (n : Int) < (a.length : Int) by omega), if_pos (show (0 : Int) ≤ (n : Int) by omega), if_pos (show (n : Int) < (b.length : Int) by omega), w64n (show n < a.length by omega) hl, rd_nat]
    rw [drop_cons 0 a n (by omega), drop_cons 0 b n (by omega)]
    by_cases h : a.getD n 0 = b.getD n 0
    · simp only [if_pos h]
      exact Ev_eq (sameInts_l a b hl he d (n + 1) (by omega)) (bP_congr ⟨fun e => by rw [h, e], fun e => (List.cons.inj e).2⟩)
    · simp only [if_neg h]
      rw [bP_neg (fun e => h (List.cons.inj e).1)]
      exact Ev.now _
theorem sameInts_ev (a b : List Int) (hl : a.length ≤ 9223372036854775807) : Ev (fun k => laws_sameInts.f k a b) (bP (a = b)) := by
  by_cases h : a.length = b.length
  · simp only [laws_sameInts.f, if_pos (show (a.length : Int) = (b.length : Int) by omega)]
    simpa using sameInts_l a b hl h a.length 0 (by omega)
  · simp only [laws_sameInts.f, if_neg (show ¬ (a.length : Int) = (b.length : Int) by omega)]
    rw [bP_neg (fun e => h (by rw [e]))]
    exact Ev.now _
theorem sameInts_self (a : List Int) (hl : a.length ≤ 9223372036854775807) : Ev (fun k => laws_sameInts.f k a a) true := Ev_eq (sameInts_ev a a hl) (bP_pos rfl)
def tokS (p : List Int) (o : List Bool) : Prop := p.length = o.length ∧ p.length ≤ 24
theorem newTok_s (p : List Int) (o : List Bool) (a : Int) (h : tokS p o) : ∃ p' o' c d, Ev (fun k => spec_NewToken.f k p o a) (p', o', c, d) ∧ tokS p' o' := by
  obtain ⟨⟨p', o', c, d⟩, h1, _, _, _, h2⟩ := both_NewToken p o a (by have := h.2; omega) (by have := h.1; have := h.2; omega)
  refine ⟨p', o', c, d, h1, ?_⟩
  rcases h2 with ⟨_, h2⟩ | ⟨_, _, _, ⟨_, h2⟩ | ⟨hl, h2⟩⟩
  · simp only [Prod.mk.injEq] at h2
    rw [h2.1, h2.2.1]
    exact h
  · simp only [Prod.mk.injEq] at h2
    rw [h2.1, h2.2.1]
    exact h
  · simp only [Prod.mk.injEq] at h2
    rw [h2.1, h2.2.1]
    exact ⟨by simp [h.1], by simp; omega⟩
theorem canTok_s (p : List Int) (o : List Bool) (a : Int) (h : tokS p o) : ∃ p' o' c d, Ev (fun k => spec_Cancel.f k p o a) (p', o', c, d) ∧ tokS p' o' := by
  obtain ⟨⟨p', o', c, d⟩, h1, _, _, _, _, h2⟩ := both_Cancel p o a (by have := h.2; omega) (by have := h.1; have := h.2; omega)
  refine ⟨p', o', c, d, h1, ?_⟩
  rcases h2 with ⟨_, h2 | h2⟩ | ⟨_, _, _, h2⟩
  · simp only [Prod.mk.injEq] at h2
    rw [h2.1, h2.2.1]
    exact h
  · simp only [Prod.mk.injEq] at h2
    rw [h2.1, h2.2.1]
    exact h
  · simp only [Prod.mk.injEq] at h2
    rw [h2.1, h2.2.1]
    exact ⟨by rw [(canR_len _ _ _).1]; exact h.1, h.2⟩
theorem l3Tokens_l (s : List Int) (hs : s.length ≤ 4611686018427387904) (m : Nat) (hm : m ≤ 1000) : ∀ d n : Nat, n + d = m → ∀ (p : List Int) (o : List Bool) (i x : Int), 0 ≤ i → tokS p o → ∃ p' o' i' x', Ev (fun k => spec_l3Tokens.l0 k (m : Int) n s i x p o) (p', o', i', x') ∧ tokS p' o' ∧ 0 ≤ i'
  | 0, n, hn, p, o, i, x, h0, ht => by
    refine ⟨p, o, i, x, Ev.step (fun _ => rfl) ?_, ht, h0⟩
    simp only [spec_l3Tokens.l0, if_neg (show ¬ (n : Int) < (m : Int) by omega)]
    exact Ev.now _
  | d + 1, n, hn, p, o, i, x, h0, ht => by
    obtain ⟨r, i1, x1, e1, h1, h2, _, h3⟩ := l1Below_ex s i x ((n + 1 : Nat) : Int) hs h0
    obtain ⟨p1, o1, c1, d1, e2, ht1⟩ := newTok_s p o (wrap64 (r - 1)) ht
    obtain ⟨b, i2, x2, e3, h4⟩ := l1Once_ex s i1 x1 6 hs h3
    cases b
    · obtain ⟨p', o', i', x', e4, h5, h6⟩ := l3Tokens_l s hs m hm d (n + 1) (by omega) p1 o1 i2 x2 h4 ht1
      refine ⟨p', o', i', x', Ev.step (fun _ => rfl) ?_, h5, h6⟩
      simp only [spec_l3Tokens.l0, if_pos (show (n : Int) < (m : Int) by omega), w64n (show n < m by omega) (by omega), e1, Option.bind_some]
      refine Ev.bind e2 ?_
      simp only [e3, Option.bind_some, if_neg (show ¬ (false = true) by decide)]
      exact e4
    · obtain ⟨q, i3, x3, e5, _, _, _, h7⟩ := l1Below_ex s i2 x2 ((n + 1 : Nat) : Int) hs h4
      obtain ⟨p2, o2, c2, d2, e6, ht2⟩ := canTok_s p1 o1 q ht1
      obtain ⟨p', o', i', x', e4, h5, h6⟩ := l3Tokens_l s hs m hm d (n + 1) (by omega) p2 o2 i3 x3 h7 ht2
      refine ⟨p', o', i', x', Ev.step (fun _ => rfl) ?_, h5, h6⟩
      simp only [spec_l3Tokens.l0, if_pos (show (n : Int) < (m : Int) by omega), w64n (show n < m by omega) (by omega), e1, Option.bind_some]
      refine Ev.bind e2 ?_
      simp only [e3, e5, Option.bind_some, if_true]
      refine Ev.bind e6 ?_
      exact e4
theorem l3Tokens_ex (s : List Int) (hs : s.length ≤ 4611686018427387904) (i x a : Int) (h0 : 0 ≤ i) (ha : 0 ≤ a ∧ a ≤ 900) : ∃ p o i' x', Ev (fun k => spec_l3Tokens.f k s i x a) (p, o, i', x') ∧ tokS p o ∧ 0 ≤ i' := by
  obtain ⟨r, i1, x1, e, h1, h2, _, h3⟩ := l1Below_ex s i x (a + 1) hs h0
  have h4 := h2 (by omega)
  obtain ⟨m, rfl⟩ : ∃ m : Nat, r = m := ⟨r.toNat, by omega⟩
  obtain ⟨p, o, i', x', h5, h6, h7⟩ := l3Tokens_l s hs m (by omega) m 0 (by omega) [] [] i1 x1 h3 ⟨rfl, by simp⟩
  refine ⟨p, o, i', x', ?_, h6, h7⟩
  simp only [spec_l3Tokens.f, w64 (show -9223372036854775808 ≤ a + 1 by omega) (show a + 1 ≤ 9223372036854775807 by omega), e, Option.bind_some]
  exact h5
theorem l3Some_j2 (s : List Int) (hs : s.length ≤ 4611686018427387904) (p : List Int) (o : List Bool) (i x : Int) (h0 : 0 ≤ i) (ht : tokS p o) (b : Bool) (hb : b = true → (o.length : Int) > 0) : ∃ p' o' i' x', Ev (fun k => spec_l3Some.j2 k b s i x p o) (p', o', i', x') ∧ (p'.length ≤ 24 ∧ o'.length ≤ 24) ∧ 0 ≤ i' := by
  have ht1 := ht.1
  have ht2 := ht.2
  cases b
  · refine ⟨p, o, i, x, Ev.step (fun _ => rfl) ?_, ⟨ht2, by omega⟩, h0⟩
    simp only [spec_l3Some.j2, if_neg (show ¬ (false = true) by decide)]
    exact Ev.now _
  · have h := hb rfl
    obtain ⟨r, i1, x1, e1, h1, h2, _, h3⟩ := l1Below_ex s i x (o.length : Int) hs h0
    have h4 := h2 h
    obtain ⟨q, i2, x2, e2, h5, h6, _, h7⟩ := l1Below_ex s i1 x1 3 hs h3
    by_cases q0 : q = 0
    · refine ⟨p.set r.toNat r, o, i2, x2, Ev.step (fun _ => rfl) ?_, ⟨by simp; omega, by omega⟩, h7⟩
      simp only [spec_l3Some.j2, if_true, e1, e2, Option.bind_some, if_pos q0, if_pos h1, if_pos (show r < (p.length : Int) by omega)]
      exact Ev.now _
    · by_cases q1 : q = 1
      · refine ⟨p, o.set (0 : Int).toNat true, i2, x2, Ev.step (fun _ => rfl) ?_, ⟨by omega, by simp; omega⟩, h7⟩
        simp only [spec_l3Some.j2, if_true, e1, e2, Option.bind_some, if_neg q0, if_pos q1, if_pos (show (0 : Int) < (o.length : Int) by omega)]
        exact Ev.now _
      · refine ⟨p, o.drop (1 : Int).toNat, i2, x2, Ev.step (fun _ => rfl) ?_, ⟨by omega, by simp; omega⟩, h7⟩
        simp only [spec_l3Some.j2, if_true, e1, e2, Option.bind_some, if_neg q0, if_neg q1, if_pos (show (1 : Int) ≤ (o.length : Int) by omega)]
        exact Ev.now _
theorem l3Some_j1 (s : List Int) (hs : s.length ≤ 4611686018427387904) (p : List Int) (o : List Bool) (i x : Int) (h0 : 0 ≤ i) (ht : tokS p o) : ∃ p' o' i' x', Ev (fun k => spec_l3Some.j1 k s i x p o) (p', o', i', x') ∧ (p'.length ≤ 24 ∧ o'.length ≤ 24) ∧ 0 ≤ i' := by
  obtain ⟨b, i1, x1, e1, h1⟩ := l1Once_ex s i x 8 hs h0
  cases b
  · obtain ⟨p', o', i', x', h2, h3, h4⟩ := l3Some_j2 s hs p o i1 x1 h1 ht false (by simp)
    refine ⟨p', o', i', x', Ev.step (fun _ => rfl) ?_, h3, h4⟩
    simp only [spec_l3Some.j1, e1, Option.bind_some, if_neg (show ¬ (false = true) by decide)]
    exact h2
  · obtain ⟨p', o', i', x', h2, h3, h4⟩ := l3Some_j2 s hs p o i1 x1 h1 ht (decide ((o.length : Int) > 0)) (by simp)
    refine ⟨p', o', i', x', Ev.step (fun _ => rfl) ?_, h3, h4⟩
    simp only [spec_l3Some.j1, e1, Option.bind_some, if_true]
    exact h2
theorem l3Some_l (s : List Int) (hs : s.length ≤ 4611686018427387904) (i x : Int) (h0 : 0 ≤ i) : ∀ (d : Nat) (p : List Int) (o : List Bool), p.length + d = 24 → tokS p o → ∃ p' o' i' x', Ev (fun k => spec_l3Some.l0 k s i x p o) (p', o', i', x') ∧ (p'.length ≤ 24 ∧ o'.length ≤ 24) ∧ 0 ≤ i'
  | 0, p, o, hd, ht => by
    obtain ⟨p', o', i', x', h2, h3, h4⟩ := l3Some_j1 s hs p o i x h0 ht
    refine ⟨p', o', i', x', Ev.step (fun _ => rfl) ?_, h3, h4⟩
    simp only [spec_l3Some.l0, if_neg (show ¬ (p.length : Int) < 24 by omega)]
    exact h2
  | d + 1, p, o, hd, ht => by
    have ht1 := ht.1
    obtain ⟨p', o', i', x', h2, h3, h4⟩ := l3Some_l s hs i x h0 d (p ++ [-1]) (o ++ [false]) (by simp; omega) ⟨by simp [ht1], by simp; omega⟩
    refine ⟨p', o', i', x', Ev.step (fun _ => rfl) ?_, h3, h4⟩
    simp only [spec_l3Some.l0, if_pos (show (p.length : Int) < 24 by omega), if_pos (show p.length < 17592186044416 by omega), if_pos (show o.length < 140737488355328 by omega)]
    exact h2
theorem l3Some_ex (s : List Int) (hs : s.length ≤ 4611686018427387904) (i x : Int) (h0 : 0 ≤ i) : ∃ p' o' i' x', Ev (fun k => spec_l3Some.f k s i x) (p', o', i', x') ∧ (p'.length ≤ 24 ∧ o'.length ≤ 24) ∧ 0 ≤ i' := by
  obtain ⟨p, o, i1, x1, h1, h2, h3⟩ := l3Tokens_ex s hs i x 9 h0 (by omega)
  obtain ⟨b, i2, x2, e2, h4⟩ := l1Once_ex s i1 x1 10 hs h3
  simp only [spec_l3Some.f]
  cases b
  · obtain ⟨p', o', i', x', h5, h6, h7⟩ := l3Some_j1 s hs p o i2 x2 h4 h2
    refine ⟨p', o', i', x', Ev.bind h1 ?_, h6, h7⟩
    simp only [e2, Option.bind_some, if_neg (show ¬ (false = true) by decide)]
    exact h5
  · obtain ⟨p2, o2, i3, x3, h8, h9, h10⟩ := l3Tokens_ex s hs i2 x2 24 h4 (by omega)
    obtain ⟨p', o', i', x', h5, h6, h7⟩ := l3Some_l s hs i3 x3 h10 (24 - p2.length) p2 o2 (by have := h9.2; omega) h9
    refine ⟨p', o', i', x', Ev.bind h1 ?_, h6, h7⟩
    simp only [e2, Option.bind_some, if_true]
    refine Ev.bind h8 ?_
    exact h5
theorem DrawCancel_ex (s : List Int) (hs : s.length ≤ 4611686018427387904) : ∃ p o a, Ev (fun k => spec_DrawCancel.f k s) (p, o, a) ∧ p.length ≤ 24 ∧ o.length ≤ 24 := by
  obtain ⟨x0, h0⟩ := l1New_ev s hs
  obtain ⟨p, o, i1, x1, h1, h2, h3⟩ := l3Some_ex s hs 0 x0 (by omega)
  obtain ⟨r, i2, x2, e2, _, _, _, _⟩ := l1Below_ex s i1 x1 (wrap64 ((p.length : Int) + 2)) hs h3
  refine ⟨p, o, wrap64 (r - 1), ?_, h2.1, h2.2⟩
  simp only [spec_DrawCancel.f]
  refine Ev.bind h0 ?_
  refine Ev.bind h1 ?_
  simp only [e2, Option.bind_some]
  exact Ev.now _
theorem lawWithin_l (l : List Int) (a : Int) (hl : l.length ≤ 9223372036854775807) : ∀ d n : Nat, n + d = l.length → Ev (fun k => laws_within.l0 k l a n) (bP (a ∈ l.drop n))
  | 0, n, hd => by
    refine Ev.step (fun _ => rfl) ?_
    simp only [laws_within.l0, if_neg (show ¬ (n : Int) < (l.length : Int) by omega)]
    rw [List.drop_eq_nil_of_le (by omega), bP_neg (by simp)]
    exact Ev.now _
  | d + 1, n, hd => by
    refine Ev.step (fun _ => rfl) ?_
    simp only [laws_within.l0, if_pos (show (n : Int) < (l.length : Int) by omega), if_pos (show (0 : Int) ≤ (n : Int) by omega), w64n (show n < l.length by omega) hl, rd_nat]
    rw [drop_cons 0 l n (by omega)]
    by_cases h : l.getD n 0 = a
    · simp only [if_pos h]
      rw [bP_pos (by rw [h]; exact List.mem_cons_self)]
      exact Ev.now _
    · simp only [if_neg h]
      refine Ev_eq (lawWithin_l l a hl d (n + 1) (by omega)) (bP_congr ?_)
      rw [List.mem_cons]
      exact ⟨.inr, fun h' => h'.resolve_left (fun e => h e.symm)⟩
theorem lawWithin_ev (l : List Int) (a : Int) (hl : l.length ≤ 9223372036854775807) : Ev (fun k => laws_within.f k l a) (bP (a ∈ l)) := by
  simp only [laws_within.f]
  exact lawWithin_l l a hl l.length 0 (by omega)
theorem l15Ints_l (a : List Int) (hl : a.length ≤ 9223372036854775807) : ∀ d n : Nat, n + d = a.length → Ev (fun k => spec_l15Ints.l0 k a a n) true
  | 0, n, hd => by
    refine Ev.step (fun _ => rfl) ?_
    simp only [spec_l15Ints.l0, if_neg (show ¬ (n : Int) < (a.length : Int) by omega)]
    exact Ev.now _
  | d + 1, n, hd => by
    refine Ev.step (fun _ => rfl) ?_
    simp only [spec_l15Ints.l0, if_pos (show (n : Int) < (a.length : Int) by omega), if_pos (show (0 : Int) ≤ (n : Int) by omega), w64n (show n < a.length by omega) hl, if_true]
    exact l15Ints_l a hl d (n + 1) (by omega)
theorem l15Ints_self (a : List Int) (hl : a.length ≤ 9223372036854775807) : Ev (fun k => spec_l15Ints.f k a a) true := by
  simp only [spec_l15Ints.f, if_true]
  exact l15Ints_l a hl a.length 0 (by omega)
theorem l15Tokens_l (p : List Int) (o : List Bool) (hl : o.length ≤ 9223372036854775807) : ∀ d n : Nat, n + d = o.length → Ev (fun k => spec_l15Tokens.l0 k n p o p o) true
  | 0, n, hd => by
    refine Ev.step (fun _ => rfl) ?_
    simp only [spec_l15Tokens.l0, if_neg (show ¬ (n : Int) < (o.length : Int) by omega)]
    exact Ev.now _
  | d + 1, n, hd => by
    refine Ev.step (fun _ => rfl) ?_
    simp only [spec_l15Tokens.l0, if_pos (show (n : Int) < (o.length : Int) by omega), if_pos (show (0 : Int) ≤ (n : Int) by omega), w64n (show n < o.length by omega) hl, bne_self_eq_false, if_neg (show ¬ (false = true) by decide)]
    exact l15Tokens_l p o hl d (n + 1) (by omega)
theorem TokensSame_self (p : List Int) (o : List Bool) (hp : p.length ≤ 9223372036854775807) (hl : o.length ≤ 9223372036854775807) : Ev (fun k => spec_TokensSame.f k p o p o) true := by
  simp only [spec_TokensSame.f, spec_l15Tokens.f, bne_self_eq_false]
  refine Ev.bind (a := true) ?_ (Ev.now _)
  refine Ev.bind (l15Ints_self p hp) ?_
  simp only [if_true]
  refine Ev.step (fun _ => rfl) ?_
  simp only [spec_l15Tokens.j0, if_neg (show ¬ (false = true) by decide)]
  exact l15Tokens_l p o hl o.length 0 (by omega)
theorem implUnder_in (p : List Int) (o : List Bool) (t : Int) (h1 : tokOk p o) (h2 : 0 ≤ t ∧ t < (p.length : Int)) : Ev (fun k => impl_Under.f k p o t) (undR p t) := by
  have hl := h1.2.1
  simp only [impl_Under.f]
  refine Ev.bind (implTok_ev p o) ?_
  simp only [bP_pos h1, if_true, isToken_eq p o t (by omega), Option.bind_some, bP_pos (show 0 ≤ t ∧ t ≤ (p.length : Int) - 1 by omega)]
  exact Ev.bind (implunder_ev p o t (by omega)) (Ev.now _)
theorem und_low (p : List Int) (t : Int) : ∀ (d n : Nat) (acc : List Int), (∀ x ∈ acc, x < (n : Int)) → ∀ x : Int, x < n → (x ∈ undFrom p t acc n d ↔ x ∈ acc)
  | 0, n, acc, h, x, hx => by simp [undFrom]
  | d + 1, n, acc, h, x, hx => by
    have hacc : ∀ y ∈ (if (n : Int) = t ∨ p.getD n 0 ∈ acc then acc ++ [(n : Int)] else acc), y < ((n + 1 : Nat) : Int) := by
      intro y hy
      split at hy
      · rcases List.mem_append.1 hy with hy | hy
        · have := h y hy; omega
        · simp at hy; omega
      · have := h y hy; omega
    simp only [undFrom]
    rw [und_low p t d (n + 1) _ hacc x (by omega)]
    split
    · simp only [List.mem_append, List.mem_singleton]
      exact ⟨fun h' => h'.resolve_right (by omega), .inl⟩
    · exact Iff.rfl
theorem und_char (p : List Int) (t : Int) : ∀ (d n : Nat) (acc : List Int), (∀ x ∈ acc, x < (n : Int)) → (∀ i : Nat, n ≤ i → i < n + d → p.getD i 0 < i) → ∀ i : Nat, n ≤ i → i < n + d → ((i : Int) ∈ undFrom p t acc n d ↔ ((i : Int) = t ∨ p.getD i 0 ∈ undFrom p t acc n d))
  | 0, n, acc, h, hp, i, hi, hl => by omega
  | d + 1, n, acc, h, hp, i, hi, hl => by
    have hacc : ∀ y ∈ (if (n : Int) = t ∨ p.getD n 0 ∈ acc then acc ++ [(n : Int)] else acc), y < ((n + 1 : Nat) : Int) := by
      intro y hy
      split at hy
      · rcases List.mem_append.1 hy with hy | hy
        · have := h y hy; omega
        · simp at hy; omega
      · have := h y hy; omega
    by_cases e : n = i
    · subst e
      have h0 := hp n hi hl
      have h1 := und_low p t d (n + 1) _ hacc (n : Int) (by omega)
      have h2 := und_low p t d (n + 1) _ hacc (p.getD n 0) (by omega)
      simp only [undFrom]
      rw [h1, h2]
      have h3 : ¬ (n : Int) ∈ acc := fun hm => by have := h _ hm; omega
      split <;> rename_i hc
      · refine ⟨fun _ => ?_, fun _ => by simp⟩
        rcases hc with hc | hc
        · exact .inl hc
        · exact .inr (List.mem_append_left _ hc)
      · exact ⟨fun hm => absurd hm h3, fun hm => absurd hm hc⟩
    · simp only [undFrom]
      exact und_char p t d (n + 1) _ hacc (fun j h1 h2 => hp j (by omega) (by omega)) i (by omega) (by omega)
theorem undR_char {p : List Int} {o : List Bool} (t : Int) (h : tokOk p o) (i : Nat) (hi : i < p.length) : ((i : Int) ∈ undR p t ↔ (i : Int) = t ∨ p.getD i 0 ∈ undR p t) :=
  und_char p t p.length 0 [] (by simp) (fun j _ hj => by have := (h.2.2 j (Nat.zero_le _) (by omega)).1.2; omega) i (Nat.zero_le _) (by omega)
theorem canR_off : ∀ (xs : List Int) (o : List Bool) (told : List Int), (∀ x ∈ xs, 0 ≤ x ∧ x < (o.length : Int)) → ∀ i : Nat, i < o.length → ((canR o told xs).1.getD i false = true ↔ o.getD i false = true ∨ (i : Int) ∈ xs)
  | [], o, told, hm, i, hi => by simp [canR]
  | x :: xs, o, told, hm, i, hi => by
    have hx := hm x List.mem_cons_self
    have hm' : ∀ y ∈ xs, 0 ≤ y ∧ y < (o.length : Int) := fun y hy => hm y (List.mem_cons_of_mem _ hy)
    simp only [canR]
    split <;> rename_i hc
    · rw [canR_off xs o told hm' i hi, List.mem_cons]
      refine ⟨fun h => h.elim .inl (fun h => .inr (.inr h)), fun h => ?_⟩
      rcases h with h | h | h
      · exact .inl h
      · left
        rw [← show x.toNat = i by omega]
        exact hc
      · exact .inr h
    · rw [canR_off xs (o.set x.toNat true) _ (by simpa using hm') i (by simpa using hi), List.mem_cons]
      by_cases e : x.toNat = i
      · subst e
        refine ⟨fun _ => .inr (.inl (by omega)), fun _ => .inl ?_⟩
        simp [List.getD_eq_getElem?_getD, List.getElem?_set_self hi]
      · have e2 : (o.set x.toNat true).getD i false = o.getD i false := by
          rw [List.getD_eq_getElem?_getD, List.getD_eq_getElem?_getD, List.getElem?_set_ne e]
        rw [e2]
        refine ⟨fun h => h.elim .inl (fun h => .inr (.inr h)), fun h => ?_⟩
        rcases h with h | h | h
        · exact .inl h
        · exact absurd (by omega) e
        · exact .inr h
theorem canR_told : ∀ (xs : List Int) (o : List Bool) (told : List Int), (∀ x ∈ xs, 0 ≤ x ∧ x < (o.length : Int)) → ∀ y : Int, (y ∈ (canR o told xs).2 ↔ y ∈ told ∨ (y ∈ xs ∧ ¬ o.getD y.toNat false = true))
  | [], o, told, hm, y => by simp [canR]
  | x :: xs, o, told, hm, y => by
    have hx := hm x List.mem_cons_self
    have hm' : ∀ y ∈ xs, 0 ≤ y ∧ y < (o.length : Int) := fun y hy => hm y (List.mem_cons_of_mem _ hy)
    simp only [canR]
    split <;> rename_i hc
    · rw [canR_told xs o told hm' y, List.mem_cons]
      refine ⟨fun h => h.elim .inl (fun h => .inr ⟨.inr h.1, h.2⟩), fun h => ?_⟩
      rcases h with h | ⟨h | h, h'⟩
      · exact .inl h
      · rw [h] at h'; exact absurd hc h'
      · exact .inr ⟨h, h'⟩
    · rw [canR_told xs (o.set x.toNat true) _ (by simpa using hm') y, List.mem_append, List.mem_singleton, List.mem_cons]
      by_cases e : y = x
      · subst e
        exact ⟨fun _ => .inr ⟨.inl rfl, hc⟩, fun _ => .inl (.inr rfl)⟩
      · have e2 : y ∈ xs → (o.set x.toNat true).getD y.toNat false = o.getD y.toNat false := fun hy => by
          have := hm' y hy
          rw [List.getD_eq_getElem?_getD, List.getD_eq_getElem?_getD, List.getElem?_set_ne (by omega)]
        refine ⟨fun h => ?_, fun h => ?_⟩
        · rcases h with (h | h) | h
          · exact .inl h
          · exact absurd h e
          · exact .inr ⟨.inr h.1, by rw [← e2 h.1]; exact h.2⟩
        · rcases h with h | ⟨h | h, h'⟩
          · exact .inl (.inl h)
          · exact absurd h e
          · exact .inr ⟨h, by rw [e2 h]; exact h'⟩
theorem canR_done : ∀ (xs : List Int) (o : List Bool) (told : List Int), (∀ x ∈ xs, o.getD x.toNat false = true) → canR o told xs = (o, told)
  | [], o, told, _ => rfl
  | x :: xs, o, told, h => by
    simp only [canR]
    rw [if_pos (h x List.mem_cons_self)]
    exact canR_done xs o told (fun y hy => h y (List.mem_cons_of_mem _ hy))
theorem undR_in {p : List Int} {o : List Bool} (t : Int) (h : tokOk p o) : ∀ x ∈ undR p t, 0 ≤ x ∧ x < (o.length : Int) := fun x hx => by
  have := undR_mem p t x hx
  have := h.1
  omega
theorem tokOk_can {p : List Int} {o : List Bool} (t : Int) (h : tokOk p o) : tokOk p (canR o [] (undR p t)).1 := by
  have hm := undR_in t h
  have hl := (canR_len (undR p t) o []).1
  have he := h.1
  refine ⟨by rw [hl]; exact h.1, h.2.1, fun i _ hi => ?_⟩
  have h1 := h.2.2 i (Nat.zero_le _) hi
  refine ⟨h1.1, fun h2 h3 => ?_⟩
  have h4 := h1.1.2
  rw [canR_off _ _ _ hm _ (by omega)] at h3 ⊢
  rcases h3 with h3 | h3
  · exact .inl (h1.2 h2 h3)
  · exact .inr ((undR_char t h i hi).2 (.inr (by rwa [Int.toNat_of_nonneg h2] at h3)))
theorem tokOk_snoc {p : List Int} {o : List Bool} {a : Int} (h : tokOk p o) (ha : 0 ≤ a ∧ a < (p.length : Int)) (hl : p.length < 24) : tokOk (p ++ [a]) (o ++ [true]) := by
  have he := h.1
  refine ⟨by simp [he], by simp; omega, fun i _ hi => ?_⟩
  simp only [List.length_append, List.length_cons, List.length_nil] at hi
  by_cases e : i < p.length
  · have h1 := h.2.2 i (Nat.zero_le _) e
    have e1 : (p ++ [a]).getD i 0 = p.getD i 0 := by
      rw [List.getD_eq_getElem?_getD, List.getD_eq_getElem?_getD, List.getElem?_append_left e]
    have e2 : ∀ j : Nat, j < o.length → (o ++ [true]).getD j false = o.getD j false := fun j hj => by
      rw [List.getD_eq_getElem?_getD, List.getD_eq_getElem?_getD, List.getElem?_append_left hj]
    have h2 := h1.1
    rw [e1, e2 i (by omega), e2 _ (by omega)]
    exact h1
  · obtain rfl : i = p.length := by omega
    have e1 : (p ++ [a]).getD p.length 0 = a := by
      rw [List.getD_eq_getElem?_getD, List.getElem?_append_right (Nat.le_refl _)]
      simp
    have e2 : (o ++ [true]).getD p.length false = true := by
      rw [he, List.getD_eq_getElem?_getD, List.getElem?_append_right (Nat.le_refl _)]
      simp
    rw [e1, e2]
    exact ⟨by omega, fun _ _ => rfl⟩
end Go.Proofs.Ytghmhekjdjdleaa.Q
