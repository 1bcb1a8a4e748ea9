/- Plain laws of what the printed functions compute, the program's and the reference's, for every number and list; conditions: those of each theorem. -/
import Derived.Test.YtghmhekjdjdleaaZx3
import Derived.Test.YtghmhekjdjdleaaZx4
import Derived.Test.YtghmhekjdjdleaaZx5
import Derived.Test.YtghmhekjdjdleaaZx6
import Derived.Test.YtghmhekjdjdleaaZx7
import Derived.Test.YtghmhekjdjdleaaZx8
import Derived.Test.YtghmhekjdjdleaaZx14
import Derived.Test.YtghmhekjdjdleaaZx16
import Derived.Test.YtghmhekjdjdleaaZx17
import Derived.Test.YtghmhekjdjdleaaZx20
import Derived.Test.YtghmhekjdjdleaaZx21
import Derived.Test.YtghmhekjdjdleaaZx24
import Derived.Test.YtghmhekjdjdleaaZx25
import Derived.Test.YtghmhekjdjdleaaZx35
import Derived.Test.YtghmhekjdjdleaaZx36
import Derived.Test.YtghmhekjdjdleaaZx37
import Derived.Test.YtghmhekjdjdleaaZx38
import Derived.Test.YtghmhekjdjdleaaZx39
import Derived.Test.YtghmhekjdjdleaaZx40
namespace Go.Proofs.Ytghmhekjdjdleaa.Q
open Go.RowKit Go.Proofs.Ytghmhekjdjdleaa.Z Go.Proofs.YtghmhekjdjdleaaW.PrintWords Go.Proofs.YtghmhekjdjdleaaW.PrintLast Go.Proofs.YtghmhekjdjdleaaW.PrintMore
set_option linter.unusedVariables false
set_option linter.unusedSimpArgs false
theorem w64 {x : Int} (h0 : -9223372036854775808 ≤ x) (h1 : x ≤ 9223372036854775807) : wrap64 x = x := by unfold wrap64; omega
theorem w64n {n m : Nat} (h : n < m) (hm : m ≤ 9223372036854775807) : wrap64 ((n : Int) + 1) = ((n + 1 : Nat) : Int) := by rw [w64 (by omega) (by omega)]; omega
theorem rd_nat (l : List Int) (n : Nat) : rd l (n : Int) = l.getD n 0 := by simp [rd]
theorem drop_cons {α : Type} (d : α) (l : List α) (n : Nat) (h : n < l.length) : l.drop n = l.getD n d :: l.drop (n + 1) := by
  rw [List.drop_eq_getElem_cons h, List.getD_eq_getElem?_getD, List.getElem?_eq_getElem h]; rfl
theorem take_cons {α : Type} (d : α) (l : List α) (n : Nat) (h : n < l.length) : l.take (n + 1) = l.take n ++ [l.getD n d] := by
  rw [List.take_succ_eq_append_getElem h, List.getD_eq_getElem?_getD, List.getElem?_eq_getElem h]; rfl
noncomputable def bP (p : Prop) : Bool := @decide p (Classical.propDecidable p)
theorem bP_iff {p : Prop} : bP p = true ↔ p := by simp [bP]
theorem bP_pos {p : Prop} (h : p) : bP p = true := bP_iff.2 h
theorem bP_neg {p : Prop} (h : ¬ p) : bP p = false := by
  cases hb : bP p
  · rfl
  · exact absurd (bP_iff.1 hb) h
theorem bP_congr {p q : Prop} (h : p ↔ q) : bP p = bP q := by rw [propext h]
theorem bP_dec (p : Prop) [Decidable p] : decide p = bP p := by
  by_cases h : p
  · rw [bP_pos h, decide_eq_true h]
  · rw [bP_neg h, decide_eq_false h]
theorem Ev_eq {α : Type} {g : Nat → Option α} {r s : α} (h : Ev g r) (e : r = s) : Ev g s := e ▸ h
theorem Ev_ifpos {α : Type} {c : Prop} [Decidable c] {g f : Nat → Option α} {r : α} (h : c) (k : Ev g r) : Ev (fun n => if c then g n else f n) r := by
  simpa only [if_pos h] using k
theorem Ev_ifneg {α : Type} {c : Prop} [Decidable c] {g f : Nat → Option α} {r : α} (h : ¬ c) (k : Ev f r) : Ev (fun n => if c then g n else f n) r := by
  simpa only [if_neg h] using k
theorem Ev_some {α β : Type} {g : Option α} {f : Nat → α → Option β} {a : α} {r : β} (h : g = some a) (k : Ev (fun n => f n a) r) : Ev (fun n => g.bind (f n)) r := by
  simpa only [h, Option.bind_some] using k
def pos (a : Int) : List Int → Int → Int
  | [], _ => -1
  | x :: xs, i => if x = a then i else pos a xs (i + 1)
theorem pos_spec (a : Int) : ∀ (l : List Int) (i : Int), 0 ≤ i → (a ∈ l → i ≤ pos a l i ∧ pos a l i < i + l.length) ∧ (a ∉ l → pos a l i = -1)
  | [], i, _ => by simp [pos]
  | x :: xs, i, hi => by
    have ih := pos_spec a xs (i + 1) (by omega)
    unfold pos
    by_cases hx : x = a
    · rw [if_pos hx]
      refine ⟨fun _ => ⟨Int.le_refl _, by simp only [List.length_cons]; omega⟩, fun h => absurd (by rw [hx]; exact List.mem_cons_self) h⟩
    · rw [if_neg hx]
      refine ⟨fun h => ?_, fun h => ih.2 (fun h' => h (List.mem_cons_of_mem _ h'))⟩
      have h' : a ∈ xs := by
        rcases List.mem_cons.1 h with h | h
        · exact absurd h.symm hx
        · exact h
      have := ih.1 h'
      simp only [List.length_cons]
      omega
theorem pos_mem (a : Int) (l : List Int) : (0 ≤ pos a l 0) ↔ a ∈ l := by
  have h := pos_spec a l 0 (by omega)
  constructor
  · intro h0
    by_cases hm : a ∈ l
    · exact hm
    · have := h.2 hm; omega
  · intro hm
    exact (h.1 hm).1
theorem Index_l (l : List Int) (a : Int) (hl : l.length ≤ 9223372036854775807) : ∀ d n : Nat, n + d = l.length → Ev (fun k => slices_Index_int_int.l0 k l a (l.length : Int) n) (pos a (l.drop n) n)
  | 0, n, hd => by
    refine Ev.step (fun _ => rfl) ?_
    simp only [slices_Index_int_int.l0, if_neg (show ¬ (n : Int) < (l.length : Int) by omega)]
    rw [List.drop_eq_nil_of_le (by omega)]
    exact Ev.now _
  | d + 1, n, hd => by
    refine Ev.step (fun _ => rfl) ?_
    simp only [slices_Index_int_int.l0, if_pos (show (n : Int) < (l.length : Int) by omega), if_pos (show (0 : Int) ≤ (n : Int) by omega), w64n (show n < l.length by omega) hl, rd_nat]
    rw [drop_cons 0 l n (by omega)]
    by_cases h : a = l.getD n 0
    · simp only [if_pos h]
      refine Ev_eq (Ev.now _) ?_
      simp only [pos]
      rw [if_pos h.symm]
    · simp only [if_neg h]
      refine Ev_eq (Index_l l a hl d (n + 1) (by omega)) ?_
      simp only [pos]
      rw [if_neg (fun e => h e.symm)]
      rw [show ((n + 1 : Nat) : Int) = (n : Int) + 1 by omega]
theorem Index_ev (l : List Int) (a : Int) (hl : l.length ≤ 9223372036854775807) : Ev (fun k => slices_Index_int_int.f k l a) (pos a l 0) := by
  simp only [slices_Index_int_int.f]
  exact Index_l l a hl l.length 0 (by omega)
theorem Contains_ev (l : List Int) (a : Int) (hl : l.length ≤ 9223372036854775807) : Ev (fun k => slices_Contains_int_int.f k l a) (bP (a ∈ l)) := by
  simp only [slices_Contains_int_int.f]
  refine Ev.bind (Index_ev l a hl) ?_
  refine Ev_eq (Ev.now _) ?_
  rw [bP_dec]
  exact bP_congr (pos_mem a l)
theorem implPlaceOf_ev (l : List Int) (a : Int) (hl : l.length ≤ 9223372036854775807) : Ev (fun k => impl_PlaceOf.f k l a) (pos a l 0) := by
  simp only [impl_PlaceOf.f]
  exact Ev.bind (Index_ev l a hl) (Ev.now _)
theorem l1In_eq (a b c : Int) : spec_l1In.f a b c = some (bP (b ≤ a ∧ a ≤ c)) := by
  simp only [spec_l1In.f]
  by_cases h : a ≥ b
  · rw [if_pos h, bP_dec, bP_congr (show (a ≤ c) ↔ (b ≤ a ∧ a ≤ c) by omega)]
  · rw [if_neg h, bP_neg (by omega)]
theorem within_eq (a b c : Int) : impl_within.f a b c = some (bP (b ≤ a ∧ a ≤ c)) := by
  simp only [impl_within.f]
  by_cases h : a ≥ b
  · rw [if_pos h, bP_dec, bP_congr (show (a ≤ c) ↔ (b ≤ a ∧ a ≤ c) by omega)]
  · rw [if_neg h, bP_neg (by omega)]
def isCl (a : Int) : Prop := 0 ≤ a ∧ a ≤ 63
theorem l2Client_eq (a : Int) : spec_l2Client.f a = some (bP (isCl a)) := by
  simp only [spec_l2Client.f, l1In_eq, Option.bind_some, isCl]
theorem isClient_eq (a : Int) : impl_isClient.f a = some (bP (isCl a)) := by
  simp only [impl_isClient.f, within_eq, Option.bind_some, isCl]
theorem l2Has_l (l : List Int) (a : Int) (hl : l.length ≤ 9223372036854775807) : ∀ d n : Nat, n + d = l.length → Ev (fun k => spec_l2Has.l0 k l a n) (bP (a ∈ l.drop n))
  | 0, n, hd => by
    refine Ev.step (fun _ => rfl) ?_
    simp only [spec_l2Has.l0, if_neg (show ¬ (n : Int) < (l.length : Int) by omega)]
    rw [List.drop_eq_nil_of_le (by omega), bP_neg (by simp)]
    exact Ev.now _
  | d + 1, n, hd => by
    refine Ev.step (fun _ => rfl) ?_
    simp only [spec_l2Has.l0, if_pos (show (n : Int) < (l.length : Int) by omega), if_pos (show (0 : Int) ≤ (n : Int) by omega), w64n (show n < l.length by omega) hl, rd_nat]
    rw [drop_cons 0 l n (by omega)]
    by_cases h : l.getD n 0 = a
    · simp only [if_pos h]
      rw [bP_pos (by rw [h]; exact List.mem_cons_self)]
      exact Ev.now _
    · simp only [if_neg h]
      refine Ev_eq (l2Has_l l a hl d (n + 1) (by omega)) (bP_congr ?_)
      rw [List.mem_cons]
      exact ⟨.inr, fun h' => h'.resolve_left (fun e => h e.symm)⟩
theorem l2Has_ev (l : List Int) (a : Int) (hl : l.length ≤ 9223372036854775807) : Ev (fun k => spec_l2Has.f k l a) (bP (a ∈ l)) := by
  simp only [spec_l2Has.f]
  exact l2Has_l l a hl l.length 0 (by omega)
def lineFrom (l : List Int) (n : Nat) : Prop := ∀ i, n ≤ i → i < l.length → isCl (l.getD i 0) ∧ l.getD i 0 ∉ l.take i
def lineOk (l : List Int) : Prop := l.length ≤ 32 ∧ lineFrom l 0
theorem lineFrom_step (l : List Int) (n : Nat) (h : n < l.length) : lineFrom l n ↔ (isCl (l.getD n 0) ∧ l.getD n 0 ∉ l.take n) ∧ lineFrom l (n + 1) := by
  constructor
  · intro hf
    exact ⟨hf n (Nat.le_refl _) h, fun i hi => hf i (by omega)⟩
  · rintro ⟨h0, hf⟩ i hi hl
    rcases Nat.eq_or_lt_of_le hi with rfl | hlt
    · exact h0
    · exact hf i hlt hl
theorem specLineOk_l (l : List Int) (hl : l.length ≤ 9223372036854775807) : ∀ d n : Nat, n + d = l.length → Ev (fun k => spec_LineOk.l0 k l n) (bP (lineFrom l n))
  | 0, n, hd => by
    refine Ev.step (fun _ => rfl) ?_
    simp only [spec_LineOk.l0, if_neg (show ¬ (n : Int) < (l.length : Int) by omega)]
    rw [bP_pos (show lineFrom l n from fun i hi hl => by omega)]
    exact Ev.now _
  | d + 1, n, hd => by
    refine Ev.step (fun _ => rfl) ?_
    simp only [spec_LineOk.l0, if_pos (show (n : Int) < (l.length : Int) by omega), if_pos (show (0 : Int) ≤ (n : Int) by omega), w64n (show n < l.length by omega) hl, rd_nat, l2Client_eq, Option.bind_some, if_pos (show (n : Int) ≤ (l.length : Int) by omega), Int.toNat_natCast]
    rw [bP_congr (lineFrom_step l n (by omega))]
    by_cases h1 : isCl (l.getD n 0)
    · simp only [bP_pos h1, if_true]
      refine Ev.bind (l2Has_ev (l.take n) (l.getD n 0) (by rw [List.length_take]; omega)) ?_
      by_cases h2 : l.getD n 0 ∈ l.take n
      · simp only [bP_pos h2, if_true]
        rw [bP_neg (fun h => h.1.2 h2)]
        exact Ev.now _
      · simp only [bP_neg h2, if_neg (show ¬ (false = true) by decide)]
        exact Ev_eq (specLineOk_l l hl d (n + 1) (by omega)) (bP_congr ⟨fun h => ⟨⟨h1, h2⟩, h⟩, fun h => h.2⟩)
    · simp only [bP_neg h1, if_neg (show ¬ (false = true) by decide)]
      rw [bP_neg (fun h => h1 h.1.1)]
      exact Ev.now _
theorem specLineOk_ev (l : List Int) (hl : l.length ≤ 9223372036854775807) : Ev (fun k => spec_LineOk.f k l) (bP (lineOk l)) := by
  by_cases h : l.length ≤ 32
  · simp only [spec_LineOk.f, if_neg (show ¬ (l.length : Int) > 32 by omega)]
    exact Ev_eq (specLineOk_l l hl l.length 0 (by omega)) (bP_congr ⟨fun h' => ⟨h, h'⟩, fun h' => h'.2⟩)
  · simp only [spec_LineOk.f, if_pos (show (l.length : Int) > 32 by omega)]
    rw [bP_neg (fun h' => h h'.1)]
    exact Ev.now _
theorem clientsOk_l (l : List Int) (hl : l.length ≤ 9223372036854775807) : ∀ d n : Nat, n + d = l.length → Ev (fun k => impl_clientsOk.l0 k l l (l.length : Int) n) (bP (l.length ≤ 32 ∧ lineFrom l n))
  | 0, n, hd => by
    refine Ev.step (fun _ => rfl) ?_
    simp only [impl_clientsOk.l0, if_neg (show ¬ (n : Int) < (l.length : Int) by omega)]
    refine Ev_eq (Ev.now _) ?_
    rw [bP_dec]
    exact bP_congr ⟨fun h => ⟨by omega, fun i hi hl => by omega⟩, fun h => by have := h.1; omega⟩
  | d + 1, n, hd => by
    refine Ev.step (fun _ => rfl) ?_
    simp only [impl_clientsOk.l0, if_pos (show (n : Int) < (l.length : Int) by omega), if_pos (show (0 : Int) ≤ (n : Int) by omega), w64n (show n < l.length by omega) hl, rd_nat, isClient_eq, Option.bind_some, if_pos (show (n : Int) ≤ (l.length : Int) by omega), Int.toNat_natCast]
    rw [bP_congr (and_congr_right fun _ => lineFrom_step l n (by omega))]
    by_cases h1 : isCl (l.getD n 0)
    · simp only [bP_pos h1, if_true]
      refine Ev.bind (Contains_ev (l.take n) (l.getD n 0) (by rw [List.length_take]; omega)) ?_
      by_cases h2 : l.getD n 0 ∈ l.take n
      · simp only [bP_pos h2, if_true]
        rw [bP_neg (fun h => h.2.1.2 h2)]
        exact Ev.now _
      · simp only [bP_neg h2, if_neg (show ¬ (false = true) by decide)]
        exact Ev_eq (clientsOk_l l hl d (n + 1) (by omega)) (bP_congr ⟨fun h => ⟨h.1, ⟨h1, h2⟩, h.2⟩, fun h => ⟨h.1, h.2.2⟩⟩)
    · simp only [bP_neg h1, if_neg (show ¬ (false = true) by decide)]
      rw [bP_neg (fun h => h1 h.2.1.1)]
      exact Ev.now _
theorem clientsOk_ev (l : List Int) (hl : l.length ≤ 9223372036854775807) : Ev (fun k => impl_clientsOk.f k l) (bP (lineOk l)) := by
  simp only [impl_clientsOk.f]
  exact clientsOk_l l hl l.length 0 (by omega)
theorem implLineOk_ev (l : List Int) (hl : l.length ≤ 9223372036854775807) : Ev (fun k => impl_LineOk.f k l) (bP (lineOk l)) := by
  simp only [impl_LineOk.f]
  exact Ev.bind (clientsOk_ev l hl) (Ev.now _)
theorem l2Copy_eq (l : List Int) (hl : l.length < 17592186044416) : spec_l2Copy.f l = some l := by
  simp only [spec_l2Copy.f, Option.bind_some, List.length_nil, Nat.zero_add, if_pos hl, List.nil_append]
theorem Clone_eq (l : List Int) (hl : l.length < 17592186044416) : slices_Clone_int_int.f l = some l := by
  simp only [slices_Clone_int_int.f, Option.bind_some, List.length_nil, Nat.zero_add, if_pos hl, List.nil_append]
theorem both_Join (l : List Int) (a : Int) (hl : l.length ≤ 1048576) : ∃ r : List Int × Int, Ev (fun k => spec_Join.f k l a) r ∧ Ev (fun k => impl_Join.f k l a) r ∧ r.1.length ≤ 1048577 ∧ (r.2 = 0 → r.1 = l ++ [a] ∧ lineOk l ∧ isCl a ∧ a ∉ l ∧ l.length < 32) ∧ (r.2 ≠ 0 → r.1 = l) := by
  by_cases h : lineOk l ∧ isCl a
  · obtain ⟨h1, h2⟩ := h
    by_cases h3 : a ∈ l
    · refine ⟨(l, 5), ?_, ?_, by show l.length ≤ _; omega, by simp, by simp⟩
      · simp only [spec_Join.f]
        repeat (first
          | (dsimp only)
          | (with_reducible exact Ev.now _)
          | (simp only [bP_pos h1, bP_pos h2, bP_pos h3, if_true, Bool.not_true, Bool.not_false])
          | (with_reducible refine Ev.bind (l2Has_ev _ _ (by omega)) ?_)
          | (with_reducible refine Ev.bind (specLineOk_ev _ (by omega)) ?_)
          | (with_reducible refine Ev_some (l2Client_eq _) ?_)
          | (with_reducible refine Ev_some (l2Copy_eq _ (by omega)) ?_)
          | (refine Ev_ifpos (by first | rfl | omega | (simp; omega)) ?_)
          | (refine Ev_ifneg (by first | omega | decide | (simp; omega)) ?_)
          | (refine Ev_ifneg (by simp only [bne_self_eq_false]; decide) ?_)
          | (refine Ev_ifpos (by simp) ?_)
          | (refine Ev_ifneg (by simp) ?_)
          | (refine Ev.step (fun _ => rfl) ?_; simp only [spec_Join.j0]))
      · simp only [impl_Join.f]
        repeat (first
          | (dsimp only)
          | (with_reducible exact Ev.now _)
          | (simp only [bP_pos h1, bP_pos h2, bP_pos h3, if_true, Bool.not_true, Bool.not_false])
          | (with_reducible refine Ev.bind (Contains_ev _ _ (by omega)) ?_)
          | (with_reducible refine Ev.bind (implLineOk_ev _ (by omega)) ?_)
          | (with_reducible refine Ev_some (isClient_eq _) ?_)
          | (with_reducible refine Ev_some (Clone_eq _ (by omega)) ?_)
          | (refine Ev_ifpos (by first | rfl | omega | (simp; omega)) ?_)
          | (refine Ev_ifneg (by first | omega | decide | (simp; omega)) ?_)
          | (refine Ev_ifneg (by simp only [bne_self_eq_false]; decide) ?_)
          | (refine Ev_ifpos (by simp) ?_)
          | (refine Ev_ifneg (by simp) ?_)
          | (refine Ev.step (fun _ => rfl) ?_; simp only [impl_Join.j0]))
    · by_cases h4 : l.length = 32
      · refine ⟨(l, 2), ?_, ?_, by show l.length ≤ _; omega, by simp, by simp⟩
        · simp only [spec_Join.f]
          repeat (first
            | (dsimp only)
            | (with_reducible exact Ev.now _)
            | (simp only [bP_pos h1, bP_pos h2, bP_neg h3, if_true, Bool.not_true, Bool.not_false])
            | (with_reducible refine Ev.bind (l2Has_ev _ _ (by omega)) ?_)
            | (with_reducible refine Ev.bind (specLineOk_ev _ (by omega)) ?_)
            | (with_reducible refine Ev_some (l2Client_eq _) ?_)
            | (with_reducible refine Ev_some (l2Copy_eq _ (by omega)) ?_)
            | (refine Ev_ifpos (by first | rfl | omega | (simp; omega)) ?_)
            | (refine Ev_ifneg (by first | omega | decide | (simp; omega)) ?_)
            | (refine Ev_ifneg (by simp only [bne_self_eq_false]; decide) ?_)
            | (refine Ev_ifpos (by simp) ?_)
            | (refine Ev_ifneg (by simp) ?_)
            | (refine Ev.step (fun _ => rfl) ?_; simp only [spec_Join.j0]))
        · simp only [impl_Join.f]
          repeat (first
            | (dsimp only)
            | (with_reducible exact Ev.now _)
            | (simp only [bP_pos h1, bP_pos h2, bP_neg h3, if_true, Bool.not_true, Bool.not_false])
            | (with_reducible refine Ev.bind (Contains_ev _ _ (by omega)) ?_)
            | (with_reducible refine Ev.bind (implLineOk_ev _ (by omega)) ?_)
            | (with_reducible refine Ev_some (isClient_eq _) ?_)
            | (with_reducible refine Ev_some (Clone_eq _ (by omega)) ?_)
            | (refine Ev_ifpos (by first | rfl | omega | (simp; omega)) ?_)
            | (refine Ev_ifneg (by first | omega | decide | (simp; omega)) ?_)
            | (refine Ev_ifneg (by simp only [bne_self_eq_false]; decide) ?_)
            | (refine Ev_ifpos (by simp) ?_)
            | (refine Ev_ifneg (by simp) ?_)
            | (refine Ev.step (fun _ => rfl) ?_; simp only [impl_Join.j0]))
      · have h5 := h1.1
        refine ⟨(l ++ [a], 0), ?_, ?_, by simp; omega, fun _ => ⟨rfl, h1, h2, h3, by omega⟩, by simp⟩
        · simp only [spec_Join.f]
          repeat (first
            | (dsimp only)
            | (with_reducible exact Ev.now _)
            | (simp only [bP_pos h1, bP_pos h2, bP_neg h3, if_true, Bool.not_true, Bool.not_false])
            | (with_reducible refine Ev.bind (l2Has_ev _ _ (by omega)) ?_)
            | (with_reducible refine Ev.bind (specLineOk_ev _ (by omega)) ?_)
            | (with_reducible refine Ev_some (l2Client_eq _) ?_)
            | (with_reducible refine Ev_some (l2Copy_eq _ (by omega)) ?_)
            | (refine Ev_ifpos (by first | rfl | omega | (simp; omega)) ?_)
            | (refine Ev_ifneg (by first | omega | decide | (simp; omega)) ?_)
            | (refine Ev_ifneg (by simp only [bne_self_eq_false]; decide) ?_)
            | (refine Ev_ifpos (by simp) ?_)
            | (refine Ev_ifneg (by simp) ?_)
            | (refine Ev.step (fun _ => rfl) ?_; simp only [spec_Join.j0]))
        · simp only [impl_Join.f]
          repeat (first
            | (dsimp only)
            | (with_reducible exact Ev.now _)
            | (simp only [bP_pos h1, bP_pos h2, bP_neg h3, if_true, Bool.not_true, Bool.not_false])
            | (with_reducible refine Ev.bind (Contains_ev _ _ (by omega)) ?_)
            | (with_reducible refine Ev.bind (implLineOk_ev _ (by omega)) ?_)
            | (with_reducible refine Ev_some (isClient_eq _) ?_)
            | (with_reducible refine Ev_some (Clone_eq _ (by omega)) ?_)
            | (refine Ev_ifpos (by first | rfl | omega | (simp; omega)) ?_)
            | (refine Ev_ifneg (by first | omega | decide | (simp; omega)) ?_)
            | (refine Ev_ifneg (by simp only [bne_self_eq_false]; decide) ?_)
            | (refine Ev_ifpos (by simp) ?_)
            | (refine Ev_ifneg (by simp) ?_)
            | (refine Ev.step (fun _ => rfl) ?_; simp only [impl_Join.j0]))
  · refine ⟨(l, 1), ?_, ?_, by show l.length ≤ _; omega, by simp, by simp⟩
    · simp only [spec_Join.f]
      by_cases h1 : lineOk l
      · have h2 : ¬ isCl a := fun h2 => h ⟨h1, h2⟩
        repeat (first
          | (dsimp only)
          | (with_reducible exact Ev.now _)
          | (simp only [bP_pos h1, bP_neg h2, if_true, Bool.not_true, Bool.not_false])
          | (with_reducible refine Ev.bind (l2Has_ev _ _ (by omega)) ?_)
          | (with_reducible refine Ev.bind (specLineOk_ev _ (by omega)) ?_)
          | (with_reducible refine Ev_some (l2Client_eq _) ?_)
          | (with_reducible refine Ev_some (l2Copy_eq _ (by omega)) ?_)
          | (refine Ev_ifpos (by first | rfl | omega | (simp; omega)) ?_)
          | (refine Ev_ifneg (by first | omega | decide | (simp; omega)) ?_)
          | (refine Ev_ifneg (by simp only [bne_self_eq_false]; decide) ?_)
          | (refine Ev_ifpos (by simp) ?_)
          | (refine Ev_ifneg (by simp) ?_)
          | (refine Ev.step (fun _ => rfl) ?_; simp only [spec_Join.j0]))
      · skip
        repeat (first
          | (dsimp only)
          | (with_reducible exact Ev.now _)
          | (simp only [bP_neg h1, if_true, Bool.not_true, Bool.not_false])
          | (with_reducible refine Ev.bind (l2Has_ev _ _ (by omega)) ?_)
          | (with_reducible refine Ev.bind (specLineOk_ev _ (by omega)) ?_)
          | (with_reducible refine Ev_some (l2Client_eq _) ?_)
          | (with_reducible refine Ev_some (l2Copy_eq _ (by omega)) ?_)
          | (refine Ev_ifpos (by first | rfl | omega | (simp; omega)) ?_)
          | (refine Ev_ifneg (by first | omega | decide | (simp; omega)) ?_)
          | (refine Ev_ifneg (by simp only [bne_self_eq_false]; decide) ?_)
          | (refine Ev_ifpos (by simp) ?_)
          | (refine Ev_ifneg (by simp) ?_)
          | (refine Ev.step (fun _ => rfl) ?_; simp only [spec_Join.j0]))
    · simp only [impl_Join.f]
      by_cases h1 : lineOk l
      · have h2 : ¬ isCl a := fun h2 => h ⟨h1, h2⟩
        repeat (first
          | (dsimp only)
          | (with_reducible exact Ev.now _)
          | (simp only [bP_pos h1, bP_neg h2, if_true, Bool.not_true, Bool.not_false])
          | (with_reducible refine Ev.bind (Contains_ev _ _ (by omega)) ?_)
          | (with_reducible refine Ev.bind (implLineOk_ev _ (by omega)) ?_)
          | (with_reducible refine Ev_some (isClient_eq _) ?_)
          | (with_reducible refine Ev_some (Clone_eq _ (by omega)) ?_)
          | (refine Ev_ifpos (by first | rfl | omega | (simp; omega)) ?_)
          | (refine Ev_ifneg (by first | omega | decide | (simp; omega)) ?_)
          | (refine Ev_ifneg (by simp only [bne_self_eq_false]; decide) ?_)
          | (refine Ev_ifpos (by simp) ?_)
          | (refine Ev_ifneg (by simp) ?_)
          | (refine Ev.step (fun _ => rfl) ?_; simp only [impl_Join.j0]))
      · skip
        repeat (first
          | (dsimp only)
          | (with_reducible exact Ev.now _)
          | (simp only [bP_neg h1, if_true, Bool.not_true, Bool.not_false])
          | (with_reducible refine Ev.bind (Contains_ev _ _ (by omega)) ?_)
          | (with_reducible refine Ev.bind (implLineOk_ev _ (by omega)) ?_)
          | (with_reducible refine Ev_some (isClient_eq _) ?_)
          | (with_reducible refine Ev_some (Clone_eq _ (by omega)) ?_)
          | (refine Ev_ifpos (by first | rfl | omega | (simp; omega)) ?_)
          | (refine Ev_ifneg (by first | omega | decide | (simp; omega)) ?_)
          | (refine Ev_ifneg (by simp only [bne_self_eq_false]; decide) ?_)
          | (refine Ev_ifpos (by simp) ?_)
          | (refine Ev_ifneg (by simp) ?_)
          | (refine Ev.step (fun _ => rfl) ?_; simp only [impl_Join.j0]))
theorem pos_split (a : Int) : ∀ (l : List Int) (i : Int), a ∈ l → ∃ n : Nat, pos a l i = i + n ∧ n < l.length ∧ (l.filter fun x => decide (x ≠ a)) = l.take n ++ (l.drop (n + 1)).filter fun x => decide (x ≠ a)
  | [], _, h => by simp at h
  | x :: xs, i, h => by
    by_cases hx : x = a
    · refine ⟨0, ?_, by simp, ?_⟩
      · simp only [pos]; rw [if_pos hx]; omega
      · rw [List.filter_cons_of_neg (by rw [hx]; simp)]
        simp
    · have h' : a ∈ xs := by
        rcases List.mem_cons.1 h with h | h
        · exact absurd h.symm hx
        · exact h
      obtain ⟨n, h1, h2, h3⟩ := pos_split a xs (i + 1) h'
      refine ⟨n + 1, ?_, by simp; omega, ?_⟩
      · simp only [pos]; rw [if_neg hx, h1]; omega
      · rw [List.filter_cons_of_pos (by simpa using hx), h3]
        simp
theorem IFwo_l (l : List Int) (a : Int) (hl : l.length ≤ 9223372036854775807) : ∀ d n : Nat, n + d = l.length → Ev (fun k => slices_IndexFunc_wo.l0 k l a (l.length : Int) n) (pos a (l.drop n) n)
  | 0, n, hd => by
    refine Ev.step (fun _ => rfl) ?_
    simp only [slices_IndexFunc_wo.l0, if_neg (show ¬ (n : Int) < (l.length : Int) by omega)]
    rw [List.drop_eq_nil_of_le (by omega)]
    exact Ev.now _
  | d + 1, n, hd => by
    refine Ev.step (fun _ => rfl) ?_
    simp only [slices_IndexFunc_wo.l0, if_pos (show (n : Int) < (l.length : Int) by omega), if_pos (show (0 : Int) ≤ (n : Int) by omega), w64n (show n < l.length by omega) hl, rd_nat, impl_without_1.f, Option.bind_some, decide_eq_true_eq]
    rw [drop_cons 0 l n (by omega)]
    by_cases h : l.getD n 0 = a
    · simp only [if_pos h]
      refine Ev_eq (Ev.now _) ?_
      simp only [pos]
      rw [if_pos h]
    · simp only [if_neg h]
      refine Ev_eq (IFwo_l l a hl d (n + 1) (by omega)) ?_
      simp only [pos]
      rw [if_neg h]
      rw [show ((n + 1 : Nat) : Int) = (n : Int) + 1 by omega]
theorem IFwo_ev (l : List Int) (a : Int) (hl : l.length ≤ 9223372036854775807) : Ev (fun k => slices_IndexFunc_wo.f k l a) (pos a l 0) := by
  simp only [slices_IndexFunc_wo.f]
  exact IFwo_l l a hl l.length 0 (by omega)
theorem DFwo_l (a : Int) : ∀ (d n : Nat) (l : List Int), n + d = l.length → l.length ≤ 9223372036854775807 → ∀ i : Nat, i < n → Ev (fun k => slices_DeleteFunc_wo.l0 k l a i n) (l.take i ++ (l.drop n).filter fun x => decide (x ≠ a))
  | 0, n, l, hd, hl, i, hi => by
    refine Ev.step (fun _ => rfl) ?_
    simp only [slices_DeleteFunc_wo.l0, if_neg (show ¬ (n : Int) < (l.length : Int) by omega), if_pos (show (0 : Int) ≤ (i : Int) by omega), if_pos (show (i : Int) < (l.length : Int) by omega), Int.toNat_natCast]
    rw [List.drop_eq_nil_of_le (by omega)]
    simp only [List.filter_nil, List.append_nil]
    exact Ev.now _
  | d + 1, n, l, hd, hl, i, hi => by
    refine Ev.step (fun _ => rfl) ?_
    simp only [slices_DeleteFunc_wo.l0, if_pos (show (n : Int) < (l.length : Int) by omega), if_pos (show (0 : Int) ≤ (n : Int) by omega), if_pos (show (0 : Int) ≤ (i : Int) by omega), if_pos (show (i : Int) < (l.length : Int) by omega), w64n (show n < l.length by omega) hl, w64n (show i < l.length by omega) hl, rd_nat, impl_without_1.f, Option.bind_some, decide_eq_true_eq, Int.toNat_natCast]
    rw [drop_cons 0 l n (by omega)]
    by_cases h : l.getD n 0 = a
    · simp only [if_pos h]
      rw [List.filter_cons_of_neg (by rw [h]; simp)]
      exact DFwo_l a d (n + 1) l (by omega) hl i (by omega)
    · simp only [if_neg h]
      rw [List.filter_cons_of_pos (by simpa using h)]
      have ih := DFwo_l a d (n + 1) (l.set i (l.getD n 0)) (by simp; omega) (by simpa using hl) (i + 1) (by omega)
      refine Ev_eq ih ?_
      rw [take_cons 0 _ i (by simp; omega), List.take_set_of_le (Nat.le_refl i), List.drop_set_of_lt (by omega), List.append_assoc]
      congr 1
      simp [List.getD_eq_getElem?_getD, List.getElem?_set_self (show i < l.length by omega)]
theorem without_ev (l : List Int) (a : Int) (hl : l.length < 17592186044416) : Ev (fun k => impl_without.f k l a) (l.filter fun x => decide (x ≠ a)) := by
  simp only [impl_without.f, Clone_eq l hl, Option.bind_some, slices_DeleteFunc_wo.f]
  refine Ev.bind (IFwo_ev l a (by omega)) ?_
  by_cases h : a ∈ l
  · obtain ⟨n, h1, h2, h3⟩ := pos_split a l 0 h
    rw [h1, h3]
    simp only [if_neg (show ¬ (0 : Int) + (n : Int) = -1 by omega), Int.zero_add]
    rw [w64n h2 (by omega)]
    exact DFwo_l a (l.length - (n + 1)) (n + 1) l (by omega) (by omega) n (by omega)
  · rw [(pos_spec a l 0 (by omega)).2 h]
    simp only [if_true]
    rw [List.filter_eq_self.2 (fun x hx => by simpa using fun e : x = a => h (e ▸ hx))]
    exact Ev.now _
theorem and255 (x : Int) : 0 ≤ Go.bits .and .i64 x 255 ∧ Go.bits .and .i64 x 255 ≤ 255 := by
  have h : (BitVec.ofInt IntKind.i64.bits x &&& BitVec.ofInt IntKind.i64.bits 255).toNat ≤ 255 := by
    rw [BitVec.toNat_and]
    exact Nat.le_trans Nat.and_le_right (by decide)
  unfold Go.bits
  dsimp only
  generalize (BitVec.ofInt IntKind.i64.bits x &&& BitVec.ofInt IntKind.i64.bits 255).toNat = n at h
  have e : IntKind.wrap .i64 (n : Int) = n := by
    unfold IntKind.wrap
    simp only [IntKind.bits, IntKind.signed]
    first | omega | (split <;> omega) | (simp; omega)
  rw [e]
  omega
theorem l1Byte_ex (s : List Int) (i x : Int) (hs : s.length ≤ 4611686018427387904) (h0 : 0 ≤ i) : ∃ b i' x', spec_l1Byte.f s i x = some (b, i', x') ∧ (0 ≤ b ∧ b ≤ 255) ∧ 0 ≤ i' := by
  simp only [spec_l1Byte.f]
  by_cases h : i < (s.length : Int)
  · rw [if_pos h, if_pos h0]
    exact ⟨_, _, _, rfl, and255 _, by rw [w64 (by omega) (by omega)]; omega⟩
  · rw [if_neg h]
    exact ⟨_, _, _, rfl, and255 _, h0⟩
theorem l1Below_ex (s : List Int) (i x a : Int) (hs : s.length ≤ 4611686018427387904) (h0 : 0 ≤ i) : ∃ r i' x', spec_l1Below.f s i x a = some (r, i', x') ∧ 0 ≤ r ∧ (0 < a → r < a) ∧ (a ≤ 0 → r = 0) ∧ 0 ≤ i' := by
  simp only [spec_l1Below.f]
  by_cases h : a ≤ 0
  · rw [if_pos h]
    exact ⟨0, i, x, rfl, by omega, by omega, fun _ => rfl, h0⟩
  · rw [if_neg h]
    by_cases h2 : a ≤ 256
    · rw [if_pos h2]
      obtain ⟨b, i1, x1, e1, hb, h1⟩ := l1Byte_ex s i x hs h0
      simp only [e1, Option.bind_some, if_neg (show ¬ a = 0 by omega)]
      exact ⟨_, _, _, rfl, Int.tmod_nonneg _ hb.1, fun hp => Int.tmod_lt_of_pos _ hp, fun hn => absurd hn h, h1⟩
    · rw [if_neg h2]
      obtain ⟨b1, i1, x1, e1, hb1, h1⟩ := l1Byte_ex s i x hs h0
      obtain ⟨b2, i2, x2, e2, hb2, h2'⟩ := l1Byte_ex s i1 x1 hs h1
      obtain ⟨b3, i3, x3, e3, hb3, h3⟩ := l1Byte_ex s i2 x2 hs h2'
      obtain ⟨b4, i4, x4, e4, hb4, h4⟩ := l1Byte_ex s i3 x3 hs h3
      simp only [e1, e2, e3, e4, Option.bind_some, if_neg (show ¬ a = 0 by omega), w64 (show -9223372036854775808 ≤ b1 * 16777216 by omega) (show b1 * 16777216 ≤ 9223372036854775807 by omega), w64 (show -9223372036854775808 ≤ b2 * 65536 by omega) (show b2 * 65536 ≤ 9223372036854775807 by omega), w64 (show -9223372036854775808 ≤ b3 * 256 by omega) (show b3 * 256 ≤ 9223372036854775807 by omega), w64 (show -9223372036854775808 ≤ b1 * 16777216 + b2 * 65536 by omega) (show b1 * 16777216 + b2 * 65536 ≤ 9223372036854775807 by omega), w64 (show -9223372036854775808 ≤ b1 * 16777216 + b2 * 65536 + b3 * 256 by omega) (show b1 * 16777216 + b2 * 65536 + b3 * 256 ≤ 9223372036854775807 by omega), w64 (show -9223372036854775808 ≤ b1 * 16777216 + b2 * 65536 + b3 * 256 + b4 by omega) (show b1 * 16777216 + b2 * 65536 + b3 * 256 + b4 ≤ 9223372036854775807 by omega)]
      exact ⟨_, _, _, rfl, Int.tmod_nonneg _ (by omega), fun hp => Int.tmod_lt_of_pos _ hp, fun hn => absurd hn h, h4⟩
theorem l1Once_ex (s : List Int) (i x a : Int) (hs : s.length ≤ 4611686018427387904) (h0 : 0 ≤ i) : ∃ b i' x', spec_l1Once.f s i x a = some (b, i', x') ∧ 0 ≤ i' := by
  obtain ⟨r, i', x', e, _, _, _, h⟩ := l1Below_ex s i x a hs h0
  simp only [spec_l1Once.f, e, Option.bind_some]
  exact ⟨_, _, _, rfl, h⟩
theorem l1PickInt_ex (s : List Int) (i x : Int) (l : List Int) (hs : s.length ≤ 4611686018427387904) (h0 : 0 ≤ i) (hl : 0 < l.length) : ∃ r i' x', spec_l1PickInt.f s i x l = some (r, i', x') ∧ r ∈ l ∧ 0 ≤ i' := by
  obtain ⟨r, i', x', e, h1, h2, _, h⟩ := l1Below_ex s i x (l.length : Int) hs h0
  have h3 := h2 (by omega)
  simp only [spec_l1PickInt.f, e, Option.bind_some, if_pos h1, if_pos h3]
  refine ⟨_, _, _, rfl, ?_, h⟩
  unfold rd
  rw [List.getD_eq_getElem?_getD, List.getElem?_eq_getElem (by omega)]
  exact List.getElem_mem _
theorem l1New_l (s : List Int) (hs : s.length ≤ 4611686018427387904) : ∀ d n : Nat, n + d = 4001 → ∀ x : Int, ∃ x' : Int, Ev (fun k => spec_l1New.l0 k s x n) (s, 0, x')
  | 0, n, hn, x => by
    refine ⟨x, Ev.step (fun _ => rfl) ?_⟩
    simp only [spec_l1New.l0]
    by_cases h : (n : Int) < (s.length : Int)
    · simp only [if_pos h, if_neg (show ¬ (n : Int) < 4000 by omega)]
      exact Ev.now _
    · simp only [if_neg h]
      exact Ev.now _
  | d + 1, n, hn, x => by
    by_cases h : (n : Int) < (s.length : Int)
    · by_cases h2 : (n : Int) < 4000
      · obtain ⟨x', h3⟩ := l1New_l s hs d (n + 1) (by omega) (Go.bits .and .i64 (wrap64 ((wrap64 ((wrap64 (x * 131)) + (wrap64 (rd s n)))) + 7)) 1073741823)
        refine ⟨x', Ev.step (fun _ => rfl) ?_⟩
        simp only [spec_l1New.l0, if_pos h, if_pos h2, if_pos (show (0 : Int) ≤ (n : Int) by omega), w64n (show n < s.length by omega) (show s.length ≤ 9223372036854775807 by omega)]
        exact h3
      · refine ⟨x, Ev.step (fun _ => rfl) ?_⟩
        simp only [spec_l1New.l0, if_pos h, if_neg h2]
        exact Ev.now _
    · refine ⟨x, Ev.step (fun _ => rfl) ?_⟩
      simp only [spec_l1New.l0, if_neg h]
      exact Ev.now _
theorem l1New_ev (s : List Int) (hs : s.length ≤ 4611686018427387904) : ∃ x' : Int, Ev (fun k => spec_l1New.f k s) (s, 0, x') := by
  simp only [spec_l1New.f]
  exact l1New_l s hs 4001 0 (by omega) _
theorem l2Line_l (s : List Int) (hs : s.length ≤ 4611686018427387904) (m : Nat) (hm : m ≤ 1000) : ∀ d n : Nat, n + d = m → ∀ (l : List Int) (i x : Int), 0 ≤ i → l.length ≤ n → ∃ l' i' x', Ev (fun k => spec_l2Line.l0 k l (m : Int) n s i x) (l', i', x') ∧ l'.length ≤ m ∧ 0 ≤ i'
  | 0, n, hn, l, i, x, h0, hl => by
    refine ⟨l, i, x, Ev.step (fun _ => rfl) ?_, by omega, h0⟩
    simp only [spec_l2Line.l0, if_neg (show ¬ (n : Int) < (m : Int) by omega)]
    exact Ev.now _
  | d + 1, n, hn, l, i, x, h0, hl => by
    obtain ⟨r, i1, x1, e, h1, h2, _, h3⟩ := l1Below_ex s i x 64 hs h0
    by_cases h : r ∈ l
    · obtain ⟨l', i', x', h4, h5, h6⟩ := l2Line_l s hs m hm d (n + 1) (by omega) l i1 x1 h3 (by omega)
      refine ⟨l', i', x', Ev.step (fun _ => rfl) ?_, h5, h6⟩
      simp only [spec_l2Line.l0, if_pos (show (n : Int) < (m : Int) by omega), e, Option.bind_some]
      refine Ev.bind (l2Has_ev l r (by omega)) ?_
      simp only [bP_pos h, if_true, w64n (show n < m by omega) (by omega)]
      exact h4
    · obtain ⟨l', i', x', h4, h5, h6⟩ := l2Line_l s hs m hm d (n + 1) (by omega) (l ++ [r]) i1 x1 h3 (by simp; omega)
      refine ⟨l', i', x', Ev.step (fun _ => rfl) ?_, h5, h6⟩
      simp only [spec_l2Line.l0, if_pos (show (n : Int) < (m : Int) by omega), e, Option.bind_some]
      refine Ev.bind (l2Has_ev l r (by omega)) ?_
      simp only [bP_neg h, if_neg (show ¬ (false = true) by decide), if_pos (show l.length < 17592186044416 by omega), w64n (show n < m by omega) (by omega)]
      exact h4
theorem l2Line_ex (s : List Int) (hs : s.length ≤ 4611686018427387904) (i x a : Int) (h0 : 0 ≤ i) (ha : 0 ≤ a ∧ a ≤ 900) : ∃ l' i' x', Ev (fun k => spec_l2Line.f k s i x a) (l', i', x') ∧ l'.length ≤ 1000 ∧ 0 ≤ i' := by
  obtain ⟨r, i1, x1, e, h1, h2, _, h3⟩ := l1Below_ex s i x (a + 1) hs h0
  have h4 := h2 (by omega)
  obtain ⟨m, rfl⟩ : ∃ m : Nat, r = m := ⟨r.toNat, by omega⟩
  obtain ⟨l', i', x', h5, h6, h7⟩ := l2Line_l s hs m (by omega) m 0 (by omega) [] i1 x1 h3 (by simp)
  refine ⟨l', i', x', ?_, by omega, h7⟩
  simp only [spec_l2Line.f, w64 (show -9223372036854775808 ≤ a + 1 by omega) (show a + 1 ≤ 9223372036854775807 by omega), e, Option.bind_some]
  exact h5
theorem l2Some_j1 (s : List Int) (hs : s.length ≤ 4611686018427387904) (l : List Int) (i x : Int) (h0 : 0 ≤ i) (hl : l.length ≤ 1000) : ∃ l' i' x', Ev (fun k => spec_l2Some.j1 k l s i x) (l', i', x') ∧ l'.length ≤ 1001 ∧ 0 ≤ i' := by
  obtain ⟨b, i1, x1, e1, h1⟩ := l1Once_ex s i x 8 hs h0
  cases b
  · refine ⟨l, i1, x1, Ev.step (fun _ => rfl) ?_, by omega, h1⟩
    simp only [spec_l2Some.j1, e1, Option.bind_some, if_neg (show ¬ (false = true) by decide)]
    exact Ev.now _
  · obtain ⟨r, i2, x2, e2, _, h2⟩ := l1PickInt_ex s i1 x1 [-1, 64, 3, 3] hs h1 (by simp)
    refine ⟨l ++ [r], i2, x2, Ev.step (fun _ => rfl) ?_, by simp; omega, h2⟩
    simp only [spec_l2Some.j1, e1, Option.bind_some, if_true, e2, if_pos (show l.length < 17592186044416 by omega)]
    exact Ev.now _
theorem l2Some_l (s : List Int) (hs : s.length ≤ 4611686018427387904) : ∀ d n : Nat, n + d = 33 → ∀ (l : List Int) (i x : Int), 0 ≤ i → l.length ≤ n → ∃ l' i' x', Ev (fun k => spec_l2Some.l0 k l n s i x) (l', i', x') ∧ l'.length ≤ 1001 ∧ 0 ≤ i'
  | 0, n, hn, l, i, x, h0, hl => by
    obtain ⟨r, i1, x1, e, h1, h2, _, h3⟩ := l1Below_ex s i x 2 hs h0
    have h4 := h2 (by decide)
    obtain ⟨l', i', x', h5, h6, h7⟩ := l2Some_j1 s hs l i1 x1 h3 (by omega)
    refine ⟨l', i', x', Ev.step (fun _ => rfl) ?_, h6, h7⟩
    simp only [spec_l2Some.l0, e, Option.bind_some, w64 (show -9223372036854775808 ≤ 32 - r by omega) (show 32 - r ≤ 9223372036854775807 by omega), if_neg (show ¬ (n : Int) < 32 - r by omega)]
    exact h5
  | d + 1, n, hn, l, i, x, h0, hl => by
    obtain ⟨r, i1, x1, e, h1, h2, _, h3⟩ := l1Below_ex s i x 2 hs h0
    have h4 := h2 (by decide)
    by_cases h : (n : Int) < 32 - r
    · obtain ⟨l', i', x', h5, h6, h7⟩ := l2Some_l s hs d (n + 1) (by omega) (l ++ [(n : Int)]) i1 x1 h3 (by simp; omega)
      refine ⟨l', i', x', Ev.step (fun _ => rfl) ?_, h6, h7⟩
      simp only [spec_l2Some.l0, e, Option.bind_some, w64 (show -9223372036854775808 ≤ 32 - r by omega) (show 32 - r ≤ 9223372036854775807 by omega), if_pos h, if_pos (show l.length < 17592186044416 by omega), w64n (show n < 1000 by omega) (by omega)]
      exact h5
    · obtain ⟨l', i', x', h5, h6, h7⟩ := l2Some_j1 s hs l i1 x1 h3 (by omega)
      refine ⟨l', i', x', Ev.step (fun _ => rfl) ?_, h6, h7⟩
      simp only [spec_l2Some.l0, e, Option.bind_some, w64 (show -9223372036854775808 ≤ 32 - r by omega) (show 32 - r ≤ 9223372036854775807 by omega), if_neg h]
      exact h5
theorem l2Some_ex (s : List Int) (hs : s.length ≤ 4611686018427387904) (i x : Int) (h0 : 0 ≤ i) : ∃ l' i' x', Ev (fun k => spec_l2Some.f k s i x) (l', i', x') ∧ l'.length ≤ 1001 ∧ 0 ≤ i' := by
  obtain ⟨l, i1, x1, h1, h2, h3⟩ := l2Line_ex s hs i x 6 h0 (by omega)
  obtain ⟨b, i2, x2, e2, h4⟩ := l1Once_ex s i1 x1 10 hs h3
  simp only [spec_l2Some.f]
  cases b
  · obtain ⟨l', i', x', h5, h6, h7⟩ := l2Some_j1 s hs l i2 x2 h4 h2
    refine ⟨l', i', x', Ev.bind h1 ?_, h6, h7⟩
    simp only [e2, Option.bind_some, if_neg (show ¬ (false = true) by decide)]
    exact h5
  · obtain ⟨l', i', x', h5, h6, h7⟩ := l2Some_l s hs 33 0 (by omega) [] i2 x2 h4 (by simp)
    refine ⟨l', i', x', Ev.bind h1 ?_, h6, h7⟩
    simp only [e2, Option.bind_some, if_true]
    exact h5
theorem l2Who_ex (s : List Int) (hs : s.length ≤ 4611686018427387904) (i x : Int) (l : List Int) (h0 : 0 ≤ i) : ∃ a i' x', Ev (fun k => spec_l2Who.f k s i x l) (a, i', x') ∧ 0 ≤ i' := by
  have hj : ∀ (i x : Int), 0 ≤ i → ∃ a i' x', Ev (fun k => spec_l2Who.j0 k l false s i x) (a, i', x') ∧ 0 ≤ i' := by
    intro i x h0
    obtain ⟨b, i1, x1, e1, h1⟩ := l1Once_ex s i x 12 hs h0
    cases b
    · obtain ⟨r, i2, x2, e2, _, _, _, h2⟩ := l1Below_ex s i1 x1 64 hs h1
      refine ⟨r, i2, x2, Ev.step (fun _ => rfl) ?_, h2⟩
      simp only [spec_l2Who.j0, if_neg (show ¬ (false = true) by decide), e1, Option.bind_some, e2]
      exact Ev.now _
    · obtain ⟨r, i2, x2, e2, _, h2⟩ := l1PickInt_ex s i1 x1 [-1, 64] hs h1 (by simp)
      refine ⟨r, i2, x2, Ev.step (fun _ => rfl) ?_, h2⟩
      simp only [spec_l2Who.j0, if_neg (show ¬ (false = true) by decide), e1, Option.bind_some, if_true, e2]
      exact Ev.now _
  simp only [spec_l2Who.f]
  by_cases h : (l.length : Int) > 0
  · obtain ⟨b, i1, x1, e1, h1⟩ := l1Once_ex s i x 2 hs h0
    cases b
    · obtain ⟨a, i', x', h2, h3⟩ := hj i1 x1 h1
      refine ⟨a, i', x', Ev_ifpos h ?_, h3⟩
      simp only [e1, Option.bind_some]
      exact h2
    · obtain ⟨r, i2, x2, e2, h2, h3, _, h4⟩ := l1Below_ex s i1 x1 (l.length : Int) hs h1
      refine ⟨rd l r, i2, x2, Ev_ifpos h ?_, h4⟩
      simp only [e1, Option.bind_some]
      refine Ev.step (fun _ => rfl) ?_
      simp only [spec_l2Who.j0, if_true, e2, Option.bind_some, if_pos h2, if_pos (h3 h)]
      exact Ev.now _
  · obtain ⟨a, i', x', h2, h3⟩ := hj i x h0
    exact ⟨a, i', x', Ev_ifneg h h2, h3⟩
theorem DrawJoin_ex (s : List Int) (hs : s.length ≤ 4611686018427387904) : ∃ l a, Ev (fun k => spec_DrawJoin.f k s) (l, a) ∧ l.length ≤ 1001 := by
  obtain ⟨x0, h0⟩ := l1New_ev s hs
  obtain ⟨l, i1, x1, h1, h2, h3⟩ := l2Some_ex s hs 0 x0 (by omega)
  obtain ⟨a, i2, x2, h4, h5⟩ := l2Who_ex s hs i1 x1 l h3
  refine ⟨l, a, ?_, h2⟩
  simp only [spec_DrawJoin.f]
  exact Ev.bind h0 (Ev.bind h1 (Ev.bind h4 (Ev.now _)))
theorem sameInts_l (a b : List Int) (hl : a.length ≤ 9223372036854775807) (he : a.length = b.length) : ∀ d n : Nat, n + d = a.length → Ev (fun k => laws_sameInts.l0 k a b n) (bP (a.drop n = b.drop n))
  | 0, n, hd => by
    refine Ev.step (fun _ => rfl) ?_
    simp only [laws_sameInts.l0, if_neg (show ¬ (n : Int) < (a.length : Int) by omega)]
    rw [bP_pos (by rw [List.drop_eq_nil_of_le (by omega), List.drop_eq_nil_of_le (by omega)])]
    exact Ev.now _
  | d + 1, n, hd => by
    refine Ev.step (fun _ => rfl) ?_
    simp only [laws_sameInts.l0, if_pos (show (n : Int) < (a.length : Int) by omega), if_pos (show (0 : Int) ≤ (n : Int) by omega), if_pos (show (n : Int) < (b.length : Int) by omega), w64n (show n < a.length by omega) hl, rd_nat]
    rw [drop_cons 0 a n (by omega), drop_cons 0 b n (by omega)]
    by_cases h : a.getD n 0 = b.getD n 0
    · simp only [if_pos h]
      exact Ev_eq (sameInts_l a b hl he d (n + 1) (by omega)) (bP_congr ⟨fun e => by rw [h, e], fun e => (List.cons.inj e).2⟩)
    · simp only [if_neg h]
      rw [bP_neg (fun e => h (List.cons.inj e).1)]
      exact Ev.now _
theorem sameInts_ev (a b : List Int) (hl : a.length ≤ 9223372036854775807) : Ev (fun k => laws_sameInts.f k a b) (bP (a = b)) := by
  by_cases h : a.length = b.length
  · simp only [laws_sameInts.f, if_pos (show (a.length : Int) = (b.length : Int) by omega)]
    simpa using sameInts_l a b hl h a.length 0 (by omega)
  · simp only [laws_sameInts.f, if_neg (show ¬ (a.length : Int) = (b.length : Int) by omega)]
    rw [bP_neg (fun e => h (by rw [e]))]
    exact Ev.now _
theorem sameInts_self (a : List Int) (hl : a.length ≤ 9223372036854775807) : Ev (fun k => laws_sameInts.f k a a) true := Ev_eq (sameInts_ev a a hl) (bP_pos rfl)
theorem lineOk_snoc {l : List Int} {a : Int} (h : lineOk l) (h1 : isCl a) (h2 : a ∉ l) (h3 : l.length < 32) : lineOk (l ++ [a]) := by
  refine ⟨by simp; omega, fun i _ hi => ?_⟩
  simp only [List.length_append, List.length_cons, List.length_nil] at hi
  by_cases hl : i < l.length
  · have e1 : (l ++ [a]).getD i 0 = l.getD i 0 := by
      rw [List.getD_eq_getElem?_getD, List.getD_eq_getElem?_getD, List.getElem?_append_left hl]
    have e2 : (l ++ [a]).take i = l.take i := List.take_append_of_le_length (by omega)
    rw [e1, e2]
    exact h.2 i (Nat.zero_le _) hl
  · obtain rfl : i = l.length := by omega
    have e1 : (l ++ [a]).getD l.length 0 = a := by
      rw [List.getD_eq_getElem?_getD, List.getElem?_append_right (Nat.le_refl _)]
      simp
    have e2 : (l ++ [a]).take l.length = l := by simp
    rw [e1, e2]
    exact ⟨h1, h2⟩
theorem implWake_ev (l : List Int) (n : Nat) (h : lineOk l) (hn : n ≤ l.length) : Ev (fun k => impl_Wake.f k l (n : Int)) (l.drop n, l.take n) := by
  have hl := h.1
  simp only [impl_Wake.f]
  refine Ev_ifneg (by omega) ?_
  refine Ev.bind (implLineOk_ev l (by omega)) ?_
  refine Ev.step (fun _ => rfl) ?_
  have hm : mn (n : Int) (l.length : Int) = n := by
    unfold mn
    split <;> omega
  simp only [bP_pos h, Bool.not_true, impl_Wake.j0, if_neg (show ¬ (false = true) by decide), hm, if_pos (show (0 : Int) ≤ (n : Int) by omega), if_pos (show (n : Int) ≤ (l.length : Int) by omega), Int.toNat_natCast, Clone_eq (l.drop n) (by rw [List.length_drop]; omega), Clone_eq (l.take n) (by rw [List.length_take]; omega), Option.bind_some]
  exact Ev.now _
theorem implLeave_in (l : List Int) (a : Int) (h1 : lineOk l) (h2 : a ∈ l) : Ev (fun k => impl_Leave.f k l a) (l.filter fun x => decide (x ≠ a), 0) := by
  have hl := h1.1
  simp only [impl_Leave.f]
  refine Ev.bind (implLineOk_ev l (by omega)) ?_
  simp only [bP_pos h1, if_true]
  refine Ev.bind (Contains_ev l a (by omega)) ?_
  simp only [bP_pos h2, if_true]
  exact Ev.bind (without_ev l a (by omega)) (Ev.now _)
end Go.Proofs.Ytghmhekjdjdleaa.Q
