/- Plain laws of what the printed functions compute, the program's and the reference's, for every number and list; conditions: those of each theorem. -/
import Derived.Test.YtffcphplnilokaaZx1
import Derived.Test.YtffcphplnilokaaZx2
import Derived.Test.YtffcphplnilokaaZx3
import Derived.Test.YtffcphplnilokaaZx4
import Derived.Test.YtffcphplnilokaaZx5
import Derived.Test.YtffcphplnilokaaZx9
import Derived.Test.YtffcphplnilokaaZx11
import Derived.Test.YtffcphplnilokaaZx12
import Derived.Test.YtffcphplnilokaaZx15
import Derived.Test.YtffcphplnilokaaZx16
import Derived.Test.YtffcphplnilokaaZx17
import Derived.Test.YtffcphplnilokaaZx18
import Derived.Test.YtffcphplnilokaaZx19
import Derived.Test.YtffcphplnilokaaZx20
import Derived.Test.YtffcphplnilokaaZx48
namespace Go.Proofs.Ytffcphplnilokaa.Q
open Go.RowKit Go.Proofs.Ytffcphplnilokaa.Z Go.Proofs.YtffcphplnilokaaW.PrintWords Go.Proofs.YtffcphplnilokaaW.PrintLast Go.Proofs.YtffcphplnilokaaW.PrintMore
set_option linter.unusedVariables false
set_option linter.unusedSimpArgs false
theorem w64 {x : Int} (h0 : -9223372036854775808 ≤ x) (h1 : x ≤ 9223372036854775807) : wrap64 x = x := by unfold wrap64; omega
theorem w64n {n m : Nat} (h : n < m) (hm : m ≤ 9223372036854775807) : wrap64 ((n : Int) + 1) = ((n + 1 : Nat) : Int) := by rw [w64 (by omega) (by omega)]; omega
theorem rd_nat (l : List Int) (n : Nat) : rd l (n : Int) = l.getD n 0 := by simp [rd]
theorem drop_cons {α : Type} (d : α) (l : List α) (n : Nat) (h : n < l.length) : l.drop n = l.getD n d :: l.drop (n + 1) := by
  rw [List.drop_eq_getElem_cons h, List.getD_eq_getElem?_getD, List.getElem?_eq_getElem h]; rfl
theorem take_cons {α : Type} (d : α) (l : List α) (n : Nat) (h : n < l.length) : l.take (n + 1) = l.take n ++ [l.getD n d] := by
  rw [List.take_succ_eq_append_getElem h, List.getD_eq_getElem?_getD, List.getElem?_eq_getElem h]; rfl
noncomputable def bP (p : Prop) : Bool := @decide p (Classical.propDecidable p)
theorem bP_iff {p : Prop} : bP p = true ↔ p := by simp [bP]
theorem bP_pos {p : Prop} (h : p) : bP p = true := bP_iff.2 h
theorem bP_neg {p : Prop} (h : ¬ p) : bP p = false := by
  cases hb : bP p
  · rfl
  · exact absurd (bP_iff.1 hb) h
theorem bP_congr {p q : Prop} (h : p ↔ q) : bP p = bP q := by rw [propext h]
theorem bP_dec (p : Prop) [Decidable p] : decide p = bP p := by
  by_cases h : p
  · rw [bP_pos h, decide_eq_true h]
  · rw [bP_neg h, decide_eq_false h]
theorem Ev_eq {α : Type} {g : Nat → Option α} {r s : α} (h : Ev g r) (e : r = s) : Ev g s := e ▸ h
theorem Ev_ifpos {α : Type} {c : Prop} [Decidable c] {g f : Nat → Option α} {r : α} (h : c) (k : Ev g r) : Ev (fun n => if c then g n else f n) r := by
  simpa only [if_pos h] using k
def pos (a : Int) : List Int → Int → Int
  | [], _ => -1
  | x :: xs, i => if x = a then i else pos a xs (i + 1)
theorem pos_spec (a : Int) : ∀ (l : List Int) (i : Int), 0 ≤ i → (a ∈ l → i ≤ pos a l i ∧ pos a l i < i + l.length) ∧ (a ∉ l → pos a l i = -1)
  | [], i, _ => by simp [pos]
  | x :: xs, i, hi => by
    have ih := pos_spec a xs (i + 1) (by omega)
    unfold pos
    by_cases hx : x = a
    · rw [if_pos hx]
      refine ⟨fun _ => ⟨Int.le_refl _, by simp only [List.length_cons]; omega⟩, fun h => absurd (by rw [hx]; exact List.mem_cons_self) h⟩
    · rw [if_neg hx]
      refine ⟨fun h => ?_, fun h => ih.2 (fun h' => h (List.mem_cons_of_mem _ h'))⟩
      have h' : a ∈ xs := by
        rcases List.mem_cons.1 h with h | h
        · exact absurd h.symm hx
        · exact h
      have := ih.1 h'
      simp only [List.length_cons]
      omega
theorem pos_mem (a : Int) (l : List Int) : (0 ≤ pos a l 0) ↔ a ∈ l := by
  have h := pos_spec a l 0 (by omega)
  constructor
  · intro h0
    by_cases hm : a ∈ l
    · exact hm
    · have := h.2 hm; omega
  · intro hm
    exact (h.1 hm).1
theorem Index_l (l : List Int) (a : Int) (hl : l.length ≤ 9223372036854775807) : ∀ d n : Nat, n + d = l.length → Ev (fun k => slices_Index_int_int.l0 k l a (l.length : Int) n) (pos a (l.drop n) n)
  | 0, n, hd => by
    refine Ev.step (fun _ => rfl) ?_
    simp only [slices_Index_int_int.l0, if_neg (show ¬ (n : Int) < (l.length : Int) by omega)]
    rw [List.drop_eq_nil_of_le (by omega)]
    exact Ev.now _
  | d + 1, n, hd => by
    refine Ev.step (fun _ => rfl) ?_
    simp only [slices_Index_int_int.l0, if_pos (show (n : Int) < (l.length : Int) by omega), if_pos (show (0 : Int) ≤ (n : Int) by omega), w64n (show n < l.length by omega) hl, rd_nat]
    rw [drop_cons 0 l n (by omega)]
    by_cases h : a = l.getD n 0
    · simp only [if_pos h]
      refine Ev_eq (Ev.now _) ?_
      simp only [pos]
      rw [if_pos h.symm]
    · simp only [if_neg h]
      refine Ev_eq (Index_l l a hl d (n + 1) (by omega)) ?_
      simp only [pos]
      rw [if_neg (fun e => h e.symm)]
      rw [show ((n + 1 : Nat) : Int) = (n : Int) + 1 by omega]
theorem Index_ev (l : List Int) (a : Int) (hl : l.length ≤ 9223372036854775807) : Ev (fun k => slices_Index_int_int.f k l a) (pos a l 0) := by
  simp only [slices_Index_int_int.f]
  exact Index_l l a hl l.length 0 (by omega)
theorem Contains_ev (l : List Int) (a : Int) (hl : l.length ≤ 9223372036854775807) : Ev (fun k => slices_Contains_int_int.f k l a) (bP (a ∈ l)) := by
  simp only [slices_Contains_int_int.f]
  refine Ev.bind (Index_ev l a hl) ?_
  refine Ev_eq (Ev.now _) ?_
  rw [bP_dec]
  exact bP_congr (pos_mem a l)
theorem l1In_eq (a b c : Int) : spec_l1In.f a b c = some (bP (b ≤ a ∧ a ≤ c)) := by
  simp only [spec_l1In.f]
  by_cases h : a ≥ b
  · rw [if_pos h, bP_dec, bP_congr (show (a ≤ c) ↔ (b ≤ a ∧ a ≤ c) by omega)]
  · rw [if_neg h, bP_neg (by omega)]
theorem within_eq (a b c : Int) : impl_within.f a b c = some (bP (b ≤ a ∧ a ≤ c)) := by
  simp only [impl_within.f]
  by_cases h : a ≥ b
  · rw [if_pos h, bP_dec, bP_congr (show (a ≤ c) ↔ (b ≤ a ∧ a ≤ c) by omega)]
  · rw [if_neg h, bP_neg (by omega)]
def isCl (a : Int) : Prop := 0 ≤ a ∧ a ≤ 63
theorem l2Client_eq (a : Int) : spec_l2Client.f a = some (bP (isCl a)) := by
  simp only [spec_l2Client.f, l1In_eq, Option.bind_some, isCl]
theorem isClient_eq (a : Int) : impl_isClient.f a = some (bP (isCl a)) := by
  simp only [impl_isClient.f, within_eq, Option.bind_some, isCl]
theorem l2Has_l (l : List Int) (a : Int) (hl : l.length ≤ 9223372036854775807) : ∀ d n : Nat, n + d = l.length → Ev (fun k => spec_l2Has.l0 k l a n) (bP (a ∈ l.drop n))
  | 0, n, hd => by
    refine Ev.step (fun _ => rfl) ?_
    simp only [spec_l2Has.l0, if_neg (show ¬ (n : Int) < (l.length : Int) by omega)]
    rw [List.drop_eq_nil_of_le (by omega), bP_neg (by simp)]
    exact Ev.now _
  | d + 1, n, hd => by
    refine Ev.step (fun _ => rfl) ?_
    simp only [spec_l2Has.l0, if_pos (show (n : Int) < (l.length : Int) by omega), if_pos (show (0 : Int) ≤ (n : Int) by omega), w64n (show n < l.length by omega) hl, rd_nat]
    rw [drop_cons 0 l n (by omega)]
    by_cases h : l.getD n 0 = a
    · simp only [if_pos h]
      rw [bP_pos (by rw [h]; exact List.mem_cons_self)]
      exact Ev.now _
    · simp only [if_neg h]
      refine Ev_eq (l2Has_l l a hl d (n + 1) (by omega)) (bP_congr ?_)
      rw [List.mem_cons]
      exact ⟨.inr, fun h' => h'.resolve_left (fun e => h e.symm)⟩
theorem l2Has_ev (l : List Int) (a : Int) (hl : l.length ≤ 9223372036854775807) : Ev (fun k => spec_l2Has.f k l a) (bP (a ∈ l)) := by
  simp only [spec_l2Has.f]
  exact l2Has_l l a hl l.length 0 (by omega)
def lineFrom (l : List Int) (n : Nat) : Prop := ∀ i, n ≤ i → i < l.length → isCl (l.getD i 0) ∧ l.getD i 0 ∉ l.take i
def lineOk (l : List Int) : Prop := l.length ≤ 32 ∧ lineFrom l 0
theorem lineFrom_step (l : List Int) (n : Nat) (h : n < l.length) : lineFrom l n ↔ (isCl (l.getD n 0) ∧ l.getD n 0 ∉ l.take n) ∧ lineFrom l (n + 1) := by
  constructor
  · intro hf
    exact ⟨hf n (Nat.le_refl _) h, fun i hi => hf i (by omega)⟩
  · rintro ⟨h0, hf⟩ i hi hl
    rcases Nat.eq_or_lt_of_le hi with rfl | hlt
    · exact h0
    · exact hf i hlt hl
theorem specLineOk_l (l : List Int) (hl : l.length ≤ 9223372036854775807) : ∀ d n : Nat, n + d = l.length → Ev (fun k => spec_LineOk.l0 k l n) (bP (lineFrom l n))
  | 0, n, hd => by
    refine Ev.step (fun _ => rfl) ?_
    simp only [spec_LineOk.l0, if_neg (show ¬ (n : Int) < (l.length : Int) by omega)]
    rw [bP_pos (show lineFrom l n from fun i hi hl => by omega)]
    exact Ev.now _
  | d + 1, n, hd => by
    refine Ev.step (fun _ => rfl) ?_
    simp only [spec_LineOk.l0, if_pos (show (n : Int) < (l.length : Int) by omega), if_pos (show (0 : Int) ≤ (n : Int) by omega), w64n (show n < l.length by omega) hl, rd_nat, l2Client_eq, Option.bind_some, if_pos (show (n : Int) ≤ (l.length : Int) by omega), Int.toNat_natCast]
    rw [bP_congr (lineFrom_step l n (by omega))]
    by_cases h1 : isCl (l.getD n 0)
    · simp only [bP_pos h1, if_true]
      refine Ev.bind (l2Has_ev (l.take n) (l.getD n 0) (by rw [List.length_take]; omega)) ?_
      by_cases h2 : l.getD n 0 ∈ l.take n
      · simp only [bP_pos h2, if_true]
        rw [bP_neg (fun h => h.1.2 h2)]
        exact Ev.now _
      · simp only [bP_neg h2, if_neg (show ¬ (false = true) by decide)]
        exact Ev_eq (specLineOk_l l hl d (n + 1) (by omega)) (bP_congr ⟨fun h => ⟨⟨h1, h2⟩, h⟩, fun h => h.2⟩)
    · simp only [bP_neg h1, if_neg (show ¬ (false = true) by decide)]
      rw [bP_neg (fun h => h1 h.1.1)]
      exact Ev.now _
theorem specLineOk_ev (l : List Int) (hl : l.length ≤ 9223372036854775807) : Ev (fun k => spec_LineOk.f k l) (bP (lineOk l)) := by
  by_cases h : l.length ≤ 32
  · simp only [spec_LineOk.f, if_neg (show ¬ (l.length : Int) > 32 by omega)]
    exact Ev_eq (specLineOk_l l hl l.length 0 (by omega)) (bP_congr ⟨fun h' => ⟨h, h'⟩, fun h' => h'.2⟩)
  · simp only [spec_LineOk.f, if_pos (show (l.length : Int) > 32 by omega)]
    rw [bP_neg (fun h' => h h'.1)]
    exact Ev.now _
theorem clientsOk_l (l : List Int) (hl : l.length ≤ 9223372036854775807) : ∀ d n : Nat, n + d = l.length → Ev (fun k => impl_clientsOk.l0 k l l (l.length : Int) n) (bP (l.length ≤ 32 ∧ lineFrom l n))
  | 0, n, hd => by
    refine Ev.step (fun _ => rfl) ?_
    simp only [impl_clientsOk.l0, if_neg (show ¬ (n : Int) < (l.length : Int) by omega)]
    refine Ev_eq (Ev.now _) ?_
    rw [bP_dec]
    exact bP_congr ⟨fun h => ⟨by omega, fun i hi hl => by omega⟩, fun h => by have := h.1; omega⟩
  | d + 1, n, hd => by
    refine Ev.step (fun _ => rfl) ?_
    simp only [impl_clientsOk.l0, if_pos (show (n : Int) < (l.length : Int) by omega), if_pos (show (0 : Int) ≤ (n : Int) by omega), w64n (show n < l.length by omega) hl, rd_nat, isClient_eq, Option.bind_some, if_pos (show (n : Int) ≤ (l.length : Int) by omega), Int.toNat_natCast]
    rw [bP_congr (and_congr_right fun _ => lineFrom_step l n (by omega))]
    by_cases h1 : isCl (l.getD n 0)
    · simp only [bP_pos h1, if_true]
      refine Ev.bind (Contains_ev (l.take n) (l.getD n 0) (by rw [List.length_take]; omega)) ?_
      by_cases h2 : l.getD n 0 ∈ l.take n
      · simp only [bP_pos h2, if_true]
        rw [bP_neg (fun h => h.2.1.2 h2)]
        exact Ev.now _
      · simp only [bP_neg h2, if_neg (show ¬ (false = true) by decide)]
        exact Ev_eq (clientsOk_l l hl d (n + 1) (by omega)) (bP_congr ⟨fun h => ⟨h.1, ⟨h1, h2⟩, h.2⟩, fun h => ⟨h.1, h.2.2⟩⟩)
    · simp only [bP_neg h1, if_neg (show ¬ (false = true) by decide)]
      rw [bP_neg (fun h => h1 h.2.1.1)]
      exact Ev.now _
theorem clientsOk_ev (l : List Int) (hl : l.length ≤ 9223372036854775807) : Ev (fun k => impl_clientsOk.f k l) (bP (lineOk l)) := by
  simp only [impl_clientsOk.f]
  exact clientsOk_l l hl l.length 0 (by omega)
theorem implLineOk_ev (l : List Int) (hl : l.length ≤ 9223372036854775807) : Ev (fun k => impl_LineOk.f k l) (bP (lineOk l)) := by
  simp only [impl_LineOk.f]
  exact Ev.bind (clientsOk_ev l hl) (Ev.now _)
theorem Clone_eq (l : List Int) (hl : l.length < 17592186044416) : slices_Clone_int_int.f l = some l := by
  simp only [slices_Clone_int_int.f, Option.bind_some, List.length_nil, Nat.zero_add, if_pos hl, List.nil_append]
theorem pos_split (a : Int) : ∀ (l : List Int) (i : Int), a ∈ l → ∃ n : Nat, pos a l i = i + n ∧ n < l.length ∧ (l.filter fun x => decide (x ≠ a)) = l.take n ++ (l.drop (n + 1)).filter fun x => decide (x ≠ a)
  | [], _, h => by simp at h
  | x :: xs, i, h => by
    by_cases hx : x = a
    · refine ⟨0, ?_, by simp, ?_⟩
      · simp only [pos]; rw [if_pos hx]; omega
      · rw [List.filter_cons_of_neg (by rw [hx]; simp)]
        simp
    · have h' : a ∈ xs := by
        rcases List.mem_cons.1 h with h | h
        · exact absurd h.symm hx
        · exact h
      obtain ⟨n, h1, h2, h3⟩ := pos_split a xs (i + 1) h'
      refine ⟨n + 1, ?_, by simp; omega, ?_⟩
      · simp only [pos]; rw [if_neg hx, h1]; omega
      · rw [List.filter_cons_of_pos (by simpa using hx), h3]
        simp
theorem IFwo_l (l : List Int) (a : Int) (hl : l.length ≤ 9223372036854775807) : ∀ d n : Nat, n + d = l.length → Ev (fun k => slices_IndexFunc_wo.l0 k l a (l.length : Int) n) (pos a (l.drop n) n)
  | 0, n, hd => by
    refine Ev.step (fun _ => rfl) ?_
    simp only [slices_IndexFunc_wo.l0, if_neg (show ¬ (n : Int) < (l.length : Int) by omega)]
    rw [List.drop_eq_nil_of_le (by omega)]
    exact Ev.now _
  | d + 1, n, hd => by
    refine Ev.step (fun _ => rfl) ?_
    simp only [slices_IndexFunc_wo.l0, if_pos (show (n : Int) < (l.length : Int) by omega), if_pos (show (0 : Int) ≤ (n : Int) by omega), w64n (show n < l.length by omega) hl, rd_nat, impl_without_1.f, Option.bind_some, decide_eq_true_eq]
    rw [drop_cons 0 l n (by omega)]
    by_cases h : l.getD n 0 = a
    · simp only [if_pos h]
      refine Ev_eq (Ev.now _) ?_
      simp only [pos]
      rw [if_pos h]
    · simp only [if_neg h]
      refine Ev_eq (IFwo_l l a hl d (n + 1) (by omega)) ?_
      simp only [pos]
      rw [if_neg h]
      rw [show ((n + 1 : Nat) : Int) = (n : Int) + 1 by omega]
theorem IFwo_ev (l : List Int) (a : Int) (hl : l.length ≤ 9223372036854775807) : Ev (fun k => slices_IndexFunc_wo.f k l a) (pos a l 0) := by
  simp only [slices_IndexFunc_wo.f]
  exact IFwo_l l a hl l.length 0 (by omega)
theorem DFwo_l (a : Int) : ∀ (d n : Nat) (l : List Int), n + d = l.length → l.length ≤ 9223372036854775807 → ∀ i : Nat, i < n → Ev (fun k => slices_DeleteFunc_wo.l0 k l a i n) (l.take i ++ (l.drop n).filter fun x => decide (x ≠ a))
  | 0, n, l, hd, hl, i, hi => by
    refine Ev.step (fun _ => rfl) ?_
    simp only [slices_DeleteFunc_wo.l0, if_neg (show ¬ (n : Int) < (l.length : Int) by omega), if_pos (show (0 : Int) ≤ (i : Int) by omega), if_pos (show (i : Int) < (l.length : Int) by omega), Int.toNat_natCast]
    rw [List.drop_eq_nil_of_le (by omega)]
    simp only [List.filter_nil, List.append_nil]
    exact Ev.now _
  | d + 1, n, l, hd, hl, i, hi => by
    refine Ev.step (fun _ => rfl) ?_
    simp only [slices_DeleteFunc_wo.l0, if_pos (show (n : Int) < (l.length : Int) by omega), if_pos (show (0 : Int) ≤ (n : Int) by omega), if_pos (show (0 : Int) ≤ (i : Int) by omega), if_pos (show (i : Int) < (l.length : Int) by omega), w64n (show n < l.length by omega) hl, w64n (show i < l.length by omega) hl, rd_nat, impl_without_1.f, Option.bind_some, decide_eq_true_eq, Int.toNat_natCast]
    rw [drop_cons 0 l n (by omega)]
    by_cases h : l.getD n 0 = a
    · simp only [if_pos h]
      rw [List.filter_cons_of_neg (by rw [h]; simp)]
      exact DFwo_l a d (n + 1) l (by omega) hl i (by omega)
    · simp only [if_neg h]
      rw [List.filter_cons_of_pos (by simpa using h)]
      have ih := DFwo_l a d (n + 1) (l.set i (l.getD n 0)) (by simp; omega) (by simpa using hl) (i + 1) (by omega)
      refine Ev_eq ih ?_
      rw [take_cons 0 _ i (by simp; omega), List.take_set_of_le (Nat.le_refl i), List.drop_set_of_lt (by omega), List.append_assoc]
      congr 1
      simp [List.getD_eq_getElem?_getD, List.getElem?_set_self (show i < l.length by omega)]
theorem without_ev (l : List Int) (a : Int) (hl : l.length < 17592186044416) : Ev (fun k => impl_without.f k l a) (l.filter fun x => decide (x ≠ a)) := by
  simp only [impl_without.f, Clone_eq l hl, Option.bind_some, slices_DeleteFunc_wo.f]
  refine Ev.bind (IFwo_ev l a (by omega)) ?_
  by_cases h : a ∈ l
  · obtain ⟨n, h1, h2, h3⟩ := pos_split a l 0 h
    rw [h1, h3]
    simp only [if_neg (show ¬ (0 : Int) + (n : Int) = -1 by omega), Int.zero_add]
    rw [w64n h2 (by omega)]
    exact DFwo_l a (l.length - (n + 1)) (n + 1) l (by omega) (by omega) n (by omega)
  · rw [(pos_spec a l 0 (by omega)).2 h]
    simp only [if_true]
    rw [List.filter_eq_self.2 (fun x hx => by simpa using fun e : x = a => h (e ▸ hx))]
    exact Ev.now _
theorem isCount_eq (a : Int) : impl_isCount.f a = some (bP (0 ≤ a ∧ a ≤ 1000000000)) := by
  simp only [impl_isCount.f, within_eq, Option.bind_some]
def apartP (l r : List Int) : Prop := lineOk l ∧ lineOk r ∧ ∀ x ∈ r, x ∉ l
theorem l6Waits_l (l r : List Int) (hl : l.length ≤ 9223372036854775807) (hr : r.length ≤ 9223372036854775807) : ∀ d n : Nat, n + d = r.length → Ev (fun k => spec_l6Waits.l0 k l r n) (bP (∀ x ∈ r.drop n, x ∉ l))
  | 0, n, hd => by
    refine Ev.step (fun _ => rfl) ?_
    simp only [spec_l6Waits.l0, if_neg (show ¬ (n : Int) < (r.length : Int) by omega)]
    rw [List.drop_eq_nil_of_le (by omega), bP_pos (by simp)]
    exact Ev.now _
  | d + 1, n, hd => by
    refine Ev.step (fun _ => rfl) ?_
    simp only [spec_l6Waits.l0, if_pos (show (n : Int) < (r.length : Int) by omega), if_pos (show (0 : Int) ≤ (n : Int) by omega), w64n (show n < r.length by omega) hr, rd_nat]
    refine Ev.bind (l2Has_ev l (r.getD n 0) hl) ?_
    rw [drop_cons 0 r n (by omega)]
    by_cases h : r.getD n 0 ∈ l
    · simp only [bP_pos h, if_true]
      rw [bP_neg (fun h' => h' _ List.mem_cons_self h)]
      exact Ev.now _
    · simp only [bP_neg h, if_neg (show ¬ (false = true) by decide)]
      exact Ev_eq (l6Waits_l l r hl hr d (n + 1) (by omega)) (bP_congr ⟨fun h' x hx => (List.mem_cons.1 hx).elim (fun e => e ▸ h) (h' x), fun h' x hx => h' x (List.mem_cons_of_mem _ hx)⟩)
theorem l6Waits_ev (l r : List Int) (hl : l.length ≤ 9223372036854775807) (hr : r.length ≤ 9223372036854775807) : Ev (fun k => spec_l6Waits.f k l r) (bP (apartP l r)) := by
  simp only [spec_l6Waits.f]
  refine Ev.bind (specLineOk_ev l hl) ?_
  by_cases h1 : lineOk l
  · simp only [bP_pos h1, if_true]
    refine Ev.bind (specLineOk_ev r hr) ?_
    refine Ev.step (fun _ => rfl) ?_
    by_cases h2 : lineOk r
    · simp only [bP_pos h2, spec_l6Waits.j0, Bool.not_true, if_neg (show ¬ (false = true) by decide)]
      exact Ev_eq (l6Waits_l l r hl hr r.length 0 (by omega)) (bP_congr ⟨fun h => ⟨h1, h2, h⟩, fun h => h.2.2⟩)
    · simp only [bP_neg h2, spec_l6Waits.j0, Bool.not_false, if_true]
      rw [bP_neg (fun h => h2 h.2.1)]
      exact Ev.now _
  · simp only [bP_neg h1, if_neg (show ¬ (false = true) by decide)]
    refine Ev.step (fun _ => rfl) ?_
    simp only [spec_l6Waits.j0, if_true]
    rw [bP_neg (fun h => h1 h.1)]
    exact Ev.now _
theorem IFap_l (l r : List Int) (hl : l.length ≤ 9223372036854775807) (hr : r.length ≤ 9223372036854775807) : ∀ d n : Nat, n + d = l.length → ∃ i : Int, Ev (fun k => slices_IndexFunc_ap.l0 k l r (l.length : Int) n) i ∧ (0 ≤ i ↔ ∃ x ∈ l.drop n, x ∈ r)
  | 0, n, hd => by
    refine ⟨-1, Ev.step (fun _ => rfl) ?_, ?_⟩
    · simp only [slices_IndexFunc_ap.l0, if_neg (show ¬ (n : Int) < (l.length : Int) by omega)]
      exact Ev.now _
    · rw [List.drop_eq_nil_of_le (by omega)]
      simp
  | d + 1, n, hd => by
    obtain ⟨i, h1, h2⟩ := IFap_l l r hl hr d (n + 1) (by omega)
    rw [drop_cons 0 l n (by omega)]
    by_cases h : l.getD n 0 ∈ r
    · refine ⟨n, Ev.step (fun _ => rfl) ?_, ⟨fun _ => ⟨_, List.mem_cons_self, h⟩, fun _ => by omega⟩⟩
      simp only [slices_IndexFunc_ap.l0, if_pos (show (n : Int) < (l.length : Int) by omega), if_pos (show (0 : Int) ≤ (n : Int) by omega), w64n (show n < l.length by omega) hl, rd_nat, impl_apart_1.f]
      refine Ev.bind (Contains_ev r (l.getD n 0) hr) ?_
      simp only [bP_pos h, if_true]
      exact Ev.now _
    · refine ⟨i, Ev.step (fun _ => rfl) ?_, h2.trans ⟨fun ⟨x, hx, hy⟩ => ⟨x, List.mem_cons_of_mem _ hx, hy⟩, fun ⟨x, hx, hy⟩ => (List.mem_cons.1 hx).elim (fun e => absurd (e ▸ hy) h) (fun hx => ⟨x, hx, hy⟩)⟩⟩
      simp only [slices_IndexFunc_ap.l0, if_pos (show (n : Int) < (l.length : Int) by omega), if_pos (show (0 : Int) ≤ (n : Int) by omega), w64n (show n < l.length by omega) hl, rd_nat, impl_apart_1.f]
      refine Ev.bind (Contains_ev r (l.getD n 0) hr) ?_
      simp only [bP_neg h, if_neg (show ¬ (false = true) by decide)]
      exact h1
theorem apart_ev (l r : List Int) (hl : l.length ≤ 9223372036854775807) (hr : r.length ≤ 9223372036854775807) : Ev (fun k => impl_apart.f k l r) (bP (apartP l r)) := by
  simp only [impl_apart.f]
  refine Ev.bind (implLineOk_ev l hl) ?_
  by_cases h1 : lineOk l
  · simp only [bP_pos h1, if_true]
    refine Ev.bind (clientsOk_ev r hr) ?_
    by_cases h2 : lineOk r
    · obtain ⟨i, h3, h4⟩ := IFap_l r l hr hl r.length 0 (by omega)
      rw [List.drop_zero] at h4
      simp only [bP_pos h2, if_true, slices_ContainsFunc_ap.f, slices_IndexFunc_ap.f]
      refine Ev.bind (Ev.bind h3 (Ev.now _)) ?_
      refine Ev_eq (Ev.now _) ?_
      rw [bP_dec, bP_congr h4]
      by_cases h5 : ∃ x ∈ r, x ∈ l
      · rw [bP_pos h5, bP_neg (fun h => by obtain ⟨x, hx, hy⟩ := h5; exact h.2.2 x hx hy)]
        rfl
      · rw [bP_neg h5, bP_pos ⟨h1, h2, fun x hx hy => h5 ⟨x, hx, hy⟩⟩]
        rfl
    · simp only [bP_neg h2, if_neg (show ¬ (false = true) by decide)]
      rw [bP_neg (fun h => h2 h.2.1)]
      exact Ev.now _
  · simp only [bP_neg h1, if_neg (show ¬ (false = true) by decide)]
    rw [bP_neg (fun h => h1 h.1)]
    exact Ev.now _
def plainFrom (t : ByteArray) (n : Nat) : Prop := ∀ i : Nat, n ≤ i → i < t.size → 32 ≤ bt t i ∧ bt t i ≤ 126 ∧ bt t i ≠ 34
def msgOk (a b : Int) (t : ByteArray) : Prop := (a = 1 ∧ t.toList = [] ∧ -999999999 ≤ b ∧ b ≤ 999999999) ∨ (a = 2 ∧ b = 0 ∧ t.size ≤ 40 ∧ plainFrom t 0)
theorem plainFrom_step (t : ByteArray) (n : Nat) (h : n < t.size) : plainFrom t n ↔ (32 ≤ bt t n ∧ bt t n ≤ 126 ∧ bt t n ≠ 34) ∧ plainFrom t (n + 1) := by
  constructor
  · intro hf
    exact ⟨hf n (Nat.le_refl _) h, fun i hi => hf i (by omega)⟩
  · rintro ⟨h0, hf⟩ i hi hl
    rcases Nat.eq_or_lt_of_le hi with rfl | hlt
    · exact h0
    · exact hf i hlt hl
theorem l1Plain_l (t : ByteArray) (hl : t.size ≤ 9223372036854775807) : ∀ d n : Nat, n + d = t.size → Ev (fun k => spec_l1Plain.l0 k t n) (bP (plainFrom t n))
  | 0, n, hd => by
    refine Ev.step (fun _ => rfl) ?_
    simp only [spec_l1Plain.l0, if_neg (show ¬ (n : Int) < (t.size : Int) by omega)]
    rw [bP_pos (show plainFrom t n from fun i hi hl => by omega)]
    exact Ev.now _
  | d + 1, n, hd => by
    refine Ev.step (fun _ => rfl) ?_
    simp only [spec_l1Plain.l0, if_pos (show (n : Int) < (t.size : Int) by omega), if_pos (show (0 : Int) ≤ (n : Int) by omega), w64n (show n < t.size by omega) hl]
    rw [bP_congr (plainFrom_step t n (by omega))]
    by_cases h1 : bt t n < 32
    · simp only [if_pos h1]
      rw [bP_neg (fun h => by have := h.1.1; omega)]
      exact Ev.now _
    · simp only [if_neg h1]
      by_cases h2 : bt t n > 126
      · simp only [if_pos h2]
        rw [bP_neg (fun h => by have := h.1.2.1; omega)]
        exact Ev.now _
      · simp only [if_neg h2]
        by_cases h3 : bt t n = 34
        · simp only [if_pos h3]
          rw [bP_neg (fun h => h.1.2.2 h3)]
          exact Ev.now _
        · simp only [if_neg h3]
          exact Ev_eq (l1Plain_l t hl d (n + 1) (by omega)) (bP_congr ⟨fun h => ⟨⟨by omega, by omega, h3⟩, h⟩, fun h => h.2⟩)
theorem specMsgOk_ev (a b : Int) (t : ByteArray) (hl : t.size ≤ 9223372036854775807) : Ev (fun k => spec_MsgOk.f k a b t) (bP (msgOk a b t)) := by
  simp only [spec_MsgOk.f, l1In_eq, Option.bind_some]
  by_cases h1 : a = 1
  · simp only [if_pos h1]
    by_cases h2 : t.toList = []
    · simp only [if_pos h2]
      exact Ev_eq (Ev.now _) (bP_congr ⟨fun h => .inl ⟨h1, h2, h⟩, fun h => h.elim (fun h => h.2.2) (fun h => by have := h.1; omega)⟩)
    · simp only [if_neg h2]
      rw [bP_neg (fun h => h.elim (fun h => h2 h.2.1) (fun h => by have := h.1; omega))]
      exact Ev.now _
  · simp only [if_neg h1]
    by_cases h2 : a = 2
    · simp only [if_pos h2]
      by_cases h3 : b = 0
      · simp only [if_pos h3, spec_l1Plain.f]
        by_cases h4 : (t.size : Int) > 40
        · simp only [if_pos h4, Option.bind_some]
          rw [bP_neg (fun h => h.elim (fun h => h1 h.1) (fun h => by have := h.2.2.1; omega))]
          exact Ev.now _
        · simp only [if_neg h4]
          refine Ev.bind (l1Plain_l t hl t.size 0 (by omega)) ?_
          exact Ev_eq (Ev.now _) (bP_congr ⟨fun h => .inr ⟨h2, h3, by omega, h⟩, fun h => h.elim (fun h => absurd h.1 h1) (fun h => h.2.2.2)⟩)
      · simp only [if_neg h3]
        rw [bP_neg (fun h => h.elim (fun h => h1 h.1) (fun h => h3 h.2.1))]
        exact Ev.now _
    · simp only [if_neg h2]
      rw [bP_neg (fun h => h.elim (fun h => h1 h.1) (fun h => h2 h.1))]
      exact Ev.now _
theorem implMsgOk_l (t : ByteArray) (a b : Int) (hl : t.size ≤ 9223372036854775807) : ∀ d n : Nat, n + d = t.size → Ev (fun k => impl_MsgOk.l0 k (t.size : Int) n a b t) (bP (plainFrom t n ∧ b = 0 ∧ t.size ≤ 40))
  | 0, n, hd => by
    refine Ev.step (fun _ => rfl) ?_
    simp only [impl_MsgOk.l0, if_neg (show ¬ (n : Int) < (t.size : Int) by omega)]
    by_cases h : b = 0
    · simp only [if_pos h]
      refine Ev_eq (Ev.now _) ?_
      rw [bP_dec]
      exact bP_congr ⟨fun h' => ⟨fun i hi hl => by omega, h, by omega⟩, fun h' => by have := h'.2.2; omega⟩
    · simp only [if_neg h]
      rw [bP_neg (fun h' => h h'.2.1)]
      exact Ev.now _
  | d + 1, n, hd => by
    have hb := bt_range t n
    refine Ev.step (fun _ => rfl) ?_
    simp only [impl_MsgOk.l0, if_pos (show (n : Int) < (t.size : Int) by omega), if_pos (show (0 : Int) ≤ (n : Int) by omega), w64n (show n < t.size by omega) hl, w64 (show -9223372036854775808 ≤ bt t n by omega) (show bt t n ≤ 9223372036854775807 by omega), within_eq, Option.bind_some]
    rw [bP_congr (and_congr_left' (plainFrom_step t n (by omega)))]
    by_cases h1 : 32 ≤ bt t n ∧ bt t n ≤ 126
    · simp only [bP_pos h1, if_true]
      by_cases h2 : bt t n = 34
      · simp only [if_pos h2]
        rw [bP_neg (fun h => h.1.1.2.2 h2)]
        exact Ev.now _
      · simp only [if_neg h2]
        exact Ev_eq (implMsgOk_l t a b hl d (n + 1) (by omega)) (bP_congr ⟨fun h => ⟨⟨⟨h1.1, h1.2, h2⟩, h.1⟩, h.2⟩, fun h => ⟨h.1.2, h.2⟩⟩)
    · simp only [bP_neg h1, if_neg (show ¬ (false = true) by decide)]
      rw [bP_neg (fun h => h1 ⟨h.1.1.1, h.1.1.2.1⟩)]
      exact Ev.now _
theorem implMsgOk_ev (a b : Int) (t : ByteArray) (hl : t.size ≤ 9223372036854775807) : Ev (fun k => impl_MsgOk.f k a b t) (bP (msgOk a b t)) := by
  simp only [impl_MsgOk.f, within_eq, Option.bind_some]
  by_cases h1 : a = 1
  · simp only [if_pos h1]
    by_cases h2 : -999999999 ≤ b ∧ b ≤ 999999999
    · simp only [bP_pos h2, if_true]
      refine Ev_eq (Ev.now _) ?_
      by_cases h3 : t.toList = []
      · rw [h3, bP_pos (.inl ⟨h1, h3, h2⟩)]
        rfl
      · rw [bP_neg (fun h => h.elim (fun h => h3 h.2.1) (fun h => by have := h.1; omega))]
        simpa using h3
    · simp only [bP_neg h2, if_neg (show ¬ (false = true) by decide)]
      rw [bP_neg (fun h => h.elim (fun h => h2 h.2.2) (fun h => by have := h.1; omega))]
      exact Ev.now _
  · simp only [if_neg h1]
    by_cases h2 : a = 2
    · simp only [if_pos h2]
      exact Ev_eq (implMsgOk_l t a b hl t.size 0 (by omega)) (bP_congr ⟨fun h => .inr ⟨h2, h.2.1, h.2.2, h.1⟩, fun h => h.elim (fun h => absurd h.1 h1) (fun h => ⟨h.2.2.2, h.2.1, h.2.2.1⟩)⟩)
    · simp only [if_neg h2]
      rw [bP_neg (fun h => h.elim (fun h => h1 h.1) (fun h => h2 h.1))]
      exact Ev.now _
def cellOk (m n : Int) (t : ByteArray) (v : Int) (z : Bool) (l r : List Int) : Prop := msgOk m n t ∧ (0 ≤ v ∧ v ≤ 1000000000) ∧ apartP l r ∧ (z = true → l.length = 0)
theorem specCellOk_ev (m n : Int) (t : ByteArray) (v : Int) (z : Bool) (l r : List Int) (ht : t.size ≤ 9223372036854775807) (hl : l.length ≤ 9223372036854775807) (hr : r.length ≤ 9223372036854775807) : Ev (fun k => spec_CellOk.f k m n t v z l r) (bP (cellOk m n t v z l r)) := by
  simp only [spec_CellOk.f, l1In_eq, Option.bind_some]
  refine Ev.bind (specMsgOk_ev m n t ht) ?_
  by_cases h0 : msgOk m n t
  · simp only [bP_pos h0, if_true]
    by_cases h1 : 0 ≤ v ∧ v ≤ 1000000000
    · simp only [bP_pos h1, if_true]
      refine Ev.bind (l6Waits_ev l r hl hr) ?_
      by_cases h2 : apartP l r
      · simp only [bP_pos h2, if_true]
        by_cases h3 : z = true
        · simp only [if_pos h3]
          refine Ev_eq (Ev.now _) ?_
          by_cases h4 : l.length = 0
          · rw [bP_pos ⟨h0, h1, h2, fun _ => h4⟩, decide_eq_false (by omega)]
            rfl
          · rw [bP_neg (fun h => h4 (h.2.2.2 h3)), decide_eq_true (by omega)]
            rfl
        · simp only [if_neg h3]
          rw [bP_pos ⟨h0, h1, h2, fun h => absurd h h3⟩]
          exact Ev.now _
      · simp only [bP_neg h2, if_neg (show ¬ (false = true) by decide)]
        rw [bP_neg (fun h => h2 h.2.2.1)]
        exact Ev.now _
    · simp only [bP_neg h1, if_neg (show ¬ (false = true) by decide)]
      rw [bP_neg (fun h => h1 h.2.1)]
      exact Ev.now _
  · simp only [bP_neg h0, if_neg (show ¬ (false = true) by decide)]
    rw [bP_neg (fun h => h0 h.1)]
    exact Ev.now _
theorem implCellOk_ev (m n : Int) (t : ByteArray) (v : Int) (z : Bool) (l r : List Int) (ht : t.size ≤ 9223372036854775807) (hl : l.length ≤ 9223372036854775807) (hr : r.length ≤ 9223372036854775807) : Ev (fun k => impl_CellOk.f k m n t v z l r) (bP (cellOk m n t v z l r)) := by
  simp only [impl_CellOk.f, isCount_eq, Option.bind_some]
  refine Ev.bind (implMsgOk_ev m n t ht) ?_
  by_cases h0 : msgOk m n t
  · simp only [bP_pos h0, if_true]
    by_cases h1 : 0 ≤ v ∧ v ≤ 1000000000
    · simp only [bP_pos h1, if_true]
      refine Ev.bind (apart_ev l r hl hr) ?_
      by_cases h2 : apartP l r
      · simp only [bP_pos h2, if_true]
        by_cases h3 : z = true
        · simp only [if_pos h3]
          refine Ev_eq (Ev.now _) ?_
          by_cases h4 : l.length = 0
          · rw [bP_pos ⟨h0, h1, h2, fun _ => h4⟩, decide_eq_false (by omega)]
            rfl
          · rw [bP_neg (fun h => h4 (h.2.2.2 h3)), decide_eq_true (by omega)]
            rfl
        · simp only [if_neg h3]
          rw [bP_pos ⟨h0, h1, h2, fun h => absurd h h3⟩]
          exact Ev.now _
      · simp only [bP_neg h2, if_neg (show ¬ (false = true) by decide)]
        rw [bP_neg (fun h => h2 h.2.2.1)]
        exact Ev.now _
    · simp only [bP_neg h1, if_neg (show ¬ (false = true) by decide)]
      rw [bP_neg (fun h => h1 h.2.1)]
      exact Ev.now _
  · simp only [bP_neg h0, if_neg (show ¬ (false = true) by decide)]
    rw [bP_neg (fun h => h0 h.1)]
    exact Ev.now _
theorem copyCell_eq (m n : Int) (t : ByteArray) (v : Int) (z : Bool) (l r : List Int) (hl : l.length < 17592186044416) (hr : r.length < 17592186044416) : impl_copyCell.f m n t v z l r = some (m, n, t, v, z, l, r) := by
  simp only [impl_copyCell.f, Clone_eq l hl, Clone_eq r hr, Option.bind_some]
theorem release_eq (l r : List Int) (hl : l.length ≤ 1048577) (hr : r.length ≤ 1048577) : impl_release.f l r = some ([], r ++ l) := by
  simp only [impl_release.f, if_pos (show r.length + l.length < 17592186044416 by omega)]
theorem crowded_eq (m n : Int) (t : ByteArray) (v : Int) (z : Bool) (l r : List Int) (hl : l.length ≤ 1048577) (hr : r.length ≤ 1048577) : impl_crowded.f m n t v z l r = some (decide ((l.length : Int) + (r.length : Int) > 32)) := by
  simp only [impl_crowded.f, w64 (show -9223372036854775808 ≤ (l.length : Int) + (r.length : Int) by omega) (show (l.length : Int) + (r.length : Int) ≤ 9223372036854775807 by omega)]
def chk (l : List Int) : Bool := decide (l.length ≤ 32) && (List.range l.length).all fun i => decide (0 ≤ l.getD i 0 ∧ l.getD i 0 ≤ 63) && decide (l.getD i 0 ∉ l.take i)
theorem chk_ok {l : List Int} (h : chk l = true) : lineOk l := by
  simp only [chk, Bool.and_eq_true, decide_eq_true_eq, List.all_eq_true, List.mem_range] at h
  exact ⟨h.1, fun i _ hi => h.2 i hi⟩
theorem at_some (l : List Int) (hw : ∀ x ∈ l, (Lit.int .u8 x).wf = true) (a : Int) (h0 : 0 ≤ a) (h1 : a ≤ 1000) (hl : l.length ≤ 1048576) : ∃ t, laws_at.f l a = some t ∧ 0 ≤ t ∧ t ≤ 255 := by
  simp only [laws_at.f]
  by_cases h : a < (l.length : Int)
  · simp only [if_pos h, if_pos h0]
    have hm : rd l a ∈ l := by
      rw [show a = ((a.toNat : Nat) : Int) by omega, rd_nat, List.getD_eq_getElem?_getD, List.getElem?_eq_getElem (show a.toNat < l.length by omega)]
      exact List.getElem_mem _
    have hb := hw _ hm
    simp [Lit.wf] at hb
    have hb : 0 ≤ rd l a ∧ rd l a ≤ 255 := by have e0 : IntKind.u8.min = 0 := rfl; have e1 : IntKind.u8.max = 255 := rfl; omega
    exact ⟨_, rfl, by rw [w64 (by omega) (by omega)]; exact hb.1, by rw [w64 (by omega) (by omega)]; exact hb.2⟩
  · simp only [if_neg h]
    refine ⟨_, rfl, ?_⟩
    rw [w64 (show -9223372036854775808 ≤ a * 7 by omega) (show a * 7 ≤ 9223372036854775807 by omega), w64 (show -9223372036854775808 ≤ a * 7 + (l.length : Int) by omega) (show a * 7 + (l.length : Int) ≤ 9223372036854775807 by omega), Int.tmod_eq_emod_of_nonneg (by omega)]
    omega
theorem nil_list : (⟨#[]⟩ : ByteArray).toList = [] := by
  have e : ∀ x : ByteArray, x.toList = x.data.toList := fun x => by first | exact Lib.toList_data x | exact ByteArray.toList_eq x | exact (Lib.toList_data x).symm
  rw [e]
theorem num_ok {v : Int} (h0 : 0 ≤ v) (h1 : v ≤ 255) : msgOk 1 v ⟨#[]⟩ := .inl ⟨rfl, nil_list, by omega, by omega⟩
theorem cell_lit {v n : Int} {l r : List Int} (h0 : 0 ≤ v) (h1 : v ≤ 255) (hn : 0 ≤ n ∧ n ≤ 1000) (hl : chk l = true) (hr : chk r = true) (ha : (r.all fun x => decide (x ∉ l)) = true) : cellOk 1 v ⟨#[]⟩ n false l r :=
  ⟨num_ok h0 h1, ⟨by omega, by omega⟩, ⟨chk_ok hl, chk_ok hr, by simpa [List.all_eq_true] using ha⟩, fun e => by cases e⟩
theorem put_ev (v x : Int) (h0 : 0 ≤ v) (h1 : v ≤ 255) (h2 : 0 ≤ x) (h3 : x ≤ 255) : Ev (fun k => impl_Changed.f k 1 v ⟨#[]⟩ 1 1 x ⟨#[]⟩) (1, x, ⟨#[]⟩, true) := by
  simp only [impl_Changed.f]
  refine Ev.bind (implMsgOk_ev 1 v ⟨#[]⟩ (by decide)) ?_
  simp only [bP_pos (num_ok h0 h1), if_true]
  refine Ev.bind (implMsgOk_ev 1 x ⟨#[]⟩ (by decide)) ?_
  simp only [bP_pos (num_ok h2 h3), Bool.not_true]
  refine Ev.step (fun _ => rfl) ?_
  simp only [impl_Changed.j0, if_neg (show ¬ (false = true) by decide), if_true]
  refine Ev.bind (implMsgOk_ev 1 x ⟨#[]⟩ (by decide)) ?_
  simp only [bP_pos (num_ok h2 h3), if_true]
  exact Ev.now _
theorem upd_ev (v n x : Int) (l r : List Int) (h0 : 0 ≤ v) (h1 : v ≤ 255) (h2 : 0 ≤ x) (h3 : x ≤ 255) (hn : 0 ≤ n ∧ n ≤ 1000) (hc : cellOk 1 v ⟨#[]⟩ n false l r) (hs : (l.length : Int) + r.length ≤ 32) : Ev (fun k => impl_Update.f k 1 v ⟨#[]⟩ n false l r 1 1 x ⟨#[]⟩) (1, x, ⟨#[]⟩, n + 1, false, [], r ++ l, l, 0) := by
  simp only [impl_Update.f, copyCell_eq 1 v ⟨#[]⟩ n false l r (show l.length < 17592186044416 by omega) (show r.length < 17592186044416 by omega), Option.bind_some]
  refine Ev.bind (implCellOk_ev 1 v ⟨#[]⟩ n false l r (by decide) (by omega) (by omega)) ?_
  simp only [bP_pos hc, if_true]
  refine Ev.bind (put_ev v x h0 h1 h2 h3) ?_
  simp only [if_neg (show ¬ (false = true) by decide), if_true, if_neg (show ¬ n = 1000000000 by omega), crowded_eq 1 v ⟨#[]⟩ n false l r (by omega) (by omega), Option.bind_some, decide_eq_false (show ¬ (l.length : Int) + (r.length : Int) > 32 by omega)]
  refine Ev.step (fun _ => rfl) ?_
  simp only [impl_Update.j0, if_neg (show ¬ (false = true) by decide), release_eq l r (by omega) (by omega), Option.bind_some, Clone_eq l (show l.length < 17592186044416 by omega), w64 (show -9223372036854775808 ≤ n + 1 by omega) (show n + 1 ≤ 9223372036854775807 by omega)]
  exact Ev.now _
theorem look_ev (v n : Int) (l r : List Int) (hc : cellOk 1 v ⟨#[]⟩ n false l r) (hl : l.length ≤ 1000) (hr : r.length ≤ 1000) : Ev (fun k => impl_Look.f k 1 v ⟨#[]⟩ n false l r) (1, v, ⟨#[]⟩, n, 0) := by
  simp only [impl_Look.f]
  refine Ev.bind (implCellOk_ev 1 v ⟨#[]⟩ n false l r (by decide) (by omega) (by omega)) ?_
  simp only [bP_pos hc, if_true, impl_openCode.f, if_neg (show ¬ (false = true) by decide), Option.bind_some]
  exact Ev.now _
theorem seen_line (v n : Int) (hc : cellOk 1 v ⟨#[]⟩ n false [3] []) : Ev (fun k => impl_Seen.f k 1 v ⟨#[]⟩ n false [3] [] 3) (1, v, ⟨#[]⟩, n, false, [3], [], 0, 0, ⟨#[]⟩, 0, 4) := by
  simp only [impl_Seen.f, copyCell_eq 1 v ⟨#[]⟩ n false [3] [] (by decide) (by decide), Option.bind_some]
  refine Ev.bind (implCellOk_ev 1 v ⟨#[]⟩ n false [3] [] (by decide) (by decide) (by decide)) ?_
  simp only [bP_pos hc, if_true]
  refine Ev.bind (Contains_ev [3] 3 (by decide)) ?_
  simp only [bP_pos (show (3 : Int) ∈ ([3] : List Int) by decide), if_true]
  exact Ev.now _
theorem seen_grant (v n : Int) (hc : cellOk 1 v ⟨#[]⟩ n false [] [3]) : Ev (fun k => impl_Seen.f k 1 v ⟨#[]⟩ n false [] [3] 3) (1, v, ⟨#[]⟩, n, false, [], [], 1, v, ⟨#[]⟩, n, 0) := by
  simp only [impl_Seen.f, copyCell_eq 1 v ⟨#[]⟩ n false [] [3] (by decide) (by decide), Option.bind_some]
  refine Ev.bind (implCellOk_ev 1 v ⟨#[]⟩ n false [] [3] (by decide) (by decide) (by decide)) ?_
  simp only [bP_pos hc, if_true]
  refine Ev.bind (Contains_ev [] 3 (by decide)) ?_
  simp only [bP_neg (show ¬ (3 : Int) ∈ ([] : List Int) by decide), if_neg (show ¬ (false = true) by decide)]
  refine Ev.bind (Contains_ev [3] 3 (by decide)) ?_
  simp only [bP_pos (show (3 : Int) ∈ ([3] : List Int) by decide), if_true]
  refine Ev.bind (without_ev [3] 3 (by decide)) ?_
  simp only [impl_openCode.f, if_neg (show ¬ (false = true) by decide), Option.bind_some]
  exact Ev_eq (Ev.now _) rfl
theorem watch_pre (v n b : Int) (r_ : Int × Int × ByteArray × Int × Bool × List Int × List Int × Int) (hc : cellOk 1 v ⟨#[]⟩ n false [] []) (h : Ev (fun k => impl_Watch.j1 k 3 b false 1 v ⟨#[]⟩ n false [] [] 1 v ⟨#[]⟩ n false [] []) r_) : Ev (fun k => impl_Watch.f k 1 v ⟨#[]⟩ n false [] [] 3 b) r_ := by
  simp only [impl_Watch.f, copyCell_eq 1 v ⟨#[]⟩ n false [] [] (by decide) (by decide), Option.bind_some]
  refine Ev.bind (implCellOk_ev 1 v ⟨#[]⟩ n false [] [] (by decide) (by decide) (by decide)) ?_
  simp only [bP_pos hc, if_true, isClient_eq, Option.bind_some, bP_pos (show isCl 3 from ⟨by decide, by decide⟩), Bool.not_true]
  refine Ev.step (fun _ => rfl) ?_
  simp only [impl_Watch.j0, if_neg (show ¬ (false = true) by decide)]
  refine Ev.bind (Contains_ev [] 3 (by decide)) ?_
  simp only [bP_neg (show ¬ (3 : Int) ∈ ([] : List Int) by decide), if_neg (show ¬ (false = true) by decide)]
  refine Ev.bind (Contains_ev [] 3 (by decide)) ?_
  simp only [bP_neg (show ¬ (3 : Int) ∈ ([] : List Int) by decide)]
  exact h
theorem watch_ev (v n b : Int) (hc : cellOk 1 v ⟨#[]⟩ n false [] []) : (n > b → Ev (fun k => impl_Watch.f k 1 v ⟨#[]⟩ n false [] [] 3 b) (1, v, ⟨#[]⟩, n, false, [], [], 0)) ∧ (¬ n > b → Ev (fun k => impl_Watch.f k 1 v ⟨#[]⟩ n false [] [] 3 b) (1, v, ⟨#[]⟩, n, false, [3], [], 4)) := by
  constructor
  · intro h
    refine watch_pre v n b _ hc (Ev.step (fun _ => rfl) ?_)
    simp only [impl_Watch.j1, if_neg (show ¬ (false = true) by decide), if_pos h]
    exact Ev.now _
  · intro h
    refine watch_pre v n b _ hc (Ev.step (fun _ => rfl) ?_)
    simp only [impl_Watch.j1, if_neg (show ¬ (false = true) by decide), if_neg h, List.length_nil, if_neg (show ¬ (((0 : Nat) : Int) = 32) by decide), if_pos (show (0 : Nat) < 17592186044416 by decide)]
    exact Ev_eq (Ev.now _) rfl
def seesInv (vals : List Int) (seen last : Int) (waits : Bool) (v n : Int) (l r : List Int) : Prop :=
  (0 ≤ v ∧ v ≤ 255) ∧ 0 ≤ n ∧ (vals.length : Int) = n + 1 ∧ rd vals n = v ∧ last ≤ seen ∧ 0 ≤ seen ∧ seen ≤ n ∧ ((waits = false ∧ l = [] ∧ r = []) ∨ (waits = true ∧ l = [3] ∧ r = [] ∧ n = seen) ∨ (waits = true ∧ l = [] ∧ r = [3] ∧ seen < n))
theorem rd_snoc (vals : List Int) (n x : Int) (hn : 0 ≤ n) (h : (vals.length : Int) = n + 1) : rd (vals ++ [x]) (n + 1) = x := by
  rw [show n + 1 = ((vals.length : Nat) : Int) by omega, rd_nat]
  simp [List.getD_eq_getElem?_getD]
theorem sees_cell {vals : List Int} {seen last : Int} {waits : Bool} {v n : Int} {l r : List Int} (hI : seesInv vals seen last waits v n l r) (hn : n ≤ 1000) : cellOk 1 v ⟨#[]⟩ n false l r := by
  obtain ⟨⟨v0, v1⟩, n0, hv, hr, hls, s0, sn, hw⟩ := hI
  rcases hw with ⟨_, rfl, rfl⟩ | ⟨_, rfl, rfl, _⟩ | ⟨_, rfl, rfl, _⟩
  · exact cell_lit v0 v1 ⟨n0, hn⟩ (by decide) (by decide) (by decide)
  · exact cell_lit v0 v1 ⟨n0, hn⟩ (by decide) (by decide) (by decide)
  · exact cell_lit v0 v1 ⟨n0, hn⟩ (by decide) (by decide) (by decide)
theorem sees_l (s : List Int) (hws : ∀ x ∈ s, (Lit.int .u8 x).wf = true) (hsl : s.length ≤ 1048576) : ∀ d i : Nat, i + d = 30 → ∀ (vals : List Int) (seen last : Int) (waits : Bool) (v n : Int) (l r : List Int), seesInv vals seen last waits v n l r → n ≤ i → Ev (fun k => laws_FnSees.l0 k s vals seen last waits i 1 v ⟨#[]⟩ n false l r) true
  | 0, i, hd, vals, seen, last, waits, v, n, l, r, hI, hni => by
    have hc := sees_cell hI (by omega)
    obtain ⟨⟨v0, v1⟩, n0, hv, hr, hls, s0, sn, hw⟩ := hI
    have hfin : Ev (fun k => if n = wrap64 ((vals.length : Int) - 1) then (spec_CellOk.f k 1 v ⟨#[]⟩ n false l r).bind (fun t => some t) else some false) true := by
      refine Ev_ifpos (by rw [w64 (by omega) (by omega)]; omega) ?_
      refine Ev.bind (specCellOk_ev 1 v ⟨#[]⟩ n false l r (by decide) ?_ ?_) ?_
      · rcases hw with ⟨_, rfl, rfl⟩ | ⟨_, rfl, rfl, _⟩ | ⟨_, rfl, rfl, _⟩ <;> decide
      · rcases hw with ⟨_, rfl, rfl⟩ | ⟨_, rfl, rfl, _⟩ | ⟨_, rfl, rfl, _⟩ <;> decide
      · simp only [bP_pos hc]
        exact Ev.now _
    refine Ev.step (fun _ => rfl) ?_
    simp only [laws_FnSees.l0, if_neg (show ¬ (i : Int) < 30 by omega)]
    rcases hw with ⟨rfl, rfl, rfl⟩ | ⟨rfl, rfl, rfl, he⟩ | ⟨rfl, rfl, rfl, he⟩
    · simp only [if_neg (show ¬ (false = true) by decide)]
      exact hfin
    · simp only [if_true, List.length_cons, List.length_nil, if_pos (show (((0 + 1 : Nat) : Int) = 1) by decide)]
      exact Ev_eq (Ev.now _) (beq_iff_eq.2 he)
    · simp only [if_true, List.length_nil, if_neg (show ¬ (((0 : Nat) : Int) = 1) by decide)]
      exact hfin
  | d + 1, i, hd, vals, seen, last, waits, v, n, l, r, hI, hni => by
    have hc := sees_cell hI (by omega)
    have hI' := hI
    obtain ⟨⟨v0, v1⟩, n0, hv, hr, hls, s0, sn, hw⟩ := hI
    obtain ⟨t, ht, t0, t1⟩ := at_some s hws (i : Int) (by omega) (by omega) hsl
    obtain ⟨x, hx, x0, x1⟩ := at_some s hws ((i : Int) + 31) (by omega) (by omega) hsl
    have ih := sees_l s hws hsl d (i + 1) (by omega)
    have hlen : (l.length : Int) + r.length ≤ 1 := by
      rcases hw with ⟨_, rfl, rfl⟩ | ⟨_, rfl, rfl, _⟩ | ⟨_, rfl, rfl, _⟩ <;> decide
    refine Ev.step (fun _ => rfl) ?_
    simp only [laws_FnSees.l0, if_pos (show (i : Int) < 30 by omega), ht, Option.bind_some, w64 (show -9223372036854775808 ≤ (i : Int) + 31 by omega) (show (i : Int) + 31 ≤ 9223372036854775807 by omega), hx, laws_num.f, w64n (show i < 30 by omega) (show (30 : Nat) ≤ 9223372036854775807 by omega), if_pos (show vals.length < 17592186044416 by omega)]
    by_cases hev : Int.tmod t 2 = 0
    · simp only [if_pos hev]
      refine Ev.bind (upd_ev v n x l r v0 v1 x0 x1 ⟨n0, by omega⟩ hc (by omega)) ?_
      simp only [if_true]
      rcases hw with ⟨rfl, rfl, rfl⟩ | ⟨rfl, rfl, rfl, he⟩ | ⟨rfl, rfl, rfl, he⟩
      · simp only [List.length_nil, show ((false : Bool) != (((0 : Nat) : Int) == 1)) = false by decide, if_neg (show ¬ (false = true) by decide), List.append_nil]
        exact ih _ _ _ _ _ _ _ _ ⟨⟨x0, x1⟩, by omega, by simp; omega, rd_snoc vals n x n0 hv, hls, s0, by omega, .inl ⟨rfl, rfl, rfl⟩⟩ (by omega)
      · simp only [List.length_cons, List.length_nil, show ((true : Bool) != (((0 + 1 : Nat) : Int) == 1)) = false by decide, if_neg (show ¬ (false = true) by decide), List.nil_append]
        exact ih _ _ _ _ _ _ _ _ ⟨⟨x0, x1⟩, by omega, by simp; omega, rd_snoc vals n x n0 hv, hls, s0, by omega, .inr (.inr ⟨rfl, rfl, rfl, by omega⟩)⟩ (by omega)
      · simp only [List.length_cons, List.length_nil, show ((true : Bool) != (((0 : Nat) : Int) == 1)) = true by decide, if_true, if_neg (show ¬ (((0 + 1 : Nat) : Int) = 0) by decide), List.append_nil]
        exact ih _ _ _ _ _ _ _ _ ⟨⟨x0, x1⟩, by omega, by simp; omega, rd_snoc vals n x n0 hv, hls, s0, by omega, .inr (.inr ⟨rfl, rfl, rfl, by omega⟩)⟩ (by omega)
    · simp only [if_neg hev]
      rcases hw with ⟨rfl, rfl, rfl⟩ | ⟨rfl, rfl, rfl, he⟩ | ⟨rfl, rfl, rfl, he⟩
      · simp only [if_neg (show ¬ (false = true) by decide)]
        by_cases hs : n > seen
        · refine Ev.bind ((watch_ev v n seen hc).1 hs) ?_
          simp only [if_neg (show ¬ (0 : Int) = 4 by decide)]
          refine Ev.bind (look_ev v n [] [] hc (by decide) (by decide)) ?_
          simp only [if_true, if_neg (show ¬ n ≤ seen by omega), if_pos n0, if_pos (show n < (vals.length : Int) by omega), hr]
          exact ih _ _ _ _ _ _ _ _ ⟨⟨v0, v1⟩, n0, hv, hr, by omega, by omega, by omega, .inl ⟨rfl, rfl, rfl⟩⟩ (by omega)
        · refine Ev.bind ((watch_ev v n seen hc).2 hs) ?_
          simp only [if_true]
          exact ih _ _ _ _ _ _ _ _ ⟨⟨v0, v1⟩, n0, hv, hr, hls, s0, sn, .inr (.inl ⟨rfl, rfl, rfl, by omega⟩)⟩ (by omega)
      · simp only [if_true]
        refine Ev.bind (seen_line v n hc) ?_
        simp only [if_true, if_neg (show ¬ n > seen by omega)]
        exact ih _ _ _ _ _ _ _ _ hI' (by omega)
      · simp only [if_true]
        refine Ev.bind (seen_grant v n hc) ?_
        simp only [if_neg (show ¬ (0 : Int) = 4 by decide), if_true, if_neg (show ¬ n ≤ seen by omega), if_neg (show ¬ n ≥ (vals.length : Int) by omega), if_pos n0, if_pos (show n < (vals.length : Int) by omega), hr, if_neg (show ¬ n ≤ last by omega)]
        exact ih _ _ _ _ _ _ _ _ ⟨⟨v0, v1⟩, n0, hv, hr, by omega, by omega, by omega, .inl ⟨rfl, rfl, rfl⟩⟩ (by omega)
theorem sees_ev (s : List Int) (hw : ∀ x ∈ s, (Lit.int .u8 x).wf = true) : Ev (fun k => laws_FnSees.f k s) true := by
  simp only [laws_FnSees.f, laws_big.f, Option.bind_some]
  by_cases h : (s.length : Int) > 1048576
  · simp only [decide_eq_true h, if_true]
    exact Ev.now _
  · simp only [decide_eq_false h, if_neg (show ¬ (false = true) by decide), laws_num.f, Option.bind_some]
    exact sees_l s hw (by omega) 30 0 (by omega) [0] 0 (-1) false 0 0 [] [] ⟨by omega, by omega, by decide, by decide, by omega, by omega, by omega, .inl ⟨rfl, rfl, rfl⟩⟩ (by omega)
end Go.Proofs.Ytffcphplnilokaa.Q
