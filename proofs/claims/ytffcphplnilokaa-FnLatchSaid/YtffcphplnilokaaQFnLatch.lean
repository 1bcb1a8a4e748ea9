/- Plain laws of what the printed functions compute, the program's and the reference's, for every number and list; conditions: those of each theorem. -/
import Derived.Test.YtffcphplnilokaaZx1
import Derived.Test.YtffcphplnilokaaZx2
import Derived.Test.YtffcphplnilokaaZx3
import Derived.Test.YtffcphplnilokaaZx5
import Derived.Test.YtffcphplnilokaaZx9
import Derived.Test.YtffcphplnilokaaZx11
import Derived.Test.YtffcphplnilokaaZx15
import Derived.Test.YtffcphplnilokaaZx17
import Derived.Test.YtffcphplnilokaaZx18
import Derived.Test.YtffcphplnilokaaZx19
import Derived.Test.YtffcphplnilokaaZx21
import Derived.Test.YtffcphplnilokaaZx22
import Derived.Test.YtffcphplnilokaaZx25
import Derived.Test.YtffcphplnilokaaZx27
import Derived.Test.YtffcphplnilokaaZx49
namespace Go.Proofs.Ytffcphplnilokaa.Q
open Go.RowKit Go.Proofs.Ytffcphplnilokaa.Z Go.Proofs.YtffcphplnilokaaW.PrintWords Go.Proofs.YtffcphplnilokaaW.PrintLast Go.Proofs.YtffcphplnilokaaW.PrintMore
set_option linter.unusedVariables false
set_option linter.unusedSimpArgs false
theorem w64 {x : Int} (h0 : -9223372036854775808 ≤ x) (h1 : x ≤ 9223372036854775807) : wrap64 x = x := by unfold wrap64; omega
theorem w64n {n m : Nat} (h : n < m) (hm : m ≤ 9223372036854775807) : wrap64 ((n : Int) + 1) = ((n + 1 : Nat) : Int) := by rw [w64 (by omega) (by omega)]; omega
theorem rd_nat (l : List Int) (n : Nat) : rd l (n : Int) = l.getD n 0 := by simp [rd]
theorem rdOf_nat {α : Type} (d : α) (l : List α) (n : Nat) : rdOf d l (n : Int) = l.getD n d := by simp [rdOf]
theorem drop_cons {α : Type} (d : α) (l : List α) (n : Nat) (h : n < l.length) : l.drop n = l.getD n d :: l.drop (n + 1) := by
  rw [List.drop_eq_getElem_cons h, List.getD_eq_getElem?_getD, List.getElem?_eq_getElem h]; rfl
theorem take_cons {α : Type} (d : α) (l : List α) (n : Nat) (h : n < l.length) : l.take (n + 1) = l.take n ++ [l.getD n d] := by
  rw [List.take_succ_eq_append_getElem h, List.getD_eq_getElem?_getD, List.getElem?_eq_getElem h]; rfl
noncomputable def bP (p : Prop) : Bool := @decide p (Classical.propDecidable p)
theorem bP_iff {p : Prop} : bP p = true ↔ p := by simp [bP]
theorem bP_pos {p : Prop} (h : p) : bP p = true := bP_iff.2 h
theorem bP_neg {p : Prop} (h : ¬ p) : bP p = false := by
  cases hb : bP p
  · rfl
  · exact absurd (bP_iff.1 hb) h
theorem bP_congr {p q : Prop} (h : p ↔ q) : bP p = bP q := by rw [propext h]
theorem bP_dec (p : Prop) [Decidable p] : decide p = bP p := by
  by_cases h : p
  · rw [bP_pos h, decide_eq_true h]
  · rw [bP_neg h, decide_eq_false h]
theorem Ev_eq {α : Type} {g : Nat → Option α} {r s : α} (h : Ev g r) (e : r = s) : Ev g s := e ▸ h
theorem Ev_ifpos {α : Type} {c : Prop} [Decidable c] {g f : Nat → Option α} {r : α} (h : c) (k : Ev g r) : Ev (fun n => if c then g n else f n) r := by
  simpa only [if_pos h] using k
theorem Ev_ifneg {α : Type} {c : Prop} [Decidable c] {g f : Nat → Option α} {r : α} (h : ¬ c) (k : Ev f r) : Ev (fun n => if c then g n else f n) r := by
  simpa only [if_neg h] using k
theorem Ev_some {α β : Type} {g : Option α} {f : Nat → α → Option β} {a : α} {r : β} (h : g = some a) (k : Ev (fun n => f n a) r) : Ev (fun n => g.bind (f n)) r := by
  simpa only [h, Option.bind_some] using k
theorem Ev_ofk {α : Type} {r : α} {g : Option α} (h : g = some r) : Ev (fun _ => g) r := ⟨0, fun _ _ => h⟩
def upFrom : Int → Nat → List Int
  | _, 0 => []
  | v, n + 1 => v :: upFrom (v + 1) n
theorem upFrom_length : ∀ n v, (upFrom v n).length = n
  | 0, _ => rfl
  | n + 1, v => by simp [upFrom, upFrom_length n]
def pos (a : Int) : List Int → Int → Int
  | [], _ => -1
  | x :: xs, i => if x = a then i else pos a xs (i + 1)
theorem pos_spec (a : Int) : ∀ (l : List Int) (i : Int), 0 ≤ i → (a ∈ l → i ≤ pos a l i ∧ pos a l i < i + l.length) ∧ (a ∉ l → pos a l i = -1)
  | [], i, _ => by simp [pos]
  | x :: xs, i, hi => by
    have ih := pos_spec a xs (i + 1) (by omega)
    unfold pos
    by_cases hx : x = a
    · rw [if_pos hx]
      refine ⟨fun _ => ⟨Int.le_refl _, by simp only [List.length_cons]; omega⟩, fun h => absurd (by rw [hx]; exact List.mem_cons_self) h⟩
    · rw [if_neg hx]
      refine ⟨fun h => ?_, fun h => ih.2 (fun h' => h (List.mem_cons_of_mem _ h'))⟩
      have h' : a ∈ xs := by
        rcases List.mem_cons.1 h with h | h
        · exact absurd h.symm hx
        · exact h
      have := ih.1 h'
      simp only [List.length_cons]
      omega
theorem pos_mem (a : Int) (l : List Int) : (0 ≤ pos a l 0) ↔ a ∈ l := by
  have h := pos_spec a l 0 (by omega)
  constructor
  · intro h0
    by_cases hm : a ∈ l
    · exact hm
    · have := h.2 hm; omega
  · intro hm
    exact (h.1 hm).1
theorem Index_l (l : List Int) (a : Int) (hl : l.length ≤ 9223372036854775807) : ∀ d n : Nat, n + d = l.length → Ev (fun k => slices_Index_int_int.l0 k l a (l.length : Int) n) (pos a (l.drop n) n)
  | 0, n, hd => by
    refine Ev.step (fun _ => rfl) ?_
    simp only [slices_Index_int_int.l0, if_neg (show ¬ (n : Int) < (l.length : Int) by omega)]
    rw [List.drop_eq_nil_of_le (by omega)]
    exact Ev.now _
  | d + 1, n, hd => by
    refine Ev.step (fun _ => rfl) ?_
    simp only [slices_Index_int_int.l0, if_pos (show (n : Int) < (l.length : Int) by omega), if_pos (show (0 : Int) ≤ (n : Int) by omega), w64n (show n < l.length by omega) hl, rd_nat]
    rw [drop_cons 0 l n (by omega)]
    by_cases h : a = l.getD n 0
    · simp only [if_pos h]
      refine Ev_eq (Ev.now _) ?_
      simp only [pos]
      rw [if_pos h.symm]
    · simp only [if_neg h]
      refine Ev_eq (Index_l l a hl d (n + 1) (by omega)) ?_
      simp only [pos]
      rw [if_neg (fun e => h e.symm)]
      rw [show ((n + 1 : Nat) : Int) = (n : Int) + 1 by omega]
theorem Index_ev (l : List Int) (a : Int) (hl : l.length ≤ 9223372036854775807) : Ev (fun k => slices_Index_int_int.f k l a) (pos a l 0) := by
  simp only [slices_Index_int_int.f]
  exact Index_l l a hl l.length 0 (by omega)
theorem Contains_ev (l : List Int) (a : Int) (hl : l.length ≤ 9223372036854775807) : Ev (fun k => slices_Contains_int_int.f k l a) (bP (a ∈ l)) := by
  simp only [slices_Contains_int_int.f]
  refine Ev.bind (Index_ev l a hl) ?_
  refine Ev_eq (Ev.now _) ?_
  rw [bP_dec]
  exact bP_congr (pos_mem a l)
theorem l1In_eq (a b c : Int) : spec_l1In.f a b c = some (bP (b ≤ a ∧ a ≤ c)) := by
  simp only [spec_l1In.f]
  by_cases h : a ≥ b
  · rw [if_pos h, bP_dec, bP_congr (show (a ≤ c) ↔ (b ≤ a ∧ a ≤ c) by omega)]
  · rw [if_neg h, bP_neg (by omega)]
theorem within_eq (a b c : Int) : impl_within.f a b c = some (bP (b ≤ a ∧ a ≤ c)) := by
  simp only [impl_within.f]
  by_cases h : a ≥ b
  · rw [if_pos h, bP_dec, bP_congr (show (a ≤ c) ↔ (b ≤ a ∧ a ≤ c) by omega)]
  · rw [if_neg h, bP_neg (by omega)]
def isCl (a : Int) : Prop := 0 ≤ a ∧ a ≤ 63
theorem l2Client_eq (a : Int) : spec_l2Client.f a = some (bP (isCl a)) := by
  simp only [spec_l2Client.f, l1In_eq, Option.bind_some, isCl]
theorem isClient_eq (a : Int) : impl_isClient.f a = some (bP (isCl a)) := by
  simp only [impl_isClient.f, within_eq, Option.bind_some, isCl]
theorem l2Has_l (l : List Int) (a : Int) (hl : l.length ≤ 9223372036854775807) : ∀ d n : Nat, n + d = l.length → Ev (fun k => spec_l2Has.l0 k l a n) (bP (a ∈ l.drop n))
  | 0, n, hd => by
    refine Ev.step (fun _ => rfl) ?_
    simp only [spec_l2Has.l0, if_neg (show ¬ (n : Int) < (l.length : Int) by omega)]
    rw [List.drop_eq_nil_of_le (by omega), bP_neg (by simp)]
    exact Ev.now _
  | d + 1, n, hd => by
    refine Ev.step (fun _ => rfl) ?_
    simp only [spec_l2Has.l0, if_pos (show (n : Int) < (l.length : Int) by omega), if_pos (show (0 : Int) ≤ (n : Int) by omega), w64n (show n < l.length by omega) hl, rd_nat]
    rw [drop_cons 0 l n (by omega)]
    by_cases h : l.getD n 0 = a
    · simp only [if_pos h]
      rw [bP_pos (by rw [h]; exact List.mem_cons_self)]
      exact Ev.now _
    · simp only [if_neg h]
      refine Ev_eq (l2Has_l l a hl d (n + 1) (by omega)) (bP_congr ?_)
      rw [List.mem_cons]
      exact ⟨.inr, fun h' => h'.resolve_left (fun e => h e.symm)⟩
theorem l2Has_ev (l : List Int) (a : Int) (hl : l.length ≤ 9223372036854775807) : Ev (fun k => spec_l2Has.f k l a) (bP (a ∈ l)) := by
  simp only [spec_l2Has.f]
  exact l2Has_l l a hl l.length 0 (by omega)
def lineFrom (l : List Int) (n : Nat) : Prop := ∀ i, n ≤ i → i < l.length → isCl (l.getD i 0) ∧ l.getD i 0 ∉ l.take i
def lineOk (l : List Int) : Prop := l.length ≤ 32 ∧ lineFrom l 0
theorem lineFrom_step (l : List Int) (n : Nat) (h : n < l.length) : lineFrom l n ↔ (isCl (l.getD n 0) ∧ l.getD n 0 ∉ l.take n) ∧ lineFrom l (n + 1) := by
  constructor
  · intro hf
    exact ⟨hf n (Nat.le_refl _) h, fun i hi => hf i (by omega)⟩
  · rintro ⟨h0, hf⟩ i hi hl
    rcases Nat.eq_or_lt_of_le hi with rfl | hlt
    · exact h0
    · exact hf i hlt hl
theorem specLineOk_l (l : List Int) (hl : l.length ≤ 9223372036854775807) : ∀ d n : Nat, n + d = l.length → Ev (fun k => spec_LineOk.l0 k l n) (bP (lineFrom l n))
  | 0, n, hd => by
    refine Ev.step (fun _ => rfl) ?_
    simp only [spec_LineOk.l0, if_neg (show ¬ (n : Int) < (l.length : Int) by omega)]
    rw [bP_pos (show lineFrom l n from fun i hi hl => by omega)]
    exact Ev.now _
  | d + 1, n, hd => by
    refine Ev.step (fun _ => rfl) ?_
    simp only [spec_LineOk.l0, if_pos (show (n : Int) < (l.length : Int) by omega), if_pos (show (0 : Int) ≤ (n : Int) by omega), w64n (show n < l.length by omega) hl, rd_nat, l2Client_eq, Option.bind_some, if_pos (show (n : Int) ≤ (l.length : Int) by omega), Int.toNat_natCast]
    rw [bP_congr (lineFrom_step l n (by omega))]
    by_cases h1 : isCl (l.getD n 0)
    · simp only [bP_pos h1, if_true]
      refine Ev.bind (l2Has_ev (l.take n) (l.getD n 0) (by rw [List.length_take]; omega)) ?_
      by_cases h2 : l.getD n 0 ∈ l.take n
      · simp only [bP_pos h2, if_true]
        rw [bP_neg (fun h => h.1.2 h2)]
        exact Ev.now _
      · simp only [bP_neg h2, if_neg (show ¬ (false = true) by decide)]
        exact Ev_eq (specLineOk_l l hl d (n + 1) (by omega)) (bP_congr ⟨fun h => ⟨⟨h1, h2⟩, h⟩, fun h => h.2⟩)
    · simp only [bP_neg h1, if_neg (show ¬ (false = true) by decide)]
      rw [bP_neg (fun h => h1 h.1.1)]
      exact Ev.now _
theorem specLineOk_ev (l : List Int) (hl : l.length ≤ 9223372036854775807) : Ev (fun k => spec_LineOk.f k l) (bP (lineOk l)) := by
  by_cases h : l.length ≤ 32
  · simp only [spec_LineOk.f, if_neg (show ¬ (l.length : Int) > 32 by omega)]
    exact Ev_eq (specLineOk_l l hl l.length 0 (by omega)) (bP_congr ⟨fun h' => ⟨h, h'⟩, fun h' => h'.2⟩)
  · simp only [spec_LineOk.f, if_pos (show (l.length : Int) > 32 by omega)]
    rw [bP_neg (fun h' => h h'.1)]
    exact Ev.now _
theorem clientsOk_l (l : List Int) (hl : l.length ≤ 9223372036854775807) : ∀ d n : Nat, n + d = l.length → Ev (fun k => impl_clientsOk.l0 k l l (l.length : Int) n) (bP (l.length ≤ 32 ∧ lineFrom l n))
  | 0, n, hd => by
    refine Ev.step (fun _ => rfl) ?_
    simp only [impl_clientsOk.l0, if_neg (show ¬ (n : Int) < (l.length : Int) by omega)]
    refine Ev_eq (Ev.now _) ?_
    rw [bP_dec]
    exact bP_congr ⟨fun h => ⟨by omega, fun i hi hl => by omega⟩, fun h => by have := h.1; omega⟩
  | d + 1, n, hd => by
    refine Ev.step (fun _ => rfl) ?_
    simp only [impl_clientsOk.l0, if_pos (show (n : Int) < (l.length : Int) by omega), if_pos (show (0 : Int) ≤ (n : Int) by omega), w64n (show n < l.length by omega) hl, rd_nat, isClient_eq, Option.bind_some, if_pos (show (n : Int) ≤ (l.length : Int) by omega), Int.toNat_natCast]
    rw [bP_congr (and_congr_right fun _ => lineFrom_step l n (by omega))]
    by_cases h1 : isCl (l.getD n 0)
    · simp only [bP_pos h1, if_true]
      refine Ev.bind (Contains_ev (l.take n) (l.getD n 0) (by rw [List.length_take]; omega)) ?_
      by_cases h2 : l.getD n 0 ∈ l.take n
      · simp only [bP_pos h2, if_true]
        rw [bP_neg (fun h => h.2.1.2 h2)]
        exact Ev.now _
      · simp only [bP_neg h2, if_neg (show ¬ (false = true) by decide)]
        exact Ev_eq (clientsOk_l l hl d (n + 1) (by omega)) (bP_congr ⟨fun h => ⟨h.1, ⟨h1, h2⟩, h.2⟩, fun h => ⟨h.1, h.2.2⟩⟩)
    · simp only [bP_neg h1, if_neg (show ¬ (false = true) by decide)]
      rw [bP_neg (fun h => h1 h.2.1.1)]
      exact Ev.now _
theorem clientsOk_ev (l : List Int) (hl : l.length ≤ 9223372036854775807) : Ev (fun k => impl_clientsOk.f k l) (bP (lineOk l)) := by
  simp only [impl_clientsOk.f]
  exact clientsOk_l l hl l.length 0 (by omega)
theorem implLineOk_ev (l : List Int) (hl : l.length ≤ 9223372036854775807) : Ev (fun k => impl_LineOk.f k l) (bP (lineOk l)) := by
  simp only [impl_LineOk.f]
  exact Ev.bind (clientsOk_ev l hl) (Ev.now _)
theorem Clone_eq (l : List Int) (hl : l.length < 17592186044416) : slices_Clone_int_int.f l = some l := by
  simp only [slices_Clone_int_int.f, Option.bind_some, List.length_nil, Nat.zero_add, if_pos hl, List.nil_append]
theorem lineOk_once {l : List Int} (h : lineOk l) (a : Int) : ∀ i j, i < l.length → j < l.length → l.getD i 0 = a → l.getD j 0 = a → i = j := by
  have key : ∀ i j, i < j → j < l.length → l.getD i 0 = a → l.getD j 0 = a → False := by
    intro i j hij hj ei ej
    have := (h.2 j (by omega) hj).2
    apply this
    rw [ej, ← ei, List.mem_iff_getElem?]
    exact ⟨i, by rw [List.getElem?_take_of_lt hij, List.getD_eq_getElem?_getD, List.getElem?_eq_getElem (by omega)]; rfl⟩
  intro i j hi hj ei ej
  rcases Nat.lt_trichotomy i j with hlt | heq | hgt
  · exact (key i j hlt hj ei ej).elim
  · exact heq
  · exact (key j i hgt hi ej ei).elim
theorem pos_split (a : Int) : ∀ (l : List Int) (i : Int), a ∈ l → ∃ n : Nat, pos a l i = i + n ∧ n < l.length ∧ (l.filter fun x => decide (x ≠ a)) = l.take n ++ (l.drop (n + 1)).filter fun x => decide (x ≠ a)
  | [], _, h => by simp at h
  | x :: xs, i, h => by
    by_cases hx : x = a
    · refine ⟨0, ?_, by simp, ?_⟩
      · simp only [pos]; rw [if_pos hx]; omega
      · rw [List.filter_cons_of_neg (by rw [hx]; simp)]
        simp
    · have h' : a ∈ xs := by
        rcases List.mem_cons.1 h with h | h
        · exact absurd h.symm hx
        · exact h
      obtain ⟨n, h1, h2, h3⟩ := pos_split a xs (i + 1) h'
      refine ⟨n + 1, ?_, by simp; omega, ?_⟩
      · simp only [pos]; rw [if_neg hx, h1]; omega
      · rw [List.filter_cons_of_pos (by simpa using hx), h3]
        simp
theorem IFwo_l (l : List Int) (a : Int) (hl : l.length ≤ 9223372036854775807) : ∀ d n : Nat, n + d = l.length → Ev (fun k => slices_IndexFunc_wo.l0 k l a (l.length : Int) n) (pos a (l.drop n) n)
  | 0, n, hd => by
    refine Ev.step (fun _ => rfl) ?_
    simp only [slices_IndexFunc_wo.l0, if_neg (show ¬ (n : Int) < (l.length : Int) by omega)]
    rw [List.drop_eq_nil_of_le (by omega)]
    exact Ev.now _
  | d + 1, n, hd => by
    refine Ev.step (fun _ => rfl) ?_
    simp only [slices_IndexFunc_wo.l0, if_pos (show (n : Int) < (l.length : Int) by omega), if_pos (show (0 : Int) ≤ (n : Int) by omega), w64n (show n < l.length by omega) hl, rd_nat, impl_without_1.f, Option.bind_some, decide_eq_true_eq]
    rw [drop_cons 0 l n (by omega)]
    by_cases h : l.getD n 0 = a
    · simp only [if_pos h]
      refine Ev_eq (Ev.now _) ?_
      simp only [pos]
      rw [if_pos h]
    · simp only [if_neg h]
      refine Ev_eq (IFwo_l l a hl d (n + 1) (by omega)) ?_
      simp only [pos]
      rw [if_neg h]
      rw [show ((n + 1 : Nat) : Int) = (n : Int) + 1 by omega]
theorem IFwo_ev (l : List Int) (a : Int) (hl : l.length ≤ 9223372036854775807) : Ev (fun k => slices_IndexFunc_wo.f k l a) (pos a l 0) := by
  simp only [slices_IndexFunc_wo.f]
  exact IFwo_l l a hl l.length 0 (by omega)
theorem DFwo_l (a : Int) : ∀ (d n : Nat) (l : List Int), n + d = l.length → l.length ≤ 9223372036854775807 → ∀ i : Nat, i < n → Ev (fun k => slices_DeleteFunc_wo.l0 k l a i n) (l.take i ++ (l.drop n).filter fun x => decide (x ≠ a))
  | 0, n, l, hd, hl, i, hi => by
    refine Ev.step (fun _ => rfl) ?_
    simp only [slices_DeleteFunc_wo.l0, if_neg (show ¬ (n : Int) < (l.length : Int) by omega), if_pos (show (0 : Int) ≤ (i : Int) by omega), if_pos (show (i : Int) < (l.length : Int) by omega), Int.toNat_natCast]
    rw [List.drop_eq_nil_of_le (by omega)]
    simp only [List.filter_nil, List.append_nil]
    exact Ev.now _
  | d + 1, n, l, hd, hl, i, hi => by
    refine Ev.step (fun _ => rfl) ?_
    simp only [slices_DeleteFunc_wo.l0, if_pos (show (n : Int) < (l.length : Int) by omega), if_pos (show (0 : Int) ≤ (n : Int) by omega), if_pos (show (0 : Int) ≤ (i : Int) by omega), if_pos (show (i : Int) < (l.length : Int) by omega), w64n (show n < l.length by omega) hl, w64n (show i < l.length by omega) hl, rd_nat, impl_without_1.f, Option.bind_some, decide_eq_true_eq, Int.toNat_natCast]
    rw [drop_cons 0 l n (by omega)]
    by_cases h : l.getD n 0 = a
    · simp only [if_pos h]
      rw [List.filter_cons_of_neg (by rw [h]; simp)]
      exact DFwo_l a d (n + 1) l (by omega) hl i (by omega)
    · simp only [if_neg h]
      rw [List.filter_cons_of_pos (by simpa using h)]
      have ih := DFwo_l a d (n + 1) (l.set i (l.getD n 0)) (by simp; omega) (by simpa using hl) (i + 1) (by omega)
      refine Ev_eq ih ?_
      rw [take_cons 0 _ i (by simp; omega), List.take_set_of_le (Nat.le_refl i), List.drop_set_of_lt (by omega), List.append_assoc]
      congr 1
      simp [List.getD_eq_getElem?_getD, List.getElem?_set_self (show i < l.length by omega)]
theorem without_ev (l : List Int) (a : Int) (hl : l.length < 17592186044416) : Ev (fun k => impl_without.f k l a) (l.filter fun x => decide (x ≠ a)) := by
  simp only [impl_without.f, Clone_eq l hl, Option.bind_some, slices_DeleteFunc_wo.f]
  refine Ev.bind (IFwo_ev l a (by omega)) ?_
  by_cases h : a ∈ l
  · obtain ⟨n, h1, h2, h3⟩ := pos_split a l 0 h
    rw [h1, h3]
    simp only [if_neg (show ¬ (0 : Int) + (n : Int) = -1 by omega), Int.zero_add]
    rw [w64n h2 (by omega)]
    exact DFwo_l a (l.length - (n + 1)) (n + 1) l (by omega) (by omega) n (by omega)
  · rw [(pos_spec a l 0 (by omega)).2 h]
    simp only [if_true]
    rw [List.filter_eq_self.2 (fun x hx => by simpa using fun e : x = a => h (e ▸ hx))]
    exact Ev.now _
theorem less_len (l : List Int) (a : Int) : (l.filter fun x => decide (x ≠ a)).length ≤ l.length := List.length_filter_le _ _
theorem isCount_eq (a : Int) : impl_isCount.f a = some (bP (0 ≤ a ∧ a ≤ 1000000000)) := by
  simp only [impl_isCount.f, within_eq, Option.bind_some]
def apartP (l r : List Int) : Prop := lineOk l ∧ lineOk r ∧ ∀ x ∈ r, x ∉ l
theorem l6Waits_l (l r : List Int) (hl : l.length ≤ 9223372036854775807) (hr : r.length ≤ 9223372036854775807) : ∀ d n : Nat, n + d = r.length → Ev (fun k => spec_l6Waits.l0 k l r n) (bP (∀ x ∈ r.drop n, x ∉ l))
  | 0, n, hd => by
    refine Ev.step (fun _ => rfl) ?_
    simp only [spec_l6Waits.l0, if_neg (show ¬ (n : Int) < (r.length : Int) by omega)]
    rw [List.drop_eq_nil_of_le (by omega), bP_pos (by simp)]
    exact Ev.now _
  | d + 1, n, hd => by
    refine Ev.step (fun _ => rfl) ?_
    simp only [spec_l6Waits.l0, if_pos (show (n : Int) < (r.length : Int) by omega), if_pos (show (0 : Int) ≤ (n : Int) by omega), w64n (show n < r.length by omega) hr, rd_nat]
    refine Ev.bind (l2Has_ev l (r.getD n 0) hl) ?_
    rw [drop_cons 0 r n (by omega)]
    by_cases h : r.getD n 0 ∈ l
    · simp only [bP_pos h, if_true]
      rw [bP_neg (fun h' => h' _ List.mem_cons_self h)]
      exact Ev.now _
    · simp only [bP_neg h, if_neg (show ¬ (false = true) by decide)]
      exact Ev_eq (l6Waits_l l r hl hr d (n + 1) (by omega)) (bP_congr ⟨fun h' x hx => (List.mem_cons.1 hx).elim (fun e => e ▸ h) (h' x), fun h' x hx => h' x (List.mem_cons_of_mem _ hx)⟩)
theorem l6Waits_ev (l r : List Int) (hl : l.length ≤ 9223372036854775807) (hr : r.length ≤ 9223372036854775807) : Ev (fun k => spec_l6Waits.f k l r) (bP (apartP l r)) := by
  simp only [spec_l6Waits.f]
  refine Ev.bind (specLineOk_ev l hl) ?_
  by_cases h1 : lineOk l
  · simp only [bP_pos h1, if_true]
    refine Ev.bind (specLineOk_ev r hr) ?_
    refine Ev.step (fun _ => rfl) ?_
    by_cases h2 : lineOk r
    · simp only [bP_pos h2, spec_l6Waits.j0, Bool.not_true, if_neg (show ¬ (false = true) by decide)]
      exact Ev_eq (l6Waits_l l r hl hr r.length 0 (by omega)) (bP_congr ⟨fun h => ⟨h1, h2, h⟩, fun h => h.2.2⟩)
    · simp only [bP_neg h2, spec_l6Waits.j0, Bool.not_false, if_true]
      rw [bP_neg (fun h => h2 h.2.1)]
      exact Ev.now _
  · simp only [bP_neg h1, if_neg (show ¬ (false = true) by decide)]
    refine Ev.step (fun _ => rfl) ?_
    simp only [spec_l6Waits.j0, if_true]
    rw [bP_neg (fun h => h1 h.1)]
    exact Ev.now _
theorem IFap_l (l r : List Int) (hl : l.length ≤ 9223372036854775807) (hr : r.length ≤ 9223372036854775807) : ∀ d n : Nat, n + d = l.length → ∃ i : Int, Ev (fun k => slices_IndexFunc_ap.l0 k l r (l.length : Int) n) i ∧ (0 ≤ i ↔ ∃ x ∈ l.drop n, x ∈ r)
  | 0, n, hd => by
    refine ⟨-1, Ev.step (fun _ => rfl) ?_, ?_⟩
    · simp only [slices_IndexFunc_ap.l0, if_neg (show ¬ (n : Int) < (l.length : Int) by omega)]
      exact Ev.now _
    · rw [List.drop_eq_nil_of_le (by omega)]
      simp
  | d + 1, n, hd => by
    obtain ⟨i, h1, h2⟩ := IFap_l l r hl hr d (n + 1) (by omega)
    rw [drop_cons 0 l n (by omega)]
    by_cases h : l.getD n 0 ∈ r
    · refine ⟨n, Ev.step (fun _ => rfl) ?_, ⟨fun _ => ⟨_, List.mem_cons_self, h⟩, fun _ => by omega⟩⟩
      simp only [slices_IndexFunc_ap.l0, if_pos (show (n : Int) < (l.length : Int) by omega), if_pos (show (0 : Int) ≤ (n : Int) by omega), w64n (show n < l.length by omega) hl, rd_nat, impl_apart_1.f]
      refine Ev.bind (Contains_ev r (l.getD n 0) hr) ?_
      simp only [bP_pos h, if_true]
      exact Ev.now _
    · refine ⟨i, Ev.step (fun _ => rfl) ?_, h2.trans ⟨fun ⟨x, hx, hy⟩ => ⟨x, List.mem_cons_of_mem _ hx, hy⟩, fun ⟨x, hx, hy⟩ => (List.mem_cons.1 hx).elim (fun e => absurd (e ▸ hy) h) (fun hx => ⟨x, hx, hy⟩)⟩⟩
      simp only [slices_IndexFunc_ap.l0, if_pos (show (n : Int) < (l.length : Int) by omega), if_pos (show (0 : Int) ≤ (n : Int) by omega), w64n (show n < l.length by omega) hl, rd_nat, impl_apart_1.f]
      refine Ev.bind (Contains_ev r (l.getD n 0) hr) ?_
      simp only [bP_neg h, if_neg (show ¬ (false = true) by decide)]
      exact h1
theorem apart_ev (l r : List Int) (hl : l.length ≤ 9223372036854775807) (hr : r.length ≤ 9223372036854775807) : Ev (fun k => impl_apart.f k l r) (bP (apartP l r)) := by
  simp only [impl_apart.f]
  refine Ev.bind (implLineOk_ev l hl) ?_
  by_cases h1 : lineOk l
  · simp only [bP_pos h1, if_true]
    refine Ev.bind (clientsOk_ev r hr) ?_
    by_cases h2 : lineOk r
    · obtain ⟨i, h3, h4⟩ := IFap_l r l hr hl r.length 0 (by omega)
      rw [List.drop_zero] at h4
      simp only [bP_pos h2, if_true, slices_ContainsFunc_ap.f, slices_IndexFunc_ap.f]
      refine Ev.bind (Ev.bind h3 (Ev.now _)) ?_
      refine Ev_eq (Ev.now _) ?_
      rw [bP_dec, bP_congr h4]
      by_cases h5 : ∃ x ∈ r, x ∈ l
      · rw [bP_pos h5, bP_neg (fun h => by obtain ⟨x, hx, hy⟩ := h5; exact h.2.2 x hx hy)]
        rfl
      · rw [bP_neg h5, bP_pos ⟨h1, h2, fun x hx hy => h5 ⟨x, hx, hy⟩⟩]
        rfl
    · simp only [bP_neg h2, if_neg (show ¬ (false = true) by decide)]
      rw [bP_neg (fun h => h2 h.2.1)]
      exact Ev.now _
  · simp only [bP_neg h1, if_neg (show ¬ (false = true) by decide)]
    rw [bP_neg (fun h => h1 h.1)]
    exact Ev.now _
def latchOk (c : Int) (l r : List Int) : Prop := (0 ≤ c ∧ c ≤ 1000000000) ∧ apartP l r ∧ (c = 0 → l.length = 0)
theorem specLatchOk_ev (c : Int) (l r : List Int) (hl : l.length ≤ 9223372036854775807) (hr : r.length ≤ 9223372036854775807) : Ev (fun k => spec_LatchOk.f k c l r) (bP (latchOk c l r)) := by
  simp only [spec_LatchOk.f, l1In_eq, Option.bind_some]
  by_cases h1 : 0 ≤ c ∧ c ≤ 1000000000
  · simp only [bP_pos h1, if_true]
    refine Ev.bind (l6Waits_ev l r hl hr) ?_
    by_cases h2 : apartP l r
    · simp only [bP_pos h2, if_true]
      by_cases h3 : c > 0
      · simp only [if_pos h3]
        rw [bP_pos ⟨h1, h2, fun h => by omega⟩]
        exact Ev.now _
      · simp only [if_neg h3]
        refine Ev_eq (Ev.now _) ?_
        rw [show ((l.length : Int) == 0) = bP ((l.length : Int) = 0) by rw [← bP_dec]; rfl]
        exact bP_congr ⟨fun h => ⟨h1, h2, fun _ => by omega⟩, fun h => by have := h.2.2 (by omega); omega⟩
    · simp only [bP_neg h2, if_neg (show ¬ (false = true) by decide)]
      rw [bP_neg (fun h => h2 h.2.1)]
      exact Ev.now _
  · simp only [bP_neg h1, if_neg (show ¬ (false = true) by decide)]
    rw [bP_neg (fun h => h1 h.1)]
    exact Ev.now _
theorem implLatchOk_ev (c : Int) (l r : List Int) (hl : l.length ≤ 9223372036854775807) (hr : r.length ≤ 9223372036854775807) : Ev (fun k => impl_LatchOk.f k c l r) (bP (latchOk c l r)) := by
  simp only [impl_LatchOk.f, isCount_eq, Option.bind_some]
  by_cases h1 : 0 ≤ c ∧ c ≤ 1000000000
  · simp only [bP_pos h1, if_true]
    refine Ev.bind (apart_ev l r hl hr) ?_
    by_cases h2 : apartP l r
    · simp only [bP_pos h2, if_true]
      by_cases h3 : c = 0
      · simp only [if_pos h3]
        refine Ev_eq (Ev.now _) ?_
        by_cases h4 : l.length = 0
        · rw [bP_pos ⟨h1, h2, fun _ => h4⟩, decide_eq_false (by omega)]
          rfl
        · rw [bP_neg (fun h => h4 (h.2.2 h3)), decide_eq_true (by omega)]
          rfl
      · simp only [if_neg h3]
        rw [bP_pos ⟨h1, h2, fun h => absurd h h3⟩]
        exact Ev.now _
    · simp only [bP_neg h2, if_neg (show ¬ (false = true) by decide)]
      rw [bP_neg (fun h => h2 h.2.1)]
      exact Ev.now _
  · simp only [bP_neg h1, if_neg (show ¬ (false = true) by decide)]
    rw [bP_neg (fun h => h1 h.1)]
    exact Ev.now _
theorem copyLatch_eq (c : Int) (l r : List Int) (hl : l.length < 17592186044416) (hr : r.length < 17592186044416) : impl_copyLatch.f c l r = some (c, l, r) := by
  simp only [impl_copyLatch.f, Clone_eq l hl, Clone_eq r hr, Option.bind_some]
theorem release_eq (l r : List Int) (hl : l.length ≤ 1048577) (hr : r.length ≤ 1048577) : impl_release.f l r = some ([], r ++ l) := by
  simp only [impl_release.f, if_pos (show r.length + l.length < 17592186044416 by omega)]
theorem cd_over (c : Int) (l r : List Int) (a : Int) (h1 : latchOk c l r) (h2 : 1 ≤ a) (h3 : a > c) : Ev (fun k => impl_CountDown.f k c l r a) (c, l, r, [], 6) := by
  have q1 := h1.2.1.1.1
  have q2 := h1.2.1.2.1.1
  simp only [impl_CountDown.f]
  repeat (first
    | (dsimp only)
    | (with_reducible exact Ev.now _)
    | (simp only [bP_pos h1, if_true, Bool.not_true, Bool.not_false])
    | (with_reducible refine Ev.bind (implLatchOk_ev _ _ _ (by omega) (by omega)) ?_)
    | (with_reducible refine Ev_some (Clone_eq _ (by omega)) ?_)
    | (with_reducible refine Ev_some (copyLatch_eq _ _ _ (by omega) (by omega)) ?_)
    | (with_reducible refine Ev_some (release_eq _ _ (by omega) (by omega)) ?_)
    | (refine Ev_ifpos (by first | rfl | omega | (simp; omega)) ?_)
    | (refine Ev_ifneg (by first | omega | decide | (simp; omega)) ?_)
    | (refine Ev_ifneg (by simp only [bne_self_eq_false]; decide) ?_)
    | (refine Ev_ifpos (by simp) ?_)
    | (refine Ev_ifneg (by simp) ?_)
    | (refine Ev.step (fun _ => rfl) ?_; simp only [impl_CountDown.j0])
    | (refine Ev.step (fun _ => rfl) ?_; simp only [impl_CountDown.j1]))
theorem cd_part (c : Int) (l r : List Int) (a : Int) (h1 : latchOk c l r) (h2 : 1 ≤ a) (h3 : a < c) : Ev (fun k => impl_CountDown.f k c l r a) (c - a, l, r, [], 0) := by
  have q1 := h1.2.1.1.1
  have q2 := h1.2.1.2.1.1
  have q3 := h1.1
  have wz : wrap64 (c - a) = c - a := w64 (by omega) (by omega)
  simp only [impl_CountDown.f]
  rw [← wz]
  repeat (first
    | (dsimp only)
    | (with_reducible exact Ev.now _)
    | (simp only [bP_pos h1, if_true, Bool.not_true, Bool.not_false])
    | (with_reducible refine Ev.bind (implLatchOk_ev _ _ _ (by omega) (by omega)) ?_)
    | (with_reducible refine Ev_some (Clone_eq _ (by omega)) ?_)
    | (with_reducible refine Ev_some (copyLatch_eq _ _ _ (by omega) (by omega)) ?_)
    | (with_reducible refine Ev_some (release_eq _ _ (by omega) (by omega)) ?_)
    | (refine Ev_ifpos (by first | rfl | omega | (simp; omega)) ?_)
    | (refine Ev_ifneg (by first | omega | decide | (simp; omega)) ?_)
    | (refine Ev_ifneg (by simp only [bne_self_eq_false]; decide) ?_)
    | (refine Ev_ifpos (by simp) ?_)
    | (refine Ev_ifneg (by simp) ?_)
    | (refine Ev.step (fun _ => rfl) ?_; simp only [impl_CountDown.j0])
    | (refine Ev.step (fun _ => rfl) ?_; simp only [impl_CountDown.j1]))
theorem cd_all (c : Int) (l r : List Int) (h1 : latchOk c l r) (h2 : 1 ≤ c) (h5 : (l.length : Int) + r.length ≤ 32) : Ev (fun k => impl_CountDown.f k c l r c) (0, [], r ++ l, l, 0) := by
  have q1 := h1.2.1.1.1
  have q2 := h1.2.1.2.1.1
  have q3 := h1.1
  have wz : wrap64 (c - c) = 0 := by rw [Int.sub_self]; exact w64 (by omega) (by omega)
  have wy : wrap64 ((l.length : Int) + (r.length : Int)) = l.length + r.length := w64 (by omega) (by omega)
  simp only [impl_CountDown.f]
  rw [show ((0 : Int), ([] : List Int), r ++ l, l, (0 : Int)) = (wrap64 (c - c), [], r ++ l, l, 0) by rw [wz]]
  repeat (first
    | (dsimp only)
    | (with_reducible exact Ev.now _)
    | (simp only [bP_pos h1, if_true, Bool.not_true, Bool.not_false])
    | (with_reducible refine Ev.bind (implLatchOk_ev _ _ _ (by omega) (by omega)) ?_)
    | (with_reducible refine Ev_some (Clone_eq _ (by omega)) ?_)
    | (with_reducible refine Ev_some (copyLatch_eq _ _ _ (by omega) (by omega)) ?_)
    | (with_reducible refine Ev_some (release_eq _ _ (by omega) (by omega)) ?_)
    | (refine Ev_ifpos (by first | rfl | omega | (simp; omega)) ?_)
    | (refine Ev_ifneg (by first | omega | decide | (simp; omega)) ?_)
    | (refine Ev_ifneg (by simp only [bne_self_eq_false]; decide) ?_)
    | (refine Ev_ifpos (by simp) ?_)
    | (refine Ev_ifneg (by simp) ?_)
    | (refine Ev.step (fun _ => rfl) ?_; simp only [impl_CountDown.j0])
    | (refine Ev.step (fun _ => rfl) ?_; simp only [impl_CountDown.j1]))
def chk (l : List Int) : Bool := decide (l.length ≤ 32) && (List.range l.length).all fun i => decide (0 ≤ l.getD i 0 ∧ l.getD i 0 ≤ 63) && decide (l.getD i 0 ∉ l.take i)
theorem chk_ok {l : List Int} (h : chk l = true) : lineOk l := by
  simp only [chk, Bool.and_eq_true, decide_eq_true_eq, List.all_eq_true, List.mem_range] at h
  exact ⟨h.1, fun i _ hi => h.2 i hi⟩
theorem latch_lit {c : Int} {l r : List Int} (hc : 0 ≤ c ∧ c ≤ 20) (hl : chk l = true) (hr : chk r = true) (ha : (r.all fun x => decide (x ∉ l)) = true) (h0 : c = 0 → l.length = 0) : latchOk c l r :=
  ⟨⟨by omega, by omega⟩, ⟨chk_ok hl, chk_ok hr, by simpa [List.all_eq_true] using ha⟩, h0⟩
theorem stand_new (c : Int) (l r : List Int) (a : Int) (h1 : latchOk c l r) (h2 : isCl a) (h3 : a ∉ l) (h4 : a ∉ r) (h5 : c ≠ 0) (h6 : l.length < 32) : Ev (fun k => impl_StandAt.f k c l r a) (c, l ++ [a], r, 4) := by
  have q1 := h1.2.1.1.1
  have q2 := h1.2.1.2.1.1
  simp only [impl_StandAt.f]
  repeat (first
    | (dsimp only)
    | (with_reducible exact Ev.now _)
    | (simp only [bP_pos h1, bP_pos h2, bP_neg h3, bP_neg h4, if_true, Bool.not_true, Bool.not_false])
    | (with_reducible refine Ev.bind (Contains_ev _ _ (by omega)) ?_)
    | (with_reducible refine Ev.bind (implLatchOk_ev _ _ _ (by omega) (by omega)) ?_)
    | (with_reducible refine Ev_some (isClient_eq _) ?_)
    | (with_reducible refine Ev_some (copyLatch_eq _ _ _ (by omega) (by omega)) ?_)
    | (refine Ev_ifpos (by first | rfl | omega | (simp; omega)) ?_)
    | (refine Ev_ifneg (by first | omega | decide | (simp; omega)) ?_)
    | (refine Ev_ifneg (by simp only [bne_self_eq_false]; decide) ?_)
    | (refine Ev_ifpos (by simp) ?_)
    | (refine Ev_ifneg (by simp) ?_)
    | (refine Ev.step (fun _ => rfl) ?_; simp only [impl_StandAt.j0])
    | (refine Ev.step (fun _ => rfl) ?_; simp only [impl_StandAt.j1]))
theorem stand_open (l r : List Int) (a : Int) (h1 : latchOk 0 l r) (h2 : isCl a) (h3 : a ∉ l) (h4 : a ∉ r) : Ev (fun k => impl_StandAt.f k 0 l r a) (0, l, r, 0) := by
  have q1 := h1.2.1.1.1
  have q2 := h1.2.1.2.1.1
  simp only [impl_StandAt.f]
  repeat (first
    | (dsimp only)
    | (with_reducible exact Ev.now _)
    | (simp only [bP_pos h1, bP_pos h2, bP_neg h3, bP_neg h4, if_true, Bool.not_true, Bool.not_false])
    | (with_reducible refine Ev.bind (Contains_ev _ _ (by omega)) ?_)
    | (with_reducible refine Ev.bind (implLatchOk_ev _ _ _ (by omega) (by omega)) ?_)
    | (with_reducible refine Ev_some (isClient_eq _) ?_)
    | (with_reducible refine Ev_some (copyLatch_eq _ _ _ (by omega) (by omega)) ?_)
    | (refine Ev_ifpos (by first | rfl | omega | (simp; omega)) ?_)
    | (refine Ev_ifneg (by first | omega | decide | (simp; omega)) ?_)
    | (refine Ev_ifneg (by simp only [bne_self_eq_false]; decide) ?_)
    | (refine Ev_ifpos (by simp) ?_)
    | (refine Ev_ifneg (by simp) ?_)
    | (refine Ev.step (fun _ => rfl) ?_; simp only [impl_StandAt.j0])
    | (refine Ev.step (fun _ => rfl) ?_; simp only [impl_StandAt.j1]))
theorem pass_in (c : Int) (l r : List Int) (a : Int) (h1 : latchOk c l r) (h3 : a ∉ l) (h4 : a ∈ r) : Ev (fun k => impl_PassLatch.f k c l r a) (c, l, r.filter (fun x => decide (x ≠ a)), 0) := by
  have q1 := h1.2.1.1.1
  have q2 := h1.2.1.2.1.1
  simp only [impl_PassLatch.f]
  repeat (first
    | (dsimp only)
    | (with_reducible exact Ev.now _)
    | (simp only [bP_pos h1, bP_neg h3, bP_pos h4, if_true, Bool.not_true, Bool.not_false])
    | (with_reducible refine Ev.bind (without_ev _ _ (by omega)) ?_)
    | (with_reducible refine Ev.bind (Contains_ev _ _ (by omega)) ?_)
    | (with_reducible refine Ev.bind (implLatchOk_ev _ _ _ (by omega) (by omega)) ?_)
    | (with_reducible refine Ev_some (copyLatch_eq _ _ _ (by omega) (by omega)) ?_)
    | (refine Ev_ifpos (by first | rfl | omega | (simp; omega)) ?_)
    | (refine Ev_ifneg (by first | omega | decide | (simp; omega)) ?_)
    | (refine Ev_ifneg (by simp only [bne_self_eq_false]; decide) ?_)
    | (refine Ev_ifpos (by simp) ?_)
    | (refine Ev_ifneg (by simp) ?_))
theorem pass_out (c : Int) (l r : List Int) (a : Int) (h1 : latchOk c l r) (h3 : a ∉ l) (h4 : a ∉ r) : Ev (fun k => impl_PassLatch.f k c l r a) (c, l, r, 3) := by
  have q1 := h1.2.1.1.1
  have q2 := h1.2.1.2.1.1
  simp only [impl_PassLatch.f]
  repeat (first
    | (dsimp only)
    | (with_reducible exact Ev.now _)
    | (simp only [bP_pos h1, bP_neg h3, bP_neg h4, if_true, Bool.not_true, Bool.not_false])
    | (with_reducible refine Ev.bind (Contains_ev _ _ (by omega)) ?_)
    | (with_reducible refine Ev.bind (implLatchOk_ev _ _ _ (by omega) (by omega)) ?_)
    | (with_reducible refine Ev_some (copyLatch_eq _ _ _ (by omega) (by omega)) ?_)
    | (refine Ev_ifpos (by first | rfl | omega | (simp; omega)) ?_)
    | (refine Ev_ifneg (by first | omega | decide | (simp; omega)) ?_)
    | (refine Ev_ifneg (by simp only [bne_self_eq_false]; decide) ?_)
    | (refine Ev_ifpos (by simp) ?_)
    | (refine Ev_ifneg (by simp) ?_))
theorem at_some (l : List Int) (hw : ∀ x ∈ l, (Lit.int .u8 x).wf = true) (a : Int) (h0 : 0 ≤ a) (h1 : a ≤ 1000) (hl : l.length ≤ 1048576) : ∃ t, laws_at.f l a = some t ∧ 0 ≤ t ∧ t ≤ 255 := by
  simp only [laws_at.f]
  by_cases h : a < (l.length : Int)
  · simp only [if_pos h, if_pos h0]
    have hm : rd l a ∈ l := by
      rw [show a = ((a.toNat : Nat) : Int) by omega, rd_nat, List.getD_eq_getElem?_getD, List.getElem?_eq_getElem (show a.toNat < l.length by omega)]
      exact List.getElem_mem _
    have hb := hw _ hm
    simp [Lit.wf] at hb
    have hb : 0 ≤ rd l a ∧ rd l a ≤ 255 := by have e0 : IntKind.u8.min = 0 := rfl; have e1 : IntKind.u8.max = 255 := rfl; omega
    exact ⟨_, rfl, by rw [w64 (by omega) (by omega)]; exact hb.1, by rw [w64 (by omega) (by omega)]; exact hb.2⟩
  · simp only [if_neg h]
    refine ⟨_, rfl, ?_⟩
    rw [w64 (show -9223372036854775808 ≤ a * 7 by omega) (show a * 7 ≤ 9223372036854775807 by omega), w64 (show -9223372036854775808 ≤ a * 7 + (l.length : Int) by omega) (show a * 7 + (l.length : Int) ≤ 9223372036854775807 by omega), Int.tmod_eq_emod_of_nonneg (by omega)]
    omega
theorem latch_l1 (l : List Int) (hw : ∀ x ∈ l, (Lit.int .u8 x).wf = true) (hl : l.length ≤ 1048576) : ∀ n : Nat, ∀ x8 x9 : Int, x8.toNat ≤ n → 0 ≤ x8 → 0 ≤ x9 → x9 + x8 ≤ 100 → x8 ≤ 20 → Ev (fun k => laws_FnLatch.l1 k l x8 x9 x8 (if x8 = 0 then [] else [0, 1, 2, 3]) (if x8 = 0 then [0, 1, 2, 3] else [])) true
  | n, x8, x9, hn, h0, h9, hs, h20 => by
    by_cases hz : x8 = 0
    · subst hz
      rw [if_pos rfl, if_pos rfl]
      refine Ev.step (fun _ => rfl) ?_
      simp only [laws_FnLatch.l1, if_neg (show ¬ (0 : Int) > 0 by omega)]
      have ok : latchOk 0 [] [0, 1, 2, 3] := latch_lit (by omega) (by decide) (by decide) (by decide) (fun _ => rfl)
      have ok2 : latchOk 0 [] [0, 1, 3] := latch_lit (by omega) (by decide) (by decide) (by decide) (fun _ => rfl)
      refine Ev.bind (stand_open [] [0, 1, 2, 3] 9 ok ⟨by decide, by decide⟩ (by decide) (by decide)) ?_
      refine Ev.bind (pass_in 0 [] [0, 1, 2, 3] 2 ok (by decide) (by decide)) ?_
      rw [show ([0, 1, 2, 3] : List Int).filter (fun x => decide (x ≠ 2)) = [0, 1, 3] by decide]
      refine Ev.bind (pass_out 0 [] [0, 1, 3] 2 ok2 (by decide) (by decide)) ?_
      refine Ev.bind (cd_over 0 [] [0, 1, 2, 3] 1 ok (by omega) (by omega)) ?_
      exact Ev_eq (Ev.now _) rfl
    · rw [if_neg hz, if_neg hz]
      obtain ⟨n, rfl⟩ : ∃ m, n = m + 1 := ⟨n - 1, by omega⟩
      have ok : latchOk x8 [0, 1, 2, 3] [] := latch_lit (by omega) (by decide) (by decide) (by decide) (fun e => absurd e hz)
      have fin : Ev (fun k => laws_FnLatch.l1 k l 0 (wrap64 (x9 + 1)) 0 [] [0, 1, 2, 3]) true := by
        have h := latch_l1 l hw hl n 0 (x9 + 1) (by omega) (by omega) (by omega) (by omega) (by omega)
        rw [if_pos rfl, if_pos rfl] at h
        rw [w64 (by omega) (by omega)]
        exact h
      refine Ev.step (fun _ => rfl) ?_
      obtain ⟨t, ht, t0, t1⟩ := at_some l hw x9 h9 (by omega) hl
      have hm : Int.tmod t 5 = t % 5 := Int.tmod_eq_emod_of_nonneg t0
      simp only [laws_FnLatch.l1, if_pos (show x8 > 0 by omega), ht, Option.bind_some, hm, w64 (show -9223372036854775808 ≤ 1 + t % 5 by omega) (show 1 + t % 5 ≤ 9223372036854775807 by omega)]
      by_cases h : 1 + t % 5 > x8
      · refine Ev.bind (cd_over x8 [0, 1, 2, 3] [] (1 + t % 5) ok (by omega) h) ?_
        simp only [if_pos h, if_true, bne_self_eq_false]
        refine Ev.step (fun _ => rfl) ?_
        simp only [laws_FnLatch.j2, if_neg (show ¬ (false = true) by decide)]
        refine Ev.bind (cd_all x8 [0, 1, 2, 3] [] ok (by omega) (by decide)) ?_
        have wz : wrap64 (x8 - x8) = 0 := by rw [Int.sub_self]; exact w64 (by omega) (by omega)
        simp only [wz]
        exact Ev_eq fin rfl
      · simp only [if_neg h]
        by_cases he : 1 + t % 5 = x8
        · rw [he]
          refine Ev.bind (cd_all x8 [0, 1, 2, 3] [] ok (by omega) (by decide)) ?_
          have wz : wrap64 (x8 - x8) = 0 := by rw [Int.sub_self]; exact w64 (by omega) (by omega)
          simp only [wz]
          exact Ev_eq fin rfl
        · refine Ev.bind (cd_part x8 [0, 1, 2, 3] [] (1 + t % 5) ok (by omega) (by omega)) ?_
          have wz : wrap64 (x8 - (1 + t % 5)) = x8 - (1 + t % 5) := w64 (by omega) (by omega)
          have hne : (x8 - (1 + t % 5) == 0) = false := beq_eq_false_iff_ne.mpr (by omega)
          have h := latch_l1 l hw hl n (x8 - (1 + t % 5)) (x9 + 1) (by omega) (by omega) (by omega) (by omega) (by omega)
          rw [if_neg (by omega), if_neg (by omega)] at h
          simp only [wz, if_true, hne, w64 (show -9223372036854775808 ≤ x9 + 1 by omega) (show x9 + 1 ≤ 9223372036854775807 by omega)]
          exact Ev_eq h rfl
termination_by n => n
theorem latch_l0 (l : List Int) (c : Int) (hc : 1 ≤ c ∧ c ≤ 20) (r : Bool) (h : Ev (fun k => laws_FnLatch.l1 k l c 1 c [0, 1, 2, 3] []) r) : Ev (fun k => laws_FnLatch.l0 k l c 0 c [] []) r := by
  have ok : ∀ y : List Int, chk y = true → latchOk c y [] := fun y hy => latch_lit (by omega) hy (by decide) rfl (fun e => absurd e (by omega))
  refine Ev.step (fun _ => rfl) ?_
  simp only [laws_FnLatch.l0, if_pos (show (0 : Int) < 4 by omega)]
  refine Ev.bind (stand_new c [] [] 0 (ok _ (by decide)) ⟨by decide, by decide⟩ (by decide) (by decide) (by omega) (by decide)) ?_
  simp only [if_true]
  refine Ev.step (fun _ => rfl) ?_
  simp only [show wrap64 ((0 : Int) + 1) = 1 from w64 (by omega) (by omega), laws_FnLatch.l0, if_pos (show (1 : Int) < 4 by omega)]
  refine Ev.bind (stand_new c [0] [] 1 (ok _ (by decide)) ⟨by decide, by decide⟩ (by decide) (by decide) (by omega) (by decide)) ?_
  simp only [if_true]
  refine Ev.step (fun _ => rfl) ?_
  simp only [show wrap64 ((1 : Int) + 1) = 2 from w64 (by omega) (by omega), laws_FnLatch.l0, if_pos (show (2 : Int) < 4 by omega)]
  refine Ev.bind (stand_new c [0, 1] [] 2 (ok _ (by decide)) ⟨by decide, by decide⟩ (by decide) (by decide) (by omega) (by decide)) ?_
  simp only [if_true]
  refine Ev.step (fun _ => rfl) ?_
  simp only [show wrap64 ((2 : Int) + 1) = 3 from w64 (by omega) (by omega), laws_FnLatch.l0, if_pos (show (3 : Int) < 4 by omega)]
  refine Ev.bind (stand_new c [0, 1, 2] [] 3 (ok _ (by decide)) ⟨by decide, by decide⟩ (by decide) (by decide) (by omega) (by decide)) ?_
  simp only [if_true]
  refine Ev.step (fun _ => rfl) ?_
  simp only [show wrap64 ((3 : Int) + 1) = 4 from w64 (by omega) (by omega), laws_FnLatch.l0, if_neg (show ¬ (4 : Int) < 4 by omega)]
  exact h
theorem latch_ev (l : List Int) (hw : ∀ x ∈ l, (Lit.int .u8 x).wf = true) : Ev (fun k => laws_FnLatch.f k l) true := by
  simp only [laws_FnLatch.f, laws_big.f, Option.bind_some]
  by_cases h : (l.length : Int) > 1048576
  · simp only [decide_eq_true h, if_true]
    exact Ev.now _
  · simp only [decide_eq_false h, if_neg (show ¬ (false = true) by decide)]
    obtain ⟨t, ht, t0, t1⟩ := at_some l hw 0 (by omega) (by omega) (by omega)
    have hm : Int.tmod t 20 = t % 20 := Int.tmod_eq_emod_of_nonneg t0
    simp only [ht, Option.bind_some, hm, w64 (show -9223372036854775808 ≤ 1 + t % 20 by omega) (show 1 + t % 20 ≤ 9223372036854775807 by omega)]
    have h1 := latch_l1 l hw (by omega) 20 (1 + t % 20) 1 (by omega) (by omega) (by omega) (by omega) (by omega)
    rw [if_neg (by omega), if_neg (by omega)] at h1
    exact latch_l0 l (1 + t % 20) (by omega) true h1
end Go.Proofs.Ytffcphplnilokaa.Q
