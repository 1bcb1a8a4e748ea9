/- Plain laws of the functions; conditions: in each theorem. -/
import Derived.Test.YtdagpmnadapbjaaZx1
import Derived.Test.YtdagpmnadapbjaaZx2
import Derived.Test.YtdagpmnadapbjaaZx3
import Derived.Test.YtdagpmnadapbjaaZx4
import Derived.Test.YtdagpmnadapbjaaZx5
import Derived.Test.YtdagpmnadapbjaaZx7
import Derived.Test.YtdagpmnadapbjaaZx8
import Derived.Test.YtdagpmnadapbjaaZx9
import Derived.Test.YtdagpmnadapbjaaZx10
import Derived.Test.YtdagpmnadapbjaaZx11
import Derived.Test.YtdagpmnadapbjaaZx20
import Derived.Test.YtdagpmnadapbjaaZx22
import Derived.Test.YtdagpmnadapbjaaZx28
import Derived.Test.YtdagpmnadapbjaaZx30
import Derived.Test.YtdagpmnadapbjaaZx38
import Derived.Test.YtdagpmnadapbjaaZx40
import Derived.Test.YtdagpmnadapbjaaZx42
import Derived.Test.YtdagpmnadapbjaaZx43
import Derived.Test.YtdagpmnadapbjaaZx47
import Derived.Test.YtdagpmnadapbjaaZx61
namespace Go.Proofs.Ytdagpmnadapbjaa.Q
open Go.RowKit Go.Proofs.Ytdagpmnadapbjaa.Z Go.Proofs.YtdagpmnadapbjaaW.PrintWords Go.Proofs.YtdagpmnadapbjaaW.PrintLast Go.Proofs.YtdagpmnadapbjaaW.PrintMore
set_option linter.unusedVariables false
set_option linter.unusedSimpArgs false
theorem w64 {x : Int} (h0 : -9223372036854775808 ≤ x) (h1 : x ≤ 9223372036854775807) : wrap64 x = x := by unfold wrap64; omega
theorem w64n {n m : Nat} (h : n < m) (hm : m ≤ 9223372036854775807) : wrap64 ((n : Int) + 1) = ((n + 1 : Nat) : Int) := by rw [w64 (by omega) (by omega)]; omega
theorem rd_nat (l : List Int) (n : Nat) : rd l (n : Int) = l.getD n 0 := by simp [rd]
theorem drop_cons {α : Type} (d : α) (l : List α) (n : Nat) (h : n < l.length) : l.drop n = l.getD n d :: l.drop (n + 1) := by
 rw [List.drop_eq_getElem_cons h, List.getD_eq_getElem?_getD, List.getElem?_eq_getElem h]; rfl
theorem take_cons {α : Type} (d : α) (l : List α) (n : Nat) (h : n < l.length) : l.take (n + 1) = l.take n ++ [l.getD n d] := by
 rw [List.take_succ_eq_append_getElem h, List.getD_eq_getElem?_getD, List.getElem?_eq_getElem h]; rfl
noncomputable def bP (p : Prop) : Bool := @decide p (Classical.propDecidable p)
theorem bP_iff {p : Prop} : bP p = true ↔ p := by simp [bP]
theorem bP_pos {p : Prop} (h : p) : bP p = true := bP_iff.2 h
theorem bP_neg {p : Prop} (h : ¬ p) : bP p = false := by
 cases hb : bP p
 ·rfl
 ·exact absurd (bP_iff.1 hb) h
theorem bP_congr {p q : Prop} (h : p ↔ q) : bP p = bP q := by rw [propext h]
theorem bP_dec (p : Prop) [Decidable p] : decide p = bP p := by
 by_cases h : p
 ·rw [bP_pos h, decide_eq_true h]
 ·rw [bP_neg h, decide_eq_false h]
theorem Ev_eq {α : Type} {g : Nat → Option α} {r s : α} (h : Ev g r) (e : r = s) : Ev g s := e ▸ h
theorem Ev_ifpos {α : Type} {c : Prop} [Decidable c] {g f : Nat → Option α} {r : α} (h : c) (k : Ev g r) : Ev (fun n => if c then g n else f n) r := by
 simpa only [if_pos h] using k
theorem Ev_ifneg {α : Type} {c : Prop} [Decidable c] {g f : Nat → Option α} {r : α} (h : ¬ c) (k : Ev f r) : Ev (fun n => if c then g n else f n) r := by
 simpa only [if_neg h] using k
theorem if1 {α : Type} {c : Prop} [Decidable c] {g f : Nat → Option α} {r : α} (k : Ev g r) (h : c := by first | rfl | omega | (simp; omega)) : Ev (fun n => if c then g n else f n) r := Ev_ifpos h k
theorem if2 {α : Type} {c : Prop} [Decidable c] {g f : Nat → Option α} {r : α} (k : Ev f r) (h : ¬ c := by first | omega | decide | (simp; omega)) : Ev (fun n => if c then g n else f n) r := Ev_ifneg h k
theorem if3 {α : Type} {c : Prop} [Decidable c] {g f : Nat → Option α} {r : α} (k : Ev f r) (h : ¬ c := by simp only [bne_self_eq_false]; decide) : Ev (fun n => if c then g n else f n) r := Ev_ifneg h k
theorem if4 {α : Type} {c : Prop} [Decidable c] {g f : Nat → Option α} {r : α} (k : Ev g r) (h : c := by simp) : Ev (fun n => if c then g n else f n) r := Ev_ifpos h k
theorem if5 {α : Type} {c : Prop} [Decidable c] {g f : Nat → Option α} {r : α} (k : Ev f r) (h : ¬ c := by simp) : Ev (fun n => if c then g n else f n) r := Ev_ifneg h k
theorem stp {α : Type} {g g' : Nat → Option α} {r : α} (k : Ev g' r) (h : ∀ n, g (n + 1) = g' n := by exact fun _ => rfl) : Ev g r := Ev.step h k
theorem Ev_some {α β : Type} {g : Option α} {f : Nat → α → Option β} {a : α} {r : β} (h : g = some a) (k : Ev (fun n => f n a) r) : Ev (fun n => g.bind (f n)) r := by
 simpa only [h, Option.bind_some] using k
def pos (a : Int) : List Int → Int → Int
 | [], _ => -1
 | x :: xs, i => if x = a then i else pos a xs (i + 1)
theorem pos_spec (a : Int) : ∀ (l : List Int) (i : Int), 0 ≤ i → (a ∈ l → i ≤ pos a l i ∧ pos a l i < i + l.length) ∧ (a ∉ l → pos a l i = -1)
 | [], i, _ => by simp [pos]
 | x :: xs, i, hi => by
  have ih := pos_spec a xs (i + 1) (by omega)
  unfold pos
  by_cases hx : x = a
  ·rw [if_pos hx]
   refine ⟨fun _ => ⟨Int.le_refl _, by simp only [List.length_cons]; omega⟩, fun h => absurd (by rw [hx]; exact List.mem_cons_self) h⟩
  ·rw [if_neg hx]
   refine ⟨fun h => ?_, fun h => ih.2 (fun h' => h (List.mem_cons_of_mem _ h'))⟩
   have h' : a ∈ xs := by
    rcases List.mem_cons.1 h with h | h
    ·exact absurd h.symm hx
    ·exact h
   have := ih.1 h'
   simp only [List.length_cons]
   omega
theorem pos_mem (a : Int) (l : List Int) : (0 ≤ pos a l 0) ↔ a ∈ l := by
 have h := pos_spec a l 0 (by omega)
 constructor
 ·intro h0
  by_cases hm : a ∈ l
  ·exact hm
  ·have := h.2 hm; omega
 ·intro hm
  exact (h.1 hm).1
theorem Index_l (l : List Int) (a : Int) (hl : l.length ≤ 9223372036854775807) : ∀ d n : Nat, n + d = l.length → Ev (fun k => slices_Index_int_int.l0 k l a (l.length : Int) n) (pos a (l.drop n) n)
 | 0, n, hd => by
  refine Ev.step (fun _ => rfl) ?_
  simp only [slices_Index_int_int.l0, if_neg (show ¬ (n : Int) < (l.length : Int) by omega)]
  rw [List.drop_eq_nil_of_le (by omega)]
  exact Ev.now _
 | d + 1, n, hd => by
  refine Ev.step (fun _ => rfl) ?_
  simp only [slices_Index_int_int.l0, if_pos (show (n : Int) < (l.length : Int) by omega), if_pos (show (0 : Int) ≤ (n : Int) by omega), w64n (show n < l.length by omega) hl, rd_nat]
  rw [drop_cons 0 l n (by omega)]
  by_cases h : a = l.getD n 0
  ·simp only [if_pos h]
   refine Ev_eq (Ev.now _) ?_
   simp only [pos]
   rw [if_pos h.symm]
  ·simp only [if_neg h]
   refine Ev_eq (Index_l l a hl d (n + 1) (by omega)) ?_
   simp only [pos]
   rw [if_neg (fun e => h e.symm)]
   rw [show ((n + 1 : Nat) : Int) = (n : Int) + 1 by omega]
theorem Index_ev (l : List Int) (a : Int) (hl : l.length ≤ 9223372036854775807) : Ev (fun k => slices_Index_int_int.f k l a) (pos a l 0) := by
 simp only [slices_Index_int_int.f]
 exact Index_l l a hl l.length 0 (by omega)
theorem Contains_ev (l : List Int) (a : Int) (hl : l.length ≤ 9223372036854775807) : Ev (fun k => slices_Contains_int_int.f k l a) (bP (a ∈ l)) := by
 simp only [slices_Contains_int_int.f]
 refine Ev.bind (Index_ev l a hl) ?_
 refine Ev_eq (Ev.now _) ?_
 rw [bP_dec]
 exact bP_congr (pos_mem a l)
theorem l1In_eq (a b c : Int) : spec_l1In.f a b c = some (bP (b ≤ a ∧ a ≤ c)) := by
 simp only [spec_l1In.f]
 by_cases h : a ≥ b
 ·rw [if_pos h, bP_dec, bP_congr (show (a ≤ c) ↔ (b ≤ a ∧ a ≤ c) by omega)]
 ·rw [if_neg h, bP_neg (by omega)]
theorem within_eq (a b c : Int) : impl_within.f a b c = some (bP (b ≤ a ∧ a ≤ c)) := by
 simp only [impl_within.f]
 by_cases h : a ≥ b
 ·rw [if_pos h, bP_dec, bP_congr (show (a ≤ c) ↔ (b ≤ a ∧ a ≤ c) by omega)]
 ·rw [if_neg h, bP_neg (by omega)]
def isCl (a : Int) : Prop := 0 ≤ a ∧ a ≤ 63
theorem l2Client_eq (a : Int) : spec_l2Client.f a = some (bP (isCl a)) := by
 simp only [spec_l2Client.f, l1In_eq, Option.bind_some, isCl]
theorem isClient_eq (a : Int) : impl_isClient.f a = some (bP (isCl a)) := by
 simp only [impl_isClient.f, within_eq, Option.bind_some, isCl]
theorem l2Has_l (l : List Int) (a : Int) (hl : l.length ≤ 9223372036854775807) : ∀ d n : Nat, n + d = l.length → Ev (fun k => spec_l2Has.l0 k l a n) (bP (a ∈ l.drop n))
 | 0, n, hd => by
  refine Ev.step (fun _ => rfl) ?_
  simp only [spec_l2Has.l0, if_neg (show ¬ (n : Int) < (l.length : Int) by omega)]
  rw [List.drop_eq_nil_of_le (by omega), bP_neg (by simp)]
  exact Ev.now _
 | d + 1, n, hd => by
  refine Ev.step (fun _ => rfl) ?_
  simp only [spec_l2Has.l0, if_pos (show (n : Int) < (l.length : Int) by omega), if_pos (show (0 : Int) ≤ (n : Int) by omega), w64n (show n < l.length by omega) hl, rd_nat]
  rw [drop_cons 0 l n (by omega)]
  by_cases h : l.getD n 0 = a
  ·simp only [if_pos h]
   rw [bP_pos (by rw [h]; exact List.mem_cons_self)]
   exact Ev.now _
  ·simp only [if_neg h]
   refine Ev_eq (l2Has_l l a hl d (n + 1) (by omega)) (bP_congr ?_)
   rw [List.mem_cons]
   exact ⟨.inr, fun h' => h'.resolve_left (fun e => h e.symm)⟩
theorem l2Has_ev (l : List Int) (a : Int) (hl : l.length ≤ 9223372036854775807) : Ev (fun k => spec_l2Has.f k l a) (bP (a ∈ l)) := by
 simp only [spec_l2Has.f]
 exact l2Has_l l a hl l.length 0 (by omega)
def lineFrom (l : List Int) (n : Nat) : Prop := ∀ i, n ≤ i → i < l.length → isCl (l.getD i 0) ∧ l.getD i 0 ∉ l.take i
def lineOk (l : List Int) : Prop := l.length ≤ 32 ∧ lineFrom l 0
theorem lineFrom_step (l : List Int) (n : Nat) (h : n < l.length) : lineFrom l n ↔ (isCl (l.getD n 0) ∧ l.getD n 0 ∉ l.take n) ∧ lineFrom l (n + 1) := by
 constructor
 ·intro hf
  exact ⟨hf n (Nat.le_refl _) h, fun i hi => hf i (by omega)⟩
 ·rintro ⟨h0, hf⟩ i hi hl
  rcases Nat.eq_or_lt_of_le hi with rfl | hlt
  ·exact h0
  ·exact hf i hlt hl
theorem specLineOk_l (l : List Int) (hl : l.length ≤ 9223372036854775807) : ∀ d n : Nat, n + d = l.length → Ev (fun k => spec_LineOk.l0 k l n) (bP (lineFrom l n))
 | 0, n, hd => by
  refine Ev.step (fun _ => rfl) ?_
  simp only [spec_LineOk.l0, if_neg (show ¬ (n : Int) < (l.length : Int) by omega)]
  rw [bP_pos (show lineFrom l n from fun i hi hl => by omega)]
  exact Ev.now _
 | d + 1, n, hd => by
  refine Ev.step (fun _ => rfl) ?_
  simp only [spec_LineOk.l0, if_pos (show (n : Int) < (l.length : Int) by omega), if_pos (show (0 : Int) ≤ (n : Int) by omega), w64n (show n < l.length by omega) hl, rd_nat, l2Client_eq, Option.bind_some, if_pos (show (n : Int) ≤ (l.length : Int) by omega), Int.toNat_natCast]
  rw [bP_congr (lineFrom_step l n (by omega))]
  by_cases h1 : isCl (l.getD n 0)
  ·simp only [bP_pos h1, if_true]
   refine Ev.bind (l2Has_ev (l.take n) (l.getD n 0) (by rw [List.length_take]; omega)) ?_
   by_cases h2 : l.getD n 0 ∈ l.take n
   ·simp only [bP_pos h2, if_true]
    rw [bP_neg (fun h => h.1.2 h2)]
    exact Ev.now _
   ·simp only [bP_neg h2, if_neg (show ¬ (false = true) by decide)]
    exact Ev_eq (specLineOk_l l hl d (n + 1) (by omega)) (bP_congr ⟨fun h => ⟨⟨h1, h2⟩, h⟩, fun h => h.2⟩)
  ·simp only [bP_neg h1, if_neg (show ¬ (false = true) by decide)]
   rw [bP_neg (fun h => h1 h.1.1)]
   exact Ev.now _
theorem specLineOk_ev (l : List Int) (hl : l.length ≤ 9223372036854775807) : Ev (fun k => spec_LineOk.f k l) (bP (lineOk l)) := by
 by_cases h : l.length ≤ 32
 ·simp only [spec_LineOk.f, if_neg (show ¬ (l.length : Int) > 32 by omega)]
  exact Ev_eq (specLineOk_l l hl l.length 0 (by omega)) (bP_congr ⟨fun h' => ⟨h, h'⟩, fun h' => h'.2⟩)
 ·simp only [spec_LineOk.f, if_pos (show (l.length : Int) > 32 by omega)]
  rw [bP_neg (fun h' => h h'.1)]
  exact Ev.now _
theorem clientsOk_l (l : List Int) (hl : l.length ≤ 9223372036854775807) : ∀ d n : Nat, n + d = l.length → Ev (fun k => impl_clientsOk.l0 k l l (l.length : Int) n) (bP (l.length ≤ 32 ∧ lineFrom l n))
 | 0, n, hd => by
  refine Ev.step (fun _ => rfl) ?_
  simp only [impl_clientsOk.l0, if_neg (show ¬ (n : Int) < (l.length : Int) by omega)]
  refine Ev_eq (Ev.now _) ?_
  rw [bP_dec]
  exact bP_congr ⟨fun h => ⟨by omega, fun i hi hl => by omega⟩, fun h => by have := h.1; omega⟩
 | d + 1, n, hd => by
  refine Ev.step (fun _ => rfl) ?_
  simp only [impl_clientsOk.l0, if_pos (show (n : Int) < (l.length : Int) by omega), if_pos (show (0 : Int) ≤ (n : Int) by omega), w64n (show n < l.length by omega) hl, rd_nat, isClient_eq, Option.bind_some, if_pos (show (n : Int) ≤ (l.length : Int) by omega), Int.toNat_natCast]
  rw [bP_congr (and_congr_right fun _ => lineFrom_step l n (by omega))]
  by_cases h1 : isCl (l.getD n 0)
  ·simp only [bP_pos h1, if_true]
   refine Ev.bind (Contains_ev (l.take n) (l.getD n 0) (by rw [List.length_take]; omega)) ?_
   by_cases h2 : l.getD n 0 ∈ l.take n
   ·simp only [bP_pos h2, if_true]
    rw [bP_neg (fun h => h.2.1.2 h2)]
    exact Ev.now _
   ·simp only [bP_neg h2, if_neg (show ¬ (false = true) by decide)]
    exact Ev_eq (clientsOk_l l hl d (n + 1) (by omega)) (bP_congr ⟨fun h => ⟨h.1, ⟨h1, h2⟩, h.2⟩, fun h => ⟨h.1, h.2.2⟩⟩)
  ·simp only [bP_neg h1, if_neg (show ¬ (false = true) by decide)]
   rw [bP_neg (fun h => h1 h.2.1.1)]
   exact Ev.now _
theorem clientsOk_ev (l : List Int) (hl : l.length ≤ 9223372036854775807) : Ev (fun k => impl_clientsOk.f k l) (bP (lineOk l)) := by
 simp only [impl_clientsOk.f]
 exact clientsOk_l l hl l.length 0 (by omega)
theorem implLineOk_ev (l : List Int) (hl : l.length ≤ 9223372036854775807) : Ev (fun k => impl_LineOk.f k l) (bP (lineOk l)) := by
 simp only [impl_LineOk.f]
 exact Ev.bind (clientsOk_ev l hl) (Ev.now _)
theorem l2Copy_eq (l : List Int) (hl : l.length < 17592186044416) : spec_l2Copy.f l = some l := by
 simp only [spec_l2Copy.f, Option.bind_some, List.length_nil, Nat.zero_add, if_pos hl, List.nil_append]
theorem Clone_eq (l : List Int) (hl : l.length < 17592186044416) : slices_Clone_int_int.f l = some l := by
 simp only [slices_Clone_int_int.f, Option.bind_some, List.length_nil, Nat.zero_add, if_pos hl, List.nil_append]
theorem l2Less_l (l : List Int) (a : Int) (hl : l.length < 17592186044416) (hd : ∀ i j, i < l.length → j < l.length → l.getD i 0 = a → l.getD j 0 = a → i = j) : ∀ d n : Nat, n + d = l.length → ∀ (out : List Int) (g : Bool), out.length ≤ n → (g = true → ∀ j, n ≤ j → j < l.length → l.getD j 0 ≠ a) → Ev (fun k => spec_l2Less.l0 k l a out g n) (out ++ (l.drop n).filter fun x => decide (x ≠ a))
 | 0, n, hn, out, g, ho, hg => by
  refine Ev.step (fun _ => rfl) ?_
  simp only [spec_l2Less.l0, if_neg (show ¬ (n : Int) < (l.length : Int) by omega)]
  rw [List.drop_eq_nil_of_le (by omega)]
  simp only [List.filter_nil, List.append_nil]
  exact Ev.now _
 | d + 1, n, hn, out, g, ho, hg => by
  refine Ev.step (fun _ => rfl) ?_
  simp only [spec_l2Less.l0, if_pos (show (n : Int) < (l.length : Int) by omega), if_pos (show (0 : Int) ≤ (n : Int) by omega), w64n (show n < l.length by omega) (by omega), rd_nat]
  rw [drop_cons 0 l n (by omega)]
  by_cases h : l.getD n 0 = a
  ·simp only [if_pos h]
   have hg0 : g = false := by
    cases g
    ·rfl
    ·exact absurd h (hg rfl n (Nat.le_refl _) (by omega))
   subst hg0
   simp only [if_neg (show ¬ (false = true) by decide)]
   refine Ev_eq (l2Less_l l a hl hd d (n + 1) (by omega) out true (by omega) (fun _ j hj hjl e => ?_)) ?_
   ·have := hd n j (by omega) hjl h e
    omega
   ·rw [List.filter_cons_of_neg (by rw [h]; simp)]
  ·simp only [if_neg h, if_pos (show out.length < 17592186044416 by omega)]
   refine Ev_eq (l2Less_l l a hl hd d (n + 1) (by omega) (out ++ [l.getD n 0]) g (by simp; omega) (fun hg' j hj => hg hg' j (by omega))) ?_
   rw [List.filter_cons_of_pos (by simpa using h)]
   simp
theorem l2Less_ev (l : List Int) (a : Int) (hl : l.length < 17592186044416) (hd : ∀ i j, i < l.length → j < l.length → l.getD i 0 = a → l.getD j 0 = a → i = j) : Ev (fun k => spec_l2Less.f k l a) (l.filter fun x => decide (x ≠ a)) := by
 simp only [spec_l2Less.f]
 simpa using l2Less_l l a hl hd l.length 0 (by omega) [] false (by simp) (by simp)
theorem lineOk_once {l : List Int} (h : lineOk l) (a : Int) : ∀ i j, i < l.length → j < l.length → l.getD i 0 = a → l.getD j 0 = a → i = j := by
 have key : ∀ i j, i < j → j < l.length → l.getD i 0 = a → l.getD j 0 = a → False := by
  intro i j hij hj ei ej
  have := (h.2 j (by omega) hj).2
  apply this
  rw [ej, ← ei, List.mem_iff_getElem?]
  exact ⟨i, by rw [List.getElem?_take_of_lt hij, List.getD_eq_getElem?_getD, List.getElem?_eq_getElem (by omega)]; rfl⟩
 intro i j hi hj ei ej
 rcases Nat.lt_trichotomy i j with hlt | heq | hgt
 ·exact (key i j hlt hj ei ej).elim
 ·exact heq
 ·exact (key j i hgt hi ej ei).elim
theorem pos_split (a : Int) : ∀ (l : List Int) (i : Int), a ∈ l → ∃ n : Nat, pos a l i = i + n ∧ n < l.length ∧ (l.filter fun x => decide (x ≠ a)) = l.take n ++ (l.drop (n + 1)).filter fun x => decide (x ≠ a)
 | [], _, h => by simp at h
 | x :: xs, i, h => by
  by_cases hx : x = a
  ·refine ⟨0, ?_, by simp, ?_⟩
   ·simp only [pos]; rw [if_pos hx]; omega
   ·rw [List.filter_cons_of_neg (by rw [hx]; simp)]
    simp
  ·have h' : a ∈ xs := by
    rcases List.mem_cons.1 h with h | h
    ·exact absurd h.symm hx
    ·exact h
   obtain ⟨n, h1, h2, h3⟩ := pos_split a xs (i + 1) h'
   refine ⟨n + 1, ?_, by simp; omega, ?_⟩
   ·simp only [pos]; rw [if_neg hx, h1]; omega
   ·rw [List.filter_cons_of_pos (by simpa using hx), h3]
    simp
theorem IFwo_l (l : List Int) (a : Int) (hl : l.length ≤ 9223372036854775807) : ∀ d n : Nat, n + d = l.length → Ev (fun k => slices_IndexFunc_wo.l0 k l a (l.length : Int) n) (pos a (l.drop n) n)
 | 0, n, hd => by
  refine Ev.step (fun _ => rfl) ?_
  simp only [slices_IndexFunc_wo.l0, if_neg (show ¬ (n : Int) < (l.length : Int) by omega)]
  rw [List.drop_eq_nil_of_le (by omega)]
  exact Ev.now _
 | d + 1, n, hd => by
  refine Ev.step (fun _ => rfl) ?_
  simp only [slices_IndexFunc_wo.l0, if_pos (show (n : Int) < (l.length : Int) by omega), if_pos (show (0 : Int) ≤ (n : Int) by omega), w64n (show n < l.length by omega) hl, rd_nat, impl_without_1.f, Option.bind_some, decide_eq_true_eq]
  rw [drop_cons 0 l n (by omega)]
  by_cases h : l.getD n 0 = a
  ·simp only [if_pos h]
   refine Ev_eq (Ev.now _) ?_
   simp only [pos]
   rw [if_pos h]
  ·simp only [if_neg h]
   refine Ev_eq (IFwo_l l a hl d (n + 1) (by omega)) ?_
   simp only [pos]
   rw [if_neg h]
   rw [show ((n + 1 : Nat) : Int) = (n : Int) + 1 by omega]
theorem IFwo_ev (l : List Int) (a : Int) (hl : l.length ≤ 9223372036854775807) : Ev (fun k => slices_IndexFunc_wo.f k l a) (pos a l 0) := by
 simp only [slices_IndexFunc_wo.f]
 exact IFwo_l l a hl l.length 0 (by omega)
theorem DFwo_l (a : Int) : ∀ (d n : Nat) (l : List Int), n + d = l.length → l.length ≤ 9223372036854775807 → ∀ i : Nat, i < n → Ev (fun k => slices_DeleteFunc_wo.l0 k l a i n) (l.take i ++ (l.drop n).filter fun x => decide (x ≠ a))
 | 0, n, l, hd, hl, i, hi => by
  refine Ev.step (fun _ => rfl) ?_
  simp only [slices_DeleteFunc_wo.l0, if_neg (show ¬ (n : Int) < (l.length : Int) by omega), if_pos (show (0 : Int) ≤ (i : Int) by omega), if_pos (show (i : Int) < (l.length : Int) by omega), Int.toNat_natCast]
  rw [List.drop_eq_nil_of_le (by omega)]
  simp only [List.filter_nil, List.append_nil]
  exact Ev.now _
 | d + 1, n, l, hd, hl, i, hi => by
  refine Ev.step (fun _ => rfl) ?_
  simp only [slices_DeleteFunc_wo.l0, if_pos (show (n : Int) < (l.length : Int) by omega), if_pos (show (0 : Int) ≤ (n : Int) by omega), if_pos (show (0 : Int) ≤ (i : Int) by omega), if_pos (show (i : Int) < (l.length : Int) by omega), w64n (show n < l.length by omega) hl, w64n (show i < l.length by omega) hl, rd_nat, impl_without_1.f, Option.bind_some, decide_eq_true_eq, Int.toNat_natCast]
  rw [drop_cons 0 l n (by omega)]
  by_cases h : l.getD n 0 = a
  ·simp only [if_pos h]
   rw [List.filter_cons_of_neg (by rw [h]; simp)]
   exact DFwo_l a d (n + 1) l (by omega) hl i (by omega)
  ·simp only [if_neg h]
   rw [List.filter_cons_of_pos (by simpa using h)]
   have ih := DFwo_l a d (n + 1) (l.set i (l.getD n 0)) (by simp; omega) (by simpa using hl) (i + 1) (by omega)
   refine Ev_eq ih ?_
   rw [take_cons 0 _ i (by simp; omega), List.take_set_of_le (Nat.le_refl i), List.drop_set_of_lt (by omega), List.append_assoc]
   congr 1
   simp [List.getD_eq_getElem?_getD, List.getElem?_set_self (show i < l.length by omega)]
theorem without_ev (l : List Int) (a : Int) (hl : l.length < 17592186044416) : Ev (fun k => impl_without.f k l a) (l.filter fun x => decide (x ≠ a)) := by
 simp only [impl_without.f, Clone_eq l hl, Option.bind_some, slices_DeleteFunc_wo.f]
 refine Ev.bind (IFwo_ev l a (by omega)) ?_
 by_cases h : a ∈ l
 ·obtain ⟨n, h1, h2, h3⟩ := pos_split a l 0 h
  rw [h1, h3]
  simp only [if_neg (show ¬ (0 : Int) + (n : Int) = -1 by omega), Int.zero_add]
  rw [w64n h2 (by omega)]
  exact DFwo_l a (l.length - (n + 1)) (n + 1) l (by omega) (by omega) n (by omega)
 ·rw [(pos_spec a l 0 (by omega)).2 h]
  simp only [if_true]
  rw [List.filter_eq_self.2 (fun x hx => by simpa using fun e : x = a => h (e ▸ hx))]
  exact Ev.now _
theorem less_len (l : List Int) (a : Int) : (l.filter fun x => decide (x ≠ a)).length ≤ l.length := List.length_filter_le _ _
theorem isCount_eq (a : Int) : impl_isCount.f a = some (bP (0 ≤ a ∧ a ≤ 1000000000)) := by
 simp only [impl_isCount.f, within_eq, Option.bind_some]
def apartP (l r : List Int) : Prop := lineOk l ∧ lineOk r ∧ ∀ x ∈ r, x ∉ l
theorem l6Waits_l (l r : List Int) (hl : l.length ≤ 9223372036854775807) (hr : r.length ≤ 9223372036854775807) : ∀ d n : Nat, n + d = r.length → Ev (fun k => spec_l6Waits.l0 k l r n) (bP (∀ x ∈ r.drop n, x ∉ l))
 | 0, n, hd => by
  refine Ev.step (fun _ => rfl) ?_
  simp only [spec_l6Waits.l0, if_neg (show ¬ (n : Int) < (r.length : Int) by omega)]
  rw [List.drop_eq_nil_of_le (by omega), bP_pos (by simp)]
  exact Ev.now _
 | d + 1, n, hd => by
  refine Ev.step (fun _ => rfl) ?_
  simp only [spec_l6Waits.l0, if_pos (show (n : Int) < (r.length : Int) by omega), if_pos (show (0 : Int) ≤ (n : Int) by omega), w64n (show n < r.length by omega) hr, rd_nat]
  refine Ev.bind (l2Has_ev l (r.getD n 0) hl) ?_
  rw [drop_cons 0 r n (by omega)]
  by_cases h : r.getD n 0 ∈ l
  ·simp only [bP_pos h, if_true]
   rw [bP_neg (fun h' => h' _ List.mem_cons_self h)]
   exact Ev.now _
  ·simp only [bP_neg h, if_neg (show ¬ (false = true) by decide)]
   exact Ev_eq (l6Waits_l l r hl hr d (n + 1) (by omega)) (bP_congr ⟨fun h' x hx => (List.mem_cons.1 hx).elim (fun e => e ▸ h) (h' x), fun h' x hx => h' x (List.mem_cons_of_mem _ hx)⟩)
theorem l6Waits_ev (l r : List Int) (hl : l.length ≤ 9223372036854775807) (hr : r.length ≤ 9223372036854775807) : Ev (fun k => spec_l6Waits.f k l r) (bP (apartP l r)) := by
 simp only [spec_l6Waits.f]
 refine Ev.bind (specLineOk_ev l hl) ?_
 by_cases h1 : lineOk l
 ·simp only [bP_pos h1, if_true]
  refine Ev.bind (specLineOk_ev r hr) ?_
  refine Ev.step (fun _ => rfl) ?_
  by_cases h2 : lineOk r
  ·simp only [bP_pos h2, spec_l6Waits.j0, Bool.not_true, if_neg (show ¬ (false = true) by decide)]
   exact Ev_eq (l6Waits_l l r hl hr r.length 0 (by omega)) (bP_congr ⟨fun h => ⟨h1, h2, h⟩, fun h => h.2.2⟩)
  ·simp only [bP_neg h2, spec_l6Waits.j0, Bool.not_false, if_true]
   rw [bP_neg (fun h => h2 h.2.1)]
   exact Ev.now _
 ·simp only [bP_neg h1, if_neg (show ¬ (false = true) by decide)]
  refine Ev.step (fun _ => rfl) ?_
  simp only [spec_l6Waits.j0, if_true]
  rw [bP_neg (fun h => h1 h.1)]
  exact Ev.now _
theorem IFap_l (l r : List Int) (hl : l.length ≤ 9223372036854775807) (hr : r.length ≤ 9223372036854775807) : ∀ d n : Nat, n + d = l.length → ∃ i : Int, Ev (fun k => slices_IndexFunc_ap.l0 k l r (l.length : Int) n) i ∧ (0 ≤ i ↔ ∃ x ∈ l.drop n, x ∈ r)
 | 0, n, hd => by
  refine ⟨-1, Ev.step (fun _ => rfl) ?_, ?_⟩
  ·simp only [slices_IndexFunc_ap.l0, if_neg (show ¬ (n : Int) < (l.length : Int) by omega)]
   exact Ev.now _
  ·rw [List.drop_eq_nil_of_le (by omega)]
   simp
 | d + 1, n, hd => by
  obtain ⟨i, h1, h2⟩ := IFap_l l r hl hr d (n + 1) (by omega)
  rw [drop_cons 0 l n (by omega)]
  by_cases h : l.getD n 0 ∈ r
  ·refine ⟨n, Ev.step (fun _ => rfl) ?_, ⟨fun _ => ⟨_, List.mem_cons_self, h⟩, fun _ => by omega⟩⟩
   simp only [slices_IndexFunc_ap.l0, if_pos (show (n : Int) < (l.length : Int) by omega), if_pos (show (0 : Int) ≤ (n : Int) by omega), w64n (show n < l.length by omega) hl, rd_nat, impl_apart_1.f]
   refine Ev.bind (Contains_ev r (l.getD n 0) hr) ?_
   simp only [bP_pos h, if_true]
   exact Ev.now _
  ·refine ⟨i, Ev.step (fun _ => rfl) ?_, h2.trans ⟨fun ⟨x, hx, hy⟩ => ⟨x, List.mem_cons_of_mem _ hx, hy⟩, fun ⟨x, hx, hy⟩ => (List.mem_cons.1 hx).elim (fun e => absurd (e ▸ hy) h) (fun hx => ⟨x, hx, hy⟩)⟩⟩
   simp only [slices_IndexFunc_ap.l0, if_pos (show (n : Int) < (l.length : Int) by omega), if_pos (show (0 : Int) ≤ (n : Int) by omega), w64n (show n < l.length by omega) hl, rd_nat, impl_apart_1.f]
   refine Ev.bind (Contains_ev r (l.getD n 0) hr) ?_
   simp only [bP_neg h, if_neg (show ¬ (false = true) by decide)]
   exact h1
theorem apart_ev (l r : List Int) (hl : l.length ≤ 9223372036854775807) (hr : r.length ≤ 9223372036854775807) : Ev (fun k => impl_apart.f k l r) (bP (apartP l r)) := by
 simp only [impl_apart.f]
 refine Ev.bind (implLineOk_ev l hl) ?_
 by_cases h1 : lineOk l
 ·simp only [bP_pos h1, if_true]
  refine Ev.bind (clientsOk_ev r hr) ?_
  by_cases h2 : lineOk r
  ·obtain ⟨i, h3, h4⟩ := IFap_l r l hr hl r.length 0 (by omega)
   rw [List.drop_zero] at h4
   simp only [bP_pos h2, if_true, slices_ContainsFunc_ap.f, slices_IndexFunc_ap.f]
   refine Ev.bind (Ev.bind h3 (Ev.now _)) ?_
   refine Ev_eq (Ev.now _) ?_
   rw [bP_dec, bP_congr h4]
   by_cases h5 : ∃ x ∈ r, x ∈ l
   ·rw [bP_pos h5, bP_neg (fun h => by obtain ⟨x, hx, hy⟩ := h5; exact h.2.2 x hx hy)]
    rfl
   ·rw [bP_neg h5, bP_pos ⟨h1, h2, fun x hx hy => h5 ⟨x, hx, hy⟩⟩]
    rfl
  ·simp only [bP_neg h2, if_neg (show ¬ (false = true) by decide)]
   rw [bP_neg (fun h => h2 h.2.1)]
   exact Ev.now _
 ·simp only [bP_neg h1, if_neg (show ¬ (false = true) by decide)]
  rw [bP_neg (fun h => h1 h.1)]
  exact Ev.now _
def eventOk (a s : Bool) (l r : List Int) (u v w : Int) : Prop := apartP l r ∧ (s = true → l.length = 0) ∧ (0 ≤ u ∧ u ≤ 1000000000) ∧ (0 ≤ v ∧ v ≤ 1000000000) ∧ (0 ≤ w ∧ w ≤ 1000000000) ∧ (if a = true then u = v + w + r.length + (if s = true then 1 else 0) else u = 0 ∧ v = 0 ∧ w = 0)
theorem specEventOk_j1 (a s : Bool) (l r : List Int) (u v w : Int) (h1 : apartP l r) (h2 : s = true → l.length = 0) (h3 : 0 ≤ u ∧ u ≤ 1000000000) (h4 : 0 ≤ v ∧ v ≤ 1000000000) (h5 : 0 ≤ w ∧ w ≤ 1000000000) : Ev (fun k => spec_EventOk.j1 k false a s l r u v w) (bP (eventOk a s l r u v w)) := by
 have h6 := h1.2.1.1
 refine Ev.step (fun _ => rfl) ?_
 simp only [spec_EventOk.j1, if_neg (show ¬ (false = true) by decide), w64 (show -9223372036854775808 ≤ v + w by omega) (show v + w ≤ 9223372036854775807 by omega), w64 (show -9223372036854775808 ≤ v + w + (r.length : Int) by omega) (show v + w + (r.length : Int) ≤ 9223372036854775807 by omega), w64 (show -9223372036854775808 ≤ v + w + (r.length : Int) + 1 by omega) (show v + w + (r.length : Int) + 1 ≤ 9223372036854775807 by omega)]
 cases a
 ·simp only [if_neg (show ¬ (false = true) by decide)]
  by_cases h7 : u = 0
  ·simp only [if_pos h7]
   by_cases h8 : v = 0
   ·simp only [if_pos h8]
    refine Ev_eq (Ev.now _) ?_
    rw [show (w == 0) = bP (w = 0) by rw [← bP_dec]; rfl]
    exact bP_congr ⟨fun h => ⟨h1, h2, h3, h4, h5, by rw [if_neg (by decide)]; exact ⟨h7, h8, h⟩⟩, fun h => by have := h.2.2.2.2.2; rw [if_neg (by decide)] at this; exact this.2.2⟩
   ·simp only [if_neg h8]
    rw [bP_neg (fun h => by have := h.2.2.2.2.2; rw [if_neg (by decide)] at this; exact h8 this.2.1)]
    exact Ev.now _
  ·simp only [if_neg h7]
   rw [bP_neg (fun h => by have := h.2.2.2.2.2; rw [if_neg (by decide)] at this; exact h7 this.1)]
   exact Ev.now _
 ·simp only [if_true]
  cases s
  ·simp only [if_neg (show ¬ (false = true) by decide)]
   refine Ev_eq (Ev.now _) ?_
   rw [show ∀ x y : Int, (x == y) = bP (x = y) from fun x y => by rw [← bP_dec]; rfl]
   exact bP_congr ⟨fun h => ⟨h1, h2, h3, h4, h5, by rw [if_pos rfl, if_neg (by decide)]; omega⟩, fun h => by have := h.2.2.2.2.2; rw [if_pos rfl, if_neg (by decide)] at this; omega⟩
  ·simp only [if_true]
   refine Ev_eq (Ev.now _) ?_
   rw [show ∀ x y : Int, (x == y) = bP (x = y) from fun x y => by rw [← bP_dec]; rfl]
   exact bP_congr ⟨fun h => ⟨h1, h2, h3, h4, h5, by rw [if_pos rfl, if_pos rfl]; omega⟩, fun h => by have := h.2.2.2.2.2; rw [if_pos rfl, if_pos rfl] at this; omega⟩
theorem specEventOk_t1 (a s : Bool) (l r : List Int) (u v w : Int) (h : ¬ eventOk a s l r u v w) : Ev (fun k => spec_EventOk.j1 k true a s l r u v w) (bP (eventOk a s l r u v w)) := by
 refine Ev.step (fun _ => rfl) ?_
 simp only [spec_EventOk.j1, if_true]
 rw [bP_neg h]
 exact Ev.now _
theorem specEventOk_t0 (a s : Bool) (l r : List Int) (u v w : Int) (h : ¬ eventOk a s l r u v w) : Ev (fun k => spec_EventOk.j0 k true a s l r u v w) (bP (eventOk a s l r u v w)) := by
 refine Ev.step (fun _ => rfl) ?_
 simp only [spec_EventOk.j0, if_true]
 rw [bP_neg h]
 exact Ev.now _
theorem specEventOk_j0 (a s : Bool) (l r : List Int) (u v w : Int) (h1 : apartP l r) (h2 : s = true → l.length = 0) : Ev (fun k => spec_EventOk.j0 k false a s l r u v w) (bP (eventOk a s l r u v w)) := by
 refine Ev.step (fun _ => rfl) ?_
 simp only [spec_EventOk.j0, if_neg (show ¬ (false = true) by decide), l1In_eq, Option.bind_some]
 by_cases h3 : 0 ≤ u ∧ u ≤ 1000000000
 ·simp only [bP_pos h3, if_true]
  by_cases h4 : 0 ≤ v ∧ v ≤ 1000000000
  ·simp only [bP_pos h4, if_true]
   by_cases h5 : 0 ≤ w ∧ w ≤ 1000000000
   ·simp only [bP_pos h5, Bool.not_true]
    exact specEventOk_j1 a s l r u v w h1 h2 h3 h4 h5
   ·simp only [bP_neg h5, Bool.not_false]
    exact specEventOk_t1 a s l r u v w (fun h => h5 h.2.2.2.2.1)
  ·simp only [bP_neg h4, if_neg (show ¬ (false = true) by decide)]
   exact specEventOk_t1 a s l r u v w (fun h => h4 h.2.2.2.1)
 ·simp only [bP_neg h3, if_neg (show ¬ (false = true) by decide)]
  exact specEventOk_t1 a s l r u v w (fun h => h3 h.2.2.1)
theorem specEventOk_ev (a s : Bool) (l r : List Int) (u v w : Int) (hl : l.length ≤ 9223372036854775807) (hr : r.length ≤ 9223372036854775807) : Ev (fun k => spec_EventOk.f k a s l r u v w) (bP (eventOk a s l r u v w)) := by
 simp only [spec_EventOk.f]
 refine Ev.bind (l6Waits_ev l r hl hr) ?_
 by_cases h1 : apartP l r
 ·simp only [bP_pos h1, if_true]
  cases s
  ·simp only [if_neg (show ¬ (false = true) by decide)]
   exact specEventOk_j0 a false l r u v w h1 (fun h => by cases h)
  ·simp only [if_true]
   by_cases h2 : l.length = 0
   ·simp only [decide_eq_false (show ¬ (l.length : Int) > 0 by omega)]
    exact specEventOk_j0 a true l r u v w h1 (fun _ => h2)
   ·simp only [decide_eq_true (show (l.length : Int) > 0 by omega)]
    exact specEventOk_t0 a true l r u v w (fun h => h2 (h.2.1 rfl))
 ·simp only [bP_neg h1, if_neg (show ¬ (false = true) by decide)]
  exact specEventOk_t0 a s l r u v w (fun h => h1 h.1)
theorem implEventOk_j0 (a s : Bool) (l r : List Int) (u v w : Int) (h1 : apartP l r) (h2 : s = true → l.length = 0) (h3 : 0 ≤ u ∧ u ≤ 1000000000) (h4 : 0 ≤ v ∧ v ≤ 1000000000) (h5 : 0 ≤ w ∧ w ≤ 1000000000) : Ev (fun k => impl_EventOk.j0 k false a s l r u v w) (bP (eventOk a s l r u v w)) := by
 have h6 := h1.2.1.1
 refine Ev.step (fun _ => rfl) ?_
 simp only [impl_EventOk.j0, if_neg (show ¬ (false = true) by decide), w64 (show -9223372036854775808 ≤ v + w by omega) (show v + w ≤ 9223372036854775807 by omega), w64 (show -9223372036854775808 ≤ v + w + (r.length : Int) by omega) (show v + w + (r.length : Int) ≤ 9223372036854775807 by omega), w64 (show -9223372036854775808 ≤ v + w + (r.length : Int) + 1 by omega) (show v + w + (r.length : Int) + 1 ≤ 9223372036854775807 by omega)]
 cases a
 ·simp only [if_neg (show ¬ (false = true) by decide)]
  by_cases h7 : u = 0
  ·simp only [if_pos h7]
   by_cases h8 : v = 0
   ·simp only [if_pos h8]
    refine Ev_eq (Ev.now _) ?_
    rw [show (w == 0) = bP (w = 0) by rw [← bP_dec]; rfl]
    exact bP_congr ⟨fun h => ⟨h1, h2, h3, h4, h5, by rw [if_neg (by decide)]; exact ⟨h7, h8, h⟩⟩, fun h => by have := h.2.2.2.2.2; rw [if_neg (by decide)] at this; exact this.2.2⟩
   ·simp only [if_neg h8]
    rw [bP_neg (fun h => by have := h.2.2.2.2.2; rw [if_neg (by decide)] at this; exact h8 this.2.1)]
    exact Ev.now _
  ·simp only [if_neg h7]
   rw [bP_neg (fun h => by have := h.2.2.2.2.2; rw [if_neg (by decide)] at this; exact h7 this.1)]
   exact Ev.now _
 ·simp only [if_true]
  cases s
  ·simp only [if_neg (show ¬ (false = true) by decide)]
   refine Ev_eq (Ev.now _) ?_
   rw [show ∀ x y : Int, (x == y) = bP (x = y) from fun x y => by rw [← bP_dec]; rfl]
   exact bP_congr ⟨fun h => ⟨h1, h2, h3, h4, h5, by rw [if_pos rfl, if_neg (by decide)]; omega⟩, fun h => by have := h.2.2.2.2.2; rw [if_pos rfl, if_neg (by decide)] at this; omega⟩
  ·simp only [if_true]
   refine Ev_eq (Ev.now _) ?_
   rw [show ∀ x y : Int, (x == y) = bP (x = y) from fun x y => by rw [← bP_dec]; rfl]
   exact bP_congr ⟨fun h => ⟨h1, h2, h3, h4, h5, by rw [if_pos rfl, if_pos rfl]; omega⟩, fun h => by have := h.2.2.2.2.2; rw [if_pos rfl, if_pos rfl] at this; omega⟩
theorem implEventOk_t0 (a s : Bool) (l r : List Int) (u v w : Int) (h : ¬ eventOk a s l r u v w) : Ev (fun k => impl_EventOk.j0 k true a s l r u v w) (bP (eventOk a s l r u v w)) := by
 refine Ev.step (fun _ => rfl) ?_
 simp only [impl_EventOk.j0, if_true]
 rw [bP_neg h]
 exact Ev.now _
theorem implEventOk_m (a s : Bool) (l r : List Int) (u v w : Int) (h1 : apartP l r) (h2 : s = true → l.length = 0) : Ev (fun k => (impl_isCount.f u).bind fun t148 => (if t148 = true then ((impl_isCount.f v).bind fun t149 => (if t149 = true then ((impl_isCount.f w).bind fun t150 => (impl_EventOk.j0 k (!t150) a s l r u v w)) else (impl_EventOk.j0 k true a s l r u v w))) else (impl_EventOk.j0 k true a s l r u v w))) (bP (eventOk a s l r u v w)) := by
 simp only [isCount_eq, Option.bind_some]
 by_cases h3 : 0 ≤ u ∧ u ≤ 1000000000
 ·simp only [bP_pos h3, if_true]
  by_cases h4 : 0 ≤ v ∧ v ≤ 1000000000
  ·simp only [bP_pos h4, if_true]
   by_cases h5 : 0 ≤ w ∧ w ≤ 1000000000
   ·simp only [bP_pos h5, Bool.not_true]
    exact implEventOk_j0 a s l r u v w h1 h2 h3 h4 h5
   ·simp only [bP_neg h5, Bool.not_false]
    exact implEventOk_t0 a s l r u v w (fun h => h5 h.2.2.2.2.1)
  ·simp only [bP_neg h4, if_neg (show ¬ (false = true) by decide)]
   exact implEventOk_t0 a s l r u v w (fun h => h4 h.2.2.2.1)
 ·simp only [bP_neg h3, if_neg (show ¬ (false = true) by decide)]
  exact implEventOk_t0 a s l r u v w (fun h => h3 h.2.2.1)
theorem implEventOk_ev (a s : Bool) (l r : List Int) (u v w : Int) (hl : l.length ≤ 9223372036854775807) (hr : r.length ≤ 9223372036854775807) : Ev (fun k => impl_EventOk.f k a s l r u v w) (bP (eventOk a s l r u v w)) := by
 simp only [impl_EventOk.f]
 refine Ev.bind (apart_ev l r hl hr) ?_
 by_cases h1 : apartP l r
 ·simp only [bP_pos h1, if_true]
  cases s
  ·simp only [if_neg (show ¬ (false = true) by decide)]
   exact implEventOk_m a false l r u v w h1 (fun h => by cases h)
  ·simp only [if_true]
   by_cases h2 : l.length = 0
   ·simp only [if_neg (show ¬ (l.length : Int) > 0 by omega)]
    exact implEventOk_m a true l r u v w h1 (fun _ => h2)
   ·simp only [if_pos (show (l.length : Int) > 0 by omega)]
    exact implEventOk_t0 a true l r u v w (fun h => h2 (h.2.1 rfl))
 ·simp only [bP_neg h1, if_neg (show ¬ (false = true) by decide)]
  exact implEventOk_t0 a s l r u v w (fun h => h1 h.1)
theorem copyEvent_eq (a s : Bool) (l r : List Int) (u v w : Int) (hl : l.length < 17592186044416) (hr : r.length < 17592186044416) : impl_copyEvent.f a s l r u v w = some (a, s, l, r, u, v, w) := by
 simp only [impl_copyEvent.f, Clone_eq l hl, Clone_eq r hr, Option.bind_some]
theorem l6Copy_eq (a s : Bool) (l r : List Int) (u v w : Int) (hl : l.length < 17592186044416) (hr : r.length < 17592186044416) : spec_l6Copy.f a s l r u v w = some (a, s, l, r, u, v, w) := by
 simp only [spec_l6Copy.f, l2Copy_eq l hl, l2Copy_eq r hr, Option.bind_some]
theorem l6Pass_t (a : Bool) (l r : List Int) (u v w : Int) (h : l.length = 0) : spec_l6Pass.f a true l r u v w = some (a, true, l, r, u, wrap64 (v + 1), w, []) := by
 simp only [spec_l6Pass.f, if_neg (show ¬ (l.length : Int) > 0 by omega), if_true]
theorem l6Pass_f (a : Bool) (l r : List Int) (u v w : Int) (h : l.length = 0) : spec_l6Pass.f a false l r u v w = some (a, true, l, r, u, v, w, []) := by
 simp only [spec_l6Pass.f, if_neg (show ¬ (l.length : Int) > 0 by omega), if_neg (show ¬ (false = true) by decide)]
theorem l6Pass_cons (a s : Bool) (l r : List Int) (u v w : Int) (h : 0 < l.length) (hl : l.length ≤ 1048577) (hr : r.length ≤ 1048577) : spec_l6Pass.f a s l r u v w = some (a, s, l.drop 1, r ++ [rd l 0], u, v, w, [rd l 0]) := by
 simp only [spec_l6Pass.f, if_pos (show (l.length : Int) > 0 by omega), if_pos (show 0 < (l.length : Int) by omega), if_pos (show 1 ≤ (l.length : Int) by omega), l2Copy_eq (l.drop 1) (by rw [List.length_drop]; omega), Option.bind_some, if_pos (show r.length < 17592186044416 by omega)]
theorem release_eq (l r : List Int) (hl : l.length ≤ 1048577) (hr : r.length ≤ 1048577) : impl_release.f l r = some ([], r ++ l) := by
 simp only [impl_release.f, if_pos (show r.length + l.length < 17592186044416 by omega)]
theorem both_StepBack (a s : Bool) (l r : List Int) (u v w : Int) (x : Int) (hl : l.length ≤ 1048576) (hr : r.length ≤ 1048576) : ∃ r_ : Bool × Bool × List Int × List Int × Int × Int × Int × List Int × Int, Ev (fun k => spec_StepBack.f k a s l r u v w x) r_ ∧ Ev (fun k => impl_StepBack.f k a s l r u v w x) r_ ∧ r_.2.2.1.length ≤ 1048577 ∧ r_.2.2.2.1.length ≤ 1048577 ∧ r_.2.2.2.2.2.2.2.1.length ≤ 1048577 := by
 by_cases h1 : eventOk a s l r u v w
 ·have q3 := h1.2.2.1
  have q4 := h1.2.2.2.1
  have q5 := h1.2.2.2.2.1
  have h32 := h1.1.1.1
  have h32r := h1.1.2.1.1
  have q1 := lineOk_once h1.1.1 x
  have q2 := lineOk_once h1.1.2.1 x
  have q8 := less_len r x
  have q9 := less_len l x
  by_cases h3 : x ∈ l
  ·refine ⟨(a, s, (l.filter fun y => decide (y ≠ x)), r, u, v, w, [], 0), ?_, ?_, by first | (show List.length _ ≤ _; omega) | (simp; done) | (simp; omega) | exact Nat.le_trans (less_len _ _) (by omega) | (have := less_len r x; show List.length (_ ++ _) ≤ _; rw [List.length_append, List.length_cons, List.length_nil]; omega), by first | (show List.length _ ≤ _; omega) | (simp; done) | (simp; omega) | exact Nat.le_trans (less_len _ _) (by omega) | (have := less_len r x; show List.length (_ ++ _) ≤ _; rw [List.length_append, List.length_cons, List.length_nil]; omega), by first | (show List.length _ ≤ _; omega) | (simp; done) | (simp; omega) | exact Nat.le_trans (less_len _ _) (by omega) | (have := less_len r x; show List.length (_ ++ _) ≤ _; rw [List.length_append, List.length_cons, List.length_nil]; omega)⟩
   ·simp only [spec_StepBack.f]
    repeat (first
     | (dsimp only)
     | (with_reducible exact Ev.now _)
     | (simp only [bP_pos h1, show (1 : Int).toNat = 1 from rfl, bP_pos h3, if_true, Bool.not_true, Bool.not_false])
     | (with_reducible refine Ev.bind (l2Less_ev l x (by omega) q1) ?_)
     | (with_reducible refine Ev.bind (l2Less_ev r x (by omega) q2) ?_)
     | (with_reducible refine Ev.bind (without_ev _ _ (by omega)) ?_)
     | (with_reducible refine Ev.bind (l2Has_ev _ _ (by omega)) ?_)
     | (with_reducible refine Ev.bind (specEventOk_ev _ _ _ _ _ _ _ (by omega) (by omega)) ?_)
     | (with_reducible refine Ev_some (l6Copy_eq _ _ _ _ _ _ _ (by omega) (by omega)) ?_)
     | (with_reducible refine Ev_some (l6Pass_t _ _ _ _ _ _ (by omega)) ?_)
     | (with_reducible refine Ev_some (l6Pass_f _ _ _ _ _ _ (by omega)) ?_)
     | (with_reducible refine Ev_some (l6Pass_cons _ _ _ _ _ _ _ (by omega) (by omega) (by omega)) ?_)
     | (refine if1 ?_)
     | (refine if2 ?_)
     | (refine if3 ?_)
     | (refine if4 ?_)
     | (refine if5 ?_)
     | (refine stp ?_; simp only [spec_StepBack.j0]))
   ·simp only [impl_StepBack.f]
    repeat (first
     | (dsimp only)
     | (with_reducible exact Ev.now _)
     | (simp only [bP_pos h1, show (1 : Int).toNat = 1 from rfl, bP_pos h3, if_true, Bool.not_true, Bool.not_false])
     | (with_reducible refine Ev.bind (l2Less_ev l x (by omega) q1) ?_)
     | (with_reducible refine Ev.bind (l2Less_ev r x (by omega) q2) ?_)
     | (with_reducible refine Ev.bind (without_ev _ _ (by omega)) ?_)
     | (with_reducible refine Ev.bind (Contains_ev _ _ (by omega)) ?_)
     | (with_reducible refine Ev.bind (implEventOk_ev _ _ _ _ _ _ _ (by omega) (by omega)) ?_)
     | (with_reducible refine Ev_some (copyEvent_eq _ _ _ _ _ _ _ (by omega) (by omega)) ?_)
     | (refine if1 ?_)
     | (refine if2 ?_)
     | (refine if3 ?_)
     | (refine if4 ?_)
     | (refine if5 ?_)
     | (refine stp ?_; simp only [impl_StepBack.j0]))
  ·by_cases h4 : x ∈ r
   ·cases a
    ·refine ⟨(false, s, l, (r.filter fun y => decide (y ≠ x)), u, v, w, [], 0), ?_, ?_, by first | (show List.length _ ≤ _; omega) | (simp; done) | (simp; omega) | exact Nat.le_trans (less_len _ _) (by omega) | (have := less_len r x; show List.length (_ ++ _) ≤ _; rw [List.length_append, List.length_cons, List.length_nil]; omega), by first | (show List.length _ ≤ _; omega) | (simp; done) | (simp; omega) | exact Nat.le_trans (less_len _ _) (by omega) | (have := less_len r x; show List.length (_ ++ _) ≤ _; rw [List.length_append, List.length_cons, List.length_nil]; omega), by first | (show List.length _ ≤ _; omega) | (simp; done) | (simp; omega) | exact Nat.le_trans (less_len _ _) (by omega) | (have := less_len r x; show List.length (_ ++ _) ≤ _; rw [List.length_append, List.length_cons, List.length_nil]; omega)⟩
     ·simp only [spec_StepBack.f]
      repeat (first
       | (dsimp only)
       | (with_reducible exact Ev.now _)
       | (simp only [bP_pos h1, show (1 : Int).toNat = 1 from rfl, bP_neg h3, bP_pos h4, if_true, Bool.not_true, Bool.not_false])
       | (with_reducible refine Ev.bind (l2Less_ev l x (by omega) q1) ?_)
       | (with_reducible refine Ev.bind (l2Less_ev r x (by omega) q2) ?_)
       | (with_reducible refine Ev.bind (without_ev _ _ (by omega)) ?_)
       | (with_reducible refine Ev.bind (l2Has_ev _ _ (by omega)) ?_)
       | (with_reducible refine Ev.bind (specEventOk_ev _ _ _ _ _ _ _ (by omega) (by omega)) ?_)
       | (with_reducible refine Ev_some (l6Copy_eq _ _ _ _ _ _ _ (by omega) (by omega)) ?_)
       | (with_reducible refine Ev_some (l6Pass_t _ _ _ _ _ _ (by omega)) ?_)
       | (with_reducible refine Ev_some (l6Pass_f _ _ _ _ _ _ (by omega)) ?_)
       | (with_reducible refine Ev_some (l6Pass_cons _ _ _ _ _ _ _ (by omega) (by omega) (by omega)) ?_)
       | (refine if1 ?_)
       | (refine if2 ?_)
       | (refine if3 ?_)
       | (refine if4 ?_)
       | (refine if5 ?_)
       | (refine stp ?_; simp only [spec_StepBack.j0]))
     ·simp only [impl_StepBack.f]
      repeat (first
       | (dsimp only)
       | (with_reducible exact Ev.now _)
       | (simp only [bP_pos h1, show (1 : Int).toNat = 1 from rfl, bP_neg h3, bP_pos h4, if_true, Bool.not_true, Bool.not_false])
       | (with_reducible refine Ev.bind (l2Less_ev l x (by omega) q1) ?_)
       | (with_reducible refine Ev.bind (l2Less_ev r x (by omega) q2) ?_)
       | (with_reducible refine Ev.bind (without_ev _ _ (by omega)) ?_)
       | (with_reducible refine Ev.bind (Contains_ev _ _ (by omega)) ?_)
       | (with_reducible refine Ev.bind (implEventOk_ev _ _ _ _ _ _ _ (by omega) (by omega)) ?_)
       | (with_reducible refine Ev_some (copyEvent_eq _ _ _ _ _ _ _ (by omega) (by omega)) ?_)
       | (refine if1 ?_)
       | (refine if2 ?_)
       | (refine if3 ?_)
       | (refine if4 ?_)
       | (refine if5 ?_)
       | (refine stp ?_; simp only [impl_StepBack.j0]))
    ·by_cases h7 : l.length = 0
     ·cases s
      ·refine ⟨(true, true, l, (r.filter fun y => decide (y ≠ x)), u, v, w, [], 0), ?_, ?_, by first | (show List.length _ ≤ _; omega) | (simp; done) | (simp; omega) | exact Nat.le_trans (less_len _ _) (by omega) | (have := less_len r x; show List.length (_ ++ _) ≤ _; rw [List.length_append, List.length_cons, List.length_nil]; omega), by first | (show List.length _ ≤ _; omega) | (simp; done) | (simp; omega) | exact Nat.le_trans (less_len _ _) (by omega) | (have := less_len r x; show List.length (_ ++ _) ≤ _; rw [List.length_append, List.length_cons, List.length_nil]; omega), by first | (show List.length _ ≤ _; omega) | (simp; done) | (simp; omega) | exact Nat.le_trans (less_len _ _) (by omega) | (have := less_len r x; show List.length (_ ++ _) ≤ _; rw [List.length_append, List.length_cons, List.length_nil]; omega)⟩
       ·simp only [spec_StepBack.f]
        repeat (first
         | (dsimp only)
         | (with_reducible exact Ev.now _)
         | (simp only [bP_pos h1, show (1 : Int).toNat = 1 from rfl, bP_neg h3, bP_pos h4, if_true, Bool.not_true, Bool.not_false])
         | (with_reducible refine Ev.bind (l2Less_ev l x (by omega) q1) ?_)
         | (with_reducible refine Ev.bind (l2Less_ev r x (by omega) q2) ?_)
         | (with_reducible refine Ev.bind (without_ev _ _ (by omega)) ?_)
         | (with_reducible refine Ev.bind (l2Has_ev _ _ (by omega)) ?_)
         | (with_reducible refine Ev.bind (specEventOk_ev _ _ _ _ _ _ _ (by omega) (by omega)) ?_)
         | (with_reducible refine Ev_some (l6Copy_eq _ _ _ _ _ _ _ (by omega) (by omega)) ?_)
         | (with_reducible refine Ev_some (l6Pass_t _ _ _ _ _ _ (by omega)) ?_)
         | (with_reducible refine Ev_some (l6Pass_f _ _ _ _ _ _ (by omega)) ?_)
         | (with_reducible refine Ev_some (l6Pass_cons _ _ _ _ _ _ _ (by omega) (by omega) (by omega)) ?_)
         | (refine if1 ?_)
         | (refine if2 ?_)
         | (refine if3 ?_)
         | (refine if4 ?_)
         | (refine if5 ?_)
         | (refine stp ?_; simp only [spec_StepBack.j0]))
       ·simp only [impl_StepBack.f]
        repeat (first
         | (dsimp only)
         | (with_reducible exact Ev.now _)
         | (simp only [bP_pos h1, show (1 : Int).toNat = 1 from rfl, bP_neg h3, bP_pos h4, if_true, Bool.not_true, Bool.not_false])
         | (with_reducible refine Ev.bind (l2Less_ev l x (by omega) q1) ?_)
         | (with_reducible refine Ev.bind (l2Less_ev r x (by omega) q2) ?_)
         | (with_reducible refine Ev.bind (without_ev _ _ (by omega)) ?_)
         | (with_reducible refine Ev.bind (Contains_ev _ _ (by omega)) ?_)
         | (with_reducible refine Ev.bind (implEventOk_ev _ _ _ _ _ _ _ (by omega) (by omega)) ?_)
         | (with_reducible refine Ev_some (copyEvent_eq _ _ _ _ _ _ _ (by omega) (by omega)) ?_)
         | (refine if1 ?_)
         | (refine if2 ?_)
         | (refine if3 ?_)
         | (refine if4 ?_)
         | (refine if5 ?_)
         | (refine stp ?_; simp only [impl_StepBack.j0]))
      ·by_cases h6 : v = 1000000000
       ·refine ⟨(true, true, l, r, u, v, w, [], 2), ?_, ?_, by first | (show List.length _ ≤ _; omega) | (simp; done) | (simp; omega) | exact Nat.le_trans (less_len _ _) (by omega) | (have := less_len r x; show List.length (_ ++ _) ≤ _; rw [List.length_append, List.length_cons, List.length_nil]; omega), by first | (show List.length _ ≤ _; omega) | (simp; done) | (simp; omega) | exact Nat.le_trans (less_len _ _) (by omega) | (have := less_len r x; show List.length (_ ++ _) ≤ _; rw [List.length_append, List.length_cons, List.length_nil]; omega), by first | (show List.length _ ≤ _; omega) | (simp; done) | (simp; omega) | exact Nat.le_trans (less_len _ _) (by omega) | (have := less_len r x; show List.length (_ ++ _) ≤ _; rw [List.length_append, List.length_cons, List.length_nil]; omega)⟩
        ·simp only [spec_StepBack.f]
         repeat (first
          | (dsimp only)
          | (with_reducible exact Ev.now _)
          | (simp only [bP_pos h1, show (1 : Int).toNat = 1 from rfl, bP_neg h3, bP_pos h4, if_true, Bool.not_true, Bool.not_false])
          | (with_reducible refine Ev.bind (l2Less_ev l x (by omega) q1) ?_)
          | (with_reducible refine Ev.bind (l2Less_ev r x (by omega) q2) ?_)
          | (with_reducible refine Ev.bind (without_ev _ _ (by omega)) ?_)
          | (with_reducible refine Ev.bind (l2Has_ev _ _ (by omega)) ?_)
          | (with_reducible refine Ev.bind (specEventOk_ev _ _ _ _ _ _ _ (by omega) (by omega)) ?_)
          | (with_reducible refine Ev_some (l6Copy_eq _ _ _ _ _ _ _ (by omega) (by omega)) ?_)
          | (with_reducible refine Ev_some (l6Pass_t _ _ _ _ _ _ (by omega)) ?_)
          | (with_reducible refine Ev_some (l6Pass_f _ _ _ _ _ _ (by omega)) ?_)
          | (with_reducible refine Ev_some (l6Pass_cons _ _ _ _ _ _ _ (by omega) (by omega) (by omega)) ?_)
          | (refine if1 ?_)
          | (refine if2 ?_)
          | (refine if3 ?_)
          | (refine if4 ?_)
          | (refine if5 ?_)
          | (refine stp ?_; simp only [spec_StepBack.j0]))
        ·simp only [impl_StepBack.f]
         repeat (first
          | (dsimp only)
          | (with_reducible exact Ev.now _)
          | (simp only [bP_pos h1, show (1 : Int).toNat = 1 from rfl, bP_neg h3, bP_pos h4, if_true, Bool.not_true, Bool.not_false])
          | (with_reducible refine Ev.bind (l2Less_ev l x (by omega) q1) ?_)
          | (with_reducible refine Ev.bind (l2Less_ev r x (by omega) q2) ?_)
          | (with_reducible refine Ev.bind (without_ev _ _ (by omega)) ?_)
          | (with_reducible refine Ev.bind (Contains_ev _ _ (by omega)) ?_)
          | (with_reducible refine Ev.bind (implEventOk_ev _ _ _ _ _ _ _ (by omega) (by omega)) ?_)
          | (with_reducible refine Ev_some (copyEvent_eq _ _ _ _ _ _ _ (by omega) (by omega)) ?_)
          | (refine if1 ?_)
          | (refine if2 ?_)
          | (refine if3 ?_)
          | (refine if4 ?_)
          | (refine if5 ?_)
          | (refine stp ?_; simp only [impl_StepBack.j0]))
       ·refine ⟨(true, true, l, (r.filter fun y => decide (y ≠ x)), u, wrap64 (v + 1), w, [], 0), ?_, ?_, by first | (show List.length _ ≤ _; omega) | (simp; done) | (simp; omega) | exact Nat.le_trans (less_len _ _) (by omega) | (have := less_len r x; show List.length (_ ++ _) ≤ _; rw [List.length_append, List.length_cons, List.length_nil]; omega), by first | (show List.length _ ≤ _; omega) | (simp; done) | (simp; omega) | exact Nat.le_trans (less_len _ _) (by omega) | (have := less_len r x; show List.length (_ ++ _) ≤ _; rw [List.length_append, List.length_cons, List.length_nil]; omega), by first | (show List.length _ ≤ _; omega) | (simp; done) | (simp; omega) | exact Nat.le_trans (less_len _ _) (by omega) | (have := less_len r x; show List.length (_ ++ _) ≤ _; rw [List.length_append, List.length_cons, List.length_nil]; omega)⟩
        ·simp only [spec_StepBack.f]
         repeat (first
          | (dsimp only)
          | (with_reducible exact Ev.now _)
          | (simp only [bP_pos h1, show (1 : Int).toNat = 1 from rfl, bP_neg h3, bP_pos h4, if_true, Bool.not_true, Bool.not_false])
          | (with_reducible refine Ev.bind (l2Less_ev l x (by omega) q1) ?_)
          | (with_reducible refine Ev.bind (l2Less_ev r x (by omega) q2) ?_)
          | (with_reducible refine Ev.bind (without_ev _ _ (by omega)) ?_)
          | (with_reducible refine Ev.bind (l2Has_ev _ _ (by omega)) ?_)
          | (with_reducible refine Ev.bind (specEventOk_ev _ _ _ _ _ _ _ (by omega) (by omega)) ?_)
          | (with_reducible refine Ev_some (l6Copy_eq _ _ _ _ _ _ _ (by omega) (by omega)) ?_)
          | (with_reducible refine Ev_some (l6Pass_t _ _ _ _ _ _ (by omega)) ?_)
          | (with_reducible refine Ev_some (l6Pass_f _ _ _ _ _ _ (by omega)) ?_)
          | (with_reducible refine Ev_some (l6Pass_cons _ _ _ _ _ _ _ (by omega) (by omega) (by omega)) ?_)
          | (refine if1 ?_)
          | (refine if2 ?_)
          | (refine if3 ?_)
          | (refine if4 ?_)
          | (refine if5 ?_)
          | (refine stp ?_; simp only [spec_StepBack.j0]))
        ·simp only [impl_StepBack.f]
         repeat (first
          | (dsimp only)
          | (with_reducible exact Ev.now _)
          | (simp only [bP_pos h1, show (1 : Int).toNat = 1 from rfl, bP_neg h3, bP_pos h4, if_true, Bool.not_true, Bool.not_false])
          | (with_reducible refine Ev.bind (l2Less_ev l x (by omega) q1) ?_)
          | (with_reducible refine Ev.bind (l2Less_ev r x (by omega) q2) ?_)
          | (with_reducible refine Ev.bind (without_ev _ _ (by omega)) ?_)
          | (with_reducible refine Ev.bind (Contains_ev _ _ (by omega)) ?_)
          | (with_reducible refine Ev.bind (implEventOk_ev _ _ _ _ _ _ _ (by omega) (by omega)) ?_)
          | (with_reducible refine Ev_some (copyEvent_eq _ _ _ _ _ _ _ (by omega) (by omega)) ?_)
          | (refine if1 ?_)
          | (refine if2 ?_)
          | (refine if3 ?_)
          | (refine if4 ?_)
          | (refine if5 ?_)
          | (refine stp ?_; simp only [impl_StepBack.j0]))
     ·refine ⟨(true, s, l.drop 1, (r.filter fun y => decide (y ≠ x)) ++ [rd l 0], u, v, w, [rd l 0], 0), ?_, ?_, by first | (show List.length _ ≤ _; omega) | (simp; done) | (simp; omega) | exact Nat.le_trans (less_len _ _) (by omega) | (have := less_len r x; show List.length (_ ++ _) ≤ _; rw [List.length_append, List.length_cons, List.length_nil]; omega), by first | (show List.length _ ≤ _; omega) | (simp; done) | (simp; omega) | exact Nat.le_trans (less_len _ _) (by omega) | (have := less_len r x; show List.length (_ ++ _) ≤ _; rw [List.length_append, List.length_cons, List.length_nil]; omega), by first | (show List.length _ ≤ _; omega) | (simp; done) | (simp; omega) | exact Nat.le_trans (less_len _ _) (by omega) | (have := less_len r x; show List.length (_ ++ _) ≤ _; rw [List.length_append, List.length_cons, List.length_nil]; omega)⟩
      ·simp only [spec_StepBack.f]
       repeat (first
        | (dsimp only)
        | (with_reducible exact Ev.now _)
        | (simp only [bP_pos h1, show (1 : Int).toNat = 1 from rfl, bP_neg h3, bP_pos h4, if_true, Bool.not_true, Bool.not_false])
        | (with_reducible refine Ev.bind (l2Less_ev l x (by omega) q1) ?_)
        | (with_reducible refine Ev.bind (l2Less_ev r x (by omega) q2) ?_)
        | (with_reducible refine Ev.bind (without_ev _ _ (by omega)) ?_)
        | (with_reducible refine Ev.bind (l2Has_ev _ _ (by omega)) ?_)
        | (with_reducible refine Ev.bind (specEventOk_ev _ _ _ _ _ _ _ (by omega) (by omega)) ?_)
        | (with_reducible refine Ev_some (l6Copy_eq _ _ _ _ _ _ _ (by omega) (by omega)) ?_)
        | (with_reducible refine Ev_some (l6Pass_t _ _ _ _ _ _ (by omega)) ?_)
        | (with_reducible refine Ev_some (l6Pass_f _ _ _ _ _ _ (by omega)) ?_)
        | (with_reducible refine Ev_some (l6Pass_cons _ _ _ _ _ _ _ (by omega) (by omega) (by omega)) ?_)
        | (refine if1 ?_)
        | (refine if2 ?_)
        | (refine if3 ?_)
        | (refine if4 ?_)
        | (refine if5 ?_)
        | (refine stp ?_; simp only [spec_StepBack.j0]))
      ·simp only [impl_StepBack.f]
       repeat (first
        | (dsimp only)
        | (with_reducible exact Ev.now _)
        | (simp only [bP_pos h1, show (1 : Int).toNat = 1 from rfl, bP_neg h3, bP_pos h4, if_true, Bool.not_true, Bool.not_false])
        | (with_reducible refine Ev.bind (l2Less_ev l x (by omega) q1) ?_)
        | (with_reducible refine Ev.bind (l2Less_ev r x (by omega) q2) ?_)
        | (with_reducible refine Ev.bind (without_ev _ _ (by omega)) ?_)
        | (with_reducible refine Ev.bind (Contains_ev _ _ (by omega)) ?_)
        | (with_reducible refine Ev.bind (implEventOk_ev _ _ _ _ _ _ _ (by omega) (by omega)) ?_)
        | (with_reducible refine Ev_some (copyEvent_eq _ _ _ _ _ _ _ (by omega) (by omega)) ?_)
        | (refine if1 ?_)
        | (refine if2 ?_)
        | (refine if3 ?_)
        | (refine if4 ?_)
        | (refine if5 ?_)
        | (refine stp ?_; simp only [impl_StepBack.j0]))
   ·refine ⟨(a, s, l, r, u, v, w, [], 3), ?_, ?_, by first | (show List.length _ ≤ _; omega) | (simp; done) | (simp; omega) | exact Nat.le_trans (less_len _ _) (by omega) | (have := less_len r x; show List.length (_ ++ _) ≤ _; rw [List.length_append, List.length_cons, List.length_nil]; omega), by first | (show List.length _ ≤ _; omega) | (simp; done) | (simp; omega) | exact Nat.le_trans (less_len _ _) (by omega) | (have := less_len r x; show List.length (_ ++ _) ≤ _; rw [List.length_append, List.length_cons, List.length_nil]; omega), by first | (show List.length _ ≤ _; omega) | (simp; done) | (simp; omega) | exact Nat.le_trans (less_len _ _) (by omega) | (have := less_len r x; show List.length (_ ++ _) ≤ _; rw [List.length_append, List.length_cons, List.length_nil]; omega)⟩
    ·simp only [spec_StepBack.f]
     repeat (first
      | (dsimp only)
      | (with_reducible exact Ev.now _)
      | (simp only [bP_pos h1, show (1 : Int).toNat = 1 from rfl, bP_neg h3, bP_neg h4, if_true, Bool.not_true, Bool.not_false])
      | (with_reducible refine Ev.bind (l2Less_ev l x (by omega) q1) ?_)
      | (with_reducible refine Ev.bind (l2Less_ev r x (by omega) q2) ?_)
      | (with_reducible refine Ev.bind (without_ev _ _ (by omega)) ?_)
      | (with_reducible refine Ev.bind (l2Has_ev _ _ (by omega)) ?_)
      | (with_reducible refine Ev.bind (specEventOk_ev _ _ _ _ _ _ _ (by omega) (by omega)) ?_)
      | (with_reducible refine Ev_some (l6Copy_eq _ _ _ _ _ _ _ (by omega) (by omega)) ?_)
      | (with_reducible refine Ev_some (l6Pass_t _ _ _ _ _ _ (by omega)) ?_)
      | (with_reducible refine Ev_some (l6Pass_f _ _ _ _ _ _ (by omega)) ?_)
      | (with_reducible refine Ev_some (l6Pass_cons _ _ _ _ _ _ _ (by omega) (by omega) (by omega)) ?_)
      | (refine if1 ?_)
      | (refine if2 ?_)
      | (refine if3 ?_)
      | (refine if4 ?_)
      | (refine if5 ?_)
      | (refine stp ?_; simp only [spec_StepBack.j0]))
    ·simp only [impl_StepBack.f]
     repeat (first
      | (dsimp only)
      | (with_reducible exact Ev.now _)
      | (simp only [bP_pos h1, show (1 : Int).toNat = 1 from rfl, bP_neg h3, bP_neg h4, if_true, Bool.not_true, Bool.not_false])
      | (with_reducible refine Ev.bind (l2Less_ev l x (by omega) q1) ?_)
      | (with_reducible refine Ev.bind (l2Less_ev r x (by omega) q2) ?_)
      | (with_reducible refine Ev.bind (without_ev _ _ (by omega)) ?_)
      | (with_reducible refine Ev.bind (Contains_ev _ _ (by omega)) ?_)
      | (with_reducible refine Ev.bind (implEventOk_ev _ _ _ _ _ _ _ (by omega) (by omega)) ?_)
      | (with_reducible refine Ev_some (copyEvent_eq _ _ _ _ _ _ _ (by omega) (by omega)) ?_)
      | (refine if1 ?_)
      | (refine if2 ?_)
      | (refine if3 ?_)
      | (refine if4 ?_)
      | (refine if5 ?_)
      | (refine stp ?_; simp only [impl_StepBack.j0]))
 ·refine ⟨(a, s, l, r, u, v, w, [], 1), ?_, ?_, by first | (show List.length _ ≤ _; omega) | (simp; done) | (simp; omega) | exact Nat.le_trans (less_len _ _) (by omega) | (have := less_len r x; show List.length (_ ++ _) ≤ _; rw [List.length_append, List.length_cons, List.length_nil]; omega), by first | (show List.length _ ≤ _; omega) | (simp; done) | (simp; omega) | exact Nat.le_trans (less_len _ _) (by omega) | (have := less_len r x; show List.length (_ ++ _) ≤ _; rw [List.length_append, List.length_cons, List.length_nil]; omega), by first | (show List.length _ ≤ _; omega) | (simp; done) | (simp; omega) | exact Nat.le_trans (less_len _ _) (by omega) | (have := less_len r x; show List.length (_ ++ _) ≤ _; rw [List.length_append, List.length_cons, List.length_nil]; omega)⟩
  ·simp only [spec_StepBack.f]
   repeat (first
    | (dsimp only)
    | (with_reducible exact Ev.now _)
    | (simp only [bP_neg h1, if_true, Bool.not_true, Bool.not_false])
    | (with_reducible refine Ev.bind (l2Has_ev _ _ (by omega)) ?_)
    | (with_reducible refine Ev.bind (specEventOk_ev _ _ _ _ _ _ _ (by omega) (by omega)) ?_)
    | (with_reducible refine Ev_some (l6Copy_eq _ _ _ _ _ _ _ (by omega) (by omega)) ?_)
    | (with_reducible refine Ev_some (l6Pass_t _ _ _ _ _ _ (by omega)) ?_)
    | (with_reducible refine Ev_some (l6Pass_f _ _ _ _ _ _ (by omega)) ?_)
    | (with_reducible refine Ev_some (l6Pass_cons _ _ _ _ _ _ _ (by omega) (by omega) (by omega)) ?_)
    | (refine if1 ?_)
    | (refine if2 ?_)
    | (refine if3 ?_)
    | (refine if4 ?_)
    | (refine if5 ?_)
    | (refine stp ?_; simp only [spec_StepBack.j0]))
  ·simp only [impl_StepBack.f]
   repeat (first
    | (dsimp only)
    | (with_reducible exact Ev.now _)
    | (simp only [bP_neg h1, if_true, Bool.not_true, Bool.not_false])
    | (with_reducible refine Ev.bind (Contains_ev _ _ (by omega)) ?_)
    | (with_reducible refine Ev.bind (implEventOk_ev _ _ _ _ _ _ _ (by omega) (by omega)) ?_)
    | (with_reducible refine Ev_some (copyEvent_eq _ _ _ _ _ _ _ (by omega) (by omega)) ?_)
    | (refine if1 ?_)
    | (refine if2 ?_)
    | (refine if3 ?_)
    | (refine if4 ?_)
    | (refine if5 ?_)
    | (refine stp ?_; simp only [impl_StepBack.j0]))
theorem sameInts_l (a b : List Int) (hl : a.length ≤ 9223372036854775807) (he : a.length = b.length) : ∀ d n : Nat, n + d = a.length → Ev (fun k => laws_sameInts.l0 k a b n) (bP (a.drop n = b.drop n))
 | 0, n, hd => by
  refine Ev.step (fun _ => rfl) ?_
  simp only [laws_sameInts.l0, if_neg (show ¬ (n : Int) < (a.length : Int) by omega)]
  rw [bP_pos (by rw [List.drop_eq_nil_of_le (by omega), List.drop_eq_nil_of_le (by omega)])]
  exact Ev.now _
 | d + 1, n, hd => by
  refine Ev.step (fun _ => rfl) ?_
  simp only [laws_sameInts.l0, if_pos (show (n : Int) < (a.length : Int) by omega), if_pos (show (0 : Int) ≤ (n : Int) by omega), if_pos (show (n : Int) < (b.length : Int) by omega), w64n (show n < a.length by omega) hl, rd_nat]
  rw [drop_cons 0 a n (by omega), drop_cons 0 b n (by omega)]
  by_cases h : a.getD n 0 = b.getD n 0
  ·simp only [if_pos h]
   exact Ev_eq (sameInts_l a b hl he d (n + 1) (by omega)) (bP_congr ⟨fun e => by rw [h, e], fun e => (List.cons.inj e).2⟩)
  ·simp only [if_neg h]
   rw [bP_neg (fun e => h (List.cons.inj e).1)]
   exact Ev.now _
theorem sameInts_ev (a b : List Int) (hl : a.length ≤ 9223372036854775807) : Ev (fun k => laws_sameInts.f k a b) (bP (a = b)) := by
 by_cases h : a.length = b.length
 ·simp only [laws_sameInts.f, if_pos (show (a.length : Int) = (b.length : Int) by omega)]
  simpa using sameInts_l a b hl h a.length 0 (by omega)
 ·simp only [laws_sameInts.f, if_neg (show ¬ (a.length : Int) = (b.length : Int) by omega)]
  rw [bP_neg (fun e => h (by rw [e]))]
  exact Ev.now _
theorem sameInts_self (a : List Int) (hl : a.length ≤ 9223372036854775807) : Ev (fun k => laws_sameInts.f k a a) true := Ev_eq (sameInts_ev a a hl) (bP_pos rfl)
theorem Ev_uniq {α : Type} {g : Nat → Option α} {r s : α} (h : Ev g r) (h' : Ev g s) : r = s := by
 obtain ⟨a, ha⟩ := h
 obtain ⟨b, hb⟩ := h'
 have h1 := ha (max a b) (Nat.le_max_left _ _)
 have h2 := hb (max a b) (Nat.le_max_right _ _)
 rw [h1] at h2
 exact Option.some.inj h2
theorem at_some (l : List Int) (hw : ∀ x ∈ l, (Lit.int .u8 x).wf = true) (a : Int) (h0 : 0 ≤ a) (h1 : a ≤ 1000) (hl : l.length ≤ 1048576) : ∃ t, laws_at.f l a = some t ∧ 0 ≤ t ∧ t ≤ 255 := by
 simp only [laws_at.f]
 by_cases h : a < (l.length : Int)
 ·simp only [if_pos h, if_pos h0]
  have hm : rd l a ∈ l := by
   rw [show a = ((a.toNat : Nat) : Int) by omega, rd_nat, List.getD_eq_getElem?_getD, List.getElem?_eq_getElem (show a.toNat < l.length by omega)]
   exact List.getElem_mem _
  have hb := hw _ hm
  simp [Lit.wf] at hb
  have hb : 0 ≤ rd l a ∧ rd l a ≤ 255 := by have e0 : IntKind.u8.min = 0 := rfl; have e1 : IntKind.u8.max = 255 := rfl; omega
  exact ⟨_, rfl, by rw [w64 (by omega) (by omega)]; exact hb.1, by rw [w64 (by omega) (by omega)]; exact hb.2⟩
 ·simp only [if_neg h]
  refine ⟨_, rfl, ?_⟩
  rw [w64 (show -9223372036854775808 ≤ a * 7 by omega) (show a * 7 ≤ 9223372036854775807 by omega), w64 (show -9223372036854775808 ≤ a * 7 + (l.length : Int) by omega) (show a * 7 + (l.length : Int) ≤ 9223372036854775807 by omega), Int.tmod_eq_emod_of_nonneg (by omega)]
  omega
theorem line_iff {l : List Int} : lineOk l ↔ l.length ≤ 32 ∧ (∀ x ∈ l, isCl x) ∧ l.Nodup := by
 constructor
 ·intro h
  refine ⟨h.1, fun x hx => ?_, List.pairwise_iff_getElem.2 fun i j hi hj hij e => ?_⟩
  ·obtain ⟨i, hi, rfl⟩ := List.mem_iff_getElem.1 hx
   have := (h.2 i (Nat.zero_le _) hi).1
   rwa [List.getD_eq_getElem?_getD, List.getElem?_eq_getElem hi] at this
  ·have := (h.2 j (Nat.zero_le _) hj).2
   rw [List.getD_eq_getElem?_getD, List.getElem?_eq_getElem hj] at this
   exact this (List.mem_iff_getElem.2 ⟨i, by rw [List.length_take]; omega, by rw [List.getElem_take]; exact e⟩)
 ·rintro ⟨h1, h2, h3⟩
  refine ⟨h1, fun i _ hi => ?_⟩
  rw [List.getD_eq_getElem?_getD, List.getElem?_eq_getElem hi]
  refine ⟨h2 _ (List.getElem_mem hi), fun hm => ?_⟩
  obtain ⟨k, hk, e⟩ := List.mem_iff_getElem.1 hm
  rw [List.length_take] at hk
  rw [List.getElem_take] at e
  exact List.pairwise_iff_getElem.1 h3 k i (by omega) hi (by omega) e
theorem snoc_ok {l : List Int} {a : Int} (h : lineOk l) (h1 : isCl a) (h2 : a ∉ l) (h3 : l.length < 32) : lineOk (l ++ [a]) := by
 have hh := line_iff.1 h
 refine line_iff.2 ⟨by simp; omega, fun x hx => ?_, ?_⟩
 ·rcases List.mem_append.1 hx with hx | hx
  ·exact hh.2.1 x hx
  ·rw [List.mem_singleton.1 hx]; exact h1
 ·refine List.pairwise_append.2 ⟨hh.2.2, by simp, fun x hx y hy e => ?_⟩
  rw [List.mem_singleton.1 hy] at e
  exact h2 (e ▸ hx)
theorem nil_ok : lineOk [] := line_iff.2 ⟨by simp, by simp, List.nodup_nil⟩
theorem apart_move {x : Int} {l r : List Int} (h : apartP (x :: l) r) (hr : r.length < 32) : apartP l (r ++ [x]) := by
 have hh := line_iff.1 h.1
 have hn := List.pairwise_cons.1 hh.2.2
 have hl := hh.1
 simp only [List.length_cons] at hl
 refine ⟨line_iff.2 ⟨by omega, fun y hy => hh.2.1 y (List.mem_cons_of_mem _ hy), hn.2⟩, snoc_ok h.2.1 (hh.2.1 x List.mem_cons_self) (fun hx => h.2.2 x hx List.mem_cons_self) hr, fun y hy => ?_⟩
 rcases List.mem_append.1 hy with hy | hy
 ·exact fun hm => h.2.2 y hy (List.mem_cons_of_mem _ hm)
 ·rw [List.mem_singleton.1 hy]
  exact fun hm => hn.1 x hm rfl
theorem apart_all : ∀ (l r : List Int), apartP l r → l.length + r.length ≤ 32 → apartP [] (r ++ l)
 | [], r, h, _ => by rw [List.append_nil]; exact h
 | x :: l, r, h, hl => by
  simp only [List.length_cons] at hl
  have := apart_all l (r ++ [x]) (apart_move h (by omega)) (by simp; omega)
  simpa using this
theorem filter_ok {l : List Int} (p : Int → Bool) (h : lineOk l) : lineOk (l.filter p) := by
 have hh := line_iff.1 h
 exact line_iff.2 ⟨Nat.le_trans (List.length_filter_le _ _) hh.1, fun x hx => hh.2.1 x (List.mem_filter.1 hx).1, hh.2.2.filter _⟩
theorem apart_fl {l r : List Int} (p : Int → Bool) (h : apartP l r) : apartP (l.filter p) r := ⟨filter_ok p h.1, h.2.1, fun x hx hm => h.2.2 x hx (List.mem_filter.1 hm).1⟩
theorem apart_fr {l r : List Int} (p : Int → Bool) (h : apartP l r) : apartP l (r.filter p) := ⟨h.1, filter_ok p h.2.1, fun x hx => h.2.2 x (List.mem_filter.1 hx).1⟩
theorem apart_snoc {l r : List Int} {x : Int} (h : apartP l r) (h1 : isCl x) (h2 : x ∉ l) (h3 : x ∉ r) (h4 : l.length < 32) : apartP (l ++ [x]) r := by
 refine ⟨snoc_ok h.1 h1 h2 h4, h.2.1, fun y hy hm => ?_⟩
 rcases List.mem_append.1 hm with hm | hm
 ·exact h.2.2 y hy hm
 ·rw [List.mem_singleton.1 hm] at hy
  exact h3 hy
theorem less_one (x : Int) : ∀ r : List Int, r.Nodup → x ∈ r → (r.filter fun y => decide (y ≠ x)).length + 1 = r.length
 | [], _, h => by cases h
 | y :: ys, hn, h => by
  have hc := List.pairwise_cons.1 hn
  by_cases e : y = x
  ·subst e
   have hf : (ys.filter fun z => decide (z ≠ y)) = ys := List.filter_eq_self.2 (fun z hz => decide_eq_true (fun e => hc.1 z hz e.symm))
   rw [List.filter_cons_of_neg (by simp), hf]
   rfl
  ·rw [List.filter_cons_of_pos (by simpa using e)]
   have hx : x ∈ ys := (List.mem_cons.1 h).resolve_left (fun e' => e e'.symm)
   have := less_one x ys hc.2 hx
   simp only [List.length_cons]
   omega
theorem ev_sum {s : Bool} {l r : List Int} {u v w : Int} (h : eventOk true s l r u v w) : u = v + w + r.length + (if s = true then 1 else 0) := by
 have := h.2.2.2.2.2
 rwa [if_pos rfl] at this
theorem ev_zero {s : Bool} {l r : List Int} {u v w : Int} (h : eventOk false s l r u v w) : u = 0 ∧ v = 0 ∧ w = 0 := by
 have := h.2.2.2.2.2
 rwa [if_neg (by decide)] at this
theorem ev_auto {s : Bool} {l r : List Int} {u v w : Int} (h1 : apartP l r) (h2 : s = true → l.length = 0) (hv : 0 ≤ v) (hw : 0 ≤ w) (hu : u ≤ 1000) (e : u = v + w + r.length + (if s = true then 1 else 0)) : eventOk true s l r u v w := by
 have : (0 : Int) ≤ (if s = true then 1 else 0) := by split <;> omega
 exact ⟨h1, h2, by omega, by omega, by omega, by rw [if_pos rfl]; exact e⟩
theorem ev_man {s : Bool} {l r : List Int} (h1 : apartP l r) (h2 : s = true → l.length = 0) : eventOk false s l r 0 0 0 := ⟨h1, h2, by omega, by omega, by omega, by rw [if_neg (by decide)]; exact ⟨rfl, rfl, rfl⟩⟩
theorem raise_p (a s : Bool) (l r : List Int) (u v w : Int) (h1 : eventOk a s l r u v w) (hn : l.length + r.length ≤ 30) (hu : u ≤ 30) : ∃ s' l' r' u' v' m, Ev (fun k => impl_Raise.f k a s l r u v w) (a, s', l', r', u', v', w, m, 0) ∧ eventOk a s' l' r' u' v' w ∧ l'.length + r'.length ≤ l.length + r.length ∧ (a = true → u' = u + 1 ∧ m.length ≤ 1) ∧ (a = false → u' = u ∧ m = l) := by
 have q3 := h1.2.2.1
 have q4 := h1.2.2.2.1
 have q5 := h1.2.2.2.2.1
 have h32 := h1.1.1.1
 have h32r := h1.1.2.1.1
 have wy : wrap64 ((l.length : Int) + (r.length : Int)) = l.length + r.length := w64 (by omega) (by omega)
 have wu : wrap64 (u + 1) = u + 1 := w64 (by omega) (by omega)
 have wv : wrap64 (v + 1) = v + 1 := w64 (by omega) (by omega)
 cases a
 ·obtain ⟨rfl, rfl, rfl⟩ := ev_zero h1
  refine ⟨true, [], r ++ l, 0, 0, l, ?_, ev_man (apart_all l r h1.1 (by omega)) (fun _ => rfl), by simp; omega, fun e => absurd e (by decide), fun _ => ⟨rfl, rfl⟩⟩
  simp only [impl_Raise.f]
  repeat (first
   | (dsimp only)
   | (with_reducible exact Ev.now _)
   | (simp only [bP_pos h1, wy, if_true, Bool.not_true, Bool.not_false])
   | (with_reducible refine Ev.bind (implEventOk_ev _ _ _ _ _ _ _ (by omega) (by omega)) ?_)
   | (with_reducible refine Ev_some (Clone_eq _ (by omega)) ?_)
   | (with_reducible refine Ev_some (copyEvent_eq _ _ _ _ _ _ _ (by omega) (by omega)) ?_)
   | (with_reducible refine Ev_some (release_eq _ _ (by omega) (by omega)) ?_)
   | (refine if1 ?_)
   | (refine if2 ?_)
   | (refine if3 ?_)
   | (refine if4 ?_)
   | (refine if5 ?_)
   | (refine stp ?_; simp only [impl_Raise.j0]))
 ·have hs := ev_sum h1
  by_cases h7 : l.length = 0
  ·have hl : l = [] := List.length_eq_zero_iff.1 h7
   cases s
   ·refine ⟨true, l, r, u + 1, v, [], ?_, ev_auto h1.1 (fun _ => h7) q4.1 q5.1 (by omega) (by simp at hs ⊢; omega), Nat.le_refl _, fun _ => ⟨rfl, by simp⟩, fun e => absurd e (by decide)⟩
    rw [← wu]
    simp only [impl_Raise.f]
    repeat (first
     | (dsimp only)
     | (with_reducible exact Ev.now _)
     | (simp only [bP_pos h1, if_true, Bool.not_true, Bool.not_false])
     | (with_reducible refine Ev.bind (implEventOk_ev _ _ _ _ _ _ _ (by omega) (by omega)) ?_)
     | (with_reducible refine Ev_some (Clone_eq _ (by omega)) ?_)
     | (with_reducible refine Ev_some (copyEvent_eq _ _ _ _ _ _ _ (by omega) (by omega)) ?_)
     | (with_reducible refine Ev_some (release_eq _ _ (by omega) (by omega)) ?_)
     | (refine if1 ?_)
     | (refine if2 ?_)
     | (refine if3 ?_)
     | (refine if4 ?_)
     | (refine if5 ?_)
     | (refine stp ?_; simp only [impl_Raise.j0]))
   ·refine ⟨true, l, r, u + 1, v + 1, [], ?_, ev_auto h1.1 (fun _ => h7) (by omega) q5.1 (by omega) (by simp at hs ⊢; omega), Nat.le_refl _, fun _ => ⟨rfl, by simp⟩, fun e => absurd e (by decide)⟩
    rw [← wu, ← wv]
    simp only [impl_Raise.f]
    repeat (first
     | (dsimp only)
     | (with_reducible exact Ev.now _)
     | (simp only [bP_pos h1, if_true, Bool.not_true, Bool.not_false])
     | (with_reducible refine Ev.bind (implEventOk_ev _ _ _ _ _ _ _ (by omega) (by omega)) ?_)
     | (with_reducible refine Ev_some (Clone_eq _ (by omega)) ?_)
     | (with_reducible refine Ev_some (copyEvent_eq _ _ _ _ _ _ _ (by omega) (by omega)) ?_)
     | (with_reducible refine Ev_some (release_eq _ _ (by omega) (by omega)) ?_)
     | (refine if1 ?_)
     | (refine if2 ?_)
     | (refine if3 ?_)
     | (refine if4 ?_)
     | (refine if5 ?_)
     | (refine stp ?_; simp only [impl_Raise.j0]))
  ·have hsf : s = false := by
    cases s
    ·rfl
    ·exact absurd (h1.2.1 rfl) h7
   subst hsf
   have hap : apartP (l.drop 1) (r ++ [rd l 0]) := by
    cases l with
    | nil => exact absurd rfl h7
    | cons x l =>
     simp only [List.length_cons] at hn
     have := apart_move h1.1 (by omega)
     simpa [rd] using this
   refine ⟨false, l.drop 1, r ++ [rd l 0], u + 1, v, [rd l 0], ?_, ev_auto hap (fun e => absurd e (by decide)) q4.1 q5.1 (by omega) (by simp at hs ⊢; omega), by simp; omega, fun _ => ⟨rfl, by simp⟩, fun e => absurd e (by decide)⟩
   rw [← wu]
   simp only [impl_Raise.f]
   repeat (first
    | (dsimp only)
    | (with_reducible exact Ev.now _)
    | (simp only [bP_pos h1, show (1 : Int).toNat = 1 from rfl, if_true, Bool.not_true, Bool.not_false])
    | (with_reducible refine Ev.bind (implEventOk_ev _ _ _ _ _ _ _ (by omega) (by omega)) ?_)
    | (with_reducible refine Ev_some (Clone_eq _ (by omega)) ?_)
    | (with_reducible refine Ev_some (copyEvent_eq _ _ _ _ _ _ _ (by omega) (by omega)) ?_)
    | (with_reducible refine Ev_some (release_eq _ _ (by omega) (by omega)) ?_)
    | (refine if1 ?_)
    | (refine if2 ?_)
    | (refine if3 ?_)
    | (refine if4 ?_)
    | (refine if5 ?_)
    | (refine stp ?_; simp only [impl_Raise.j0]))
theorem reset_p (a s : Bool) (l r : List Int) (u v w : Int) (h1 : eventOk a s l r u v w) (hu : u ≤ 30) : ∃ v', Ev (fun k => impl_Reset.f k a s l r u v w) (a, false, l, r, u, v', w, 0) ∧ eventOk a false l r u v' w := by
 have q3 := h1.2.2.1
 have q4 := h1.2.2.2.1
 have q5 := h1.2.2.2.2.1
 have h32 := h1.1.1.1
 have h32r := h1.1.2.1.1
 cases a
 ·refine ⟨v, ?_, ?_⟩
  ·simp only [impl_Reset.f]
   repeat (first
    | (dsimp only)
    | (with_reducible exact Ev.now _)
    | (simp only [bP_pos h1, if_true, Bool.not_true, Bool.not_false])
    | (with_reducible refine Ev.bind (implEventOk_ev _ _ _ _ _ _ _ (by omega) (by omega)) ?_)
    | (with_reducible refine Ev_some (copyEvent_eq _ _ _ _ _ _ _ (by omega) (by omega)) ?_)
    | (refine if1 ?_)
    | (refine if2 ?_)
    | (refine if3 ?_)
    | (refine if4 ?_)
    | (refine if5 ?_)
    | (refine stp ?_; simp only [impl_Reset.j0])
    | (refine stp ?_; simp only [impl_Reset.j1]))
  ·obtain ⟨rfl, rfl, rfl⟩ := ev_zero h1
   exact ev_man h1.1 (fun e => absurd e (by decide))
 ·have hs := ev_sum h1
  cases s
  ·refine ⟨v, ?_, h1⟩
   simp only [impl_Reset.f]
   repeat (first
    | (dsimp only)
    | (with_reducible exact Ev.now _)
    | (simp only [bP_pos h1, if_true, Bool.not_true, Bool.not_false])
    | (with_reducible refine Ev.bind (implEventOk_ev _ _ _ _ _ _ _ (by omega) (by omega)) ?_)
    | (with_reducible refine Ev_some (copyEvent_eq _ _ _ _ _ _ _ (by omega) (by omega)) ?_)
    | (refine if1 ?_)
    | (refine if2 ?_)
    | (refine if3 ?_)
    | (refine if4 ?_)
    | (refine if5 ?_)
    | (refine stp ?_; simp only [impl_Reset.j0])
    | (refine stp ?_; simp only [impl_Reset.j1]))
  ·simp at hs
   have wv : wrap64 (v + 1) = v + 1 := w64 (by omega) (by omega)
   refine ⟨v + 1, ?_, ev_auto h1.1 (fun e => absurd e (by decide)) (by omega) q5.1 (by omega) (by simp; omega)⟩
   rw [← wv]
   simp only [impl_Reset.f]
   repeat (first
    | (dsimp only)
    | (with_reducible exact Ev.now _)
    | (simp only [bP_pos h1, if_true, Bool.not_true, Bool.not_false])
    | (with_reducible refine Ev.bind (implEventOk_ev _ _ _ _ _ _ _ (by omega) (by omega)) ?_)
    | (with_reducible refine Ev_some (copyEvent_eq _ _ _ _ _ _ _ (by omega) (by omega)) ?_)
    | (refine if1 ?_)
    | (refine if2 ?_)
    | (refine if3 ?_)
    | (refine if4 ?_)
    | (refine if5 ?_)
    | (refine stp ?_; simp only [impl_Reset.j0])
    | (refine stp ?_; simp only [impl_Reset.j1]))
theorem goon_p (a s : Bool) (l r : List Int) (u v w x : Int) (h1 : eventOk a s l r u v w) (hu : u ≤ 30) : ∃ r' w' c, Ev (fun k => impl_GoOn.f k a s l r u v w x) (a, s, l, r', u, v, w', c) ∧ eventOk a s l r' u v w' ∧ r'.length ≤ r.length ∧ (a = true → w' = if c = 0 then w + 1 else w) := by
 have q3 := h1.2.2.1
 have q4 := h1.2.2.2.1
 have q5 := h1.2.2.2.2.1
 have h32 := h1.1.1.1
 have h32r := h1.1.2.1.1
 by_cases h3 : x ∈ l
 ·refine ⟨r, w, 4, ?_, h1, Nat.le_refl _, fun _ => by simp⟩
  simp only [impl_GoOn.f]
  repeat (first
   | (dsimp only)
   | (with_reducible exact Ev.now _)
   | (simp only [bP_pos h1, bP_pos h3, if_true, Bool.not_true, Bool.not_false])
   | (with_reducible refine Ev.bind (Contains_ev _ _ (by omega)) ?_)
   | (with_reducible refine Ev.bind (implEventOk_ev _ _ _ _ _ _ _ (by omega) (by omega)) ?_)
   | (with_reducible refine Ev_some (copyEvent_eq _ _ _ _ _ _ _ (by omega) (by omega)) ?_)
   | (refine if1 ?_)
   | (refine if2 ?_)
   | (refine if3 ?_)
   | (refine if4 ?_)
   | (refine if5 ?_)
   | (refine stp ?_; simp only [impl_GoOn.j0]))
 ·by_cases h4 : x ∈ r
  ·have hlen := less_one x r (line_iff.1 h1.1.2.1).2.2 h4
   cases a
   ·refine ⟨r.filter fun y => decide (y ≠ x), w, 0, ?_, ?_, by omega, fun e => absurd e (by decide)⟩
    ·simp only [impl_GoOn.f]
     repeat (first
      | (dsimp only)
      | (with_reducible exact Ev.now _)
      | (simp only [bP_pos h1, bP_neg h3, bP_pos h4, if_true, Bool.not_true, Bool.not_false])
      | (with_reducible refine Ev.bind (without_ev _ _ (by omega)) ?_)
      | (with_reducible refine Ev.bind (Contains_ev _ _ (by omega)) ?_)
      | (with_reducible refine Ev.bind (implEventOk_ev _ _ _ _ _ _ _ (by omega) (by omega)) ?_)
      | (with_reducible refine Ev_some (copyEvent_eq _ _ _ _ _ _ _ (by omega) (by omega)) ?_)
      | (refine if1 ?_)
      | (refine if2 ?_)
      | (refine if3 ?_)
      | (refine if4 ?_)
      | (refine if5 ?_)
      | (refine stp ?_; simp only [impl_GoOn.j0]))
    ·obtain ⟨rfl, rfl, rfl⟩ := ev_zero h1
     exact ev_man (apart_fr _ h1.1) h1.2.1
   ·have hs := ev_sum h1
    have h01 : (0 : Int) ≤ (if s = true then 1 else 0) := by split <;> omega
    have ww : wrap64 (w + 1) = w + 1 := w64 (by omega) (by omega)
    refine ⟨r.filter fun y => decide (y ≠ x), w + 1, 0, ?_, ev_auto (apart_fr _ h1.1) h1.2.1 q4.1 (by omega) (by omega) (by omega), by omega, fun _ => by simp⟩
    rw [← ww]
    simp only [impl_GoOn.f]
    repeat (first
     | (dsimp only)
     | (with_reducible exact Ev.now _)
     | (simp only [bP_pos h1, bP_neg h3, bP_pos h4, if_true, Bool.not_true, Bool.not_false])
     | (with_reducible refine Ev.bind (without_ev _ _ (by omega)) ?_)
     | (with_reducible refine Ev.bind (Contains_ev _ _ (by omega)) ?_)
     | (with_reducible refine Ev.bind (implEventOk_ev _ _ _ _ _ _ _ (by omega) (by omega)) ?_)
     | (with_reducible refine Ev_some (copyEvent_eq _ _ _ _ _ _ _ (by omega) (by omega)) ?_)
     | (refine if1 ?_)
     | (refine if2 ?_)
     | (refine if3 ?_)
     | (refine if4 ?_)
     | (refine if5 ?_)
     | (refine stp ?_; simp only [impl_GoOn.j0]))
  ·refine ⟨r, w, 3, ?_, h1, Nat.le_refl _, fun _ => by simp⟩
   simp only [impl_GoOn.f]
   repeat (first
    | (dsimp only)
    | (with_reducible exact Ev.now _)
    | (simp only [bP_pos h1, bP_neg h3, bP_neg h4, if_true, Bool.not_true, Bool.not_false])
    | (with_reducible refine Ev.bind (Contains_ev _ _ (by omega)) ?_)
    | (with_reducible refine Ev.bind (implEventOk_ev _ _ _ _ _ _ _ (by omega) (by omega)) ?_)
    | (with_reducible refine Ev_some (copyEvent_eq _ _ _ _ _ _ _ (by omega) (by omega)) ?_)
    | (refine if1 ?_)
    | (refine if2 ?_)
    | (refine if3 ?_)
    | (refine if4 ?_)
    | (refine if5 ?_)
    | (refine stp ?_; simp only [impl_GoOn.j0]))
theorem back_p (a s : Bool) (l r : List Int) (u v w x : Int) (h1 : eventOk a s l r u v w) (hu : u ≤ 30) : ∃ s' l' r' v' m c, Ev (fun k => impl_StepBack.f k a s l r u v w x) (a, s', l', r', u, v', w, m, c) ∧ eventOk a s' l' r' u v' w ∧ l'.length + r'.length ≤ l.length + r.length := by
 have q3 := h1.2.2.1
 have q4 := h1.2.2.2.1
 have q5 := h1.2.2.2.2.1
 have h32 := h1.1.1.1
 have h32r := h1.1.2.1.1
 have hll := less_len l x
 have hlr := less_len r x
 by_cases h3 : x ∈ l
 ·refine ⟨s, l.filter fun y => decide (y ≠ x), r, v, [], 0, ?_, ?_, by omega⟩
  ·simp only [impl_StepBack.f]
   repeat (first
    | (dsimp only)
    | (with_reducible exact Ev.now _)
    | (simp only [bP_pos h1, bP_pos h3, if_true, Bool.not_true, Bool.not_false])
    | (with_reducible refine Ev.bind (without_ev _ _ (by omega)) ?_)
    | (with_reducible refine Ev.bind (Contains_ev _ _ (by omega)) ?_)
    | (with_reducible refine Ev.bind (implEventOk_ev _ _ _ _ _ _ _ (by omega) (by omega)) ?_)
    | (with_reducible refine Ev_some (copyEvent_eq _ _ _ _ _ _ _ (by omega) (by omega)) ?_)
    | (refine if1 ?_)
    | (refine if2 ?_)
    | (refine if3 ?_)
    | (refine if4 ?_)
    | (refine if5 ?_)
    | (refine stp ?_; simp only [impl_StepBack.j0])
    | (refine stp ?_; simp only [impl_StepBack.j0]))
  ·exact ⟨apart_fl _ h1.1, fun e => by have := h1.2.1 e; omega, h1.2.2.1, h1.2.2.2.1, h1.2.2.2.2.1, h1.2.2.2.2.2⟩
 ·by_cases h4 : x ∈ r
  ·have hlen := less_one x r (line_iff.1 h1.1.2.1).2.2 h4
   cases a
   ·refine ⟨s, l, r.filter fun y => decide (y ≠ x), v, [], 0, ?_, ?_, by omega⟩
    ·simp only [impl_StepBack.f]
     repeat (first
      | (dsimp only)
      | (with_reducible exact Ev.now _)
      | (simp only [bP_pos h1, bP_neg h3, bP_pos h4, if_true, Bool.not_true, Bool.not_false])
      | (with_reducible refine Ev.bind (without_ev _ _ (by omega)) ?_)
      | (with_reducible refine Ev.bind (Contains_ev _ _ (by omega)) ?_)
      | (with_reducible refine Ev.bind (implEventOk_ev _ _ _ _ _ _ _ (by omega) (by omega)) ?_)
      | (with_reducible refine Ev_some (copyEvent_eq _ _ _ _ _ _ _ (by omega) (by omega)) ?_)
      | (refine if1 ?_)
      | (refine if2 ?_)
      | (refine if3 ?_)
      | (refine if4 ?_)
      | (refine if5 ?_)
      | (refine stp ?_; simp only [impl_StepBack.j0])
      | (refine stp ?_; simp only [impl_StepBack.j0]))
    ·obtain ⟨rfl, rfl, rfl⟩ := ev_zero h1
     exact ev_man (apart_fr _ h1.1) h1.2.1
   ·have hs := ev_sum h1
    by_cases h7 : l.length = 0
    ·cases s
     ·refine ⟨true, l, r.filter fun y => decide (y ≠ x), v, [], 0, ?_, ev_auto (apart_fr _ h1.1) (fun _ => h7) q4.1 q5.1 (by omega) (by simp only [if_true]; simp only [if_neg (show ¬ (false = true) by decide)] at hs; omega), by omega⟩
      simp only [impl_StepBack.f]
      repeat (first
       | (dsimp only)
       | (with_reducible exact Ev.now _)
       | (simp only [bP_pos h1, bP_neg h3, bP_pos h4, if_true, Bool.not_true, Bool.not_false])
       | (with_reducible refine Ev.bind (without_ev _ _ (by omega)) ?_)
       | (with_reducible refine Ev.bind (Contains_ev _ _ (by omega)) ?_)
       | (with_reducible refine Ev.bind (implEventOk_ev _ _ _ _ _ _ _ (by omega) (by omega)) ?_)
       | (with_reducible refine Ev_some (copyEvent_eq _ _ _ _ _ _ _ (by omega) (by omega)) ?_)
       | (refine if1 ?_)
       | (refine if2 ?_)
       | (refine if3 ?_)
       | (refine if4 ?_)
       | (refine if5 ?_)
       | (refine stp ?_; simp only [impl_StepBack.j0])
       | (refine stp ?_; simp only [impl_StepBack.j0]))
     ·simp only [if_true] at hs
      have wv : wrap64 (v + 1) = v + 1 := w64 (by omega) (by omega)
      refine ⟨true, l, r.filter fun y => decide (y ≠ x), v + 1, [], 0, ?_, ev_auto (apart_fr _ h1.1) (fun _ => h7) (by omega) q5.1 (by omega) (by simp only [if_true]; omega), by omega⟩
      rw [← wv]
      simp only [impl_StepBack.f]
      repeat (first
       | (dsimp only)
       | (with_reducible exact Ev.now _)
       | (simp only [bP_pos h1, bP_neg h3, bP_pos h4, if_true, Bool.not_true, Bool.not_false])
       | (with_reducible refine Ev.bind (without_ev _ _ (by omega)) ?_)
       | (with_reducible refine Ev.bind (Contains_ev _ _ (by omega)) ?_)
       | (with_reducible refine Ev.bind (implEventOk_ev _ _ _ _ _ _ _ (by omega) (by omega)) ?_)
       | (with_reducible refine Ev_some (copyEvent_eq _ _ _ _ _ _ _ (by omega) (by omega)) ?_)
       | (refine if1 ?_)
       | (refine if2 ?_)
       | (refine if3 ?_)
       | (refine if4 ?_)
       | (refine if5 ?_)
       | (refine stp ?_; simp only [impl_StepBack.j0])
       | (refine stp ?_; simp only [impl_StepBack.j0]))
    ·have hsf : s = false := by
      cases s
      ·rfl
      ·exact absurd (h1.2.1 rfl) h7
     subst hsf
     simp only [if_neg (show ¬ (false = true) by decide)] at hs
     have hap : apartP (l.drop 1) ((r.filter fun y => decide (y ≠ x)) ++ [rd l 0]) := by
      cases l with
      | nil => exact absurd rfl h7
      | cons z l =>
       have := apart_move (apart_fr (fun y => decide (y ≠ x)) h1.1) (by omega)
       simpa [rd] using this
     refine ⟨false, l.drop 1, (r.filter fun y => decide (y ≠ x)) ++ [rd l 0], v, [rd l 0], 0, ?_, ev_auto hap (fun e => absurd e (by decide)) q4.1 q5.1 (by omega) (by simp only [if_neg (show ¬ (false = true) by decide), List.length_append, List.length_cons, List.length_nil]; omega), by simp only [List.length_append, List.length_cons, List.length_nil, List.length_drop]; omega⟩
     simp only [impl_StepBack.f]
     repeat (first
      | (dsimp only)
      | (with_reducible exact Ev.now _)
      | (simp only [bP_pos h1, bP_neg h3, bP_pos h4, show (1 : Int).toNat = 1 from rfl, if_true, Bool.not_true, Bool.not_false])
      | (with_reducible refine Ev.bind (without_ev _ _ (by omega)) ?_)
      | (with_reducible refine Ev.bind (Contains_ev _ _ (by omega)) ?_)
      | (with_reducible refine Ev.bind (implEventOk_ev _ _ _ _ _ _ _ (by omega) (by omega)) ?_)
      | (with_reducible refine Ev_some (copyEvent_eq _ _ _ _ _ _ _ (by omega) (by omega)) ?_)
      | (refine if1 ?_)
      | (refine if2 ?_)
      | (refine if3 ?_)
      | (refine if4 ?_)
      | (refine if5 ?_)
      | (refine stp ?_; simp only [impl_StepBack.j0])
      | (refine stp ?_; simp only [impl_StepBack.j0]))
  ·refine ⟨s, l, r, v, [], 3, ?_, h1, Nat.le_refl _⟩
   simp only [impl_StepBack.f]
   repeat (first
    | (dsimp only)
    | (with_reducible exact Ev.now _)
    | (simp only [bP_pos h1, bP_neg h3, bP_neg h4, if_true, Bool.not_true, Bool.not_false])
    | (with_reducible refine Ev.bind (Contains_ev _ _ (by omega)) ?_)
    | (with_reducible refine Ev.bind (implEventOk_ev _ _ _ _ _ _ _ (by omega) (by omega)) ?_)
    | (with_reducible refine Ev_some (copyEvent_eq _ _ _ _ _ _ _ (by omega) (by omega)) ?_)
    | (refine if1 ?_)
    | (refine if2 ?_)
    | (refine if3 ?_)
    | (refine if4 ?_)
    | (refine if5 ?_)
    | (refine stp ?_; simp only [impl_StepBack.j0])
    | (refine stp ?_; simp only [impl_StepBack.j0]))
theorem stand_p (a s : Bool) (l r : List Int) (u v w x : Int) (h1 : eventOk a s l r u v w) (hn : l.length + r.length ≤ 30) (hu : u ≤ 30) : ∃ s' l' w' c, Ev (fun k => impl_Stand.f k a s l r u v w x) (a, s', l', r, u, v, w', c) ∧ eventOk a s' l' r u v w' ∧ l'.length ≤ l.length + 1 ∧ (c = 0 → s = true) ∧ (c = 4 → s = false) ∧ (a = true → w' = if c = 0 then w + 1 else w) := by
 have q3 := h1.2.2.1
 have q4 := h1.2.2.2.1
 have q5 := h1.2.2.2.2.1
 have h32 := h1.1.1.1
 have h32r := h1.1.2.1.1
 by_cases h2 : isCl x
 ·by_cases h3 : x ∈ l
  ·refine ⟨s, l, w, 5, ?_, h1, by omega, fun e => absurd e (by decide), fun e => absurd e (by decide), fun _ => by simp⟩
   simp only [impl_Stand.f]
   repeat (first
    | (dsimp only)
    | (with_reducible exact Ev.now _)
    | (simp only [bP_pos h1, bP_pos h2, bP_pos h3, if_true, Bool.not_true, Bool.not_false])
    | (with_reducible refine Ev.bind (Contains_ev _ _ (by omega)) ?_)
    | (with_reducible refine Ev.bind (implEventOk_ev _ _ _ _ _ _ _ (by omega) (by omega)) ?_)
    | (with_reducible refine Ev_some (isClient_eq _) ?_)
    | (with_reducible refine Ev_some (copyEvent_eq _ _ _ _ _ _ _ (by omega) (by omega)) ?_)
    | (refine if1 ?_)
    | (refine if2 ?_)
    | (refine if3 ?_)
    | (refine if4 ?_)
    | (refine if5 ?_)
    | (refine stp ?_; simp only [impl_Stand.j0])
    | (refine stp ?_; simp only [impl_Stand.j1])
    | (refine stp ?_; simp only [impl_Stand.j2])
    | (refine stp ?_; simp only [impl_Stand.j3]))
  ·by_cases h4 : x ∈ r
   ·refine ⟨s, l, w, 5, ?_, h1, by omega, fun e => absurd e (by decide), fun e => absurd e (by decide), fun _ => by simp⟩
    simp only [impl_Stand.f]
    repeat (first
     | (dsimp only)
     | (with_reducible exact Ev.now _)
     | (simp only [bP_pos h1, bP_pos h2, bP_neg h3, bP_pos h4, if_true, Bool.not_true, Bool.not_false])
     | (with_reducible refine Ev.bind (Contains_ev _ _ (by omega)) ?_)
     | (with_reducible refine Ev.bind (implEventOk_ev _ _ _ _ _ _ _ (by omega) (by omega)) ?_)
     | (with_reducible refine Ev_some (isClient_eq _) ?_)
     | (with_reducible refine Ev_some (copyEvent_eq _ _ _ _ _ _ _ (by omega) (by omega)) ?_)
     | (refine if1 ?_)
     | (refine if2 ?_)
     | (refine if3 ?_)
     | (refine if4 ?_)
     | (refine if5 ?_)
     | (refine stp ?_; simp only [impl_Stand.j0])
     | (refine stp ?_; simp only [impl_Stand.j1])
     | (refine stp ?_; simp only [impl_Stand.j2])
     | (refine stp ?_; simp only [impl_Stand.j3]))
   ·cases s
    ·cases a
     ·refine ⟨false, l ++ [x], w, 4, ?_, ?_, by simp, fun e => absurd e (by decide), fun _ => rfl, fun e => absurd e (by decide)⟩
      ·simp only [impl_Stand.f]
       repeat (first
        | (dsimp only)
        | (with_reducible exact Ev.now _)
        | (simp only [bP_pos h1, bP_pos h2, bP_neg h3, bP_neg h4, if_true, Bool.not_true, Bool.not_false])
        | (with_reducible refine Ev.bind (Contains_ev _ _ (by omega)) ?_)
        | (with_reducible refine Ev.bind (implEventOk_ev _ _ _ _ _ _ _ (by omega) (by omega)) ?_)
        | (with_reducible refine Ev_some (isClient_eq _) ?_)
        | (with_reducible refine Ev_some (copyEvent_eq _ _ _ _ _ _ _ (by omega) (by omega)) ?_)
        | (refine if1 ?_)
        | (refine if2 ?_)
        | (refine if3 ?_)
        | (refine if4 ?_)
        | (refine if5 ?_)
        | (refine stp ?_; simp only [impl_Stand.j0])
        | (refine stp ?_; simp only [impl_Stand.j1])
        | (refine stp ?_; simp only [impl_Stand.j2])
        | (refine stp ?_; simp only [impl_Stand.j3]))
      ·obtain ⟨rfl, rfl, rfl⟩ := ev_zero h1
       exact ev_man (apart_snoc h1.1 h2 h3 h4 (by omega)) (fun e => absurd e (by decide))
     ·have hs := ev_sum h1
      simp only [if_neg (show ¬ (false = true) by decide)] at hs
      refine ⟨false, l ++ [x], w, 4, ?_, ev_auto (apart_snoc h1.1 h2 h3 h4 (by omega)) (fun e => absurd e (by decide)) q4.1 q5.1 (by omega) (by simp only [if_neg (show ¬ (false = true) by decide)]; omega), by simp, fun e => absurd e (by decide), fun _ => rfl, fun _ => by simp⟩
      simp only [impl_Stand.f]
      repeat (first
       | (dsimp only)
       | (with_reducible exact Ev.now _)
       | (simp only [bP_pos h1, bP_pos h2, bP_neg h3, bP_neg h4, if_true, Bool.not_true, Bool.not_false])
       | (with_reducible refine Ev.bind (Contains_ev _ _ (by omega)) ?_)
       | (with_reducible refine Ev.bind (implEventOk_ev _ _ _ _ _ _ _ (by omega) (by omega)) ?_)
       | (with_reducible refine Ev_some (isClient_eq _) ?_)
       | (with_reducible refine Ev_some (copyEvent_eq _ _ _ _ _ _ _ (by omega) (by omega)) ?_)
       | (refine if1 ?_)
       | (refine if2 ?_)
       | (refine if3 ?_)
       | (refine if4 ?_)
       | (refine if5 ?_)
       | (refine stp ?_; simp only [impl_Stand.j0])
       | (refine stp ?_; simp only [impl_Stand.j1])
       | (refine stp ?_; simp only [impl_Stand.j2])
       | (refine stp ?_; simp only [impl_Stand.j3]))
    ·cases a
     ·refine ⟨true, l, w, 0, ?_, h1, by omega, fun _ => rfl, fun e => absurd e (by decide), fun e => absurd e (by decide)⟩
      simp only [impl_Stand.f]
      repeat (first
       | (dsimp only)
       | (with_reducible exact Ev.now _)
       | (simp only [bP_pos h1, bP_pos h2, bP_neg h3, bP_neg h4, if_true, Bool.not_true, Bool.not_false])
       | (with_reducible refine Ev.bind (Contains_ev _ _ (by omega)) ?_)
       | (with_reducible refine Ev.bind (implEventOk_ev _ _ _ _ _ _ _ (by omega) (by omega)) ?_)
       | (with_reducible refine Ev_some (isClient_eq _) ?_)
       | (with_reducible refine Ev_some (copyEvent_eq _ _ _ _ _ _ _ (by omega) (by omega)) ?_)
       | (refine if1 ?_)
       | (refine if2 ?_)
       | (refine if3 ?_)
       | (refine if4 ?_)
       | (refine if5 ?_)
       | (refine stp ?_; simp only [impl_Stand.j0])
       | (refine stp ?_; simp only [impl_Stand.j1])
       | (refine stp ?_; simp only [impl_Stand.j2])
       | (refine stp ?_; simp only [impl_Stand.j3]))
     ·have hs := ev_sum h1
      simp only [if_true] at hs
      have ww : wrap64 (w + 1) = w + 1 := w64 (by omega) (by omega)
      refine ⟨false, l, w + 1, 0, ?_, ev_auto h1.1 (fun e => absurd e (by decide)) q4.1 (by omega) (by omega) (by simp only [if_neg (show ¬ (false = true) by decide)]; omega), by omega, fun _ => rfl, fun e => absurd e (by decide), fun _ => by simp⟩
      rw [← ww]
      simp only [impl_Stand.f]
      repeat (first
       | (dsimp only)
       | (with_reducible exact Ev.now _)
       | (simp only [bP_pos h1, bP_pos h2, bP_neg h3, bP_neg h4, if_true, Bool.not_true, Bool.not_false])
       | (with_reducible refine Ev.bind (Contains_ev _ _ (by omega)) ?_)
       | (with_reducible refine Ev.bind (implEventOk_ev _ _ _ _ _ _ _ (by omega) (by omega)) ?_)
       | (with_reducible refine Ev_some (isClient_eq _) ?_)
       | (with_reducible refine Ev_some (copyEvent_eq _ _ _ _ _ _ _ (by omega) (by omega)) ?_)
       | (refine if1 ?_)
       | (refine if2 ?_)
       | (refine if3 ?_)
       | (refine if4 ?_)
       | (refine if5 ?_)
       | (refine stp ?_; simp only [impl_Stand.j0])
       | (refine stp ?_; simp only [impl_Stand.j1])
       | (refine stp ?_; simp only [impl_Stand.j2])
       | (refine stp ?_; simp only [impl_Stand.j3]))
 ·refine ⟨s, l, w, 1, ?_, h1, by omega, fun e => absurd e (by decide), fun e => absurd e (by decide), fun _ => by simp⟩
  simp only [impl_Stand.f]
  repeat (first
   | (dsimp only)
   | (with_reducible exact Ev.now _)
   | (simp only [bP_pos h1, bP_neg h2, if_true, Bool.not_true, Bool.not_false])
   | (with_reducible refine Ev.bind (Contains_ev _ _ (by omega)) ?_)
   | (with_reducible refine Ev.bind (implEventOk_ev _ _ _ _ _ _ _ (by omega) (by omega)) ?_)
   | (with_reducible refine Ev_some (isClient_eq _) ?_)
   | (with_reducible refine Ev_some (copyEvent_eq _ _ _ _ _ _ _ (by omega) (by omega)) ?_)
   | (refine if1 ?_)
   | (refine if2 ?_)
   | (refine if3 ?_)
   | (refine if4 ?_)
   | (refine if5 ?_)
   | (refine stp ?_; simp only [impl_Stand.j0])
   | (refine stp ?_; simp only [impl_Stand.j1])
   | (refine stp ?_; simp only [impl_Stand.j2])
   | (refine stp ?_; simp only [impl_Stand.j3]))
theorem auto_l (s : List Int) (hws : ∀ x ∈ s, (Lit.int .u8 x).wf = true) (hsl : s.length ≤ 1048576) : ∀ d i : Nat, i + d = 26 → ∀ (raised on : Int) (a up : Bool) (l r : List Int) (u v w : Int), eventOk a up l r u v w → l.length + r.length ≤ i → (0 ≤ raised ∧ raised ≤ i) → (0 ≤ on ∧ on ≤ i) → (a = true → u = raised ∧ w = on) → u ≤ i → Ev (fun k => laws_FnAuto.l0 k s raised on i a up l r u v w) true
 | 0, i, hd, raised, on, a, up, l, r, u, v, w, h1, hn, hra, hon, hc, hu => by
  refine Ev.step (fun _ => rfl) ?_
  simp only [laws_FnAuto.l0, if_neg (show ¬ (i : Int) < 26 by omega)]
  cases a
  ·simp only [if_neg (show ¬ (false = true) by decide)]
   exact Ev.now _
  ·obtain ⟨rfl, rfl⟩ := hc rfl
   have hs := ev_sum h1
   have q4 := h1.2.2.2.1
   have h01 : (0 : Int) ≤ (if up = true then 1 else 0) := by split <;> omega
   simp only [if_true]
   exact Ev_eq (Ev.now _) (decide_eq_true (by omega))
 | d + 1, i, hd, raised, on, a, up, l, r, u, v, w, h1, hn, hra, hon, hc, hu => by
  obtain ⟨y, hy, y0, y1⟩ := at_some s hws ((i : Int) + 50) (by omega) (by omega) hsl
  obtain ⟨t, ht, t0, t1⟩ := at_some s hws ((i : Int) + 1) (by omega) (by omega) hsl
  have ih := auto_l s hws hsl d (i + 1) (by omega)
  have h32 := h1.1.1.1
  have h32r := h1.1.2.1.1
  refine Ev.step (fun _ => rfl) ?_
  simp only [laws_FnAuto.l0, if_pos (show (i : Int) < 26 by omega), w64 (show -9223372036854775808 ≤ (i : Int) + 50 by omega) (show (i : Int) + 50 ≤ 9223372036854775807 by omega), w64 (show -9223372036854775808 ≤ (i : Int) + 1 by omega) (show (i : Int) + 1 ≤ 9223372036854775807 by omega), hy, ht, Option.bind_some]
  rw [show ((i : Int) + 1) = ((i + 1 : Nat) : Int) by omega]
  have wr : wrap64 (raised + 1) = raised + 1 := w64 (by omega) (by omega)
  have wo : wrap64 (on + 1) = on + 1 := w64 (by omega) (by omega)
  by_cases c0 : Int.tmod t 5 = 0
  ·simp only [if_pos c0]
   obtain ⟨s', l', r', u', v', m, he, hok, hlen, ha, hm⟩ := raise_p a up l r u v w h1 (by omega) (by omega)
   refine Ev.bind he ?_
   simp only [if_true]
   have hl' := hok.1.1.1
   have hr' := hok.1.2.1.1
   have hj : Ev (fun k => laws_FnAuto.j1 k s raised on i false a s' l' r' u' v' w) true := by
    refine Ev.step (fun _ => rfl) ?_
    simp only [laws_FnAuto.j1, if_neg (show ¬ (false = true) by decide), wr, w64 (show -9223372036854775808 ≤ (i : Int) + 1 by omega) (show (i : Int) + 1 ≤ 9223372036854775807 by omega)]
    rw [show ((i : Int) + 1) = ((i + 1 : Nat) : Int) by omega]
    refine Ev.bind (specEventOk_ev a s' l' r' u' v' w (by omega) (by omega)) ?_
    simp only [bP_pos hok, if_true]
    refine ih _ _ _ _ _ _ _ _ _ hok (by omega) (by omega) (by omega) (fun e => ?_) ?_
    ·have := ha e
     have := hc e
     omega
    ·cases a
     ·have := hm rfl
      omega
     ·have := ha rfl
      omega
   cases a
   ·simp only [if_neg (show ¬ (false = true) by decide)]
    have hme := (hm rfl).2
    subst hme
    refine Ev.bind (sameInts_self _ (by omega)) ?_
    simp only [Bool.not_true]
    exact hj
   ·simp only [if_true]
    have := (ha rfl).2
    simp only [if_neg (show ¬ (m.length : Int) > 1 by omega)]
    exact hj
  ·simp only [if_neg c0]
   by_cases c1 : Int.tmod t 5 = 1
   ·simp only [if_pos c1]
    obtain ⟨v', he, hok⟩ := reset_p a up l r u v w h1 (by omega)
    refine Ev.bind he ?_
    simp only [if_true]
    refine Ev.step (fun _ => rfl) ?_
    simp only [laws_FnAuto.j2, if_neg (show ¬ (false = true) by decide), w64 (show -9223372036854775808 ≤ (i : Int) + 1 by omega) (show (i : Int) + 1 ≤ 9223372036854775807 by omega)]
    rw [show ((i : Int) + 1) = ((i + 1 : Nat) : Int) by omega]
    refine Ev.bind (specEventOk_ev a false l r u v' w (by omega) (by omega)) ?_
    simp only [bP_pos hok, if_true]
    exact ih _ _ _ _ _ _ _ _ _ hok (by omega) (by omega) (by omega) hc (by omega)
   ·simp only [if_neg c1]
    by_cases c2 : Int.tmod t 5 = 2
    ·simp only [if_pos c2]
     obtain ⟨r', w', c, he, hok, hlen, hw⟩ := goon_p a up l r u v w (Int.tmod y 6) h1 (by omega)
     refine Ev.bind he ?_
     have hr' := hok.1.2.1.1
     by_cases cc : c = 0
     ·simp only [if_pos cc]
      refine Ev.bind (specEventOk_ev a up l r' u v w' (by omega) (by omega)) ?_
      simp only [bP_pos hok, if_true, wo]
      refine ih _ _ _ _ _ _ _ _ _ hok (by omega) (by omega) (by omega) (fun e => ?_) (by omega)
      have h5 := hw e
      rw [if_pos cc] at h5
      have := hc e
      omega
     ·simp only [if_neg cc]
      refine Ev.bind (specEventOk_ev a up l r' u v w' (by omega) (by omega)) ?_
      simp only [bP_pos hok, if_true]
      refine ih _ _ _ _ _ _ _ _ _ hok (by omega) (by omega) (by omega) (fun e => ?_) (by omega)
      have h5 := hw e
      rw [if_neg cc] at h5
      have := hc e
      omega
    ·simp only [if_neg c2]
     by_cases c3 : Int.tmod t 5 = 3
     ·simp only [if_pos c3]
      obtain ⟨s', l', r', v', m, c, he, hok, hlen⟩ := back_p a up l r u v w (Int.tmod y 6) h1 (by omega)
      obtain ⟨z, hs', hi', _⟩ := both_StepBack a up l r u v w (Int.tmod y 6) (by omega) (by omega)
      obtain rfl := Ev_uniq he hi'
      refine Ev.bind he (Ev.bind hs' ?_)
      simp only [if_true]
      have hl' := hok.1.1.1
      have hr' := hok.1.2.1.1
      refine Ev.bind (specEventOk_ev a s' l' r' u v' w (by omega) (by omega)) ?_
      simp only [bP_pos hok, if_true]
      exact ih _ _ _ _ _ _ _ _ _ hok (by omega) (by omega) (by omega) hc (by omega)
     ·simp only [if_neg c3]
      obtain ⟨s', l', w', c, he, hok, hlen, hc0, hc4, hw⟩ := stand_p a up l r u v w (Int.tmod y 6) h1 (by omega) (by omega)
      refine Ev.bind he ?_
      have hl' := hok.1.1.1
      have hj : ∀ o : Int, (0 ≤ o ∧ o ≤ ((i + 1 : Nat) : Int)) → (a = true → w' = o) → Ev (fun k => laws_FnAuto.j3 k s raised o i c a up l r u v w a s' l' r u v w') true := by
       intro o ho hwo
       have hj4 : Ev (fun k => laws_FnAuto.j4 k s raised o i false a s' l' r u v w') true := by
        refine Ev.step (fun _ => rfl) ?_
        simp only [laws_FnAuto.j4, if_neg (show ¬ (false = true) by decide), w64 (show -9223372036854775808 ≤ (i : Int) + 1 by omega) (show (i : Int) + 1 ≤ 9223372036854775807 by omega)]
        rw [show ((i : Int) + 1) = ((i + 1 : Nat) : Int) by omega]
        refine Ev.bind (specEventOk_ev a s' l' r u v w' (by omega) (by omega)) ?_
        simp only [bP_pos hok, if_true]
        refine ih _ _ _ _ _ _ _ _ _ hok (by omega) (by omega) (by omega) (fun e => ⟨(hc e).1, hwo e⟩) (by omega)
       refine Ev.step (fun _ => rfl) ?_
       simp only [laws_FnAuto.j3]
       by_cases cc : c = 4
       ·simp only [if_pos cc]
        rw [hc4 cc]
        exact hj4
       ·simp only [if_neg cc]
        exact hj4
      by_cases cc : c = 0
      ·have hup := hc0 cc
       simp only [if_pos cc, if_pos hup, wo]
       refine hj (on + 1) (by omega) (fun e => ?_)
       have h5 := hw e
       rw [if_pos cc] at h5
       have := hc e
       omega
      ·simp only [if_neg cc]
       refine hj on (by omega) (fun e => ?_)
       have h5 := hw e
       rw [if_neg cc] at h5
       have := hc e
       omega
theorem auto_ev (s : List Int) (hw : ∀ x ∈ s, (Lit.int .u8 x).wf = true) : Ev (fun k => laws_FnAuto.f k s) true := by
 simp only [laws_FnAuto.f, laws_big.f, Option.bind_some]
 by_cases h : (s.length : Int) > 1048576
 ·simp only [decide_eq_true h, if_true]
  exact Ev.now _
 ·simp only [decide_eq_false h, if_neg (show ¬ (false = true) by decide)]
  obtain ⟨t, ht, t0, t1⟩ := at_some s hw 0 (by omega) (by omega) (by omega)
  simp only [ht, Option.bind_some]
  have ap : apartP [] [] := ⟨nil_ok, nil_ok, fun x hx => by cases hx⟩
  have ok : ∀ a : Bool, eventOk a false [] [] 0 0 0 := fun a => by
   cases a
   ·exact ev_man ap (fun _ => rfl)
   ·exact ev_auto ap (fun _ => rfl) (by omega) (by omega) (by omega) (by simp)
  exact auto_l s hw (by omega) 26 0 (by omega) 0 0 _ false [] [] 0 0 0 (ok _) (by simp) (by omega) (by omega) (fun _ => ⟨rfl, rfl⟩) (by omega)
end Go.Proofs.Ytdagpmnadapbjaa.Q
