/- Plain laws of what the printed functions compute, the program's and the reference's, for every number and list; conditions: those of each theorem. -/
import Derived.Test.YtdagpmnadapbjaaZx1
import Derived.Test.YtdagpmnadapbjaaZx2
import Derived.Test.YtdagpmnadapbjaaZx3
import Derived.Test.YtdagpmnadapbjaaZx4
import Derived.Test.YtdagpmnadapbjaaZx5
import Derived.Test.YtdagpmnadapbjaaZx6
import Derived.Test.YtdagpmnadapbjaaZx7
import Derived.Test.YtdagpmnadapbjaaZx8
import Derived.Test.YtdagpmnadapbjaaZx9
import Derived.Test.YtdagpmnadapbjaaZx10
import Derived.Test.YtdagpmnadapbjaaZx11
import Derived.Test.YtdagpmnadapbjaaZx12
import Derived.Test.YtdagpmnadapbjaaZx13
namespace Go.Proofs.Ytdagpmnadapbjaa.Q
open Go.RowKit Go.Proofs.Ytdagpmnadapbjaa.Z Go.Proofs.YtdagpmnadapbjaaW.PrintWords Go.Proofs.YtdagpmnadapbjaaW.PrintLast Go.Proofs.YtdagpmnadapbjaaW.PrintMore
set_option linter.unusedVariables false
set_option linter.unusedSimpArgs false
theorem w64 {x : Int} (h0 : -9223372036854775808 ≤ x) (h1 : x ≤ 9223372036854775807) : wrap64 x = x := by unfold wrap64; omega
theorem w64n {n m : Nat} (h : n < m) (hm : m ≤ 9223372036854775807) : wrap64 ((n : Int) + 1) = ((n + 1 : Nat) : Int) := by rw [w64 (by omega) (by omega)]; omega
theorem rd_nat (l : List Int) (n : Nat) : rd l (n : Int) = l.getD n 0 := by simp [rd]
theorem rdOf_nat {α : Type} (d : α) (l : List α) (n : Nat) : rdOf d l (n : Int) = l.getD n d := by simp [rdOf]
theorem drop_cons {α : Type} (d : α) (l : List α) (n : Nat) (h : n < l.length) : l.drop n = l.getD n d :: l.drop (n + 1) := by
  rw [List.drop_eq_getElem_cons h, List.getD_eq_getElem?_getD, List.getElem?_eq_getElem h]; rfl
theorem take_cons {α : Type} (d : α) (l : List α) (n : Nat) (h : n < l.length) : l.take (n + 1) = l.take n ++ [l.getD n d] := by
  rw [List.take_succ_eq_append_getElem h, List.getD_eq_getElem?_getD, List.getElem?_eq_getElem h]; rfl
noncomputable def bP (p : Prop) : Bool := @decide p (Classical.propDecidable p)
theorem bP_iff {p : Prop} : bP p = true ↔ p := by simp [bP]
theorem bP_pos {p : Prop} (h : p) : bP p = true := bP_iff.2 h
theorem bP_neg {p : Prop} (h : ¬ p) : bP p = false := by
  cases hb : bP p
  · rfl
  · exact absurd (bP_iff.1 hb) h
theorem bP_congr {p q : Prop} (h : p ↔ q) : bP p = bP q := by rw [propext h]
theorem bP_dec (p : Prop) [Decidable p] : decide p = bP p := by
  by_cases h : p
  · rw [bP_pos h, decide_eq_true h]
  · rw [bP_neg h, decide_eq_false h]
theorem Ev_eq {α : Type} {g : Nat → Option α} {r s : α} (h : Ev g r) (e : r = s) : Ev g s := e ▸ h
theorem Ev_ifpos {α : Type} {c : Prop} [Decidable c] {g f : Nat → Option α} {r : α} (h : c) (k : Ev g r) : Ev (fun n => if c then g n else f n) r := by
  simpa only [if_pos h] using k
theorem Ev_ifneg {α : Type} {c : Prop} [Decidable c] {g f : Nat → Option α} {r : α} (h : ¬ c) (k : Ev f r) : Ev (fun n => if c then g n else f n) r := by
  simpa only [if_neg h] using k
theorem Ev_some {α β : Type} {g : Option α} {f : Nat → α → Option β} {a : α} {r : β} (h : g = some a) (k : Ev (fun n => f n a) r) : Ev (fun n => g.bind (f n)) r := by
  simpa only [h, Option.bind_some] using k
theorem Ev_ofk {α : Type} {r : α} {g : Option α} (h : g = some r) : Ev (fun _ => g) r := ⟨0, fun _ _ => h⟩
def upFrom : Int → Nat → List Int
  | _, 0 => []
  | v, n + 1 => v :: upFrom (v + 1) n
theorem upFrom_length : ∀ n v, (upFrom v n).length = n
  | 0, _ => rfl
  | n + 1, v => by simp [upFrom, upFrom_length n]
def pos (a : Int) : List Int → Int → Int
  | [], _ => -1
  | x :: xs, i => if x = a then i else pos a xs (i + 1)
theorem pos_spec (a : Int) : ∀ (l : List Int) (i : Int), 0 ≤ i → (a ∈ l → i ≤ pos a l i ∧ pos a l i < i + l.length) ∧ (a ∉ l → pos a l i = -1)
  | [], i, _ => by simp [pos]
  | x :: xs, i, hi => by
    have ih := pos_spec a xs (i + 1) (by omega)
    unfold pos
    by_cases hx : x = a
    · rw [if_pos hx]
      refine ⟨fun _ => ⟨Int.le_refl _, by simp only [List.length_cons]; omega⟩, fun h => absurd (by rw [hx]; exact List.mem_cons_self) h⟩
    · rw [if_neg hx]
      refine ⟨fun h => ?_, fun h => ih.2 (fun h' => h (List.mem_cons_of_mem _ h'))⟩
      have h' : a ∈ xs := by
        rcases List.mem_cons.1 h with h | h
        · exact absurd h.symm hx
        · exact h
      have := ih.1 h'
      simp only [List.length_cons]
      omega
theorem pos_mem (a : Int) (l : List Int) : (0 ≤ pos a l 0) ↔ a ∈ l := by
  have h := pos_spec a l 0 (by omega)
  constructor
  · intro h0
    by_cases hm : a ∈ l
    · exact hm
    · have := h.2 hm; omega
  · intro hm
    exact (h.1 hm).1
theorem toIntS_l (l : List Int) (hl : l.length ≤ 9223372036854775807) : ∀ d n : Nat, n + d = l.length → ∀ out : List Int, out.length = l.length → Ev (fun k => laws_toIntS.l0 k l out n) (out.take n ++ l.drop n)
  | 0, n, hd, out, ho => by
    refine Ev.step (fun _ => rfl) ?_
    simp only [laws_toIntS.l0, if_neg (show ¬ (n : Int) < (l.length : Int) by omega)]
    rw [List.drop_eq_nil_of_le (by omega), List.append_nil, List.take_of_length_le (by omega)]
    exact Ev.now _
  | d + 1, n, hd, out, ho => by
    refine Ev.step (fun _ => rfl) ?_
    simp only [laws_toIntS.l0, if_pos (show (n : Int) < (l.length : Int) by omega), if_pos (show (0 : Int) ≤ (n : Int) by omega), if_pos (show (n : Int) < (out.length : Int) by omega), w64n (show n < l.length by omega) hl, Int.toNat_natCast, rd_nat]
    have ih := toIntS_l l hl d (n + 1) (by omega) (out.set n (l.getD n 0)) (by simp [ho])
    refine Ev_eq ih ?_
    rw [take_cons 0 _ n (by simp; omega), List.take_set_of_le (Nat.le_refl n), drop_cons 0 l n (by omega), List.append_assoc]
    congr 2
    simp [List.getD_eq_getElem?_getD, List.getElem?_set_self (show n < out.length by omega)]
theorem toIntS_ev (l : List Int) (hl : l.length ≤ 35184372088832) : Ev (fun k => laws_toIntS.f k l) l := by
  simp only [laws_toIntS.f, if_pos (show (0 : Int) ≤ (l.length : Int) by omega), Int.toNat_natCast, if_pos hl]
  have h := toIntS_l l (by omega) l.length 0 (by omega) (List.replicate l.length 0) (by simp)
  simpa using h
theorem eqIntS_l (a b : List Int) (hl : a.length ≤ 9223372036854775807) (he : a.length = b.length) : ∀ d n : Nat, n + d = a.length → Ev (fun k => laws_eqIntS.l0 k a b n) (bP (a.drop n = b.drop n))
  | 0, n, hd => by
    refine Ev.step (fun _ => rfl) ?_
    simp only [laws_eqIntS.l0, if_neg (show ¬ (n : Int) < (a.length : Int) by omega)]
    rw [bP_pos (by rw [List.drop_eq_nil_of_le (by omega), List.drop_eq_nil_of_le (by omega)])]
    exact Ev.now _
  | d + 1, n, hd => by
    refine Ev.step (fun _ => rfl) ?_
    simp only [laws_eqIntS.l0, if_pos (show (n : Int) < (a.length : Int) by omega), if_pos (show (0 : Int) ≤ (n : Int) by omega), if_pos (show (n : Int) < (b.length : Int) by omega), w64n (show n < a.length by omega) hl, rd_nat]
    rw [drop_cons 0 a n (by omega), drop_cons 0 b n (by omega)]
    by_cases h : a.getD n 0 = b.getD n 0
    · simp only [if_pos h]
      exact Ev_eq (eqIntS_l a b hl he d (n + 1) (by omega)) (bP_congr ⟨fun e => by rw [h, e], fun e => (List.cons.inj e).2⟩)
    · simp only [if_neg h]
      rw [bP_neg (fun e => h (List.cons.inj e).1)]
      exact Ev.now _
theorem eqIntS_ev (a b : List Int) (hl : a.length ≤ 9223372036854775807) : Ev (fun k => laws_eqIntS.f k a b) (bP (a = b)) := by
  by_cases h : a.length = b.length
  · simp only [laws_eqIntS.f, if_pos (show (a.length : Int) = (b.length : Int) by omega)]
    simpa using eqIntS_l a b hl h a.length 0 (by omega)
  · simp only [laws_eqIntS.f, if_neg (show ¬ (a.length : Int) = (b.length : Int) by omega)]
    rw [bP_neg (fun e => h (by rw [e]))]
    exact Ev.now _
theorem eqIntS_self (a : List Int) (hl : a.length ≤ 9223372036854775807) : Ev (fun k => laws_eqIntS.f k a a) true := Ev_eq (eqIntS_ev a a hl) (bP_pos rfl)
theorem szIntS_neg (l : List Int) (v : Int) (hl : l.length ≤ 9223372036854775807) (h0 : 0 ≤ v) (h1 : v ≤ 1048576) (h : v < l.length) : laws_szIntS.f l v = some (-1) := by
  simp only [laws_szIntS.f, w64 (show -9223372036854775808 ≤ v - (l.length : Int) by omega) (show v - (l.length : Int) ≤ 9223372036854775807 by omega), if_pos (show v - (l.length : Int) < 0 by omega)]
theorem szIntS_pos (l : List Int) (v : Int) (h1 : v ≤ 1048576) (h : (l.length : Int) ≤ v) : laws_szIntS.f l v = some (v - l.length) := by
  simp only [laws_szIntS.f, w64 (show -9223372036854775808 ≤ v - (l.length : Int) by omega) (show v - (l.length : Int) ≤ 9223372036854775807 by omega), if_neg (show ¬ v - (l.length : Int) < 0 by omega)]
theorem Index_l (l : List Int) (a : Int) (hl : l.length ≤ 9223372036854775807) : ∀ d n : Nat, n + d = l.length → Ev (fun k => slices_Index_int_int.l0 k l a (l.length : Int) n) (pos a (l.drop n) n)
  | 0, n, hd => by
    refine Ev.step (fun _ => rfl) ?_
    simp only [slices_Index_int_int.l0, if_neg (show ¬ (n : Int) < (l.length : Int) by omega)]
    rw [List.drop_eq_nil_of_le (by omega)]
    exact Ev.now _
  | d + 1, n, hd => by
    refine Ev.step (fun _ => rfl) ?_
    simp only [slices_Index_int_int.l0, if_pos (show (n : Int) < (l.length : Int) by omega), if_pos (show (0 : Int) ≤ (n : Int) by omega), w64n (show n < l.length by omega) hl, rd_nat]
    rw [drop_cons 0 l n (by omega)]
    by_cases h : a = l.getD n 0
    · simp only [if_pos h]
      refine Ev_eq (Ev.now _) ?_
      simp only [pos]
      rw [if_pos h.symm]
    · simp only [if_neg h]
      refine Ev_eq (Index_l l a hl d (n + 1) (by omega)) ?_
      simp only [pos]
      rw [if_neg (fun e => h e.symm)]
      rw [show ((n + 1 : Nat) : Int) = (n : Int) + 1 by omega]
theorem Index_ev (l : List Int) (a : Int) (hl : l.length ≤ 9223372036854775807) : Ev (fun k => slices_Index_int_int.f k l a) (pos a l 0) := by
  simp only [slices_Index_int_int.f]
  exact Index_l l a hl l.length 0 (by omega)
theorem Contains_ev (l : List Int) (a : Int) (hl : l.length ≤ 9223372036854775807) : Ev (fun k => slices_Contains_int_int.f k l a) (bP (a ∈ l)) := by
  simp only [slices_Contains_int_int.f]
  refine Ev.bind (Index_ev l a hl) ?_
  refine Ev_eq (Ev.now _) ?_
  rw [bP_dec]
  exact bP_congr (pos_mem a l)
theorem l1In_eq (a b c : Int) : spec_l1In.f a b c = some (bP (b ≤ a ∧ a ≤ c)) := by
  simp only [spec_l1In.f]
  by_cases h : a ≥ b
  · rw [if_pos h, bP_dec, bP_congr (show (a ≤ c) ↔ (b ≤ a ∧ a ≤ c) by omega)]
  · rw [if_neg h, bP_neg (by omega)]
theorem within_eq (a b c : Int) : impl_within.f a b c = some (bP (b ≤ a ∧ a ≤ c)) := by
  simp only [impl_within.f]
  by_cases h : a ≥ b
  · rw [if_pos h, bP_dec, bP_congr (show (a ≤ c) ↔ (b ≤ a ∧ a ≤ c) by omega)]
  · rw [if_neg h, bP_neg (by omega)]
def isCl (a : Int) : Prop := 0 ≤ a ∧ a ≤ 63
theorem l2Client_eq (a : Int) : spec_l2Client.f a = some (bP (isCl a)) := by
  simp only [spec_l2Client.f, l1In_eq, Option.bind_some, isCl]
theorem isClient_eq (a : Int) : impl_isClient.f a = some (bP (isCl a)) := by
  simp only [impl_isClient.f, within_eq, Option.bind_some, isCl]
theorem l2Has_l (l : List Int) (a : Int) (hl : l.length ≤ 9223372036854775807) : ∀ d n : Nat, n + d = l.length → Ev (fun k => spec_l2Has.l0 k l a n) (bP (a ∈ l.drop n))
  | 0, n, hd => by
    refine Ev.step (fun _ => rfl) ?_
    simp only [spec_l2Has.l0, if_neg (show ¬ (n : Int) < (l.length : Int) by omega)]
    rw [List.drop_eq_nil_of_le (by omega), bP_neg (by simp)]
    exact Ev.now _
  | d + 1, n, hd => by
    refine Ev.step (fun _ => rfl) ?_
    simp only [spec_l2Has.l0, if_pos (show (n : Int) < (l.length : Int) by omega), if_pos (show (0 : Int) ≤ (n : Int) by omega), w64n (show n < l.length by omega) hl, rd_nat]
    rw [drop_cons 0 l n (by omega)]
    by_cases h : l.getD n 0 = a
    · simp only [if_pos h]
      rw [bP_pos (by rw [h]; exact List.mem_cons_self)]
      exact Ev.now _
    · simp only [if_neg h]
      refine Ev_eq (l2Has_l l a hl d (n + 1) (by omega)) (bP_congr ?_)
      rw [List.mem_cons]
      exact ⟨.inr, fun h' => h'.resolve_left (fun e => h e.symm)⟩
theorem l2Has_ev (l : List Int) (a : Int) (hl : l.length ≤ 9223372036854775807) : Ev (fun k => spec_l2Has.f k l a) (bP (a ∈ l)) := by
  simp only [spec_l2Has.f]
  exact l2Has_l l a hl l.length 0 (by omega)
def lineFrom (l : List Int) (n : Nat) : Prop := ∀ i, n ≤ i → i < l.length → isCl (l.getD i 0) ∧ l.getD i 0 ∉ l.take i
def lineOk (l : List Int) : Prop := l.length ≤ 32 ∧ lineFrom l 0
theorem lineFrom_step (l : List Int) (n : Nat) (h : n < l.length) : lineFrom l n ↔ (isCl (l.getD n 0) ∧ l.getD n 0 ∉ l.take n) ∧ lineFrom l (n + 1) := by
  constructor
  · intro hf
    exact ⟨hf n (Nat.le_refl _) h, fun i hi => hf i (by omega)⟩
  · rintro ⟨h0, hf⟩ i hi hl
    rcases Nat.eq_or_lt_of_le hi with rfl | hlt
    · exact h0
    · exact hf i hlt hl
theorem specLineOk_l (l : List Int) (hl : l.length ≤ 9223372036854775807) : ∀ d n : Nat, n + d = l.length → Ev (fun k => spec_LineOk.l0 k l n) (bP (lineFrom l n))
  | 0, n, hd => by
    refine Ev.step (fun _ => rfl) ?_
    simp only [spec_LineOk.l0, if_neg (show ¬ (n : Int) < (l.length : Int) by omega)]
    rw [bP_pos (show lineFrom l n from fun i hi hl => by omega)]
    exact Ev.now _
  | d + 1, n, hd => by
    refine Ev.step (fun _ => rfl) ?_
    simp only [spec_LineOk.l0, if_pos (show (n : Int) < (l.length : Int) by omega), if_pos (show (0 : Int) ≤ (n : Int) by omega), w64n (show n < l.length by omega) hl, rd_nat, l2Client_eq, Option.bind_some, if_pos (show (n : Int) ≤ (l.length : Int) by omega), Int.toNat_natCast]
    rw [bP_congr (lineFrom_step l n (by omega))]
    by_cases h1 : isCl (l.getD n 0)
    · simp only [bP_pos h1, if_true]
      refine Ev.bind (l2Has_ev (l.take n) (l.getD n 0) (by rw [List.length_take]; omega)) ?_
      by_cases h2 : l.getD n 0 ∈ l.take n
      · simp only [bP_pos h2, if_true]
        rw [bP_neg (fun h => h.1.2 h2)]
        exact Ev.now _
      · simp only [bP_neg h2, if_neg (show ¬ (false = true) by decide)]
        exact Ev_eq (specLineOk_l l hl d (n + 1) (by omega)) (bP_congr ⟨fun h => ⟨⟨h1, h2⟩, h⟩, fun h => h.2⟩)
    · simp only [bP_neg h1, if_neg (show ¬ (false = true) by decide)]
      rw [bP_neg (fun h => h1 h.1.1)]
      exact Ev.now _
theorem specLineOk_ev (l : List Int) (hl : l.length ≤ 9223372036854775807) : Ev (fun k => spec_LineOk.f k l) (bP (lineOk l)) := by
  by_cases h : l.length ≤ 32
  · simp only [spec_LineOk.f, if_neg (show ¬ (l.length : Int) > 32 by omega)]
    exact Ev_eq (specLineOk_l l hl l.length 0 (by omega)) (bP_congr ⟨fun h' => ⟨h, h'⟩, fun h' => h'.2⟩)
  · simp only [spec_LineOk.f, if_pos (show (l.length : Int) > 32 by omega)]
    rw [bP_neg (fun h' => h h'.1)]
    exact Ev.now _
theorem clientsOk_l (l : List Int) (hl : l.length ≤ 9223372036854775807) : ∀ d n : Nat, n + d = l.length → Ev (fun k => impl_clientsOk.l0 k l l (l.length : Int) n) (bP (l.length ≤ 32 ∧ lineFrom l n))
  | 0, n, hd => by
    refine Ev.step (fun _ => rfl) ?_
    simp only [impl_clientsOk.l0, if_neg (show ¬ (n : Int) < (l.length : Int) by omega)]
    refine Ev_eq (Ev.now _) ?_
    rw [bP_dec]
    exact bP_congr ⟨fun h => ⟨by omega, fun i hi hl => by omega⟩, fun h => by have := h.1; omega⟩
  | d + 1, n, hd => by
    refine Ev.step (fun _ => rfl) ?_
    simp only [impl_clientsOk.l0, if_pos (show (n : Int) < (l.length : Int) by omega), if_pos (show (0 : Int) ≤ (n : Int) by omega), w64n (show n < l.length by omega) hl, rd_nat, isClient_eq, Option.bind_some, if_pos (show (n : Int) ≤ (l.length : Int) by omega), Int.toNat_natCast]
    rw [bP_congr (and_congr_right fun _ => lineFrom_step l n (by omega))]
    by_cases h1 : isCl (l.getD n 0)
    · simp only [bP_pos h1, if_true]
      refine Ev.bind (Contains_ev (l.take n) (l.getD n 0) (by rw [List.length_take]; omega)) ?_
      by_cases h2 : l.getD n 0 ∈ l.take n
      · simp only [bP_pos h2, if_true]
        rw [bP_neg (fun h => h.2.1.2 h2)]
        exact Ev.now _
      · simp only [bP_neg h2, if_neg (show ¬ (false = true) by decide)]
        exact Ev_eq (clientsOk_l l hl d (n + 1) (by omega)) (bP_congr ⟨fun h => ⟨h.1, ⟨h1, h2⟩, h.2⟩, fun h => ⟨h.1, h.2.2⟩⟩)
    · simp only [bP_neg h1, if_neg (show ¬ (false = true) by decide)]
      rw [bP_neg (fun h => h1 h.2.1.1)]
      exact Ev.now _
theorem clientsOk_ev (l : List Int) (hl : l.length ≤ 9223372036854775807) : Ev (fun k => impl_clientsOk.f k l) (bP (lineOk l)) := by
  simp only [impl_clientsOk.f]
  exact clientsOk_l l hl l.length 0 (by omega)
theorem implLineOk_ev (l : List Int) (hl : l.length ≤ 9223372036854775807) : Ev (fun k => impl_LineOk.f k l) (bP (lineOk l)) := by
  simp only [impl_LineOk.f]
  exact Ev.bind (clientsOk_ev l hl) (Ev.now _)
theorem lineOk_once {l : List Int} (h : lineOk l) (a : Int) : ∀ i j, i < l.length → j < l.length → l.getD i 0 = a → l.getD j 0 = a → i = j := by
  have key : ∀ i j, i < j → j < l.length → l.getD i 0 = a → l.getD j 0 = a → False := by
    intro i j hij hj ei ej
    have := (h.2 j (by omega) hj).2
    apply this
    rw [ej, ← ei, List.mem_iff_getElem?]
    exact ⟨i, by rw [List.getElem?_take_of_lt hij, List.getD_eq_getElem?_getD, List.getElem?_eq_getElem (by omega)]; rfl⟩
  intro i j hi hj ei ej
  rcases Nat.lt_trichotomy i j with hlt | heq | hgt
  · exact (key i j hlt hj ei ej).elim
  · exact heq
  · exact (key j i hgt hi ej ei).elim
theorem isCount_eq (a : Int) : impl_isCount.f a = some (bP (0 ≤ a ∧ a ≤ 1000000000)) := by
  simp only [impl_isCount.f, within_eq, Option.bind_some]
def apartP (l r : List Int) : Prop := lineOk l ∧ lineOk r ∧ ∀ x ∈ r, x ∉ l
theorem l6Waits_l (l r : List Int) (hl : l.length ≤ 9223372036854775807) (hr : r.length ≤ 9223372036854775807) : ∀ d n : Nat, n + d = r.length → Ev (fun k => spec_l6Waits.l0 k l r n) (bP (∀ x ∈ r.drop n, x ∉ l))
  | 0, n, hd => by
    refine Ev.step (fun _ => rfl) ?_
    simp only [spec_l6Waits.l0, if_neg (show ¬ (n : Int) < (r.length : Int) by omega)]
    rw [List.drop_eq_nil_of_le (by omega), bP_pos (by simp)]
    exact Ev.now _
  | d + 1, n, hd => by
    refine Ev.step (fun _ => rfl) ?_
    simp only [spec_l6Waits.l0, if_pos (show (n : Int) < (r.length : Int) by omega), if_pos (show (0 : Int) ≤ (n : Int) by omega), w64n (show n < r.length by omega) hr, rd_nat]
    refine Ev.bind (l2Has_ev l (r.getD n 0) hl) ?_
    rw [drop_cons 0 r n (by omega)]
    by_cases h : r.getD n 0 ∈ l
    · simp only [bP_pos h, if_true]
      rw [bP_neg (fun h' => h' _ List.mem_cons_self h)]
      exact Ev.now _
    · simp only [bP_neg h, if_neg (show ¬ (false = true) by decide)]
      exact Ev_eq (l6Waits_l l r hl hr d (n + 1) (by omega)) (bP_congr ⟨fun h' x hx => (List.mem_cons.1 hx).elim (fun e => e ▸ h) (h' x), fun h' x hx => h' x (List.mem_cons_of_mem _ hx)⟩)
theorem l6Waits_ev (l r : List Int) (hl : l.length ≤ 9223372036854775807) (hr : r.length ≤ 9223372036854775807) : Ev (fun k => spec_l6Waits.f k l r) (bP (apartP l r)) := by
  simp only [spec_l6Waits.f]
  refine Ev.bind (specLineOk_ev l hl) ?_
  by_cases h1 : lineOk l
  · simp only [bP_pos h1, if_true]
    refine Ev.bind (specLineOk_ev r hr) ?_
    refine Ev.step (fun _ => rfl) ?_
    by_cases h2 : lineOk r
    · simp only [bP_pos h2, spec_l6Waits.j0, Bool.not_true, if_neg (show ¬ (false = true) by decide)]
      exact Ev_eq (l6Waits_l l r hl hr r.length 0 (by omega)) (bP_congr ⟨fun h => ⟨h1, h2, h⟩, fun h => h.2.2⟩)
    · simp only [bP_neg h2, spec_l6Waits.j0, Bool.not_false, if_true]
      rw [bP_neg (fun h => h2 h.2.1)]
      exact Ev.now _
  · simp only [bP_neg h1, if_neg (show ¬ (false = true) by decide)]
    refine Ev.step (fun _ => rfl) ?_
    simp only [spec_l6Waits.j0, if_true]
    rw [bP_neg (fun h => h1 h.1)]
    exact Ev.now _
theorem IFap_l (l r : List Int) (hl : l.length ≤ 9223372036854775807) (hr : r.length ≤ 9223372036854775807) : ∀ d n : Nat, n + d = l.length → ∃ i : Int, Ev (fun k => slices_IndexFunc_ap.l0 k l r (l.length : Int) n) i ∧ (0 ≤ i ↔ ∃ x ∈ l.drop n, x ∈ r)
  | 0, n, hd => by
    refine ⟨-1, Ev.step (fun _ => rfl) ?_, ?_⟩
    · simp only [slices_IndexFunc_ap.l0, if_neg (show ¬ (n : Int) < (l.length : Int) by omega)]
      exact Ev.now _
    · rw [List.drop_eq_nil_of_le (by omega)]
      simp
  | d + 1, n, hd => by
    obtain ⟨i, h1, h2⟩ := IFap_l l r hl hr d (n + 1) (by omega)
    rw [drop_cons 0 l n (by omega)]
    by_cases h : l.getD n 0 ∈ r
    · refine ⟨n, Ev.step (fun _ => rfl) ?_, ⟨fun _ => ⟨_, List.mem_cons_self, h⟩, fun _ => by omega⟩⟩
      simp only [slices_IndexFunc_ap.l0, if_pos (show (n : Int) < (l.length : Int) by omega), if_pos (show (0 : Int) ≤ (n : Int) by omega), w64n (show n < l.length by omega) hl, rd_nat, impl_apart_1.f]
      refine Ev.bind (Contains_ev r (l.getD n 0) hr) ?_
      simp only [bP_pos h, if_true]
      exact Ev.now _
    · refine ⟨i, Ev.step (fun _ => rfl) ?_, h2.trans ⟨fun ⟨x, hx, hy⟩ => ⟨x, List.mem_cons_of_mem _ hx, hy⟩, fun ⟨x, hx, hy⟩ => (List.mem_cons.1 hx).elim (fun e => absurd (e ▸ hy) h) (fun hx => ⟨x, hx, hy⟩)⟩⟩
      simp only [slices_IndexFunc_ap.l0, if_pos (show (n : Int) < (l.length : Int) by omega), if_pos (show (0 : Int) ≤ (n : Int) by omega), w64n (show n < l.length by omega) hl, rd_nat, impl_apart_1.f]
      refine Ev.bind (Contains_ev r (l.getD n 0) hr) ?_
      simp only [bP_neg h, if_neg (show ¬ (false = true) by decide)]
      exact h1
theorem apart_ev (l r : List Int) (hl : l.length ≤ 9223372036854775807) (hr : r.length ≤ 9223372036854775807) : Ev (fun k => impl_apart.f k l r) (bP (apartP l r)) := by
  simp only [impl_apart.f]
  refine Ev.bind (implLineOk_ev l hl) ?_
  by_cases h1 : lineOk l
  · simp only [bP_pos h1, if_true]
    refine Ev.bind (clientsOk_ev r hr) ?_
    by_cases h2 : lineOk r
    · obtain ⟨i, h3, h4⟩ := IFap_l r l hr hl r.length 0 (by omega)
      rw [List.drop_zero] at h4
      simp only [bP_pos h2, if_true, slices_ContainsFunc_ap.f, slices_IndexFunc_ap.f]
      refine Ev.bind (Ev.bind h3 (Ev.now _)) ?_
      refine Ev_eq (Ev.now _) ?_
      rw [bP_dec, bP_congr h4]
      by_cases h5 : ∃ x ∈ r, x ∈ l
      · rw [bP_pos h5, bP_neg (fun h => by obtain ⟨x, hx, hy⟩ := h5; exact h.2.2 x hx hy)]
        rfl
      · rw [bP_neg h5, bP_pos ⟨h1, h2, fun x hx hy => h5 ⟨x, hx, hy⟩⟩]
        rfl
    · simp only [bP_neg h2, if_neg (show ¬ (false = true) by decide)]
      rw [bP_neg (fun h => h2 h.2.1)]
      exact Ev.now _
  · simp only [bP_neg h1, if_neg (show ¬ (false = true) by decide)]
    rw [bP_neg (fun h => h1 h.1)]
    exact Ev.now _
theorem szInt2_cases (l r : List Int) (w : Int) (h0 : 0 ≤ w) (h2 : w ≤ 1048576) (hl : l.length ≤ 9223372036854775807) (hr : r.length ≤ 9223372036854775807) : ∃ v, ((laws_szIntS.f l w).bind fun t => if t < 0 then some (-1) else (laws_szIntS.f r t).bind fun t' => if t' < 0 then some (-1) else some t') = some v ∧ (v < 0 ∨ (0 ≤ v ∧ l.length + r.length ≤ w)) := by
  by_cases h1 : w < l.length
  · exact ⟨-1, by rw [szIntS_neg l _ hl h0 h2 h1]; rfl, .inl (by omega)⟩
  · by_cases h3 : w - l.length < r.length
    · refine ⟨-1, ?_, .inl (by omega)⟩
      rw [szIntS_pos l _ (by omega) (by omega)]
      simp only [Option.bind_some, if_neg (show ¬ w - l.length < 0 by omega)]
      rw [szIntS_neg r _ hr (by omega) (by omega) h3]
      rfl
    · refine ⟨w - l.length - r.length, ?_, .inr ⟨by omega, by omega⟩⟩
      rw [szIntS_pos l _ (by omega) (by omega)]
      simp only [Option.bind_some, if_neg (show ¬ w - l.length < 0 by omega)]
      rw [szIntS_pos r _ (by omega) (by omega)]
      simp only [Option.bind_some, if_neg (show ¬ w - l.length - r.length < 0 by omega)]
def eventOk (a s : Bool) (l r : List Int) (u v w : Int) : Prop := apartP l r ∧ (s = true → l.length = 0) ∧ (0 ≤ u ∧ u ≤ 1000000000) ∧ (0 ≤ v ∧ v ≤ 1000000000) ∧ (0 ≤ w ∧ w ≤ 1000000000) ∧ (if a = true then u = v + w + r.length + (if s = true then 1 else 0) else u = 0 ∧ v = 0 ∧ w = 0)
theorem specEventOk_j1 (a s : Bool) (l r : List Int) (u v w : Int) (h1 : apartP l r) (h2 : s = true → l.length = 0) (h3 : 0 ≤ u ∧ u ≤ 1000000000) (h4 : 0 ≤ v ∧ v ≤ 1000000000) (h5 : 0 ≤ w ∧ w ≤ 1000000000) : Ev (fun k => spec_EventOk.j1 k false a s l r u v w) (bP (eventOk a s l r u v w)) := by
  have h6 := h1.2.1.1
  refine Ev.step (fun _ => rfl) ?_
  simp only [spec_EventOk.j1, if_neg (show ¬ (false = true) by decide), w64 (show -9223372036854775808 ≤ v + w by omega) (show v + w ≤ 9223372036854775807 by omega), w64 (show -9223372036854775808 ≤ v + w + (r.length : Int) by omega) (show v + w + (r.length : Int) ≤ 9223372036854775807 by omega), w64 (show -9223372036854775808 ≤ v + w + (r.length : Int) + 1 by omega) (show v + w + (r.length : Int) + 1 ≤ 9223372036854775807 by omega)]
  cases a
  · simp only [if_neg (show ¬ (false = true) by decide)]
    by_cases h7 : u = 0
    · simp only [if_pos h7]
      by_cases h8 : v = 0
      · simp only [if_pos h8]
        refine Ev_eq (Ev.now _) ?_
        rw [show (w == 0) = bP (w = 0) by rw [← bP_dec]; rfl]
        exact bP_congr ⟨fun h => ⟨h1, h2, h3, h4, h5, by rw [if_neg (by decide)]; exact ⟨h7, h8, h⟩⟩, fun h => by have := h.2.2.2.2.2; rw [if_neg (by decide)] at this; exact this.2.2⟩
      · simp only [if_neg h8]
        rw [bP_neg (fun h => by have := h.2.2.2.2.2; rw [if_neg (by decide)] at this; exact h8 this.2.1)]
        exact Ev.now _
    · simp only [if_neg h7]
      rw [bP_neg (fun h => by have := h.2.2.2.2.2; rw [if_neg (by decide)] at this; exact h7 this.1)]
      exact Ev.now _
  · simp only [if_true]
    cases s
    · simp only [if_neg (show ¬ (false = true) by decide)]
      refine Ev_eq (Ev.now _) ?_
      rw [show ∀ x y : Int, (x == y) = bP (x = y) from fun x y => by rw [← bP_dec]; rfl]
      exact bP_congr ⟨fun h => ⟨h1, h2, h3, h4, h5, by rw [if_pos rfl, if_neg (by decide)]; omega⟩, fun h => by have := h.2.2.2.2.2; rw [if_pos rfl, if_neg (by decide)] at this; omega⟩
    · simp only [if_true]
      refine Ev_eq (Ev.now _) ?_
      rw [show ∀ x y : Int, (x == y) = bP (x = y) from fun x y => by rw [← bP_dec]; rfl]
      exact bP_congr ⟨fun h => ⟨h1, h2, h3, h4, h5, by rw [if_pos rfl, if_pos rfl]; omega⟩, fun h => by have := h.2.2.2.2.2; rw [if_pos rfl, if_pos rfl] at this; omega⟩
theorem specEventOk_t1 (a s : Bool) (l r : List Int) (u v w : Int) (h : ¬ eventOk a s l r u v w) : Ev (fun k => spec_EventOk.j1 k true a s l r u v w) (bP (eventOk a s l r u v w)) := by
  refine Ev.step (fun _ => rfl) ?_
  simp only [spec_EventOk.j1, if_true]
  rw [bP_neg h]
  exact Ev.now _
theorem specEventOk_t0 (a s : Bool) (l r : List Int) (u v w : Int) (h : ¬ eventOk a s l r u v w) : Ev (fun k => spec_EventOk.j0 k true a s l r u v w) (bP (eventOk a s l r u v w)) := by
  refine Ev.step (fun _ => rfl) ?_
  simp only [spec_EventOk.j0, if_true]
  rw [bP_neg h]
  exact Ev.now _
theorem specEventOk_j0 (a s : Bool) (l r : List Int) (u v w : Int) (h1 : apartP l r) (h2 : s = true → l.length = 0) : Ev (fun k => spec_EventOk.j0 k false a s l r u v w) (bP (eventOk a s l r u v w)) := by
  refine Ev.step (fun _ => rfl) ?_
  simp only [spec_EventOk.j0, if_neg (show ¬ (false = true) by decide), l1In_eq, Option.bind_some]
  by_cases h3 : 0 ≤ u ∧ u ≤ 1000000000
  · simp only [bP_pos h3, if_true]
    by_cases h4 : 0 ≤ v ∧ v ≤ 1000000000
    · simp only [bP_pos h4, if_true]
      by_cases h5 : 0 ≤ w ∧ w ≤ 1000000000
      · simp only [bP_pos h5, Bool.not_true]
        exact specEventOk_j1 a s l r u v w h1 h2 h3 h4 h5
      · simp only [bP_neg h5, Bool.not_false]
        exact specEventOk_t1 a s l r u v w (fun h => h5 h.2.2.2.2.1)
    · simp only [bP_neg h4, if_neg (show ¬ (false = true) by decide)]
      exact specEventOk_t1 a s l r u v w (fun h => h4 h.2.2.2.1)
  · simp only [bP_neg h3, if_neg (show ¬ (false = true) by decide)]
    exact specEventOk_t1 a s l r u v w (fun h => h3 h.2.2.1)
theorem specEventOk_ev (a s : Bool) (l r : List Int) (u v w : Int) (hl : l.length ≤ 9223372036854775807) (hr : r.length ≤ 9223372036854775807) : Ev (fun k => spec_EventOk.f k a s l r u v w) (bP (eventOk a s l r u v w)) := by
  simp only [spec_EventOk.f]
  refine Ev.bind (l6Waits_ev l r hl hr) ?_
  by_cases h1 : apartP l r
  · simp only [bP_pos h1, if_true]
    cases s
    · simp only [if_neg (show ¬ (false = true) by decide)]
      exact specEventOk_j0 a false l r u v w h1 (fun h => by cases h)
    · simp only [if_true]
      by_cases h2 : l.length = 0
      · simp only [decide_eq_false (show ¬ (l.length : Int) > 0 by omega)]
        exact specEventOk_j0 a true l r u v w h1 (fun _ => h2)
      · simp only [decide_eq_true (show (l.length : Int) > 0 by omega)]
        exact specEventOk_t0 a true l r u v w (fun h => h2 (h.2.1 rfl))
  · simp only [bP_neg h1, if_neg (show ¬ (false = true) by decide)]
    exact specEventOk_t0 a s l r u v w (fun h => h1 h.1)
theorem implEventOk_j0 (a s : Bool) (l r : List Int) (u v w : Int) (h1 : apartP l r) (h2 : s = true → l.length = 0) (h3 : 0 ≤ u ∧ u ≤ 1000000000) (h4 : 0 ≤ v ∧ v ≤ 1000000000) (h5 : 0 ≤ w ∧ w ≤ 1000000000) : Ev (fun k => impl_EventOk.j0 k false a s l r u v w) (bP (eventOk a s l r u v w)) := by
  have h6 := h1.2.1.1
  refine Ev.step (fun _ => rfl) ?_
  simp only [impl_EventOk.j0, if_neg (show ¬ (false = true) by decide), w64 (show -9223372036854775808 ≤ v + w by omega) (show v + w ≤ 9223372036854775807 by omega), w64 (show -9223372036854775808 ≤ v + w + (r.length : Int) by omega) (show v + w + (r.length : Int) ≤ 9223372036854775807 by omega), w64 (show -9223372036854775808 ≤ v + w + (r.length : Int) + 1 by omega) (show v + w + (r.length : Int) + 1 ≤ 9223372036854775807 by omega)]
  cases a
  · simp only [if_neg (show ¬ (false = true) by decide)]
    by_cases h7 : u = 0
    · simp only [if_pos h7]
      by_cases h8 : v = 0
      · simp only [if_pos h8]
        refine Ev_eq (Ev.now _) ?_
        rw [show (w == 0) = bP (w = 0) by rw [← bP_dec]; rfl]
        exact bP_congr ⟨fun h => ⟨h1, h2, h3, h4, h5, by rw [if_neg (by decide)]; exact ⟨h7, h8, h⟩⟩, fun h => by have := h.2.2.2.2.2; rw [if_neg (by decide)] at this; exact this.2.2⟩
      · simp only [if_neg h8]
        rw [bP_neg (fun h => by have := h.2.2.2.2.2; rw [if_neg (by decide)] at this; exact h8 this.2.1)]
        exact Ev.now _
    · simp only [if_neg h7]
      rw [bP_neg (fun h => by have := h.2.2.2.2.2; rw [if_neg (by decide)] at this; exact h7 this.1)]
      exact Ev.now _
  · simp only [if_true]
    cases s
    · simp only [if_neg (show ¬ (false = true) by decide)]
      refine Ev_eq (Ev.now _) ?_
      rw [show ∀ x y : Int, (x == y) = bP (x = y) from fun x y => by rw [← bP_dec]; rfl]
      exact bP_congr ⟨fun h => ⟨h1, h2, h3, h4, h5, by rw [if_pos rfl, if_neg (by decide)]; omega⟩, fun h => by have := h.2.2.2.2.2; rw [if_pos rfl, if_neg (by decide)] at this; omega⟩
    · simp only [if_true]
      refine Ev_eq (Ev.now _) ?_
      rw [show ∀ x y : Int, (x == y) = bP (x = y) from fun x y => by rw [← bP_dec]; rfl]
      exact bP_congr ⟨fun h => ⟨h1, h2, h3, h4, h5, by rw [if_pos rfl, if_pos rfl]; omega⟩, fun h => by have := h.2.2.2.2.2; rw [if_pos rfl, if_pos rfl] at this; omega⟩
theorem implEventOk_t0 (a s : Bool) (l r : List Int) (u v w : Int) (h : ¬ eventOk a s l r u v w) : Ev (fun k => impl_EventOk.j0 k true a s l r u v w) (bP (eventOk a s l r u v w)) := by
  refine Ev.step (fun _ => rfl) ?_
  simp only [impl_EventOk.j0, if_true]
  rw [bP_neg h]
  exact Ev.now _
theorem implEventOk_m (a s : Bool) (l r : List Int) (u v w : Int) (h1 : apartP l r) (h2 : s = true → l.length = 0) : Ev (fun k => (impl_isCount.f u).bind fun t148 => (if t148 = true then ((impl_isCount.f v).bind fun t149 => (if t149 = true then ((impl_isCount.f w).bind fun t150 => (impl_EventOk.j0 k (!t150) a s l r u v w)) else (impl_EventOk.j0 k true a s l r u v w))) else (impl_EventOk.j0 k true a s l r u v w))) (bP (eventOk a s l r u v w)) := by
  simp only [isCount_eq, Option.bind_some]
  by_cases h3 : 0 ≤ u ∧ u ≤ 1000000000
  · simp only [bP_pos h3, if_true]
    by_cases h4 : 0 ≤ v ∧ v ≤ 1000000000
    · simp only [bP_pos h4, if_true]
      by_cases h5 : 0 ≤ w ∧ w ≤ 1000000000
      · simp only [bP_pos h5, Bool.not_true]
        exact implEventOk_j0 a s l r u v w h1 h2 h3 h4 h5
      · simp only [bP_neg h5, Bool.not_false]
        exact implEventOk_t0 a s l r u v w (fun h => h5 h.2.2.2.2.1)
    · simp only [bP_neg h4, if_neg (show ¬ (false = true) by decide)]
      exact implEventOk_t0 a s l r u v w (fun h => h4 h.2.2.2.1)
  · simp only [bP_neg h3, if_neg (show ¬ (false = true) by decide)]
    exact implEventOk_t0 a s l r u v w (fun h => h3 h.2.2.1)
theorem implEventOk_ev (a s : Bool) (l r : List Int) (u v w : Int) (hl : l.length ≤ 9223372036854775807) (hr : r.length ≤ 9223372036854775807) : Ev (fun k => impl_EventOk.f k a s l r u v w) (bP (eventOk a s l r u v w)) := by
  simp only [impl_EventOk.f]
  refine Ev.bind (apart_ev l r hl hr) ?_
  by_cases h1 : apartP l r
  · simp only [bP_pos h1, if_true]
    cases s
    · simp only [if_neg (show ¬ (false = true) by decide)]
      exact implEventOk_m a false l r u v w h1 (fun h => by cases h)
    · simp only [if_true]
      by_cases h2 : l.length = 0
      · simp only [if_neg (show ¬ (l.length : Int) > 0 by omega)]
        exact implEventOk_m a true l r u v w h1 (fun _ => h2)
      · simp only [if_pos (show (l.length : Int) > 0 by omega)]
        exact implEventOk_t0 a true l r u v w (fun h => h2 (h.2.1 rfl))
  · simp only [bP_neg h1, if_neg (show ¬ (false = true) by decide)]
    exact implEventOk_t0 a s l r u v w (fun h => h1 h.1)
theorem toEvent_ev (a s : Bool) (l r : List Int) (u v w : Int) (hl : l.length ≤ 35184372088832) (hr : r.length ≤ 35184372088832) : Ev (fun k => laws_toEvent.f k a s l r u v w) (a, s, l, r, u, v, w) := by
  simp only [laws_toEvent.f]
  repeat (first
    | (dsimp only)
    | (with_reducible exact Ev.now _)
    | (with_reducible refine Ev.bind (toIntS_ev _ (by omega)) ?_)
    | (refine Ev_ifpos (by first | rfl | omega | (simp; omega)) ?_)
    | (refine Ev_ifneg (by first | omega | decide | (simp; omega)) ?_)
    | (refine Ev_ifneg (by simp only [bne_self_eq_false]; decide) ?_)
    | (refine Ev_ifpos (by simp) ?_)
    | (refine Ev_ifneg (by simp) ?_))
theorem eqEvent_self (a s : Bool) (l r : List Int) (u v w : Int) (hl : l.length ≤ 9223372036854775807) (hr : r.length ≤ 9223372036854775807) : Ev (fun k => laws_eqEvent.f k a s l r u v w a s l r u v w) true := by
  simp only [laws_eqEvent.f]
  repeat (first
    | (dsimp only)
    | (with_reducible exact Ev.now _)
    | (with_reducible refine Ev.bind (eqIntS_self _ (by omega)) ?_)
    | (refine Ev_ifpos (by first | rfl | omega | (simp; omega)) ?_)
    | (refine Ev_ifneg (by first | omega | decide | (simp; omega)) ?_)
    | (refine Ev_ifneg (by simp only [bne_self_eq_false]; decide) ?_)
    | (refine Ev_ifpos (by simp) ?_)
    | (refine Ev_ifneg (by simp) ?_))
theorem szEvent_cases (a s : Bool) (l r : List Int) (u v w : Int) (hl : l.length ≤ 9223372036854775807) (hr : r.length ≤ 9223372036854775807) : ∃ x, laws_szEvent.f a s l r u v w 1048576 = some x ∧ (x < 0 ∨ (0 ≤ x ∧ (l.length : Int) + r.length ≤ 1048576)) := szInt2_cases l r 1048576 (by omega) (by omega) hl hr
end Go.Proofs.Ytdagpmnadapbjaa.Q
