/- Plain laws of what the printed functions compute, the program's and the reference's, for every number and list; conditions: those of each theorem. -/
import Derived.Test.YtdagpmnadapbjaaZx1
import Derived.Test.YtdagpmnadapbjaaZx2
import Derived.Test.YtdagpmnadapbjaaZx3
import Derived.Test.YtdagpmnadapbjaaZx6
import Derived.Test.YtdagpmnadapbjaaZx7
import Derived.Test.YtdagpmnadapbjaaZx8
import Derived.Test.YtdagpmnadapbjaaZx9
import Derived.Test.YtdagpmnadapbjaaZx10
import Derived.Test.YtdagpmnadapbjaaZx12
import Derived.Test.YtdagpmnadapbjaaZx14
import Derived.Test.YtdagpmnadapbjaaZx15
import Derived.Test.YtdagpmnadapbjaaZx16
import Derived.Test.YtdagpmnadapbjaaZx17
import Derived.Test.YtdagpmnadapbjaaZx19
import Derived.Test.YtdagpmnadapbjaaZx20
import Derived.Test.YtdagpmnadapbjaaZx22
import Derived.Test.YtdagpmnadapbjaaZx24
import Derived.Test.YtdagpmnadapbjaaZx25
import Derived.Test.YtdagpmnadapbjaaZx32
import Derived.Test.YtdagpmnadapbjaaZx33
import Derived.Test.YtdagpmnadapbjaaZx34
import Derived.Test.YtdagpmnadapbjaaZx35
import Derived.Test.YtdagpmnadapbjaaZx36
import Derived.Test.YtdagpmnadapbjaaZx37
namespace Go.Proofs.Ytdagpmnadapbjaa.Q
open Go.RowKit Go.Proofs.Ytdagpmnadapbjaa.Z Go.Proofs.YtdagpmnadapbjaaW.PrintWords Go.Proofs.YtdagpmnadapbjaaW.PrintLast Go.Proofs.YtdagpmnadapbjaaW.PrintMore
set_option linter.unusedVariables false
set_option linter.unusedSimpArgs false
theorem w64 {x : Int} (h0 : -9223372036854775808 ≤ x) (h1 : x ≤ 9223372036854775807) : wrap64 x = x := by unfold wrap64; omega
theorem w64n {n m : Nat} (h : n < m) (hm : m ≤ 9223372036854775807) : wrap64 ((n : Int) + 1) = ((n + 1 : Nat) : Int) := by rw [w64 (by omega) (by omega)]; omega
theorem rd_nat (l : List Int) (n : Nat) : rd l (n : Int) = l.getD n 0 := by simp [rd]
theorem rdOf_nat {α : Type} (d : α) (l : List α) (n : Nat) : rdOf d l (n : Int) = l.getD n d := by simp [rdOf]
theorem drop_cons {α : Type} (d : α) (l : List α) (n : Nat) (h : n < l.length) : l.drop n = l.getD n d :: l.drop (n + 1) := by
  rw [List.drop_eq_getElem_cons h, List.getD_eq_getElem?_getD, List.getElem?_eq_getElem h]; rfl
theorem take_cons {α : Type} (d : α) (l : List α) (n : Nat) (h : n < l.length) : l.take (n + 1) = l.take n ++ [l.getD n d] := by
  rw [List.take_succ_eq_append_getElem h, List.getD_eq_getElem?_getD, List.getElem?_eq_getElem h]; rfl
noncomputable def bP (p : Prop) : Bool := @decide p (Classical.propDecidable p)
theorem bP_iff {p : Prop} : bP p = true ↔ p := by simp [bP]
theorem bP_pos {p : Prop} (h : p) : bP p = true := bP_iff.2 h
theorem bP_neg {p : Prop} (h : ¬ p) : bP p = false := by
  cases hb : bP p
  · rfl
  · exact absurd (bP_iff.1 hb) h
theorem bP_congr {p q : Prop} (h : p ↔ q) : bP p = bP q := by rw [propext h]
theorem bP_dec (p : Prop) [Decidable p] : decide p = bP p := by
  by_cases h : p
  · rw [bP_pos h, decide_eq_true h]
  · rw [bP_neg h, decide_eq_false h]
theorem Ev_eq {α : Type} {g : Nat → Option α} {r s : α} (h : Ev g r) (e : r = s) : Ev g s := e ▸ h
theorem Ev_ifpos {α : Type} {c : Prop} [Decidable c] {g f : Nat → Option α} {r : α} (h : c) (k : Ev g r) : Ev (fun n => if c then g n else f n) r := by
  simpa only [if_pos h] using k
theorem Ev_ifneg {α : Type} {c : Prop} [Decidable c] {g f : Nat → Option α} {r : α} (h : ¬ c) (k : Ev f r) : Ev (fun n => if c then g n else f n) r := by
  simpa only [if_neg h] using k
theorem Ev_some {α β : Type} {g : Option α} {f : Nat → α → Option β} {a : α} {r : β} (h : g = some a) (k : Ev (fun n => f n a) r) : Ev (fun n => g.bind (f n)) r := by
  simpa only [h, Option.bind_some] using k
theorem Ev_ofk {α : Type} {r : α} {g : Option α} (h : g = some r) : Ev (fun _ => g) r := ⟨0, fun _ _ => h⟩
def upFrom : Int → Nat → List Int
  | _, 0 => []
  | v, n + 1 => v :: upFrom (v + 1) n
theorem upFrom_length : ∀ n v, (upFrom v n).length = n
  | 0, _ => rfl
  | n + 1, v => by simp [upFrom, upFrom_length n]
def pos (a : Int) : List Int → Int → Int
  | [], _ => -1
  | x :: xs, i => if x = a then i else pos a xs (i + 1)
theorem pos_spec (a : Int) : ∀ (l : List Int) (i : Int), 0 ≤ i → (a ∈ l → i ≤ pos a l i ∧ pos a l i < i + l.length) ∧ (a ∉ l → pos a l i = -1)
  | [], i, _ => by simp [pos]
  | x :: xs, i, hi => by
    have ih := pos_spec a xs (i + 1) (by omega)
    unfold pos
    by_cases hx : x = a
    · rw [if_pos hx]
      refine ⟨fun _ => ⟨Int.le_refl _, by simp only [List.length_cons]; omega⟩, fun h => absurd (by rw [hx]; exact List.mem_cons_self) h⟩
    · rw [if_neg hx]
      refine ⟨fun h => ?_, fun h => ih.2 (fun h' => h (List.mem_cons_of_mem _ h'))⟩
      have h' : a ∈ xs := by
        rcases List.mem_cons.1 h with h | h
        · exact absurd h.symm hx
        · exact h
      have := ih.1 h'
      simp only [List.length_cons]
      omega
theorem pos_mem (a : Int) (l : List Int) : (0 ≤ pos a l 0) ↔ a ∈ l := by
  have h := pos_spec a l 0 (by omega)
  constructor
  · intro h0
    by_cases hm : a ∈ l
    · exact hm
    · have := h.2 hm; omega
  · intro hm
    exact (h.1 hm).1
theorem toIntS_l (l : List Int) (hl : l.length ≤ 9223372036854775807) : ∀ d n : Nat, n + d = l.length → ∀ out : List Int, out.length = l.length → Ev (fun k => laws_toIntS.l0 k l out n) (out.take n ++ l.drop n)
  | 0, n, hd, out, ho => by
    refine Ev.step (fun _ => rfl) ?_
    simp only [laws_toIntS.l0, if_neg (show ¬ (n : Int) < (l.length : Int) by omega)]
    rw [List.drop_eq_nil_of_le (by omega), List.append_nil, List.take_of_length_le (by omega)]
    exact Ev.now _
  | d + 1, n, hd, out, ho => by
    refine Ev.step (fun _ => rfl) ?_
    simp only [laws_toIntS.l0, if_pos (show (n : Int) < (l.length : Int) by omega), if_pos (show (0 : Int) ≤ (n : Int) by omega), if_pos (show (n : Int) < (out.length : Int) by omega), w64n (show n < l.length by omega) hl, Int.toNat_natCast, rd_nat]
    have ih := toIntS_l l hl d (n + 1) (by omega) (out.set n (l.getD n 0)) (by simp [ho])
    refine Ev_eq ih ?_
    rw [take_cons 0 _ n (by simp; omega), List.take_set_of_le (Nat.le_refl n), drop_cons 0 l n (by omega), List.append_assoc]
    congr 2
    simp [List.getD_eq_getElem?_getD, List.getElem?_set_self (show n < out.length by omega)]
theorem toIntS_ev (l : List Int) (hl : l.length ≤ 35184372088832) : Ev (fun k => laws_toIntS.f k l) l := by
  simp only [laws_toIntS.f, if_pos (show (0 : Int) ≤ (l.length : Int) by omega), Int.toNat_natCast, if_pos hl]
  have h := toIntS_l l (by omega) l.length 0 (by omega) (List.replicate l.length 0) (by simp)
  simpa using h
theorem eqIntS_l (a b : List Int) (hl : a.length ≤ 9223372036854775807) (he : a.length = b.length) : ∀ d n : Nat, n + d = a.length → Ev (fun k => laws_eqIntS.l0 k a b n) (bP (a.drop n = b.drop n))
  | 0, n, hd => by
    refine Ev.step (fun _ => rfl) ?_
    simp only [laws_eqIntS.l0, if_neg (show ¬ (n : Int) < (a.length : Int) by omega)]
    rw [bP_pos (by rw [List.drop_eq_nil_of_le (by omega), List.drop_eq_nil_of_le (by omega)])]
    exact Ev.now _
  | d + 1, n, hd => by
    refine Ev.step (fun _ => rfl) ?_
    simp only [laws_eqIntS.l0, if_pos (show (n : Int) < (a.length : Int) by omega), if_pos (show (0 : Int) ≤ (n : Int) by omega), if_pos (show (n : Int) < (b.length : Int) by omega), w64n (show n < a.length by omega) hl, rd_nat]
    rw [drop_cons 0 a n (by omega), drop_cons 0 b n (by omega)]
    by_cases h : a.getD n 0 = b.getD n 0
    · simp only [if_pos h]
      exact Ev_eq (eqIntS_l a b hl he d (n + 1) (by omega)) (bP_congr ⟨fun e => by rw [h, e], fun e => (List.cons.inj e).2⟩)
    · simp only [if_neg h]
      rw [bP_neg (fun e => h (List.cons.inj e).1)]
      exact Ev.now _
theorem eqIntS_ev (a b : List Int) (hl : a.length ≤ 9223372036854775807) : Ev (fun k => laws_eqIntS.f k a b) (bP (a = b)) := by
  by_cases h : a.length = b.length
  · simp only [laws_eqIntS.f, if_pos (show (a.length : Int) = (b.length : Int) by omega)]
    simpa using eqIntS_l a b hl h a.length 0 (by omega)
  · simp only [laws_eqIntS.f, if_neg (show ¬ (a.length : Int) = (b.length : Int) by omega)]
    rw [bP_neg (fun e => h (by rw [e]))]
    exact Ev.now _
theorem eqIntS_self (a : List Int) (hl : a.length ≤ 9223372036854775807) : Ev (fun k => laws_eqIntS.f k a a) true := Ev_eq (eqIntS_ev a a hl) (bP_pos rfl)
theorem markIntS_l (l : List Int) (hl : l.length ≤ 9223372036854775807) : ∀ d n : Nat, n + d = l.length → ∀ (out : List Int) (v : Int), out.length = l.length → -9223372036854775808 ≤ v → v + d ≤ 9223372036854775807 → Ev (fun k => laws_markIntS.l0 k out v n) (v + d, out.take n ++ upFrom v d)
  | 0, n, hd, out, v, ho, h0, h1 => by
    refine Ev.step (fun _ => rfl) ?_
    simp only [laws_markIntS.l0, if_neg (show ¬ (n : Int) < (out.length : Int) by omega)]
    refine Ev_eq (Ev.now _) ?_
    rw [List.take_of_length_le (by omega)]
    simp [upFrom]
  | d + 1, n, hd, out, v, ho, h0, h1 => by
    refine Ev.step (fun _ => rfl) ?_
    simp only [laws_markIntS.l0, if_pos (show (n : Int) < (out.length : Int) by omega), if_pos (show (0 : Int) ≤ (n : Int) by omega), w64n (show n < l.length by omega) hl, Int.toNat_natCast, w64 (show -9223372036854775808 ≤ v + 1 by omega) (show v + 1 ≤ 9223372036854775807 by omega)]
    refine Ev_eq (markIntS_l l hl d (n + 1) (by omega) (out.set n v) (v + 1) (by simp [ho]) (by omega) (by omega)) ?_
    rw [take_cons 0 _ n (by simp; omega), List.take_set_of_le (Nat.le_refl n), List.append_assoc]
    simp only [upFrom, Prod.mk.injEq]
    refine ⟨by omega, ?_⟩
    congr 1
    simp [List.getD_eq_getElem?_getD, List.getElem?_set_self (show n < out.length by omega)]
theorem markIntS_ev (l : List Int) (v : Int) (h0 : -9223372036854775808 ≤ v) (h1 : v + l.length ≤ 9223372036854775807) (hl : l.length ≤ 9223372036854775807) : Ev (fun k => laws_markIntS.f k l v) (v + l.length, upFrom v l.length) := by
  simp only [laws_markIntS.f]
  simpa using markIntS_l l hl l.length 0 (by omega) l v rfl h0 h1
theorem heldIntS_l (l : List Int) (hl : l.length ≤ 9223372036854775807) : ∀ d n : Nat, n + d = l.length → ∀ (v : Int), -9223372036854775808 ≤ v → v + d ≤ 9223372036854775807 → l.drop n = upFrom v d → Ev (fun k => laws_heldIntS.l0 k l v n) (v + d)
  | 0, n, hd, v, h0, h1, he => by
    refine Ev.step (fun _ => rfl) ?_
    simp only [laws_heldIntS.l0, if_neg (show ¬ (n : Int) < (l.length : Int) by omega)]
    refine Ev_eq (Ev.now _) (by omega)
  | d + 1, n, hd, v, h0, h1, he => by
    rw [drop_cons 0 l n (by omega)] at he
    simp only [upFrom, List.cons.injEq] at he
    refine Ev.step (fun _ => rfl) ?_
    simp only [laws_heldIntS.l0, if_pos (show (n : Int) < (l.length : Int) by omega), if_pos (show (0 : Int) ≤ (n : Int) by omega), w64n (show n < l.length by omega) hl, rd_nat, he.1, if_true, w64 (show -9223372036854775808 ≤ v + 1 by omega) (show v + 1 ≤ 9223372036854775807 by omega)]
    exact Ev_eq (heldIntS_l l hl d (n + 1) (by omega) (v + 1) (by omega) (by omega) he.2) (by omega)
theorem heldIntS_ev (n : Nat) (v : Int) (h0 : -9223372036854775808 ≤ v) (h1 : v + n ≤ 9223372036854775807) (hl : n ≤ 9223372036854775807) : Ev (fun k => laws_heldIntS.f k (upFrom v n) v) (v + n) := by
  simp only [laws_heldIntS.f]
  exact heldIntS_l (upFrom v n) (by rw [upFrom_length]; exact hl) n 0 (by rw [upFrom_length]; omega) v h0 h1 rfl
theorem szIntS_neg (l : List Int) (v : Int) (hl : l.length ≤ 9223372036854775807) (h0 : 0 ≤ v) (h1 : v ≤ 1048576) (h : v < l.length) : laws_szIntS.f l v = some (-1) := by
  simp only [laws_szIntS.f, w64 (show -9223372036854775808 ≤ v - (l.length : Int) by omega) (show v - (l.length : Int) ≤ 9223372036854775807 by omega), if_pos (show v - (l.length : Int) < 0 by omega)]
theorem szIntS_pos (l : List Int) (v : Int) (h1 : v ≤ 1048576) (h : (l.length : Int) ≤ v) : laws_szIntS.f l v = some (v - l.length) := by
  simp only [laws_szIntS.f, w64 (show -9223372036854775808 ≤ v - (l.length : Int) by omega) (show v - (l.length : Int) ≤ 9223372036854775807 by omega), if_neg (show ¬ v - (l.length : Int) < 0 by omega)]
theorem Index_l (l : List Int) (a : Int) (hl : l.length ≤ 9223372036854775807) : ∀ d n : Nat, n + d = l.length → Ev (fun k => slices_Index_int_int.l0 k l a (l.length : Int) n) (pos a (l.drop n) n)
  | 0, n, hd => by
    refine Ev.step (fun _ => rfl) ?_
    simp only [slices_Index_int_int.l0, if_neg (show ¬ (n : Int) < (l.length : Int) by omega)]
    rw [List.drop_eq_nil_of_le (by omega)]
    exact Ev.now _
  | d + 1, n, hd => by
    refine Ev.step (fun _ => rfl) ?_
    simp only [slices_Index_int_int.l0, if_pos (show (n : Int) < (l.length : Int) by omega), if_pos (show (0 : Int) ≤ (n : Int) by omega), w64n (show n < l.length by omega) hl, rd_nat]
    rw [drop_cons 0 l n (by omega)]
    by_cases h : a = l.getD n 0
    · simp only [if_pos h]
      refine Ev_eq (Ev.now _) ?_
      simp only [pos]
      rw [if_pos h.symm]
    · simp only [if_neg h]
      refine Ev_eq (Index_l l a hl d (n + 1) (by omega)) ?_
      simp only [pos]
      rw [if_neg (fun e => h e.symm)]
      rw [show ((n + 1 : Nat) : Int) = (n : Int) + 1 by omega]
theorem Index_ev (l : List Int) (a : Int) (hl : l.length ≤ 9223372036854775807) : Ev (fun k => slices_Index_int_int.f k l a) (pos a l 0) := by
  simp only [slices_Index_int_int.f]
  exact Index_l l a hl l.length 0 (by omega)
theorem Contains_ev (l : List Int) (a : Int) (hl : l.length ≤ 9223372036854775807) : Ev (fun k => slices_Contains_int_int.f k l a) (bP (a ∈ l)) := by
  simp only [slices_Contains_int_int.f]
  refine Ev.bind (Index_ev l a hl) ?_
  refine Ev_eq (Ev.now _) ?_
  rw [bP_dec]
  exact bP_congr (pos_mem a l)
theorem l1In_eq (a b c : Int) : spec_l1In.f a b c = some (bP (b ≤ a ∧ a ≤ c)) := by
  simp only [spec_l1In.f]
  by_cases h : a ≥ b
  · rw [if_pos h, bP_dec, bP_congr (show (a ≤ c) ↔ (b ≤ a ∧ a ≤ c) by omega)]
  · rw [if_neg h, bP_neg (by omega)]
theorem within_eq (a b c : Int) : impl_within.f a b c = some (bP (b ≤ a ∧ a ≤ c)) := by
  simp only [impl_within.f]
  by_cases h : a ≥ b
  · rw [if_pos h, bP_dec, bP_congr (show (a ≤ c) ↔ (b ≤ a ∧ a ≤ c) by omega)]
  · rw [if_neg h, bP_neg (by omega)]
def isCl (a : Int) : Prop := 0 ≤ a ∧ a ≤ 63
theorem l2Client_eq (a : Int) : spec_l2Client.f a = some (bP (isCl a)) := by
  simp only [spec_l2Client.f, l1In_eq, Option.bind_some, isCl]
theorem isClient_eq (a : Int) : impl_isClient.f a = some (bP (isCl a)) := by
  simp only [impl_isClient.f, within_eq, Option.bind_some, isCl]
theorem l2Has_l (l : List Int) (a : Int) (hl : l.length ≤ 9223372036854775807) : ∀ d n : Nat, n + d = l.length → Ev (fun k => spec_l2Has.l0 k l a n) (bP (a ∈ l.drop n))
  | 0, n, hd => by
    refine Ev.step (fun _ => rfl) ?_
    simp only [spec_l2Has.l0, if_neg (show ¬ (n : Int) < (l.length : Int) by omega)]
    rw [List.drop_eq_nil_of_le (by omega), bP_neg (by simp)]
    exact Ev.now _
  | d + 1, n, hd => by
    refine Ev.step (fun _ => rfl) ?_
    simp only [spec_l2Has.l0, if_pos (show (n : Int) < (l.length : Int) by omega), if_pos (show (0 : Int) ≤ (n : Int) by omega), w64n (show n < l.length by omega) hl, rd_nat]
    rw [drop_cons 0 l n (by omega)]
    by_cases h : l.getD n 0 = a
    · simp only [if_pos h]
      rw [bP_pos (by rw [h]; exact List.mem_cons_self)]
      exact Ev.now _
    · simp only [if_neg h]
      refine Ev_eq (l2Has_l l a hl d (n + 1) (by omega)) (bP_congr ?_)
      rw [List.mem_cons]
      exact ⟨.inr, fun h' => h'.resolve_left (fun e => h e.symm)⟩
theorem l2Has_ev (l : List Int) (a : Int) (hl : l.length ≤ 9223372036854775807) : Ev (fun k => spec_l2Has.f k l a) (bP (a ∈ l)) := by
  simp only [spec_l2Has.f]
  exact l2Has_l l a hl l.length 0 (by omega)
def lineFrom (l : List Int) (n : Nat) : Prop := ∀ i, n ≤ i → i < l.length → isCl (l.getD i 0) ∧ l.getD i 0 ∉ l.take i
def lineOk (l : List Int) : Prop := l.length ≤ 32 ∧ lineFrom l 0
theorem lineFrom_step (l : List Int) (n : Nat) (h : n < l.length) : lineFrom l n ↔ (isCl (l.getD n 0) ∧ l.getD n 0 ∉ l.take n) ∧ lineFrom l (n + 1) := by
  constructor
  · intro hf
    exact ⟨hf n (Nat.le_refl _) h, fun i hi => hf i (by omega)⟩
  · rintro ⟨h0, hf⟩ i hi hl
    rcases Nat.eq_or_lt_of_le hi with rfl | hlt
    · exact h0
    · exact hf i hlt hl
theorem specLineOk_l (l : List Int) (hl : l.length ≤ 9223372036854775807) : ∀ d n : Nat, n + d = l.length → Ev (fun k => spec_LineOk.l0 k l n) (bP (lineFrom l n))
  | 0, n, hd => by
    refine Ev.step (fun _ => rfl) ?_
    simp only [spec_LineOk.l0, if_neg (show ¬ (n : Int) < (l.length : Int) by omega)]
    rw [bP_pos (show lineFrom l n from fun i hi hl => by omega)]
    exact Ev.now _
  | d + 1, n, hd => by
    refine Ev.step (fun _ => rfl) ?_
    simp only [spec_LineOk.l0, if_pos (show (n : Int) < (l.length : Int) by omega), if_pos (show (0 : Int) ≤ (n : Int) by omega), w64n (show n < l.length by omega) hl, rd_nat, l2Client_eq, Option.bind_some, if_pos (show (n : Int) ≤ (l.length : Int) by omega), Int.toNat_natCast]
    rw [bP_congr (lineFrom_step l n (by omega))]
    by_cases h1 : isCl (l.getD n 0)
    · simp only [bP_pos h1, if_true]
      refine Ev.bind (l2Has_ev (l.take n) (l.getD n 0) (by rw [List.length_take]; omega)) ?_
      by_cases h2 : l.getD n 0 ∈ l.take n
      · simp only [bP_pos h2, if_true]
        rw [bP_neg (fun h => h.1.2 h2)]
        exact Ev.now _
      · simp only [bP_neg h2, if_neg (show ¬ (false = true) by decide)]
        exact Ev_eq (specLineOk_l l hl d (n + 1) (by omega)) (bP_congr ⟨fun h => ⟨⟨h1, h2⟩, h⟩, fun h => h.2⟩)
    · simp only [bP_neg h1, if_neg (show ¬ (false = true) by decide)]
      rw [bP_neg (fun h => h1 h.1.1)]
      exact Ev.now _
theorem specLineOk_ev (l : List Int) (hl : l.length ≤ 9223372036854775807) : Ev (fun k => spec_LineOk.f k l) (bP (lineOk l)) := by
  by_cases h : l.length ≤ 32
  · simp only [spec_LineOk.f, if_neg (show ¬ (l.length : Int) > 32 by omega)]
    exact Ev_eq (specLineOk_l l hl l.length 0 (by omega)) (bP_congr ⟨fun h' => ⟨h, h'⟩, fun h' => h'.2⟩)
  · simp only [spec_LineOk.f, if_pos (show (l.length : Int) > 32 by omega)]
    rw [bP_neg (fun h' => h h'.1)]
    exact Ev.now _
theorem clientsOk_l (l : List Int) (hl : l.length ≤ 9223372036854775807) : ∀ d n : Nat, n + d = l.length → Ev (fun k => impl_clientsOk.l0 k l l (l.length : Int) n) (bP (l.length ≤ 32 ∧ lineFrom l n))
  | 0, n, hd => by
    refine Ev.step (fun _ => rfl) ?_
    simp only [impl_clientsOk.l0, if_neg (show ¬ (n : Int) < (l.length : Int) by omega)]
    refine Ev_eq (Ev.now _) ?_
    rw [bP_dec]
    exact bP_congr ⟨fun h => ⟨by omega, fun i hi hl => by omega⟩, fun h => by have := h.1; omega⟩
  | d + 1, n, hd => by
    refine Ev.step (fun _ => rfl) ?_
    simp only [impl_clientsOk.l0, if_pos (show (n : Int) < (l.length : Int) by omega), if_pos (show (0 : Int) ≤ (n : Int) by omega), w64n (show n < l.length by omega) hl, rd_nat, isClient_eq, Option.bind_some, if_pos (show (n : Int) ≤ (l.length : Int) by omega), Int.toNat_natCast]
    rw [bP_congr (and_congr_right fun _ => lineFrom_step l n (by omega))]
    by_cases h1 : isCl (l.getD n 0)
    · simp only [bP_pos h1, if_true]
      refine Ev.bind (Contains_ev (l.take n) (l.getD n 0) (by rw [List.length_take]; omega)) ?_
      by_cases h2 : l.getD n 0 ∈ l.take n
      · simp only [bP_pos h2, if_true]
        rw [bP_neg (fun h => h.2.1.2 h2)]
        exact Ev.now _
      · simp only [bP_neg h2, if_neg (show ¬ (false = true) by decide)]
        exact Ev_eq (clientsOk_l l hl d (n + 1) (by omega)) (bP_congr ⟨fun h => ⟨h.1, ⟨h1, h2⟩, h.2⟩, fun h => ⟨h.1, h.2.2⟩⟩)
    · simp only [bP_neg h1, if_neg (show ¬ (false = true) by decide)]
      rw [bP_neg (fun h => h1 h.2.1.1)]
      exact Ev.now _
theorem clientsOk_ev (l : List Int) (hl : l.length ≤ 9223372036854775807) : Ev (fun k => impl_clientsOk.f k l) (bP (lineOk l)) := by
  simp only [impl_clientsOk.f]
  exact clientsOk_l l hl l.length 0 (by omega)
theorem implLineOk_ev (l : List Int) (hl : l.length ≤ 9223372036854775807) : Ev (fun k => impl_LineOk.f k l) (bP (lineOk l)) := by
  simp only [impl_LineOk.f]
  exact Ev.bind (clientsOk_ev l hl) (Ev.now _)
theorem l2Copy_eq (l : List Int) (hl : l.length < 17592186044416) : spec_l2Copy.f l = some l := by
  simp only [spec_l2Copy.f, Option.bind_some, List.length_nil, Nat.zero_add, if_pos hl, List.nil_append]
theorem Clone_eq (l : List Int) (hl : l.length < 17592186044416) : slices_Clone_int_int.f l = some l := by
  simp only [slices_Clone_int_int.f, Option.bind_some, List.length_nil, Nat.zero_add, if_pos hl, List.nil_append]
theorem lineOk_once {l : List Int} (h : lineOk l) (a : Int) : ∀ i j, i < l.length → j < l.length → l.getD i 0 = a → l.getD j 0 = a → i = j := by
  have key : ∀ i j, i < j → j < l.length → l.getD i 0 = a → l.getD j 0 = a → False := by
    intro i j hij hj ei ej
    have := (h.2 j (by omega) hj).2
    apply this
    rw [ej, ← ei, List.mem_iff_getElem?]
    exact ⟨i, by rw [List.getElem?_take_of_lt hij, List.getD_eq_getElem?_getD, List.getElem?_eq_getElem (by omega)]; rfl⟩
  intro i j hi hj ei ej
  rcases Nat.lt_trichotomy i j with hlt | heq | hgt
  · exact (key i j hlt hj ei ej).elim
  · exact heq
  · exact (key j i hgt hi ej ei).elim
theorem isCount_eq (a : Int) : impl_isCount.f a = some (bP (0 ≤ a ∧ a ≤ 1000000000)) := by
  simp only [impl_isCount.f, within_eq, Option.bind_some]
def apartP (l r : List Int) : Prop := lineOk l ∧ lineOk r ∧ ∀ x ∈ r, x ∉ l
theorem IFap_l (l r : List Int) (hl : l.length ≤ 9223372036854775807) (hr : r.length ≤ 9223372036854775807) : ∀ d n : Nat, n + d = l.length → ∃ i : Int, Ev (fun k => slices_IndexFunc_ap.l0 k l r (l.length : Int) n) i ∧ (0 ≤ i ↔ ∃ x ∈ l.drop n, x ∈ r)
  | 0, n, hd => by
    refine ⟨-1, Ev.step (fun _ => rfl) ?_, ?_⟩
    · simp only [slices_IndexFunc_ap.l0, if_neg (show ¬ (n : Int) < (l.length : Int) by omega)]
      exact Ev.now _
    · rw [List.drop_eq_nil_of_le (by omega)]
      simp
  | d + 1, n, hd => by
    obtain ⟨i, h1, h2⟩ := IFap_l l r hl hr d (n + 1) (by omega)
    rw [drop_cons 0 l n (by omega)]
    by_cases h : l.getD n 0 ∈ r
    · refine ⟨n, Ev.step (fun _ => rfl) ?_, ⟨fun _ => ⟨_, List.mem_cons_self, h⟩, fun _ => by omega⟩⟩
      simp only [slices_IndexFunc_ap.l0, if_pos (show (n : Int) < (l.length : Int) by omega), if_pos (show (0 : Int) ≤ (n : Int) by omega), w64n (show n < l.length by omega) hl, rd_nat, impl_apart_1.f]
      refine Ev.bind (Contains_ev r (l.getD n 0) hr) ?_
      simp only [bP_pos h, if_true]
      exact Ev.now _
    · refine ⟨i, Ev.step (fun _ => rfl) ?_, h2.trans ⟨fun ⟨x, hx, hy⟩ => ⟨x, List.mem_cons_of_mem _ hx, hy⟩, fun ⟨x, hx, hy⟩ => (List.mem_cons.1 hx).elim (fun e => absurd (e ▸ hy) h) (fun hx => ⟨x, hx, hy⟩)⟩⟩
      simp only [slices_IndexFunc_ap.l0, if_pos (show (n : Int) < (l.length : Int) by omega), if_pos (show (0 : Int) ≤ (n : Int) by omega), w64n (show n < l.length by omega) hl, rd_nat, impl_apart_1.f]
      refine Ev.bind (Contains_ev r (l.getD n 0) hr) ?_
      simp only [bP_neg h, if_neg (show ¬ (false = true) by decide)]
      exact h1
theorem apart_ev (l r : List Int) (hl : l.length ≤ 9223372036854775807) (hr : r.length ≤ 9223372036854775807) : Ev (fun k => impl_apart.f k l r) (bP (apartP l r)) := by
  simp only [impl_apart.f]
  refine Ev.bind (implLineOk_ev l hl) ?_
  by_cases h1 : lineOk l
  · simp only [bP_pos h1, if_true]
    refine Ev.bind (clientsOk_ev r hr) ?_
    by_cases h2 : lineOk r
    · obtain ⟨i, h3, h4⟩ := IFap_l r l hr hl r.length 0 (by omega)
      rw [List.drop_zero] at h4
      simp only [bP_pos h2, if_true, slices_ContainsFunc_ap.f, slices_IndexFunc_ap.f]
      refine Ev.bind (Ev.bind h3 (Ev.now _)) ?_
      refine Ev_eq (Ev.now _) ?_
      rw [bP_dec, bP_congr h4]
      by_cases h5 : ∃ x ∈ r, x ∈ l
      · rw [bP_pos h5, bP_neg (fun h => by obtain ⟨x, hx, hy⟩ := h5; exact h.2.2 x hx hy)]
        rfl
      · rw [bP_neg h5, bP_pos ⟨h1, h2, fun x hx hy => h5 ⟨x, hx, hy⟩⟩]
        rfl
    · simp only [bP_neg h2, if_neg (show ¬ (false = true) by decide)]
      rw [bP_neg (fun h => h2 h.2.1)]
      exact Ev.now _
  · simp only [bP_neg h1, if_neg (show ¬ (false = true) by decide)]
    rw [bP_neg (fun h => h1 h.1)]
    exact Ev.now _
theorem szInt2_cases (l r : List Int) (w : Int) (h0 : 0 ≤ w) (h2 : w ≤ 1048576) (hl : l.length ≤ 9223372036854775807) (hr : r.length ≤ 9223372036854775807) : ∃ v, ((laws_szIntS.f l w).bind fun t => if t < 0 then some (-1) else (laws_szIntS.f r t).bind fun t' => if t' < 0 then some (-1) else some t') = some v ∧ (v < 0 ∨ (0 ≤ v ∧ l.length + r.length ≤ w)) := by
  by_cases h1 : w < l.length
  · exact ⟨-1, by rw [szIntS_neg l _ hl h0 h2 h1]; rfl, .inl (by omega)⟩
  · by_cases h3 : w - l.length < r.length
    · refine ⟨-1, ?_, .inl (by omega)⟩
      rw [szIntS_pos l _ (by omega) (by omega)]
      simp only [Option.bind_some, if_neg (show ¬ w - l.length < 0 by omega)]
      rw [szIntS_neg r _ hr (by omega) (by omega) h3]
      rfl
    · refine ⟨w - l.length - r.length, ?_, .inr ⟨by omega, by omega⟩⟩
      rw [szIntS_pos l _ (by omega) (by omega)]
      simp only [Option.bind_some, if_neg (show ¬ w - l.length < 0 by omega)]
      rw [szIntS_pos r _ (by omega) (by omega)]
      simp only [Option.bind_some, if_neg (show ¬ w - l.length - r.length < 0 by omega)]
def gC (g : List S67) : List Int := g.map fun x => x.f0
def ones : List S67 → Int
  | [] => 0
  | x :: xs => (if x.f1 = true then 1 else 0) + ones xs
theorem gC_length (g : List S67) : (gC g).length = g.length := by simp [gC]
theorem gC_getD (g : List S67) (n : Nat) (h : n < g.length) : (gC g).getD n 0 = (g.getD n z67).f0 := by
  simp [gC, List.getD_eq_getElem?_getD, List.getElem?_eq_getElem h]
theorem ones_bd : ∀ g : List S67, 0 ≤ ones g ∧ ones g ≤ g.length
  | [] => by simp [ones]
  | x :: xs => by
    have := ones_bd xs
    simp only [ones, List.length_cons]
    split <;> omega
theorem rdG_nat (l : List S67) (n : Nat) : rd_T67 l (n : Int) = l.getD n z67 := by simp [rd_T67]
def toG (l : List S84) : List S67 := l.map fun x => ⟨x.f0, x.f1⟩
theorem toG_length (l : List S84) : (toG l).length = l.length := by simp [toG]
theorem rdH_nat (l : List S84) (n : Nat) : rd_T84 l (n : Int) = l.getD n z84 := by simp [rd_T84]
theorem toGrantS_l (l : List S84) (hl : l.length ≤ 9223372036854775807) : ∀ d n : Nat, n + d = l.length → ∀ out : List S67, out.length = l.length → Ev (fun k => laws_toGrantS.l0 k l out n) (out.take n ++ (toG l).drop n)
  | 0, n, hd, out, ho => by
    refine Ev.step (fun _ => rfl) ?_
    simp only [laws_toGrantS.l0, if_neg (show ¬ (n : Int) < (l.length : Int) by omega)]
    rw [List.drop_eq_nil_of_le (by rw [toG_length]; omega), List.append_nil, List.take_of_length_le (by omega)]
    exact Ev.now _
  | d + 1, n, hd, out, ho => by
    refine Ev.step (fun _ => rfl) ?_
    simp only [laws_toGrantS.l0, laws_toGrant.f, Option.bind_some, if_pos (show (n : Int) < (l.length : Int) by omega), if_pos (show (0 : Int) ≤ (n : Int) by omega), if_pos (show (n : Int) < (out.length : Int) by omega), w64n (show n < l.length by omega) hl, Int.toNat_natCast, rdH_nat]
    have ih := toGrantS_l l hl d (n + 1) (by omega) (out.set n ⟨(l.getD n z84).f0, (l.getD n z84).f1⟩) (by simp [ho])
    refine Ev_eq ih ?_
    rw [take_cons z67 _ n (by simp; omega), List.take_set_of_le (Nat.le_refl n), drop_cons z67 (toG l) n (by rw [toG_length]; omega), List.append_assoc]
    congr 2
    simp [toG, List.getD_eq_getElem?_getD, List.getElem?_set_self (show n < out.length by omega), List.getElem?_eq_getElem (show n < l.length by omega)]
theorem toGrantS_ev (l : List S84) (hl : l.length ≤ 17592186044416) : Ev (fun k => laws_toGrantS.f k l) (toG l) := by
  simp only [laws_toGrantS.f, if_pos (show (0 : Int) ≤ (l.length : Int) by omega), Int.toNat_natCast, if_pos hl]
  have h := toGrantS_l l (by omega) l.length 0 (by omega) (List.replicate l.length z67) (by simp)
  simpa using h
theorem eqGrantS_l (a : List S67) (hl : a.length ≤ 9223372036854775807) : ∀ d n : Nat, n + d = a.length → Ev (fun k => laws_eqGrantS.l0 k a a n) true
  | 0, n, hd => by
    refine Ev.step (fun _ => rfl) ?_
    simp only [laws_eqGrantS.l0, if_neg (show ¬ (n : Int) < (a.length : Int) by omega)]
    exact Ev.now _
  | d + 1, n, hd => by
    refine Ev.step (fun _ => rfl) ?_
    simp only [laws_eqGrantS.l0, laws_eqGrant.f, if_true, bne_self_eq_false, if_neg (show ¬ (false = true) by decide), Option.bind_some, if_pos (show (n : Int) < (a.length : Int) by omega), if_pos (show (0 : Int) ≤ (n : Int) by omega), w64n (show n < a.length by omega) hl]
    exact eqGrantS_l a hl d (n + 1) (by omega)
theorem eqGrantS_self (a : List S67) (hl : a.length ≤ 9223372036854775807) : Ev (fun k => laws_eqGrantS.f k a a) true := by
  simp only [laws_eqGrantS.f, if_true]
  exact eqGrantS_l a hl a.length 0 (by omega)
def upG : Int → Nat → List S67
  | _, 0 => []
  | v, n + 1 => ⟨v, Int.tmod (v + 1) 3 == 0⟩ :: upG (v + 2) n
theorem upG_length : ∀ n v, (upG v n).length = n
  | 0, _ => rfl
  | n + 1, v => by simp [upG, upG_length n]
theorem rdG_natm (l : List S67) (n : Nat) : rd_T67 l (n : Int) = l.getD n z67 := by simp [rd_T67]
theorem markGrantS_l (m : Nat) (hl : m ≤ 9223372036854775807) : ∀ d n : Nat, n + d = m → ∀ (out : List S67) (v : Int), out.length = m → -9223372036854775808 ≤ v → v + 2 * d ≤ 9223372036854775806 → Ev (fun k => laws_markGrantS.l0 k out v n) (v + 2 * d, out.take n ++ upG v d)
  | 0, n, hd, out, v, ho, h0, h1 => by
    refine Ev.step (fun _ => rfl) ?_
    simp only [laws_markGrantS.l0, if_neg (show ¬ (n : Int) < (out.length : Int) by omega)]
    refine Ev_eq (Ev.now _) ?_
    rw [List.take_of_length_le (by omega)]
    simp [upG]
  | d + 1, n, hd, out, v, ho, h0, h1 => by
    refine Ev.step (fun _ => rfl) ?_
    simp only [laws_markGrantS.l0, if_pos (show (n : Int) < (out.length : Int) by omega), if_pos (show (0 : Int) ≤ (n : Int) by omega), w64n (show n < m by omega) hl, Int.toNat_natCast, Option.bind_some, w64 (show -9223372036854775808 ≤ v + 1 by omega) (show v + 1 ≤ 9223372036854775807 by omega), w64 (show -9223372036854775808 ≤ v + 1 + 1 by omega) (show v + 1 + 1 ≤ 9223372036854775807 by omega), List.set_set]
    have e1 : rd_T67 (out.set n ⟨v, (rd_T67 out (n : Int)).f1⟩) (n : Int) = ⟨v, (rd_T67 out (n : Int)).f1⟩ := by
      rw [rdG_natm]
      simp [List.getD_eq_getElem?_getD, List.getElem?_set_self (show n < out.length by omega)]
    rw [e1]
    refine Ev_eq (markGrantS_l m hl d (n + 1) (by omega) (out.set n ⟨v, Int.tmod (v + 1) 3 == 0⟩) (v + 1 + 1) (by simp [ho]) (by omega) (by omega)) ?_
    rw [take_cons z67 _ n (by simp; omega), List.take_set_of_le (Nat.le_refl n), List.append_assoc]
    simp only [upG, Prod.mk.injEq]
    refine ⟨by omega, ?_⟩
    congr 1
    simp [List.getD_eq_getElem?_getD, List.getElem?_set_self (show n < out.length by omega), Int.add_assoc]
theorem markGrantS_ev (l : List S67) (v : Int) (h0 : -9223372036854775808 ≤ v) (h1 : v + 2 * l.length ≤ 9223372036854775806) (hl : l.length ≤ 9223372036854775807) : Ev (fun k => laws_markGrantS.f k l v) (v + 2 * l.length, upG v l.length) := by
  simp only [laws_markGrantS.f]
  simpa using markGrantS_l l.length hl l.length 0 (by omega) l v rfl h0 h1
theorem rdG_nath (l : List S67) (n : Nat) : rd_T67 l (n : Int) = l.getD n z67 := by simp [rd_T67]
theorem heldGrantS_l (l : List S67) (hl : l.length ≤ 9223372036854775807) : ∀ d n : Nat, n + d = l.length → ∀ (v : Int), -9223372036854775808 ≤ v → v + 2 * d ≤ 9223372036854775806 → l.drop n = upG v d → Ev (fun k => laws_heldGrantS.l0 k l v n) (v + 2 * d)
  | 0, n, hd, v, h0, h1, he => by
    refine Ev.step (fun _ => rfl) ?_
    simp only [laws_heldGrantS.l0, if_neg (show ¬ (n : Int) < (l.length : Int) by omega)]
    refine Ev_eq (Ev.now _) (by omega)
  | d + 1, n, hd, v, h0, h1, he => by
    rw [drop_cons z67 l n (by omega)] at he
    simp only [upG, List.cons.injEq] at he
    refine Ev.step (fun _ => rfl) ?_
    simp only [laws_heldGrantS.l0, if_pos (show (n : Int) < (l.length : Int) by omega), if_pos (show (0 : Int) ≤ (n : Int) by omega), w64n (show n < l.length by omega) hl, rdG_nath, he.1, if_true, bne_self_eq_false, if_neg (show ¬ (false = true) by decide), w64 (show -9223372036854775808 ≤ v + 1 by omega) (show v + 1 ≤ 9223372036854775807 by omega), w64 (show -9223372036854775808 ≤ v + 1 + 1 by omega) (show v + 1 + 1 ≤ 9223372036854775807 by omega)]
    exact Ev_eq (heldGrantS_l l hl d (n + 1) (by omega) (v + 1 + 1) (by omega) (by omega) (by rw [he.2, Int.add_assoc]; rfl)) (by omega)
theorem heldGrantS_ev (n : Nat) (v : Int) (h0 : -9223372036854775808 ≤ v) (h1 : v + 2 * n ≤ 9223372036854775806) (hl : n ≤ 9223372036854775807) : Ev (fun k => laws_heldGrantS.f k (upG v n) v) (v + 2 * n) := by
  simp only [laws_heldGrantS.f]
  exact heldGrantS_l (upG v n) (by rw [upG_length]; exact hl) n 0 (by rw [upG_length]; omega) v h0 h1 rfl
theorem toNotify_ev (a : Bool) (l : List Int) (g : List S84) (u v w : Int) (hl : l.length ≤ 17592186044416) (hg : g.length ≤ 17592186044416) : Ev (fun k => laws_toNotify.f k a l g u v w) (a, l, toG g, u, v, w) := by
  simp only [laws_toNotify.f]
  repeat (first
    | (dsimp only)
    | (with_reducible exact Ev.now _)
    | (with_reducible refine Ev.bind (toIntS_ev _ (by omega)) ?_)
    | (with_reducible refine Ev.bind (toGrantS_ev _ (by omega)) ?_)
    | (refine Ev_ifpos (by first | rfl | omega | (simp; omega)) ?_)
    | (refine Ev_ifneg (by first | omega | decide | (simp; omega)) ?_)
    | (refine Ev_ifneg (by simp only [bne_self_eq_false]; decide) ?_)
    | (refine Ev_ifpos (by simp) ?_)
    | (refine Ev_ifneg (by simp) ?_))
theorem eqNotify_self (a : Bool) (l : List Int) (g : List S67) (u v w : Int) (hl : l.length ≤ 9223372036854775807) (hg : g.length ≤ 9223372036854775807) : Ev (fun k => laws_eqNotify.f k a l g u v w a l g u v w) true := by
  simp only [laws_eqNotify.f]
  repeat (first
    | (dsimp only)
    | (with_reducible exact Ev.now _)
    | (with_reducible refine Ev.bind (eqIntS_self _ (by omega)) ?_)
    | (with_reducible refine Ev.bind (eqGrantS_self _ (by omega)) ?_)
    | (refine Ev_ifpos (by first | rfl | omega | (simp; omega)) ?_)
    | (refine Ev_ifneg (by first | omega | decide | (simp; omega)) ?_)
    | (refine Ev_ifneg (by simp only [bne_self_eq_false]; decide) ?_)
    | (refine Ev_ifpos (by simp) ?_)
    | (refine Ev_ifneg (by simp) ?_))
theorem markNotify_ev (a : Bool) (l : List Int) (g : List S67) (u v w : Int) (x : Int) (h0 : -9223372036854775808 ≤ x) (h1 : x + l.length + 2 * g.length ≤ 9223372036854775806) (hl : l.length ≤ 1048577) (hr : g.length ≤ 1048577) : Ev (fun k => laws_markNotify.f k a l g u v w x) (x + l.length + 2 * g.length, upFrom x l.length, upG (x + l.length) g.length) := by
  simp only [laws_markNotify.f]
  repeat (first
    | (dsimp only)
    | (with_reducible exact Ev.now _)
    | (with_reducible refine Ev.bind (markIntS_ev _ _ (by omega) (by omega) (by omega)) ?_)
    | (with_reducible refine Ev.bind (markGrantS_ev _ _ (by omega) (by omega) (by omega)) ?_)
    | (refine Ev_ifpos (by first | rfl | omega | (simp; omega)) ?_)
    | (refine Ev_ifneg (by first | omega | decide | (simp; omega)) ?_)
    | (refine Ev_ifneg (by simp only [bne_self_eq_false]; decide) ?_)
    | (refine Ev_ifpos (by simp) ?_)
    | (refine Ev_ifneg (by simp) ?_))
theorem heldNotify_ev (a : Bool) (p q : Nat) (u v w : Int) (x : Int) (h0 : 0 ≤ x) (h1 : x + p + 2 * q ≤ 9223372036854775806) (hp : p ≤ 1048577) (ho : q ≤ 1048577) : Ev (fun k => laws_heldNotify.f k a (upFrom x p) (upG (x + p) q) u v w x) (x + p + 2 * q) := by
  simp only [laws_heldNotify.f]
  repeat (first
    | (dsimp only)
    | (with_reducible exact Ev.now _)
    | (with_reducible refine Ev.bind (heldIntS_ev _ _ (by omega) (by omega) (by omega)) ?_)
    | (with_reducible refine Ev.bind (heldGrantS_ev _ _ (by omega) (by omega) (by omega)) ?_)
    | (refine Ev_ifpos (by first | rfl | omega | (simp; omega)) ?_)
    | (refine Ev_ifneg (by first | omega | decide | (simp; omega)) ?_)
    | (refine Ev_ifneg (by simp only [bne_self_eq_false]; decide) ?_)
    | (refine Ev_ifpos (by simp) ?_)
    | (refine Ev_ifneg (by simp) ?_))
theorem szNotify_cases (a : Bool) (l : List Int) (g : List S84) (u v w : Int) (hl : l.length ≤ 9223372036854775807) (hg : g.length ≤ 9223372036854775807) : ∃ x, laws_szNotify.f a l g u v w 1048576 = some x ∧ (x < 0 ∨ (0 ≤ x ∧ (l.length : Int) + g.length ≤ 1048576)) := by
  simp only [laws_szNotify.f]
  by_cases h1 : (1048576 : Int) < l.length
  · exact ⟨-1, by rw [szIntS_neg l _ hl (by omega) (by omega) h1]; rfl, .inl (by omega)⟩
  · rw [szIntS_pos l _ (by omega) (by omega)]
    simp only [Option.bind_some, if_neg (show ¬ (1048576 : Int) - l.length < 0 by omega), laws_szGrantS.f, w64 (show -9223372036854775808 ≤ (1048576 : Int) - l.length - g.length by omega) (show (1048576 : Int) - l.length - g.length ≤ 9223372036854775807 by omega)]
    by_cases h2 : (1048576 : Int) - l.length - g.length < 0
    · exact ⟨-1, by rw [if_pos h2]; rfl, .inl (by omega)⟩
    · exact ⟨1048576 - l.length - g.length, by rw [if_neg h2]; simp only [Option.bind_some, if_neg h2], .inr ⟨by omega, by omega⟩⟩
theorem pos_first (c : Int) : ∀ (L : List Int) (i : Nat) (j : Int), 0 ≤ j → i < L.length → L.getD i 0 = c → (pos c L j = j + i ↔ c ∉ L.take i)
  | [], i, j, _, h, _ => by simp at h
  | x :: xs, 0, j, hj, h, he => by
    have : x = c := by simpa using he
    simp [pos, this]
  | x :: xs, i + 1, j, hj, h, he => by
    have he' : xs.getD i 0 = c := by simpa using he
    have h' : i < xs.length := by simpa using h
    have ih := pos_first c xs i (j + 1) (by omega) h' he'
    simp only [pos, List.take_succ_cons, List.mem_cons, not_or]
    by_cases hx : x = c
    · rw [if_pos hx]
      exact ⟨fun e => by omega, fun e => absurd hx.symm e.1⟩
    · rw [if_neg hx, show j + ((i + 1 : Nat) : Int) = j + 1 + (i : Int) by omega, ih]
      exact ⟨fun e => ⟨fun e' => hx e'.symm, e⟩, fun e => e.2⟩
theorem l5At_l (g : List S67) (c : Int) (hl : g.length ≤ 9223372036854775807) : ∀ d n : Nat, n + d = g.length → Ev (fun k => spec_l5At.l0 k g c n) (pos c ((gC g).drop n) n)
  | 0, n, hd => by
    refine Ev.step (fun _ => rfl) ?_
    simp only [spec_l5At.l0, if_neg (show ¬ (n : Int) < (g.length : Int) by omega)]
    rw [List.drop_eq_nil_of_le (by rw [gC_length]; omega)]
    exact Ev.now _
  | d + 1, n, hd => by
    refine Ev.step (fun _ => rfl) ?_
    simp only [spec_l5At.l0, if_pos (show (n : Int) < (g.length : Int) by omega), if_pos (show (0 : Int) ≤ (n : Int) by omega), w64n (show n < g.length by omega) hl, rdG_nat]
    rw [drop_cons 0 (gC g) n (by rw [gC_length]; omega), gC_getD g n (by omega)]
    by_cases h : (g.getD n z67).f0 = c
    · simp only [if_pos h]
      refine Ev_eq (Ev.now _) ?_
      simp only [pos]
      rw [if_pos h]
    · simp only [if_neg h]
      refine Ev_eq (l5At_l g c hl d (n + 1) (by omega)) ?_
      simp only [pos]
      rw [if_neg h, show ((n + 1 : Nat) : Int) = (n : Int) + 1 by omega]
theorem l5At_ev (g : List S67) (c : Int) (hl : g.length ≤ 9223372036854775807) : Ev (fun k => spec_l5At.f k g c) (pos c (gC g) 0) := by
  simp only [spec_l5At.f]
  exact l5At_l g c hl g.length 0 (by omega)
def notifyOk (a : Bool) (l : List Int) (g : List S67) (u v w : Int) : Prop := apartP l (gC g) ∧ (a = true → l.length = 0) ∧ (0 ≤ u ∧ u ≤ 1000000000) ∧ (0 ≤ v ∧ v ≤ 1000000000) ∧ (0 ≤ w ∧ w ≤ 1000000000) ∧ w + v + (if a = true then 1 else 0) + ones g = u
theorem specNotify_l (a : Bool) (l : List Int) (g : List S67) (u v w : Int) (hl : l.length ≤ 9223372036854775807) (hg : g.length ≤ 9223372036854775807) : ∀ d n : Nat, n + d = g.length → ∀ x3 : Int, 0 ≤ x3 → x3 + d ≤ 9223372036854775806 → Ev (fun k => spec_NotifyOk.l0 k x3 n a l g u v w) (bP (lineFrom (gC g) n ∧ (∀ x ∈ (gC g).drop n, x ∉ l) ∧ x3 + ones (g.drop n) = u))
  | 0, n, hd, x3, h0, h1 => by
    refine Ev.step (fun _ => rfl) ?_
    simp only [spec_NotifyOk.l0, if_neg (show ¬ (n : Int) < (g.length : Int) by omega)]
    rw [List.drop_eq_nil_of_le (show g.length ≤ n by omega), List.drop_eq_nil_of_le (show (gC g).length ≤ n by rw [gC_length]; omega)]
    refine Ev_eq (Ev.now _) ?_
    rw [show ∀ x y : Int, (x == y) = bP (x = y) from fun x y => by rw [← bP_dec]; rfl]
    refine bP_congr ⟨fun h => ⟨fun i hi hl => by rw [gC_length] at hl; omega, by simp, by simp only [ones]; omega⟩, fun h => ?_⟩
    have := h.2.2
    simp only [ones] at this
    omega
  | d + 1, n, hd, x3, h0, h1 => by
    have hn : n < (gC g).length := by rw [gC_length]; omega
    have hgd := gC_getD g n (by omega)
    have hF : ∀ (Q : Prop) (q : List Int → List Int → Int → Prop), ¬ Q → (lineFrom (gC g) n ∧ (∀ x ∈ (gC g).drop n, x ∉ l) ∧ x3 + ones (g.drop n) = u → Q) → Ev (fun k => spec_NotifyOk.j4 k x3 n true a l g u v w (g.getD n z67).f0 (g.getD n z67).f1) (bP (lineFrom (gC g) n ∧ (∀ x ∈ (gC g).drop n, x ∉ l) ∧ x3 + ones (g.drop n) = u)) := by
      intro Q q hQ hi
      refine Ev.step (fun _ => rfl) ?_
      simp only [spec_NotifyOk.j4, if_true]
      rw [bP_neg (fun h => hQ (hi h))]
      exact Ev.now _
    refine Ev.step (fun _ => rfl) ?_
    simp only [spec_NotifyOk.l0, if_pos (show (n : Int) < (g.length : Int) by omega), if_pos (show (0 : Int) ≤ (n : Int) by omega), rdG_nat, l2Client_eq, Option.bind_some]
    by_cases h2 : isCl (g.getD n z67).f0
    · simp only [bP_pos h2, if_true]
      refine Ev.bind (l5At_ev g _ hg) ?_
      have hp := pos_first (g.getD n z67).f0 (gC g) n 0 (by omega) hn hgd
      rw [Int.zero_add] at hp
      by_cases h3 : pos (g.getD n z67).f0 (gC g) 0 = n
      · simp only [if_pos h3]
        refine Ev.bind (l2Has_ev l _ hl) ?_
        by_cases h4 : (g.getD n z67).f0 ∈ l
        · simp only [bP_pos h4]
          exact hF ((g.getD n z67).f0 ∉ l) (fun _ _ _ => True) (fun h => h h4) (fun h => h.2.1 _ (by rw [drop_cons 0 (gC g) n hn, hgd]; exact List.mem_cons_self))
        · simp only [bP_neg h4]
          have h3' := hp.1 h3
          have hs : ∀ y : Int, (lineFrom (gC g) n ∧ (∀ x ∈ (gC g).drop n, x ∉ l) ∧ x3 + ones (g.drop n) = u) ↔ (lineFrom (gC g) (n + 1) ∧ (∀ x ∈ (gC g).drop (n + 1), x ∉ l) ∧ x3 + ones (g.drop n) = u) := fun y => by
            rw [lineFrom_step (gC g) n hn, drop_cons 0 (gC g) n hn, hgd]
            exact ⟨fun h => ⟨h.1.2, fun x hx => h.2.1 x (List.mem_cons_of_mem _ hx), h.2.2⟩, fun h => ⟨⟨⟨h2, h3'⟩, h.1⟩, fun x hx => (List.mem_cons.1 hx).elim (fun e => e ▸ h4) (h.2.1 x), h.2.2⟩⟩
          refine Ev.step (fun _ => rfl) ?_
          simp only [spec_NotifyOk.j4, if_neg (show ¬ (false = true) by decide), w64n (show n < g.length by omega) hg]
          rw [bP_congr (hs 0), drop_cons z67 g n (by omega)]
          simp only [ones]
          by_cases h5 : (g.getD n z67).f1 = true
          · simp only [if_pos h5, w64 (show -9223372036854775808 ≤ x3 + 1 by omega) (show x3 + 1 ≤ 9223372036854775807 by omega)]
            exact Ev_eq (specNotify_l a l g u v w hl hg d (n + 1) (by omega) (x3 + 1) (by omega) (by omega)) (bP_congr (and_congr_right fun _ => and_congr_right fun _ => by omega))
          · simp only [if_neg h5]
            exact Ev_eq (specNotify_l a l g u v w hl hg d (n + 1) (by omega) x3 (by omega) (by omega)) (bP_congr (and_congr_right fun _ => and_congr_right fun _ => by omega))
      · simp only [if_neg h3]
        exact hF (pos (g.getD n z67).f0 (gC g) 0 = n) (fun _ _ _ => True) h3 (fun h => hp.2 (by have := ((lineFrom_step (gC g) n hn).1 h.1).1.2; rw [hgd] at this; exact this))
    · simp only [bP_neg h2, if_neg (show ¬ (false = true) by decide)]
      exact hF (isCl (g.getD n z67).f0) (fun _ _ _ => True) h2 (fun h => by have := ((lineFrom_step (gC g) n hn).1 h.1).1.1; rw [hgd] at this; exact this)
theorem specNotify_t1 (a : Bool) (l : List Int) (g : List S67) (u v w : Int) (h : ¬ notifyOk a l g u v w) : Ev (fun k => spec_NotifyOk.j1 k true a l g u v w) (bP (notifyOk a l g u v w)) := by
  refine Ev.step (fun _ => rfl) ?_
  simp only [spec_NotifyOk.j1, if_true]
  rw [bP_neg h]
  exact Ev.now _
theorem specNotify_t0 (a : Bool) (l : List Int) (g : List S67) (u v w : Int) (h : ¬ notifyOk a l g u v w) : Ev (fun k => spec_NotifyOk.j0 k true a l g u v w) (bP (notifyOk a l g u v w)) := by
  refine Ev.step (fun _ => rfl) ?_
  simp only [spec_NotifyOk.j0, if_true]
  rw [bP_neg h]
  exact Ev.now _
theorem specNotify_j2 (a : Bool) (l : List Int) (g : List S67) (u v w x3 : Int) (hl : l.length ≤ 9223372036854775807) (h1 : lineOk l) (h2 : g.length ≤ 32) (h3 : a = true → l.length = 0) (h4 : 0 ≤ u ∧ u ≤ 1000000000) (h5 : 0 ≤ v ∧ v ≤ 1000000000) (h6 : 0 ≤ w ∧ w ≤ 1000000000) (hx : x3 = w + v + (if a = true then 1 else 0)) (hx0 : 0 ≤ x3 ∧ x3 ≤ 2000000001) : Ev (fun k => spec_NotifyOk.j2 k x3 a l g u v w) (bP (notifyOk a l g u v w)) := by
  refine Ev.step (fun _ => rfl) ?_
  simp only [spec_NotifyOk.j2]
  refine Ev_eq (specNotify_l a l g u v w hl (by omega) g.length 0 (by omega) x3 (by omega) (by omega)) (bP_congr ?_)
  rw [List.drop_zero, List.drop_zero, hx]
  exact ⟨fun h => ⟨⟨h1, ⟨by rw [gC_length]; omega, h.1⟩, h.2.1⟩, h3, h4, h5, h6, h.2.2⟩, fun h => ⟨h.1.2.1.2, h.1.2.2, h.2.2.2.2.2⟩⟩
theorem specNotify_j0 (a : Bool) (l : List Int) (g : List S67) (u v w : Int) (hl : l.length ≤ 9223372036854775807) (h1 : lineOk l) (h2 : g.length ≤ 32) (h3 : a = true → l.length = 0) : Ev (fun k => spec_NotifyOk.j0 k false a l g u v w) (bP (notifyOk a l g u v w)) := by
  refine Ev.step (fun _ => rfl) ?_
  simp only [spec_NotifyOk.j0, if_neg (show ¬ (false = true) by decide), l1In_eq, Option.bind_some]
  by_cases h4 : 0 ≤ u ∧ u ≤ 1000000000
  · simp only [bP_pos h4, if_true]
    by_cases h5 : 0 ≤ v ∧ v ≤ 1000000000
    · simp only [bP_pos h5, if_true]
      by_cases h6 : 0 ≤ w ∧ w ≤ 1000000000
      · simp only [bP_pos h6, Bool.not_true]
        refine Ev.step (fun _ => rfl) ?_
        simp only [spec_NotifyOk.j1, if_neg (show ¬ (false = true) by decide), w64 (show -9223372036854775808 ≤ w + v by omega) (show w + v ≤ 9223372036854775807 by omega), w64 (show -9223372036854775808 ≤ w + v + 1 by omega) (show w + v + 1 ≤ 9223372036854775807 by omega)]
        cases a
        · simp only [if_neg (show ¬ (false = true) by decide)]
          exact specNotify_j2 false l g u v w (w + v) hl h1 h2 h3 h4 h5 h6 (by rw [if_neg (by decide)]; omega) (by omega)
        · simp only [if_true]
          exact specNotify_j2 true l g u v w (w + v + 1) hl h1 h2 h3 h4 h5 h6 (by rw [if_pos rfl]) (by omega)
      · simp only [bP_neg h6, Bool.not_false]
        exact specNotify_t1 a l g u v w (fun h => h6 h.2.2.2.2.1)
    · simp only [bP_neg h5, if_neg (show ¬ (false = true) by decide)]
      exact specNotify_t1 a l g u v w (fun h => h5 h.2.2.2.1)
  · simp only [bP_neg h4, if_neg (show ¬ (false = true) by decide)]
    exact specNotify_t1 a l g u v w (fun h => h4 h.2.2.1)
theorem specNotifyOk_ev (a : Bool) (l : List Int) (g : List S67) (u v w : Int) (hl : l.length ≤ 9223372036854775807) (hg : g.length ≤ 9223372036854775807) : Ev (fun k => spec_NotifyOk.f k a l g u v w) (bP (notifyOk a l g u v w)) := by
  simp only [spec_NotifyOk.f]
  refine Ev.bind (specLineOk_ev l hl) ?_
  by_cases h1 : lineOk l
  · simp only [bP_pos h1, if_true]
    by_cases h2 : (g.length : Int) > 32
    · simp only [if_pos h2]
      exact specNotify_t0 a l g u v w (fun h => by have := h.1.2.1.1; rw [gC_length] at this; omega)
    · simp only [if_neg h2]
      cases a
      · simp only [if_neg (show ¬ (false = true) by decide)]
        exact specNotify_j0 false l g u v w hl h1 (by omega) (fun h => by cases h)
      · simp only [if_true]
        by_cases h3 : l.length = 0
        · simp only [decide_eq_false (show ¬ (l.length : Int) > 0 by omega)]
          exact specNotify_j0 true l g u v w hl h1 (by omega) (fun _ => h3)
        · simp only [decide_eq_true (show (l.length : Int) > 0 by omega)]
          exact specNotify_t0 true l g u v w (fun h => h3 (h.2.1 rfl))
  · simp only [bP_neg h1, if_neg (show ¬ (false = true) by decide)]
    exact specNotify_t0 a l g u v w (fun h => h1 h.1.1)
def wsum : Int → List S67 → Int
  | x, [] => x
  | x, y :: ys => wsum (if y.f1 = true then wrap64 (x + 1) else x) ys
theorem wsum_eq : ∀ (ys : List S67) (x : Int), 0 ≤ x → x + ys.length ≤ 9223372036854775807 → wsum x ys = x + ones ys
  | [], x, _, _ => by simp [wsum, ones]
  | y :: ys, x, h0, h1 => by
    simp only [List.length_cons] at h1
    simp only [wsum, ones]
    by_cases h : y.f1 = true
    · rw [if_pos h, if_pos h, w64 (by omega) (by omega), wsum_eq ys (x + 1) (by omega) (by omega)]
      omega
    · rw [if_neg h, if_neg h, wsum_eq ys x h0 (by omega)]
      omega
theorem implNotify_l (a : Bool) (l : List Int) (g : List S67) (u v w : Int) (hg : g.length ≤ 1048577) (R : Bool) (x0 : Int) (hR : Ev (fun k => if a = true then impl_NotifyOk.j1 k (gC g) (wrap64 (wsum x0 g + 1)) a l g u v w else impl_NotifyOk.j1 k (gC g) (wsum x0 g) a l g u v w) R) : ∀ d n : Nat, n + d = g.length → ∀ (acc : List Int) (x : Int), acc = (gC g).take n → wsum x (g.drop n) = wsum x0 g → Ev (fun k => impl_NotifyOk.l0 k acc x g (g.length : Int) n a l g u v w) R
  | 0, n, hd, acc, x, ha, hx => by
    refine Ev.step (fun _ => rfl) ?_
    simp only [impl_NotifyOk.l0, if_neg (show ¬ (n : Int) < (g.length : Int) by omega)]
    rw [List.drop_eq_nil_of_le (show g.length ≤ n by omega)] at hx
    rw [List.take_of_length_le (by rw [gC_length]; omega)] at ha
    simp only [wsum] at hx
    rw [ha, hx]
    exact hR
  | d + 1, n, hd, acc, x, ha, hx => by
    have hal : acc.length ≤ n := by rw [ha, List.length_take]; omega
    refine Ev.step (fun _ => rfl) ?_
    simp only [impl_NotifyOk.l0, if_pos (show (n : Int) < (g.length : Int) by omega), if_pos (show (0 : Int) ≤ (n : Int) by omega), w64n (show n < g.length by omega) (show g.length ≤ 9223372036854775807 by omega), rdG_nat, if_pos (show acc.length < 17592186044416 by omega), Option.bind_some]
    rw [drop_cons z67 g n (by omega)] at hx
    simp only [wsum] at hx
    have ha' : acc ++ [(g.getD n z67).f0] = (gC g).take (n + 1) := by
      rw [take_cons 0 (gC g) n (by rw [gC_length]; omega), gC_getD g n (by omega), ha]
    by_cases h : (g.getD n z67).f1 = true
    · simp only [if_pos h] at hx ⊢
      exact implNotify_l a l g u v w hg R x0 hR d (n + 1) (by omega) _ _ ha' hx
    · simp only [if_neg h] at hx ⊢
      exact implNotify_l a l g u v w hg R x0 hR d (n + 1) (by omega) _ _ ha' hx
theorem implNotify_j1 (a : Bool) (l : List Int) (g : List S67) (u v w x : Int) (hl : l.length ≤ 9223372036854775807) (hg : g.length ≤ 9223372036854775807) (hx : g.length ≤ 32 → 0 ≤ v ∧ v ≤ 1000000000 → 0 ≤ w ∧ w ≤ 1000000000 → x = w + v + (if a = true then 1 else 0) + ones g) : Ev (fun k => impl_NotifyOk.j1 k (gC g) x a l g u v w) (bP (notifyOk a l g u v w)) := by
  refine Ev.step (fun _ => rfl) ?_
  simp only [impl_NotifyOk.j1, isCount_eq, Option.bind_some]
  refine Ev.bind (apart_ev l (gC g) hl (by rw [gC_length]; exact hg)) ?_
  by_cases h1 : apartP l (gC g)
  · have hg32 : g.length ≤ 32 := by have := h1.2.1.1; rw [gC_length] at this; exact this
    simp only [bP_pos h1, if_true]
    have main : (a = true → l.length = 0) → Ev (fun k => if bP (0 ≤ u ∧ u ≤ 1000000000) = true then if bP (0 ≤ v ∧ v ≤ 1000000000) = true then if bP (0 ≤ w ∧ w ≤ 1000000000) = true then some (x == u) else some false else some false else some false) (bP (notifyOk a l g u v w)) := by
      intro h2
      by_cases h4 : 0 ≤ u ∧ u ≤ 1000000000
      · simp only [bP_pos h4, if_true]
        by_cases h5 : 0 ≤ v ∧ v ≤ 1000000000
        · simp only [bP_pos h5, if_true]
          by_cases h6 : 0 ≤ w ∧ w ≤ 1000000000
          · simp only [bP_pos h6, if_true]
            refine Ev_eq (Ev.now _) ?_
            rw [show ∀ x y : Int, (x == y) = bP (x = y) from fun x y => by rw [← bP_dec]; rfl, hx hg32 h5 h6]
            exact bP_congr ⟨fun h => ⟨h1, h2, h4, h5, h6, h⟩, fun h => h.2.2.2.2.2⟩
          · simp only [bP_neg h6, if_neg (show ¬ (false = true) by decide)]
            rw [bP_neg (fun h => h6 h.2.2.2.2.1)]
            exact Ev.now _
        · simp only [bP_neg h5, if_neg (show ¬ (false = true) by decide)]
          rw [bP_neg (fun h => h5 h.2.2.2.1)]
          exact Ev.now _
      · simp only [bP_neg h4, if_neg (show ¬ (false = true) by decide)]
        rw [bP_neg (fun h => h4 h.2.2.1)]
        exact Ev.now _
    cases a
    · simp only [if_neg (show ¬ (false = true) by decide)]
      exact main (fun h => by cases h)
    · simp only [if_true]
      by_cases h3 : l.length = 0
      · simp only [if_neg (show ¬ (l.length : Int) > 0 by omega)]
        exact main (fun _ => h3)
      · simp only [if_pos (show (l.length : Int) > 0 by omega)]
        rw [bP_neg (fun h => h3 (h.2.1 rfl))]
        exact Ev.now _
  · simp only [bP_neg h1, if_neg (show ¬ (false = true) by decide)]
    rw [bP_neg (fun h => h1 h.1)]
    exact Ev.now _
theorem implNotifyOk_ev (a : Bool) (l : List Int) (g : List S67) (u v w : Int) (hl : l.length ≤ 9223372036854775807) (hg : g.length ≤ 1048577) : Ev (fun k => impl_NotifyOk.f k a l g u v w) (bP (notifyOk a l g u v w)) := by
  have hb := ones_bd g
  simp only [impl_NotifyOk.f]
  refine implNotify_l a l g u v w hg _ (wrap64 (w + v)) ?_ g.length 0 (by omega) [] _ (by simp) (by simp)
  have hs : g.length ≤ 32 → 0 ≤ v ∧ v ≤ 1000000000 → 0 ≤ w ∧ w ≤ 1000000000 → wsum (wrap64 (w + v)) g = w + v + ones g := fun h1 h2 h3 => by
    rw [w64 (by omega) (by omega)]
    exact wsum_eq g (w + v) (by omega) (by omega)
  cases a
  · simp only [if_neg (show ¬ (false = true) by decide)]
    exact implNotify_j1 false l g u v w _ hl (by omega) (fun h1 h2 h3 => by rw [hs h1 h2 h3, if_neg (by decide)]; omega)
  · simp only [if_true]
    exact implNotify_j1 true l g u v w _ hl (by omega) (fun h1 h2 h3 => by rw [hs h1 h2 h3, if_pos rfl, w64 (by omega) (by omega)]; omega)
theorem copyNotify_eq (a : Bool) (l : List Int) (g : List S67) (u v w : Int) (hl : l.length < 17592186044416) (hg : g.length < 8796093022208) : impl_copyNotify.f a l g u v w = some (a, l, g, u, v, w) := by
  simp only [impl_copyNotify.f, Clone_eq l hl, impl_Grant_91.f, Option.bind_some, List.length_nil, Nat.zero_add, if_pos hg, List.nil_append]
theorem l5Copy_eq (a : Bool) (l : List Int) (g : List S67) (u v w : Int) (hl : l.length < 17592186044416) (hg : g.length < 8796093022208) : spec_l5Copy.f a l g u v w = some (a, l, g, u, v, w) := by
  simp only [spec_l5Copy.f, l2Copy_eq l hl, Option.bind_some, List.length_nil, Nat.zero_add, if_pos hg, List.nil_append]
def told (l : List Int) : List S67 := l.map fun x => ⟨x, false⟩
theorem told_len (l : List Int) : (told l).length = l.length := by simp [told]
theorem specTell_l (a : Bool) (l : List Int) (g : List S67) (u v w : Int) (hl : l.length ≤ 1048577) : ∀ d n : Nat, n + d = l.length → ∀ g' : List S67, g'.length + d ≤ 4000000 → Ev (fun k => spec_TellAll.l0 k n a l g u v w a l g' u v w) (a, [], g' ++ (told l).drop n, u, v, w, l, 0)
  | 0, n, hd, g', hg => by
    refine Ev.step (fun _ => rfl) ?_
    simp only [spec_TellAll.l0, if_neg (show ¬ (n : Int) < (l.length : Int) by omega), l2Copy_eq l (show l.length < 17592186044416 by omega), Option.bind_some]
    rw [List.drop_eq_nil_of_le (by rw [told_len]; omega), List.append_nil]
    exact Ev.now _
  | d + 1, n, hd, g', hg => by
    refine Ev.step (fun _ => rfl) ?_
    simp only [spec_TellAll.l0, if_pos (show (n : Int) < (l.length : Int) by omega), if_pos (show (0 : Int) ≤ (n : Int) by omega), w64n (show n < l.length by omega) (show l.length ≤ 9223372036854775807 by omega), rd_nat, if_pos (show g'.length < 8796093022208 by omega)]
    refine Ev_eq (specTell_l a l g u v w hl d (n + 1) (by omega) _ (by simp; omega)) ?_
    rw [drop_cons z67 (told l) n (by rw [told_len]; omega)]
    simp [told, List.getD_eq_getElem?_getD, List.getElem?_eq_getElem (show n < l.length by omega)]
theorem implTell_l (a : Bool) (l : List Int) (g : List S67) (u v w : Int) (hl : l.length ≤ 1048577) : ∀ d n : Nat, n + d = l.length → ∀ g' : List S67, g'.length + d ≤ 4000000 → Ev (fun k => impl_TellAll.l0 k l (l.length : Int) n a l g u v w a l g' u v w) (a, [], g' ++ (told l).drop n, u, v, w, l, 0)
  | 0, n, hd, g', hg => by
    refine Ev.step (fun _ => rfl) ?_
    simp only [impl_TellAll.l0, if_neg (show ¬ (n : Int) < (l.length : Int) by omega), Clone_eq l (show l.length < 17592186044416 by omega), Option.bind_some]
    rw [List.drop_eq_nil_of_le (by rw [told_len]; omega), List.append_nil]
    exact Ev.now _
  | d + 1, n, hd, g', hg => by
    refine Ev.step (fun _ => rfl) ?_
    simp only [impl_TellAll.l0, if_pos (show (n : Int) < (l.length : Int) by omega), if_pos (show (0 : Int) ≤ (n : Int) by omega), w64n (show n < l.length by omega) (show l.length ≤ 9223372036854775807 by omega), rd_nat, if_pos (show g'.length < 8796093022208 by omega)]
    refine Ev_eq (implTell_l a l g u v w hl d (n + 1) (by omega) _ (by simp; omega)) ?_
    rw [drop_cons z67 (told l) n (by rw [told_len]; omega)]
    simp [told, List.getD_eq_getElem?_getD, List.getElem?_eq_getElem (show n < l.length by omega)]
theorem both_TellAll (a : Bool) (l : List Int) (g : List S67) (u v w : Int) (hl : l.length ≤ 1048576) (hg : g.length ≤ 1048576) : ∃ r_ : Bool × List Int × (List S67) × Int × Int × Int × List Int × Int, Ev (fun k => spec_TellAll.f k a l g u v w) r_ ∧ Ev (fun k => impl_TellAll.f k a l g u v w) r_ ∧ r_.2.1.length ≤ 1048577 ∧ r_.2.2.1.length ≤ 1048577 ∧ r_.2.2.2.2.2.2.1.length ≤ 1048577 := by
  simp only [spec_TellAll.f, impl_TellAll.f, l5Copy_eq a l g u v w (show l.length < 17592186044416 by omega) (show g.length < 8796093022208 by omega), copyNotify_eq a l g u v w (show l.length < 17592186044416 by omega) (show g.length < 8796093022208 by omega), Option.bind_some, w64 (show -9223372036854775808 ≤ (l.length : Int) + (g.length : Int) by omega) (show (l.length : Int) + (g.length : Int) ≤ 9223372036854775807 by omega)]
  by_cases h1 : notifyOk a l g u v w
  · by_cases h2 : (l.length : Int) + (g.length : Int) > 32
    · refine ⟨(a, l, g, u, v, w, [], 2), Ev.bind (specNotifyOk_ev a l g u v w (by omega) (by omega)) ?_, Ev.bind (implNotifyOk_ev a l g u v w (by omega) (by omega)) ?_, by show l.length ≤ _; omega, by show g.length ≤ _; omega, by simp⟩
      · simp only [bP_pos h1, if_true, if_pos h2]
        exact Ev.now _
      · simp only [bP_pos h1, if_true, if_pos h2]
        exact Ev.now _
    · have ht := told_len l
      refine ⟨(a, [], g ++ told l, u, v, w, l, 0), Ev.bind (specNotifyOk_ev a l g u v w (by omega) (by omega)) ?_, Ev.bind (implNotifyOk_ev a l g u v w (by omega) (by omega)) ?_, by simp, by show (g ++ told l).length ≤ _; rw [List.length_append]; omega, by show l.length ≤ _; omega⟩
      · simp only [bP_pos h1, if_true, if_neg h2]
        simpa using specTell_l a l g u v w (by omega) l.length 0 (by omega) g (by omega)
      · simp only [bP_pos h1, if_true, if_neg h2]
        simpa using implTell_l a l g u v w (by omega) l.length 0 (by omega) g (by omega)
  · refine ⟨(a, l, g, u, v, w, [], 1), Ev.bind (specNotifyOk_ev a l g u v w (by omega) (by omega)) ?_, Ev.bind (implNotifyOk_ev a l g u v w (by omega) (by omega)) ?_, by show l.length ≤ _; omega, by show g.length ≤ _; omega, by simp⟩
    · simp only [bP_neg h1, if_neg (show ¬ (false = true) by decide)]
      exact Ev.now _
    · simp only [bP_neg h1, if_neg (show ¬ (false = true) by decide)]
      exact Ev.now _
end Go.Proofs.Ytdagpmnadapbjaa.Q
