/- Plain laws of what the printed functions compute, the program's and the reference's, for every number and list; conditions: those of each theorem. -/
import Derived.Test.YtghmhekjdjdleaaZx1
import Derived.Test.YtghmhekjdjdleaaZx2
import Derived.Test.YtghmhekjdjdleaaZx3
import Derived.Test.YtghmhekjdjdleaaZx4
import Derived.Test.YtghmhekjdjdleaaZx6
import Derived.Test.YtghmhekjdjdleaaZx8
import Derived.Test.YtghmhekjdjdleaaZx10
import Derived.Test.YtghmhekjdjdleaaZx11
import Derived.Test.YtghmhekjdjdleaaZx16
import Derived.Test.YtghmhekjdjdleaaZx19
namespace Go.Proofs.Ytghmhekjdjdleaa.Q
open Go.RowKit Go.Proofs.Ytghmhekjdjdleaa.Z Go.Proofs.YtghmhekjdjdleaaW.PrintWords Go.Proofs.YtghmhekjdjdleaaW.PrintLast Go.Proofs.YtghmhekjdjdleaaW.PrintMore
set_option linter.unusedVariables false
set_option linter.unusedSimpArgs false
theorem w64 {x : Int} (h0 : -9223372036854775808 ≤ x) (h1 : x ≤ 9223372036854775807) : wrap64 x = x := by unfold wrap64; omega
theorem w64n {n m : Nat} (h : n < m) (hm : m ≤ 9223372036854775807) : wrap64 ((n : Int) + 1) = ((n + 1 : Nat) : Int) := by rw [w64 (by omega) (by omega)]; omega
theorem rd_nat (l : List Int) (n : Nat) : rd l (n : Int) = l.getD n 0 := by simp [rd]
theorem rdOf_nat {α : Type} (d : α) (l : List α) (n : Nat) : rdOf d l (n : Int) = l.getD n d := by simp [rdOf]
theorem drop_cons {α : Type} (d : α) (l : List α) (n : Nat) (h : n < l.length) : l.drop n = l.getD n d :: l.drop (n + 1) := by
  rw [List.drop_eq_getElem_cons h, List.getD_eq_getElem?_getD, List.getElem?_eq_getElem h]; rfl
theorem take_cons {α : Type} (d : α) (l : List α) (n : Nat) (h : n < l.length) : l.take (n + 1) = l.take n ++ [l.getD n d] := by
  rw [List.take_succ_eq_append_getElem h, List.getD_eq_getElem?_getD, List.getElem?_eq_getElem h]; rfl
noncomputable def bP (p : Prop) : Bool := @decide p (Classical.propDecidable p)
theorem bP_iff {p : Prop} : bP p = true ↔ p := by simp [bP]
theorem bP_pos {p : Prop} (h : p) : bP p = true := bP_iff.2 h
theorem bP_neg {p : Prop} (h : ¬ p) : bP p = false := by
  cases hb : bP p
  · rfl
  · exact absurd (bP_iff.1 hb) h
theorem bP_congr {p q : Prop} (h : p ↔ q) : bP p = bP q := by rw [propext h]
theorem bP_dec (p : Prop) [Decidable p] : decide p = bP p := by
  by_cases h : p
  · rw [bP_pos h, decide_eq_true h]
  · rw [bP_neg h, decide_eq_false h]
theorem Ev_eq {α : Type} {g : Nat → Option α} {r s : α} (h : Ev g r) (e : r = s) : Ev g s := e ▸ h
theorem Ev_ifpos {α : Type} {c : Prop} [Decidable c] {g f : Nat → Option α} {r : α} (h : c) (k : Ev g r) : Ev (fun n => if c then g n else f n) r := by
  simpa only [if_pos h] using k
theorem Ev_ifneg {α : Type} {c : Prop} [Decidable c] {g f : Nat → Option α} {r : α} (h : ¬ c) (k : Ev f r) : Ev (fun n => if c then g n else f n) r := by
  simpa only [if_neg h] using k
theorem Ev_some {α β : Type} {g : Option α} {f : Nat → α → Option β} {a : α} {r : β} (h : g = some a) (k : Ev (fun n => f n a) r) : Ev (fun n => g.bind (f n)) r := by
  simpa only [h, Option.bind_some] using k
def upFrom : Int → Nat → List Int
  | _, 0 => []
  | v, n + 1 => v :: upFrom (v + 1) n
theorem upFrom_length : ∀ n v, (upFrom v n).length = n
  | 0, _ => rfl
  | n + 1, v => by simp [upFrom, upFrom_length n]
def pos (a : Int) : List Int → Int → Int
  | [], _ => -1
  | x :: xs, i => if x = a then i else pos a xs (i + 1)
theorem pos_spec (a : Int) : ∀ (l : List Int) (i : Int), 0 ≤ i → (a ∈ l → i ≤ pos a l i ∧ pos a l i < i + l.length) ∧ (a ∉ l → pos a l i = -1)
  | [], i, _ => by simp [pos]
  | x :: xs, i, hi => by
    have ih := pos_spec a xs (i + 1) (by omega)
    unfold pos
    by_cases hx : x = a
    · rw [if_pos hx]
      refine ⟨fun _ => ⟨Int.le_refl _, by simp only [List.length_cons]; omega⟩, fun h => absurd (by rw [hx]; exact List.mem_cons_self) h⟩
    · rw [if_neg hx]
      refine ⟨fun h => ?_, fun h => ih.2 (fun h' => h (List.mem_cons_of_mem _ h'))⟩
      have h' : a ∈ xs := by
        rcases List.mem_cons.1 h with h | h
        · exact absurd h.symm hx
        · exact h
      have := ih.1 h'
      simp only [List.length_cons]
      omega
theorem pos_mem (a : Int) (l : List Int) : (0 ≤ pos a l 0) ↔ a ∈ l := by
  have h := pos_spec a l 0 (by omega)
  constructor
  · intro h0
    by_cases hm : a ∈ l
    · exact hm
    · have := h.2 hm; omega
  · intro hm
    exact (h.1 hm).1
theorem toIntS_l (l : List Int) (hl : l.length ≤ 9223372036854775807) : ∀ d n : Nat, n + d = l.length → ∀ out : List Int, out.length = l.length → Ev (fun k => laws_toIntS.l0 k l out n) (out.take n ++ l.drop n)
  | 0, n, hd, out, ho => by
    refine Ev.step (fun _ => rfl) ?_
    simp only [laws_toIntS.l0, if_neg (show ¬ (n : Int) < (l.length : Int) by omega)]
    rw [List.drop_eq_nil_of_le (by omega), List.append_nil, List.take_of_length_le (by omega)]
    exact Ev.now _
  | d + 1, n, hd, out, ho => by
    refine Ev.step (fun _ => rfl) ?_
    simp only [laws_toIntS.l0, if_pos (show (n : Int) < (l.length : Int) by omega), if_pos (show (0 : Int) ≤ (n : Int) by omega), if_pos (show (n : Int) < (out.length : Int) by omega), w64n (show n < l.length by omega) hl, Int.toNat_natCast, rd_nat]
    have ih := toIntS_l l hl d (n + 1) (by omega) (out.set n (l.getD n 0)) (by simp [ho])
    refine Ev_eq ih ?_
    rw [take_cons 0 _ n (by simp; omega), List.take_set_of_le (Nat.le_refl n), drop_cons 0 l n (by omega), List.append_assoc]
    congr 2
    simp [List.getD_eq_getElem?_getD, List.getElem?_set_self (show n < out.length by omega)]
theorem toIntS_ev (l : List Int) (hl : l.length ≤ 35184372088832) : Ev (fun k => laws_toIntS.f k l) l := by
  simp only [laws_toIntS.f, if_pos (show (0 : Int) ≤ (l.length : Int) by omega), Int.toNat_natCast, if_pos hl]
  have h := toIntS_l l (by omega) l.length 0 (by omega) (List.replicate l.length 0) (by simp)
  simpa using h
theorem toBoolS_l (l : List Bool) (hl : l.length ≤ 9223372036854775807) : ∀ d n : Nat, n + d = l.length → ∀ out : List Bool, out.length = l.length → Ev (fun k => laws_toBoolS.l0 k l out n) (out.take n ++ l.drop n)
  | 0, n, hd, out, ho => by
    refine Ev.step (fun _ => rfl) ?_
    simp only [laws_toBoolS.l0, if_neg (show ¬ (n : Int) < (l.length : Int) by omega)]
    rw [List.drop_eq_nil_of_le (by omega), List.append_nil, List.take_of_length_le (by omega)]
    exact Ev.now _
  | d + 1, n, hd, out, ho => by
    refine Ev.step (fun _ => rfl) ?_
    simp only [laws_toBoolS.l0, if_pos (show (n : Int) < (l.length : Int) by omega), if_pos (show (0 : Int) ≤ (n : Int) by omega), if_pos (show (n : Int) < (out.length : Int) by omega), w64n (show n < l.length by omega) hl, Int.toNat_natCast, rdOf_nat]
    have ih := toBoolS_l l hl d (n + 1) (by omega) (out.set n (l.getD n false)) (by simp [ho])
    refine Ev_eq ih ?_
    rw [take_cons false _ n (by simp; omega), List.take_set_of_le (Nat.le_refl n), drop_cons false l n (by omega), List.append_assoc]
    congr 2
    simp [List.getD_eq_getElem?_getD, List.getElem?_set_self (show n < out.length by omega)]
theorem toBoolS_ev (l : List Bool) (hl : l.length ≤ 35184372088832) : Ev (fun k => laws_toBoolS.f k l) l := by
  simp only [laws_toBoolS.f, if_pos (show (0 : Int) ≤ (l.length : Int) by omega), Int.toNat_natCast, if_pos (show l.length ≤ 281474976710656 by omega)]
  have h := toBoolS_l l (by omega) l.length 0 (by omega) (List.replicate l.length false) (by simp)
  simpa using h
theorem eqIntS_l (a b : List Int) (hl : a.length ≤ 9223372036854775807) (he : a.length = b.length) : ∀ d n : Nat, n + d = a.length → Ev (fun k => laws_eqIntS.l0 k a b n) (bP (a.drop n = b.drop n))
  | 0, n, hd => by
    refine Ev.step (fun _ => rfl) ?_
    simp only [laws_eqIntS.l0, if_neg (show ¬ (n : Int) < (a.length : Int) by omega)]
    rw [bP_pos (by rw [List.drop_eq_nil_of_le (by omega), List.drop_eq_nil_of_le (by omega)])]
    exact Ev.now _
  | d + 1, n, hd => by
    refine Ev.step (fun _ => rfl) ?_
    simp only [laws_eqIntS.l0, if_pos (show (n : Int) < (a.length : Int) by omega), if_pos (show (0 : Int) ≤ (n : Int) by omega), if_pos (show (n : Int) < (b.length : Int) by omega), w64n (show n < a.length by omega) hl, rd_nat]
    rw [drop_cons 0 a n (by omega), drop_cons 0 b n (by omega)]
    by_cases h : a.getD n 0 = b.getD n 0
    · simp only [if_pos h]
      exact Ev_eq (eqIntS_l a b hl he d (n + 1) (by omega)) (bP_congr ⟨fun e => by rw [h, e], fun e => (List.cons.inj e).2⟩)
    · simp only [if_neg h]
      rw [bP_neg (fun e => h (List.cons.inj e).1)]
      exact Ev.now _
theorem eqIntS_ev (a b : List Int) (hl : a.length ≤ 9223372036854775807) : Ev (fun k => laws_eqIntS.f k a b) (bP (a = b)) := by
  by_cases h : a.length = b.length
  · simp only [laws_eqIntS.f, if_pos (show (a.length : Int) = (b.length : Int) by omega)]
    simpa using eqIntS_l a b hl h a.length 0 (by omega)
  · simp only [laws_eqIntS.f, if_neg (show ¬ (a.length : Int) = (b.length : Int) by omega)]
    rw [bP_neg (fun e => h (by rw [e]))]
    exact Ev.now _
theorem eqIntS_self (a : List Int) (hl : a.length ≤ 9223372036854775807) : Ev (fun k => laws_eqIntS.f k a a) true := Ev_eq (eqIntS_ev a a hl) (bP_pos rfl)
theorem eqBoolS_l (a b : List Bool) (hl : a.length ≤ 9223372036854775807) (he : a.length = b.length) : ∀ d n : Nat, n + d = a.length → Ev (fun k => laws_eqBoolS.l0 k a b n) (bP (a.drop n = b.drop n))
  | 0, n, hd => by
    refine Ev.step (fun _ => rfl) ?_
    simp only [laws_eqBoolS.l0, if_neg (show ¬ (n : Int) < (a.length : Int) by omega)]
    rw [bP_pos (by rw [List.drop_eq_nil_of_le (by omega), List.drop_eq_nil_of_le (by omega)])]
    exact Ev.now _
  | d + 1, n, hd => by
    refine Ev.step (fun _ => rfl) ?_
    simp only [laws_eqBoolS.l0, if_pos (show (n : Int) < (a.length : Int) by omega), if_pos (show (0 : Int) ≤ (n : Int) by omega), if_pos (show (n : Int) < (b.length : Int) by omega), w64n (show n < a.length by omega) hl, rdOf_nat]
    rw [drop_cons false a n (by omega), drop_cons false b n (by omega)]
    by_cases h : a.getD n false = b.getD n false
    · simp only [h, bne_self_eq_false, if_neg (show ¬ (false = true) by decide)]
      exact Ev_eq (eqBoolS_l a b hl he d (n + 1) (by omega)) (bP_congr ⟨fun e => by rw [e], fun e => (List.cons.inj e).2⟩)
    · simp only [if_pos (show ((a.getD n false) != (b.getD n false)) = true by simpa using h)]
      rw [bP_neg (fun e => h (List.cons.inj e).1)]
      exact Ev.now _
theorem eqBoolS_ev (a b : List Bool) (hl : a.length ≤ 9223372036854775807) : Ev (fun k => laws_eqBoolS.f k a b) (bP (a = b)) := by
  by_cases h : a.length = b.length
  · simp only [laws_eqBoolS.f, if_pos (show (a.length : Int) = (b.length : Int) by omega)]
    simpa using eqBoolS_l a b hl h a.length 0 (by omega)
  · simp only [laws_eqBoolS.f, if_neg (show ¬ (a.length : Int) = (b.length : Int) by omega)]
    rw [bP_neg (fun e => h (by rw [e]))]
    exact Ev.now _
theorem eqBoolS_self (a : List Bool) (hl : a.length ≤ 9223372036854775807) : Ev (fun k => laws_eqBoolS.f k a a) true := Ev_eq (eqBoolS_ev a a hl) (bP_pos rfl)
theorem markIntS_l (l : List Int) (hl : l.length ≤ 9223372036854775807) : ∀ d n : Nat, n + d = l.length → ∀ (out : List Int) (v : Int), out.length = l.length → -9223372036854775808 ≤ v → v + d ≤ 9223372036854775807 → Ev (fun k => laws_markIntS.l0 k out v n) (v + d, out.take n ++ upFrom v d)
  | 0, n, hd, out, v, ho, h0, h1 => by
    refine Ev.step (fun _ => rfl) ?_
    simp only [laws_markIntS.l0, if_neg (show ¬ (n : Int) < (out.length : Int) by omega)]
    refine Ev_eq (Ev.now _) ?_
    rw [List.take_of_length_le (by omega)]
    simp [upFrom]
  | d + 1, n, hd, out, v, ho, h0, h1 => by
    refine Ev.step (fun _ => rfl) ?_
    simp only [laws_markIntS.l0, if_pos (show (n : Int) < (out.length : Int) by omega), if_pos (show (0 : Int) ≤ (n : Int) by omega), w64n (show n < l.length by omega) hl, Int.toNat_natCast, w64 (show -9223372036854775808 ≤ v + 1 by omega) (show v + 1 ≤ 9223372036854775807 by omega)]
    refine Ev_eq (markIntS_l l hl d (n + 1) (by omega) (out.set n v) (v + 1) (by simp [ho]) (by omega) (by omega)) ?_
    rw [take_cons 0 _ n (by simp; omega), List.take_set_of_le (Nat.le_refl n), List.append_assoc]
    simp only [upFrom, Prod.mk.injEq]
    refine ⟨by omega, ?_⟩
    congr 1
    simp [List.getD_eq_getElem?_getD, List.getElem?_set_self (show n < out.length by omega)]
theorem markIntS_ev (l : List Int) (v : Int) (h0 : -9223372036854775808 ≤ v) (h1 : v + l.length ≤ 9223372036854775807) (hl : l.length ≤ 9223372036854775807) : Ev (fun k => laws_markIntS.f k l v) (v + l.length, upFrom v l.length) := by
  simp only [laws_markIntS.f]
  simpa using markIntS_l l hl l.length 0 (by omega) l v rfl h0 h1
theorem heldIntS_l (l : List Int) (hl : l.length ≤ 9223372036854775807) : ∀ d n : Nat, n + d = l.length → ∀ (v : Int), -9223372036854775808 ≤ v → v + d ≤ 9223372036854775807 → l.drop n = upFrom v d → Ev (fun k => laws_heldIntS.l0 k l v n) (v + d)
  | 0, n, hd, v, h0, h1, he => by
    refine Ev.step (fun _ => rfl) ?_
    simp only [laws_heldIntS.l0, if_neg (show ¬ (n : Int) < (l.length : Int) by omega)]
    refine Ev_eq (Ev.now _) (by omega)
  | d + 1, n, hd, v, h0, h1, he => by
    rw [drop_cons 0 l n (by omega)] at he
    simp only [upFrom, List.cons.injEq] at he
    refine Ev.step (fun _ => rfl) ?_
    simp only [laws_heldIntS.l0, if_pos (show (n : Int) < (l.length : Int) by omega), if_pos (show (0 : Int) ≤ (n : Int) by omega), w64n (show n < l.length by omega) hl, rd_nat, he.1, if_true, w64 (show -9223372036854775808 ≤ v + 1 by omega) (show v + 1 ≤ 9223372036854775807 by omega)]
    exact Ev_eq (heldIntS_l l hl d (n + 1) (by omega) (v + 1) (by omega) (by omega) he.2) (by omega)
theorem heldIntS_ev (n : Nat) (v : Int) (h0 : -9223372036854775808 ≤ v) (h1 : v + n ≤ 9223372036854775807) (hl : n ≤ 9223372036854775807) : Ev (fun k => laws_heldIntS.f k (upFrom v n) v) (v + n) := by
  simp only [laws_heldIntS.f]
  exact heldIntS_l (upFrom v n) (by rw [upFrom_length]; exact hl) n 0 (by rw [upFrom_length]; omega) v h0 h1 rfl
def upB : Int → Nat → List Bool
  | _, 0 => []
  | v, n + 1 => (Int.tmod v 3 == 0) :: upB (v + 1) n
theorem upB_length : ∀ n v, (upB v n).length = n
  | 0, _ => rfl
  | n + 1, v => by simp [upB, upB_length n]
theorem markBoolS_l (l : List Bool) (hl : l.length ≤ 9223372036854775807) : ∀ d n : Nat, n + d = l.length → ∀ (out : List Bool) (v : Int), out.length = l.length → -9223372036854775808 ≤ v → v + d ≤ 9223372036854775807 → Ev (fun k => laws_markBoolS.l0 k out v n) (v + d, out.take n ++ upB v d)
  | 0, n, hd, out, v, ho, h0, h1 => by
    refine Ev.step (fun _ => rfl) ?_
    simp only [laws_markBoolS.l0, if_neg (show ¬ (n : Int) < (out.length : Int) by omega)]
    refine Ev_eq (Ev.now _) ?_
    rw [List.take_of_length_le (by omega)]
    simp [upB]
  | d + 1, n, hd, out, v, ho, h0, h1 => by
    refine Ev.step (fun _ => rfl) ?_
    simp only [laws_markBoolS.l0, if_pos (show (n : Int) < (out.length : Int) by omega), if_pos (show (0 : Int) ≤ (n : Int) by omega), w64n (show n < l.length by omega) hl, Int.toNat_natCast, w64 (show -9223372036854775808 ≤ v + 1 by omega) (show v + 1 ≤ 9223372036854775807 by omega)]
    refine Ev_eq (markBoolS_l l hl d (n + 1) (by omega) (out.set n (Int.tmod v 3 == 0)) (v + 1) (by simp [ho]) (by omega) (by omega)) ?_
    rw [take_cons false _ n (by simp; omega), List.take_set_of_le (Nat.le_refl n), List.append_assoc]
    simp only [upB, Prod.mk.injEq]
    refine ⟨by omega, ?_⟩
    congr 1
    simp [List.getD_eq_getElem?_getD, List.getElem?_set_self (show n < out.length by omega)]
theorem markBoolS_ev (l : List Bool) (v : Int) (h0 : -9223372036854775808 ≤ v) (h1 : v + l.length ≤ 9223372036854775807) (hl : l.length ≤ 9223372036854775807) : Ev (fun k => laws_markBoolS.f k l v) (v + l.length, upB v l.length) := by
  simp only [laws_markBoolS.f]
  simpa using markBoolS_l l hl l.length 0 (by omega) l v rfl h0 h1
theorem szIntS_neg (l : List Int) (v : Int) (hl : l.length ≤ 9223372036854775807) (h0 : 0 ≤ v) (h1 : v ≤ 1048576) (h : v < l.length) : laws_szIntS.f l v = some (-1) := by
  simp only [laws_szIntS.f, w64 (show -9223372036854775808 ≤ v - (l.length : Int) by omega) (show v - (l.length : Int) ≤ 9223372036854775807 by omega), if_pos (show v - (l.length : Int) < 0 by omega)]
theorem szIntS_pos (l : List Int) (v : Int) (h1 : v ≤ 1048576) (h : (l.length : Int) ≤ v) : laws_szIntS.f l v = some (v - l.length) := by
  simp only [laws_szIntS.f, w64 (show -9223372036854775808 ≤ v - (l.length : Int) by omega) (show v - (l.length : Int) ≤ 9223372036854775807 by omega), if_neg (show ¬ v - (l.length : Int) < 0 by omega)]
theorem szBoolS_neg (l : List Bool) (v : Int) (hl : l.length ≤ 9223372036854775807) (h0 : 0 ≤ v) (h1 : v ≤ 1048576) (h : v < l.length) : laws_szBoolS.f l v = some (-1) := by
  simp only [laws_szBoolS.f, w64 (show -9223372036854775808 ≤ v - (l.length : Int) by omega) (show v - (l.length : Int) ≤ 9223372036854775807 by omega), if_pos (show v - (l.length : Int) < 0 by omega)]
theorem szBoolS_pos (l : List Bool) (v : Int) (h1 : v ≤ 1048576) (h : (l.length : Int) ≤ v) : laws_szBoolS.f l v = some (v - l.length) := by
  simp only [laws_szBoolS.f, w64 (show -9223372036854775808 ≤ v - (l.length : Int) by omega) (show v - (l.length : Int) ≤ 9223372036854775807 by omega), if_neg (show ¬ v - (l.length : Int) < 0 by omega)]
theorem Index_l (l : List Int) (a : Int) (hl : l.length ≤ 9223372036854775807) : ∀ d n : Nat, n + d = l.length → Ev (fun k => slices_Index_int_int.l0 k l a (l.length : Int) n) (pos a (l.drop n) n)
  | 0, n, hd => by
    refine Ev.step (fun _ => rfl) ?_
    simp only [slices_Index_int_int.l0, if_neg (show ¬ (n : Int) < (l.length : Int) by omega)]
    rw [List.drop_eq_nil_of_le (by omega)]
    exact Ev.now _
  | d + 1, n, hd => by
    refine Ev.step (fun _ => rfl) ?_
    simp only [slices_Index_int_int.l0, if_pos (show (n : Int) < (l.length : Int) by omega), if_pos (show (0 : Int) ≤ (n : Int) by omega), w64n (show n < l.length by omega) hl, rd_nat]
    rw [drop_cons 0 l n (by omega)]
    by_cases h : a = l.getD n 0
    · simp only [if_pos h]
      refine Ev_eq (Ev.now _) ?_
      simp only [pos]
      rw [if_pos h.symm]
    · simp only [if_neg h]
      refine Ev_eq (Index_l l a hl d (n + 1) (by omega)) ?_
      simp only [pos]
      rw [if_neg (fun e => h e.symm)]
      rw [show ((n + 1 : Nat) : Int) = (n : Int) + 1 by omega]
theorem Index_ev (l : List Int) (a : Int) (hl : l.length ≤ 9223372036854775807) : Ev (fun k => slices_Index_int_int.f k l a) (pos a l 0) := by
  simp only [slices_Index_int_int.f]
  exact Index_l l a hl l.length 0 (by omega)
theorem Contains_ev (l : List Int) (a : Int) (hl : l.length ≤ 9223372036854775807) : Ev (fun k => slices_Contains_int_int.f k l a) (bP (a ∈ l)) := by
  simp only [slices_Contains_int_int.f]
  refine Ev.bind (Index_ev l a hl) ?_
  refine Ev_eq (Ev.now _) ?_
  rw [bP_dec]
  exact bP_congr (pos_mem a l)
theorem implPlaceOf_ev (l : List Int) (a : Int) (hl : l.length ≤ 9223372036854775807) : Ev (fun k => impl_PlaceOf.f k l a) (pos a l 0) := by
  simp only [impl_PlaceOf.f]
  exact Ev.bind (Index_ev l a hl) (Ev.now _)
theorem specPlaceOf_l (l : List Int) (a : Int) (hl : l.length ≤ 9223372036854775807) : ∀ d n : Nat, n + d = l.length → Ev (fun k => spec_PlaceOf.l0 k l a n) (pos a (l.drop n) n)
  | 0, n, hd => by
    refine Ev.step (fun _ => rfl) ?_
    simp only [spec_PlaceOf.l0, if_neg (show ¬ (n : Int) < (l.length : Int) by omega)]
    rw [List.drop_eq_nil_of_le (by omega)]
    exact Ev.now _
  | d + 1, n, hd => by
    refine Ev.step (fun _ => rfl) ?_
    simp only [spec_PlaceOf.l0, if_pos (show (n : Int) < (l.length : Int) by omega), if_pos (show (0 : Int) ≤ (n : Int) by omega), w64n (show n < l.length by omega) hl, rd_nat]
    rw [drop_cons 0 l n (by omega)]
    by_cases h : l.getD n 0 = a
    · simp only [if_pos h]
      refine Ev_eq (Ev.now _) ?_
      simp only [pos]
      rw [if_pos h]
    · simp only [if_neg h]
      refine Ev_eq (specPlaceOf_l l a hl d (n + 1) (by omega)) ?_
      simp only [pos]
      rw [if_neg h]
      rw [show ((n + 1 : Nat) : Int) = (n : Int) + 1 by omega]
theorem specPlaceOf_ev (l : List Int) (a : Int) (hl : l.length ≤ 9223372036854775807) : Ev (fun k => spec_PlaceOf.f k l a) (pos a l 0) := by
  simp only [spec_PlaceOf.f]
  exact specPlaceOf_l l a hl l.length 0 (by omega)
theorem l1In_eq (a b c : Int) : spec_l1In.f a b c = some (bP (b ≤ a ∧ a ≤ c)) := by
  simp only [spec_l1In.f]
  by_cases h : a ≥ b
  · rw [if_pos h, bP_dec, bP_congr (show (a ≤ c) ↔ (b ≤ a ∧ a ≤ c) by omega)]
  · rw [if_neg h, bP_neg (by omega)]
theorem within_eq (a b c : Int) : impl_within.f a b c = some (bP (b ≤ a ∧ a ≤ c)) := by
  simp only [impl_within.f]
  by_cases h : a ≥ b
  · rw [if_pos h, bP_dec, bP_congr (show (a ≤ c) ↔ (b ≤ a ∧ a ≤ c) by omega)]
  · rw [if_neg h, bP_neg (by omega)]
def isCl (a : Int) : Prop := 0 ≤ a ∧ a ≤ 63
theorem l2Client_eq (a : Int) : spec_l2Client.f a = some (bP (isCl a)) := by
  simp only [spec_l2Client.f, l1In_eq, Option.bind_some, isCl]
theorem isClient_eq (a : Int) : impl_isClient.f a = some (bP (isCl a)) := by
  simp only [impl_isClient.f, within_eq, Option.bind_some, isCl]
theorem l2Has_l (l : List Int) (a : Int) (hl : l.length ≤ 9223372036854775807) : ∀ d n : Nat, n + d = l.length → Ev (fun k => spec_l2Has.l0 k l a n) (bP (a ∈ l.drop n))
  | 0, n, hd => by
    refine Ev.step (fun _ => rfl) ?_
    simp only [spec_l2Has.l0, if_neg (show ¬ (n : Int) < (l.length : Int) by omega)]
    rw [List.drop_eq_nil_of_le (by omega), bP_neg (by simp)]
    exact Ev.now _
  | d + 1, n, hd => by
    refine Ev.step (fun _ => rfl) ?_
    simp only [spec_l2Has.l0, if_pos (show (n : Int) < (l.length : Int) by omega), if_pos (show (0 : Int) ≤ (n : Int) by omega), w64n (show n < l.length by omega) hl, rd_nat]
    rw [drop_cons 0 l n (by omega)]
    by_cases h : l.getD n 0 = a
    · simp only [if_pos h]
      rw [bP_pos (by rw [h]; exact List.mem_cons_self)]
      exact Ev.now _
    · simp only [if_neg h]
      refine Ev_eq (l2Has_l l a hl d (n + 1) (by omega)) (bP_congr ?_)
      rw [List.mem_cons]
      exact ⟨.inr, fun h' => h'.resolve_left (fun e => h e.symm)⟩
theorem l2Has_ev (l : List Int) (a : Int) (hl : l.length ≤ 9223372036854775807) : Ev (fun k => spec_l2Has.f k l a) (bP (a ∈ l)) := by
  simp only [spec_l2Has.f]
  exact l2Has_l l a hl l.length 0 (by omega)
def lineFrom (l : List Int) (n : Nat) : Prop := ∀ i, n ≤ i → i < l.length → isCl (l.getD i 0) ∧ l.getD i 0 ∉ l.take i
def lineOk (l : List Int) : Prop := l.length ≤ 32 ∧ lineFrom l 0
theorem lineFrom_step (l : List Int) (n : Nat) (h : n < l.length) : lineFrom l n ↔ (isCl (l.getD n 0) ∧ l.getD n 0 ∉ l.take n) ∧ lineFrom l (n + 1) := by
  constructor
  · intro hf
    exact ⟨hf n (Nat.le_refl _) h, fun i hi => hf i (by omega)⟩
  · rintro ⟨h0, hf⟩ i hi hl
    rcases Nat.eq_or_lt_of_le hi with rfl | hlt
    · exact h0
    · exact hf i hlt hl
theorem specLineOk_l (l : List Int) (hl : l.length ≤ 9223372036854775807) : ∀ d n : Nat, n + d = l.length → Ev (fun k => spec_LineOk.l0 k l n) (bP (lineFrom l n))
  | 0, n, hd => by
    refine Ev.step (fun _ => rfl) ?_
    simp only [spec_LineOk.l0, if_neg (show ¬ (n : Int) < (l.length : Int) by omega)]
    rw [bP_pos (show lineFrom l n from fun i hi hl => by omega)]
    exact Ev.now _
  | d + 1, n, hd => by
    refine Ev.step (fun _ => rfl) ?_
    simp only [spec_LineOk.l0, if_pos (show (n : Int) < (l.length : Int) by omega), if_pos (show (0 : Int) ≤ (n : Int) by omega), w64n (show n < l.length by omega) hl, rd_nat, l2Client_eq, Option.bind_some, if_pos (show (n : Int) ≤ (l.length : Int) by omega), Int.toNat_natCast]
    rw [bP_congr (lineFrom_step l n (by omega))]
    by_cases h1 : isCl (l.getD n 0)
    · simp only [bP_pos h1, if_true]
      refine Ev.bind (l2Has_ev (l.take n) (l.getD n 0) (by rw [List.length_take]; omega)) ?_
      by_cases h2 : l.getD n 0 ∈ l.take n
      · simp only [bP_pos h2, if_true]
        rw [bP_neg (fun h => h.1.2 h2)]
        exact Ev.now _
      · simp only [bP_neg h2, if_neg (show ¬ (false = true) by decide)]
        exact Ev_eq (specLineOk_l l hl d (n + 1) (by omega)) (bP_congr ⟨fun h => ⟨⟨h1, h2⟩, h⟩, fun h => h.2⟩)
    · simp only [bP_neg h1, if_neg (show ¬ (false = true) by decide)]
      rw [bP_neg (fun h => h1 h.1.1)]
      exact Ev.now _
theorem specLineOk_ev (l : List Int) (hl : l.length ≤ 9223372036854775807) : Ev (fun k => spec_LineOk.f k l) (bP (lineOk l)) := by
  by_cases h : l.length ≤ 32
  · simp only [spec_LineOk.f, if_neg (show ¬ (l.length : Int) > 32 by omega)]
    exact Ev_eq (specLineOk_l l hl l.length 0 (by omega)) (bP_congr ⟨fun h' => ⟨h, h'⟩, fun h' => h'.2⟩)
  · simp only [spec_LineOk.f, if_pos (show (l.length : Int) > 32 by omega)]
    rw [bP_neg (fun h' => h h'.1)]
    exact Ev.now _
theorem clientsOk_l (l : List Int) (hl : l.length ≤ 9223372036854775807) : ∀ d n : Nat, n + d = l.length → Ev (fun k => impl_clientsOk.l0 k l l (l.length : Int) n) (bP (l.length ≤ 32 ∧ lineFrom l n))
  | 0, n, hd => by
    refine Ev.step (fun _ => rfl) ?_
    simp only [impl_clientsOk.l0, if_neg (show ¬ (n : Int) < (l.length : Int) by omega)]
    refine Ev_eq (Ev.now _) ?_
    rw [bP_dec]
    exact bP_congr ⟨fun h => ⟨by omega, fun i hi hl => by omega⟩, fun h => by have := h.1; omega⟩
  | d + 1, n, hd => by
    refine Ev.step (fun _ => rfl) ?_
    simp only [impl_clientsOk.l0, if_pos (show (n : Int) < (l.length : Int) by omega), if_pos (show (0 : Int) ≤ (n : Int) by omega), w64n (show n < l.length by omega) hl, rd_nat, isClient_eq, Option.bind_some, if_pos (show (n : Int) ≤ (l.length : Int) by omega), Int.toNat_natCast]
    rw [bP_congr (and_congr_right fun _ => lineFrom_step l n (by omega))]
    by_cases h1 : isCl (l.getD n 0)
    · simp only [bP_pos h1, if_true]
      refine Ev.bind (Contains_ev (l.take n) (l.getD n 0) (by rw [List.length_take]; omega)) ?_
      by_cases h2 : l.getD n 0 ∈ l.take n
      · simp only [bP_pos h2, if_true]
        rw [bP_neg (fun h => h.2.1.2 h2)]
        exact Ev.now _
      · simp only [bP_neg h2, if_neg (show ¬ (false = true) by decide)]
        exact Ev_eq (clientsOk_l l hl d (n + 1) (by omega)) (bP_congr ⟨fun h => ⟨h.1, ⟨h1, h2⟩, h.2⟩, fun h => ⟨h.1, h.2.2⟩⟩)
    · simp only [bP_neg h1, if_neg (show ¬ (false = true) by decide)]
      rw [bP_neg (fun h => h1 h.2.1.1)]
      exact Ev.now _
theorem clientsOk_ev (l : List Int) (hl : l.length ≤ 9223372036854775807) : Ev (fun k => impl_clientsOk.f k l) (bP (lineOk l)) := by
  simp only [impl_clientsOk.f]
  exact clientsOk_l l hl l.length 0 (by omega)
theorem implLineOk_ev (l : List Int) (hl : l.length ≤ 9223372036854775807) : Ev (fun k => impl_LineOk.f k l) (bP (lineOk l)) := by
  simp only [impl_LineOk.f]
  exact Ev.bind (clientsOk_ev l hl) (Ev.now _)
theorem l2Copy_eq (l : List Int) (hl : l.length < 17592186044416) : spec_l2Copy.f l = some l := by
  simp only [spec_l2Copy.f, Option.bind_some, List.length_nil, Nat.zero_add, if_pos hl, List.nil_append]
theorem Clone_eq (l : List Int) (hl : l.length < 17592186044416) : slices_Clone_int_int.f l = some l := by
  simp only [slices_Clone_int_int.f, Option.bind_some, List.length_nil, Nat.zero_add, if_pos hl, List.nil_append]
theorem CloneB_eq (l : List Bool) (hl : l.length < 140737488355328) : slices_Clone_bool_bool.f l = some l := by
  simp only [slices_Clone_bool_bool.f, Option.bind_some, List.length_nil, Nat.zero_add, if_pos hl, List.nil_append]
end Go.Proofs.Ytghmhekjdjdleaa.Q
