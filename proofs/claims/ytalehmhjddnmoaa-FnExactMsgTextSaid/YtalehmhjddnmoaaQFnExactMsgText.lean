/- Plain laws of what the printed functions compute, the program's and the reference's, for every number and list; conditions: those of each theorem. -/
import Derived.Test.YtalehmhjddnmoaaZx2
import Derived.Test.YtalehmhjddnmoaaZx3
import Derived.Test.YtalehmhjddnmoaaZx4
import Derived.Test.YtalehmhjddnmoaaZx5
import Derived.Test.YtalehmhjddnmoaaZx6
import Derived.Test.YtalehmhjddnmoaaZx7
import Derived.Test.YtalehmhjddnmoaaZx8
import Derived.Test.YtalehmhjddnmoaaZx9
import Derived.Test.YtalehmhjddnmoaaZx10
namespace Go.Proofs.Ytalehmhjddnmoaa.Q
open Go.RowKit Go.Proofs.Ytalehmhjddnmoaa.Z Go.Proofs.YtalehmhjddnmoaaW.PrintWords Go.Proofs.YtalehmhjddnmoaaW.PrintLast Go.Proofs.YtalehmhjddnmoaaW.PrintMore
set_option linter.unusedVariables false
set_option linter.unusedSimpArgs false
theorem w64 {x : Int} (h0 : -9223372036854775808 ≤ x) (h1 : x ≤ 9223372036854775807) : wrap64 x = x := by unfold wrap64; omega
theorem w64n {n m : Nat} (h : n < m) (hm : m ≤ 9223372036854775807) : wrap64 ((n : Int) + 1) = ((n + 1 : Nat) : Int) := by rw [w64 (by omega) (by omega)]; omega
theorem rd_nat (l : List Int) (n : Nat) : rd l (n : Int) = l.getD n 0 := by simp [rd]
theorem rdOf_nat {α : Type} (d : α) (l : List α) (n : Nat) : rdOf d l (n : Int) = l.getD n d := by simp [rdOf]
theorem drop_cons {α : Type} (d : α) (l : List α) (n : Nat) (h : n < l.length) : l.drop n = l.getD n d :: l.drop (n + 1) := by
  rw [List.drop_eq_getElem_cons h, List.getD_eq_getElem?_getD, List.getElem?_eq_getElem h]; rfl
theorem take_cons {α : Type} (d : α) (l : List α) (n : Nat) (h : n < l.length) : l.take (n + 1) = l.take n ++ [l.getD n d] := by
  rw [List.take_succ_eq_append_getElem h, List.getD_eq_getElem?_getD, List.getElem?_eq_getElem h]; rfl
noncomputable def bP (p : Prop) : Bool := @decide p (Classical.propDecidable p)
theorem bP_iff {p : Prop} : bP p = true ↔ p := by simp [bP]
theorem bP_pos {p : Prop} (h : p) : bP p = true := bP_iff.2 h
theorem bP_neg {p : Prop} (h : ¬ p) : bP p = false := by
  cases hb : bP p
  · rfl
  · exact absurd (bP_iff.1 hb) h
theorem bP_congr {p q : Prop} (h : p ↔ q) : bP p = bP q := by rw [propext h]
theorem bP_dec (p : Prop) [Decidable p] : decide p = bP p := by
  by_cases h : p
  · rw [bP_pos h, decide_eq_true h]
  · rw [bP_neg h, decide_eq_false h]
theorem Ev_eq {α : Type} {g : Nat → Option α} {r s : α} (h : Ev g r) (e : r = s) : Ev g s := e ▸ h
theorem Ev_ifpos {α : Type} {c : Prop} [Decidable c] {g f : Nat → Option α} {r : α} (h : c) (k : Ev g r) : Ev (fun n => if c then g n else f n) r := by
  simpa only [if_pos h] using k
theorem Ev_ifneg {α : Type} {c : Prop} [Decidable c] {g f : Nat → Option α} {r : α} (h : ¬ c) (k : Ev f r) : Ev (fun n => if c then g n else f n) r := by
  simpa only [if_neg h] using k
theorem Ev_some {α β : Type} {g : Option α} {f : Nat → α → Option β} {a : α} {r : β} (h : g = some a) (k : Ev (fun n => f n a) r) : Ev (fun n => g.bind (f n)) r := by
  simpa only [h, Option.bind_some] using k
theorem Ev_ofk {α : Type} {r : α} {g : Option α} (h : g = some r) : Ev (fun _ => g) r := ⟨0, fun _ _ => h⟩
def upFrom : Int → Nat → List Int
  | _, 0 => []
  | v, n + 1 => v :: upFrom (v + 1) n
theorem upFrom_length : ∀ n v, (upFrom v n).length = n
  | 0, _ => rfl
  | n + 1, v => by simp [upFrom, upFrom_length n]
def pos (a : Int) : List Int → Int → Int
  | [], _ => -1
  | x :: xs, i => if x = a then i else pos a xs (i + 1)
theorem pos_spec (a : Int) : ∀ (l : List Int) (i : Int), 0 ≤ i → (a ∈ l → i ≤ pos a l i ∧ pos a l i < i + l.length) ∧ (a ∉ l → pos a l i = -1)
  | [], i, _ => by simp [pos]
  | x :: xs, i, hi => by
    have ih := pos_spec a xs (i + 1) (by omega)
    unfold pos
    by_cases hx : x = a
    · rw [if_pos hx]
      refine ⟨fun _ => ⟨Int.le_refl _, by simp only [List.length_cons]; omega⟩, fun h => absurd (by rw [hx]; exact List.mem_cons_self) h⟩
    · rw [if_neg hx]
      refine ⟨fun h => ?_, fun h => ih.2 (fun h' => h (List.mem_cons_of_mem _ h'))⟩
      have h' : a ∈ xs := by
        rcases List.mem_cons.1 h with h | h
        · exact absurd h.symm hx
        · exact h
      have := ih.1 h'
      simp only [List.length_cons]
      omega
theorem pos_mem (a : Int) (l : List Int) : (0 ≤ pos a l 0) ↔ a ∈ l := by
  have h := pos_spec a l 0 (by omega)
  constructor
  · intro h0
    by_cases hm : a ∈ l
    · exact hm
    · have := h.2 hm; omega
  · intro hm
    exact (h.1 hm).1
theorem l1In_eq (a b c : Int) : spec_l1In.f a b c = some (bP (b ≤ a ∧ a ≤ c)) := by
  simp only [spec_l1In.f]
  by_cases h : a ≥ b
  · rw [if_pos h, bP_dec, bP_congr (show (a ≤ c) ↔ (b ≤ a ∧ a ≤ c) by omega)]
  · rw [if_neg h, bP_neg (by omega)]
theorem within_eq (a b c : Int) : impl_within.f a b c = some (bP (b ≤ a ∧ a ≤ c)) := by
  simp only [impl_within.f]
  by_cases h : a ≥ b
  · rw [if_pos h, bP_dec, bP_congr (show (a ≤ c) ↔ (b ≤ a ∧ a ≤ c) by omega)]
  · rw [if_neg h, bP_neg (by omega)]
def plainFrom (t : ByteArray) (n : Nat) : Prop := ∀ i : Nat, n ≤ i → i < t.size → 32 ≤ bt t i ∧ bt t i ≤ 126 ∧ bt t i ≠ 34
def msgOk (a b : Int) (t : ByteArray) : Prop := (a = 1 ∧ t.toList = [] ∧ -999999999 ≤ b ∧ b ≤ 999999999) ∨ (a = 2 ∧ b = 0 ∧ t.size ≤ 40 ∧ plainFrom t 0)
theorem plainFrom_step (t : ByteArray) (n : Nat) (h : n < t.size) : plainFrom t n ↔ (32 ≤ bt t n ∧ bt t n ≤ 126 ∧ bt t n ≠ 34) ∧ plainFrom t (n + 1) := by
  constructor
  · intro hf
    exact ⟨hf n (Nat.le_refl _) h, fun i hi => hf i (by omega)⟩
  · rintro ⟨h0, hf⟩ i hi hl
    rcases Nat.eq_or_lt_of_le hi with rfl | hlt
    · exact h0
    · exact hf i hlt hl
theorem l1Plain_l (t : ByteArray) (hl : t.size ≤ 9223372036854775807) : ∀ d n : Nat, n + d = t.size → Ev (fun k => spec_l1Plain.l0 k t n) (bP (plainFrom t n))
  | 0, n, hd => by
    refine Ev.step (fun _ => rfl) ?_
    simp only [spec_l1Plain.l0, if_neg (show ¬ (n : Int) < (t.size : Int) by omega)]
    rw [bP_pos (show plainFrom t n from fun i hi hl => by omega)]
    exact Ev.now _
  | d + 1, n, hd => by
    refine Ev.step (fun _ => rfl) ?_
    simp only [spec_l1Plain.l0, if_pos (show (n : Int) < (t.size : Int) by omega), if_pos (show (0 : Int) ≤ (n : Int) by omega), w64n (show n < t.size by omega) hl]
    rw [bP_congr (plainFrom_step t n (by omega))]
    by_cases h1 : bt t n < 32
    · simp only [if_pos h1]
      rw [bP_neg (fun h => by have := h.1.1; omega)]
      exact Ev.now _
    · simp only [if_neg h1]
      by_cases h2 : bt t n > 126
      · simp only [if_pos h2]
        rw [bP_neg (fun h => by have := h.1.2.1; omega)]
        exact Ev.now _
      · simp only [if_neg h2]
        by_cases h3 : bt t n = 34
        · simp only [if_pos h3]
          rw [bP_neg (fun h => h.1.2.2 h3)]
          exact Ev.now _
        · simp only [if_neg h3]
          exact Ev_eq (l1Plain_l t hl d (n + 1) (by omega)) (bP_congr ⟨fun h => ⟨⟨by omega, by omega, h3⟩, h⟩, fun h => h.2⟩)
theorem specMsgOk_ev (a b : Int) (t : ByteArray) (hl : t.size ≤ 9223372036854775807) : Ev (fun k => spec_MsgOk.f k a b t) (bP (msgOk a b t)) := by
  simp only [spec_MsgOk.f, l1In_eq, Option.bind_some]
  by_cases h1 : a = 1
  · simp only [if_pos h1]
    by_cases h2 : t.toList = []
    · simp only [if_pos h2]
      exact Ev_eq (Ev.now _) (bP_congr ⟨fun h => .inl ⟨h1, h2, h⟩, fun h => h.elim (fun h => h.2.2) (fun h => by have := h.1; omega)⟩)
    · simp only [if_neg h2]
      rw [bP_neg (fun h => h.elim (fun h => h2 h.2.1) (fun h => by have := h.1; omega))]
      exact Ev.now _
  · simp only [if_neg h1]
    by_cases h2 : a = 2
    · simp only [if_pos h2]
      by_cases h3 : b = 0
      · simp only [if_pos h3, spec_l1Plain.f]
        by_cases h4 : (t.size : Int) > 40
        · simp only [if_pos h4, Option.bind_some]
          rw [bP_neg (fun h => h.elim (fun h => h1 h.1) (fun h => by have := h.2.2.1; omega))]
          exact Ev.now _
        · simp only [if_neg h4]
          refine Ev.bind (l1Plain_l t hl t.size 0 (by omega)) ?_
          exact Ev_eq (Ev.now _) (bP_congr ⟨fun h => .inr ⟨h2, h3, by omega, h⟩, fun h => h.elim (fun h => absurd h.1 h1) (fun h => h.2.2.2)⟩)
      · simp only [if_neg h3]
        rw [bP_neg (fun h => h.elim (fun h => h1 h.1) (fun h => h3 h.2.1))]
        exact Ev.now _
    · simp only [if_neg h2]
      rw [bP_neg (fun h => h.elim (fun h => h1 h.1) (fun h => h2 h.1))]
      exact Ev.now _
theorem implMsgOk_l (t : ByteArray) (a b : Int) (hl : t.size ≤ 9223372036854775807) : ∀ d n : Nat, n + d = t.size → Ev (fun k => impl_MsgOk.l0 k (t.size : Int) n a b t) (bP (plainFrom t n ∧ b = 0 ∧ t.size ≤ 40))
  | 0, n, hd => by
    refine Ev.step (fun _ => rfl) ?_
    simp only [impl_MsgOk.l0, if_neg (show ¬ (n : Int) < (t.size : Int) by omega)]
    by_cases h : b = 0
    · simp only [if_pos h]
      refine Ev_eq (Ev.now _) ?_
      rw [bP_dec]
      exact bP_congr ⟨fun h' => ⟨fun i hi hl => by omega, h, by omega⟩, fun h' => by have := h'.2.2; omega⟩
    · simp only [if_neg h]
      rw [bP_neg (fun h' => h h'.2.1)]
      exact Ev.now _
  | d + 1, n, hd => by
    have hb := bt_range t n
    refine Ev.step (fun _ => rfl) ?_
    simp only [impl_MsgOk.l0, if_pos (show (n : Int) < (t.size : Int) by omega), if_pos (show (0 : Int) ≤ (n : Int) by omega), w64n (show n < t.size by omega) hl, w64 (show -9223372036854775808 ≤ bt t n by omega) (show bt t n ≤ 9223372036854775807 by omega), within_eq, Option.bind_some]
    rw [bP_congr (and_congr_left' (plainFrom_step t n (by omega)))]
    by_cases h1 : 32 ≤ bt t n ∧ bt t n ≤ 126
    · simp only [bP_pos h1, if_true]
      by_cases h2 : bt t n = 34
      · simp only [if_pos h2]
        rw [bP_neg (fun h => h.1.1.2.2 h2)]
        exact Ev.now _
      · simp only [if_neg h2]
        exact Ev_eq (implMsgOk_l t a b hl d (n + 1) (by omega)) (bP_congr ⟨fun h => ⟨⟨⟨h1.1, h1.2, h2⟩, h.1⟩, h.2⟩, fun h => ⟨h.1.2, h.2⟩⟩)
    · simp only [bP_neg h1, if_neg (show ¬ (false = true) by decide)]
      rw [bP_neg (fun h => h1 ⟨h.1.1.1, h.1.1.2.1⟩)]
      exact Ev.now _
theorem implMsgOk_ev (a b : Int) (t : ByteArray) (hl : t.size ≤ 9223372036854775807) : Ev (fun k => impl_MsgOk.f k a b t) (bP (msgOk a b t)) := by
  simp only [impl_MsgOk.f, within_eq, Option.bind_some]
  by_cases h1 : a = 1
  · simp only [if_pos h1]
    by_cases h2 : -999999999 ≤ b ∧ b ≤ 999999999
    · simp only [bP_pos h2, if_true]
      refine Ev_eq (Ev.now _) ?_
      by_cases h3 : t.toList = []
      · rw [h3, bP_pos (.inl ⟨h1, h3, h2⟩)]
        rfl
      · rw [bP_neg (fun h => h.elim (fun h => h3 h.2.1) (fun h => by have := h.1; omega))]
        simpa using h3
    · simp only [bP_neg h2, if_neg (show ¬ (false = true) by decide)]
      rw [bP_neg (fun h => h.elim (fun h => h2 h.2.2) (fun h => by have := h.1; omega))]
      exact Ev.now _
  · simp only [if_neg h1]
    by_cases h2 : a = 2
    · simp only [if_pos h2]
      exact Ev_eq (implMsgOk_l t a b hl t.size 0 (by omega)) (bP_congr ⟨fun h => .inr ⟨h2, h.2.1, h.2.2, h.1⟩, fun h => h.elim (fun h => absurd h.1 h1) (fun h => ⟨h.2.2.2, h.2.1, h.2.2.1⟩)⟩)
    · simp only [if_neg h2]
      rw [bP_neg (fun h => h.elim (fun h => h1 h.1) (fun h => h2 h.1))]
      exact Ev.now _
theorem toMsg_eq (a b : Int) (t : ByteArray) : laws_toMsg.f a b t = some (a, b, t) := by
  simp only [laws_toMsg.f]
theorem szMsg_eq (a b : Int) (t : ByteArray) (w : Int) (h0 : 0 ≤ w) (h2 : w ≤ 1048576) (hl : t.size ≤ 9223372036854775807) : laws_szMsg.f a b t w = some (if w < t.size then -1 else w - t.size) := by
  simp only [laws_szMsg.f, w64 (show -9223372036854775808 ≤ w - (t.size : Int) by omega) (show w - (t.size : Int) ≤ 9223372036854775807 by omega)]
  by_cases h : w < t.size
  · rw [if_pos (by omega), if_pos h]
  · rw [if_neg (by omega), if_neg h]
def sB (l : List UInt8) : ByteArray := ⟨l.toArray⟩
theorem sB_append (a b : List UInt8) : sB a ++ sB b = sB (a ++ b) := by
  apply ByteArray.ext
  simp [sB]
theorem sB_size (l : List UInt8) : (sB l).size = l.length := by simp [sB, ByteArray.size]
theorem sB_list (l : List UInt8) : (sB l).toList = l := by
  have e : ∀ x : ByteArray, x.toList = x.data.toList := fun x => by first | exact Lib.toList_data x | exact ByteArray.toList_eq x | exact (Lib.toList_data x).symm
  rw [e]
  rfl
theorem sB_of (s : ByteArray) : s = sB s.toList := by
  have e : ∀ x : ByteArray, x.toList = x.data.toList := fun x => by first | exact Lib.toList_data x | exact ByteArray.toList_eq x | exact (Lib.toList_data x).symm
  apply ByteArray.ext
  simp [sB, e]
theorem enc_dig (d : Nat) (h : d < 10) : Go.Utf8.encode ((48 : Int) + (d : Int)) = sB [UInt8.ofNat (48 + d)] := by
  have hv : Go.Utf8.valid ((48 : Int) + (d : Int)) = true := by unfold Go.Utf8.valid; simp; omega
  have ht : ((48 : Int) + (d : Int)).toNat = 48 + d := by omega
  unfold Go.Utf8.encode
  simp only [hv, if_true, ht]
  rw [if_pos (show 48 + d < 128 by omega)]
  rfl
def dg (n : Nat) : List UInt8 := if n < 10 then [UInt8.ofNat (48 + n)] else dg (n / 10) ++ [UInt8.ofNat (48 + n % 10)]
termination_by n
decreasing_by omega
theorem dg_lt {n : Nat} (h : n < 10) : dg n = [UInt8.ofNat (48 + n)] := by rw [dg, if_pos h]
theorem dg_ge {n : Nat} (h : ¬ n < 10) : dg n = dg (n / 10) ++ [UInt8.ofNat (48 + n % 10)] := by rw [dg, if_neg h]
theorem dg_len : ∀ k n : Nat, n < 10 ^ (k + 1) → (dg n).length ≤ k + 1
  | 0, n, h => by rw [dg_lt (by omega)]; simp
  | k + 1, n, h => by
    by_cases h10 : n < 10
    · rw [dg_lt h10]; simp
    · rw [dg_ge h10, List.length_append]
      have := dg_len k (n / 10) (by rw [Nat.pow_succ] at h; omega)
      simp; omega
theorem dg_pos (n : Nat) : 1 ≤ (dg n).length := by
  by_cases h10 : n < 10
  · rw [dg_lt h10]; simp
  · rw [dg_ge h10, List.length_append]; simp
def vl (l : List UInt8) : Nat := l.foldl (fun n c => 10 * n + (c.toNat - 48)) 0
def isD (c : UInt8) : Prop := 48 ≤ c.toNat ∧ c.toNat ≤ 57
theorem vl_snoc (l : List UInt8) (c : UInt8) : vl (l ++ [c]) = 10 * vl l + (c.toNat - 48) := by simp [vl, List.foldl_append]
theorem dig_nat {d : Nat} (h : d < 10) : (UInt8.ofNat (48 + d)).toNat = 48 + d := by
  rw [UInt8.toNat_ofNat']; omega
theorem dig_of {c : UInt8} (h : isD c) : UInt8.ofNat (48 + (c.toNat - 48)) = c := by
  rw [show 48 + (c.toNat - 48) = c.toNat by unfold isD at h; omega]
  exact UInt8.ofNat_toNat
theorem dg_digits (n : Nat) : ∀ c ∈ dg n, isD c := by
  induction n using Nat.strongRecOn with
  | _ n ih =>
    intro c hc
    by_cases h10 : n < 10
    · rw [dg_lt h10, List.mem_singleton] at hc
      subst hc
      unfold isD
      rw [dig_nat h10]; omega
    · rw [dg_ge h10, List.mem_append, List.mem_singleton] at hc
      rcases hc with hc | hc
      · exact ih (n / 10) (by omega) c hc
      · subst hc
        unfold isD
        rw [dig_nat (by omega)]; omega
theorem vl_dg (n : Nat) : vl (dg n) = n := by
  induction n using Nat.strongRecOn with
  | _ n ih =>
    by_cases h10 : n < 10
    · rw [dg_lt h10]
      show 10 * 0 + ((UInt8.ofNat (48 + n)).toNat - 48) = n
      rw [dig_nat h10]; omega
    · rw [dg_ge h10, vl_snoc, ih (n / 10) (by omega), dig_nat (by omega)]; omega
def noZ (l : List UInt8) : Prop := l.head? = some 48 → l.length = 1
theorem dg_noZ (n : Nat) : noZ (dg n) := by
  have key : ∀ n : Nat, 0 < n → (dg n).head? ≠ some 48 := by
    intro n
    induction n using Nat.strongRecOn with
    | _ n ih =>
      intro h0
      by_cases h10 : n < 10
      · rw [dg_lt h10]
        intro e
        have e1 : UInt8.ofNat (48 + n) = 48 := Option.some.inj e
        have e2 := congrArg UInt8.toNat e1
        rw [dig_nat h10] at e2
        have e3 : (48 : UInt8).toNat = 48 := rfl
        omega
      · rw [dg_ge h10]
        have hl := dg_pos (n / 10)
        intro e
        apply ih (n / 10) (by omega) (by omega)
        cases hd : dg (n / 10) with
        | nil => rw [hd] at hl; simp at hl
        | cons x xs => rw [hd] at e; exact e
  intro e
  by_cases h0 : n = 0
  · subst h0; rw [dg_lt (by omega)]; rfl
  · exact absurd e (key n (by omega))
theorem dg_vl : ∀ (k : Nat) (l : List UInt8), l.length = k + 1 → (∀ c ∈ l, isD c) → noZ l → dg (vl l) = l ∧ (k ≠ 0 → 1 ≤ vl l)
  | 0, l, hl, hd, hz => by
    match l, hl with
    | [c], _ =>
      have hc := hd c (by simp)
      have hn : vl [c] = c.toNat - 48 := by show 10 * 0 + (c.toNat - 48) = _; omega
      rw [hn]
      refine ⟨?_, fun h => absurd rfl h⟩
      rw [dg_lt (by unfold isD at hc; omega), dig_of hc]
  | k + 1, l, hl, hd, hz => by
    have hne : l ≠ [] := by intro e; rw [e] at hl; simp at hl
    have e : l = l.dropLast ++ [l.getLast hne] := (List.dropLast_concat_getLast hne).symm
    have hdl : l.dropLast.length = k + 1 := by rw [List.length_dropLast, hl]; rfl
    obtain ⟨m, c, e2, hm⟩ : ∃ m c, l = m ++ [c] ∧ m.length = k + 1 := ⟨_, _, e, hdl⟩
    subst e2
    have hmz : m.head? ≠ some 48 := by
      intro h48
      have := hz (by cases m with
        | nil => simp at hm
        | cons x xs => exact h48)
      rw [List.length_append, hm] at this
      simp at this
    have hdm : ∀ c ∈ m, isD c := fun c hc => hd c (List.mem_append_left _ hc)
    have ih := dg_vl k m hm hdm (fun h => absurd h hmz)
    have h1 : 1 ≤ vl m := by
      by_cases hk : k = 0
      · subst hk
        match m, hm with
        | [x], _ =>
          have hx := hdm x (by simp)
          have hn : vl [x] = x.toNat - 48 := by show 10 * 0 + (x.toNat - 48) = _; omega
          rw [hn]
          have : x.toNat ≠ 48 := fun e => hmz (by show some x = some 48; rw [show x = 48 from UInt8.toNat_inj.1 e])
          unfold isD at hx
          omega
      · exact ih.2 hk
    have hc := hd c (by simp)
    have hv := vl_snoc m c
    refine ⟨?_, fun _ => by omega⟩
    rw [dg_ge (by omega), show vl (m ++ [c]) / 10 = vl m by unfold isD at hc; omega, ih.1, show vl (m ++ [c]) % 10 = c.toNat - 48 by unfold isD at hc; omega, dig_of hc]
theorem vl_lt : ∀ (k : Nat) (l : List UInt8), l.length = k → (∀ c ∈ l, isD c) → vl l < 10 ^ k
  | 0, l, hl, _ => by rw [List.length_eq_zero_iff.1 hl]; decide
  | k + 1, l, hl, hd => by
    have hne : l ≠ [] := by intro e; rw [e] at hl; simp at hl
    obtain ⟨m, c, e2, hm⟩ : ∃ m c, l = m ++ [c] ∧ m.length = k := ⟨_, _, (List.dropLast_concat_getLast hne).symm, by rw [List.length_dropLast, hl]; rfl⟩
    subst e2
    have ih := vl_lt k m hm (fun c hc => hd c (List.mem_append_left _ hc))
    have hc := hd c (by simp)
    rw [vl_snoc, Nat.pow_succ]
    unfold isD at hc
    omega
def dz (n : Int) : List UInt8 := if n < 0 then 45 :: dg n.natAbs else dg n.natAbs
def trm (l : List UInt8) : List UInt8 := if l.head? = some 45 then l.tail else l
theorem isD_45 : ¬ isD 45 := by unfold isD; decide
theorem dg_head (n : Nat) : (dg n).head? ≠ some 45 := by
  intro e
  have hl := dg_pos n
  cases hd : dg n with
  | nil => rw [hd] at hl; simp at hl
  | cons x xs =>
    rw [hd] at e
    have : x = 45 := Option.some.inj e
    exact isD_45 (this ▸ dg_digits n x (by rw [hd]; exact List.mem_cons_self))
theorem trm_dz (n : Int) : trm (dz n) = dg n.natAbs ∧ ((dz n).head? = some 45 ↔ n < 0) := by
  unfold trm dz
  by_cases h : n < 0
  · simp only [List.head?_cons, if_true, List.tail_cons, h, and_self]
  · simp only [h, iff_false, if_false]
    rw [if_neg (dg_head _)]
    exact ⟨rfl, dg_head _⟩
theorem dz_inj {a b : Int} (h : dz a = dz b) : a = b := by
  have h1 := trm_dz a
  have h2 := trm_dz b
  rw [h] at h1
  have e : a.natAbs = b.natAbs := by rw [← vl_dg a.natAbs, ← vl_dg b.natAbs, ← h1.1, ← h2.1]
  have e2 : a < 0 ↔ b < 0 := h1.2.symm.trans h2.2
  omega
theorem dg_nine {n : Nat} (h : n ≤ 999999999) : (dg n).length ≤ 9 := dg_len 8 n (by omega)
theorem vl_nine {l : List UInt8} (hl : l.length ≤ 9) (hd : ∀ c ∈ l, isD c) : vl l ≤ 999999999 := by
  have h := vl_lt _ l rfl hd
  have h2 : 10 ^ l.length ≤ 10 ^ 9 := Nat.pow_le_pow_right (by decide) hl
  have h3 : 10 ^ 9 = 1000000000 := by decide
  omega
def sgn (l : List UInt8) (n : Nat) : Int := if l.head? = some 45 then -(n : Int) else (n : Int)
theorem dz_iff (l : List UInt8) (h1 : 1 ≤ (trm l).length) (hd : ∀ c ∈ trm l, isD c) : dz (sgn l (vl (trm l))) = l ↔ ¬ ((trm l).head? = some 48 ∧ (1 < (trm l).length ∨ l.head? = some 45)) := by
  obtain ⟨k, hk⟩ : ∃ k, (trm l).length = k + 1 := ⟨(trm l).length - 1, by omega⟩
  by_cases hb : l.head? = some 45
  · have hl : l = 45 :: trm l := by
      unfold trm
      rw [if_pos hb]
      cases l with
      | nil => cases hb
      | cons x xs => rw [show x = 45 from Option.some.inj hb]; rfl
    have hs : sgn l (vl (trm l)) = -(vl (trm l) : Int) := by unfold sgn; rw [if_pos hb]
    rw [hs]
    constructor
    · intro e hn
      have hz := hn.1
      by_cases h0 : vl (trm l) = 0
      · rw [h0] at e
        have e2 : dz (-((0 : Nat) : Int)) = dg 0 := rfl
        rw [e2] at e
        exact dg_head 0 (e ▸ hb)
      · have e1 : dg (vl (trm l)) = trm l := by
          have h2 := (trm_dz (-(vl (trm l) : Int))).1
          rw [e, Int.natAbs_neg, Int.natAbs_natCast] at h2
          exact h2.symm
        have hz1 := dg_noZ (vl (trm l)) (by rw [e1]; exact hz)
        rw [e1] at hz1
        have h3 : vl (trm l) = 0 := by
          match ht : trm l, hz1 with
          | [x], _ =>
            rw [ht] at hz
            have : x = 48 := Option.some.inj hz
            subst this
            rfl
        exact h0 h3
    · intro hn
      have hz : (trm l).head? ≠ some 48 := fun e => hn ⟨e, .inr hb⟩
      have h2 := dg_vl k (trm l) hk hd (fun e => absurd e hz)
      have hp : 0 < vl (trm l) := by
        by_cases hk0 : k = 0
        · subst hk0
          match ht : trm l, hk with
          | [x], _ =>
            have hx := hd x (by rw [ht]; exact List.mem_cons_self)
            have hn : vl [x] = x.toNat - 48 := by show 10 * 0 + (x.toNat - 48) = _; omega
            rw [hn]
            have : x.toNat ≠ 48 := fun e => hz (by rw [ht]; show some x = some 48; rw [show x = 48 from UInt8.toNat_inj.1 e])
            unfold isD at hx
            omega
        · have := h2.2 hk0; omega
      unfold dz
      rw [if_pos (by omega), Int.natAbs_neg, Int.natAbs_natCast, h2.1]
      exact hl.symm
  · have hl : l = trm l := by unfold trm; rw [if_neg hb]
    have hs : sgn l (vl (trm l)) = (vl (trm l) : Int) := by unfold sgn; rw [if_neg hb]
    rw [hs]
    have e0 : dz (vl (trm l) : Int) = dg (vl (trm l)) := by unfold dz; rw [if_neg (by omega), Int.natAbs_natCast]
    rw [e0]
    constructor
    · intro e hn
      have e1 : dg (vl (trm l)) = trm l := e.trans hl
      have hz1 := dg_noZ (vl (trm l)) (by rw [e1]; exact hn.1)
      rw [e1] at hz1
      rcases hn.2 with h | h
      · omega
      · exact hb h
    · intro hn
      have hz : noZ (trm l) := by
        intro e
        by_cases h : 1 < (trm l).length
        · exact absurd ⟨e, .inl h⟩ hn
        · omega
      exact (dg_vl k (trm l) hk hd hz).1.trans hl.symm
theorem dz_facts {l : List UInt8} {n : Int} (h : l = dz n) (h0 : -999999999 ≤ n) (h1 : n ≤ 999999999) : 1 ≤ (trm l).length ∧ (trm l).length ≤ 9 ∧ (∀ c ∈ trm l, isD c) ∧ sgn l (vl (trm l)) = n := by
  have ht := trm_dz n
  rw [← h] at ht
  refine ⟨by rw [ht.1]; exact dg_pos _, by rw [ht.1]; exact dg_nine (by omega), by rw [ht.1]; exact dg_digits _, ?_⟩
  rw [ht.1, vl_dg]
  unfold sgn
  by_cases hn : n < 0
  · rw [if_pos (ht.2.2 hn)]; omega
  · rw [if_neg (fun e => hn (ht.2.1 e))]; omega
theorem sgn_bound (l : List UInt8) {m : Nat} (h : m ≤ 999999999) : -999999999 ≤ sgn l m ∧ sgn l m ≤ 999999999 := by
  unfold sgn
  split <;> omega
theorem sB1 (c : UInt8) : (⟨#[c]⟩ : ByteArray) = sB [c] := rfl
theorem w32 {x : Int} (h0 : -2147483648 ≤ x) (h1 : x ≤ 2147483647) : wrap32 x = x := by unfold wrap32; omega
theorem decimal_nn (n : Nat) (hn : n ≤ 999999999) : Ev (fun k => impl_decimal.f k (n : Int)) (sB (dg n)) := by
  induction n using Nat.strongRecOn with
  | _ n ih =>
    refine Ev.step (fun _ => rfl) ?_
    simp only [impl_decimal.f, if_neg (show ¬ (n : Int) < 0 by omega)]
    refine Ev.step (fun _ => rfl) ?_
    simp only [impl_decimal.j0, if_neg (show ¬ (false = true) by decide), if_neg (show ¬ (n : Int) < 0 by omega)]
    by_cases h : n < 10
    · simp only [if_pos (show (n : Int) < 10 by omega), w64 (show -9223372036854775808 ≤ (48 : Int) + n by omega) (show (48 : Int) + n ≤ 9223372036854775807 by omega), w32 (show -2147483648 ≤ (48 : Int) + n by omega) (show (48 : Int) + n ≤ 2147483647 by omega), enc_dig n h]
      rw [dg_lt h]
      exact Ev.now _
    · have e1 : wrap64 (Int.tdiv (n : Int) 10) = ((n / 10 : Nat) : Int) := by
        rw [Int.tdiv_eq_ediv_of_nonneg (by omega), w64 (by omega) (by omega)]; omega
      have e2 : Int.tmod (n : Int) 10 = ((n % 10 : Nat) : Int) := by rw [Int.tmod_eq_emod_of_nonneg (by omega)]; omega
      simp only [if_neg (show ¬ (n : Int) < 10 by omega), e1, e2, w64 (show -9223372036854775808 ≤ (48 : Int) + ((n % 10 : Nat) : Int) by omega) (show (48 : Int) + ((n % 10 : Nat) : Int) ≤ 9223372036854775807 by omega), w32 (show -2147483648 ≤ (48 : Int) + ((n % 10 : Nat) : Int) by omega) (show (48 : Int) + ((n % 10 : Nat) : Int) ≤ 2147483647 by omega), enc_dig (n % 10) (by omega)]
      refine Ev.bind (ih (n / 10) (by omega) (by omega)) ?_
      have hl := dg_nine (n := n / 10) (by omega)
      simp only [sB_size, sB_append]
      rw [dg_ge h]
      exact Ev_ifpos (by simp; omega) (Ev.now _)
theorem decimal_neg (m : Nat) (h0 : 0 < m) (hm : m ≤ 999999999) : Ev (fun k => impl_decimal.f k (-(m : Int))) (sB (45 :: dg m)) := by
  induction m using Nat.strongRecOn with
  | _ m ih =>
    refine Ev.step (fun _ => rfl) ?_
    simp only [impl_decimal.f, if_pos (show (-(m : Int)) < 0 by omega)]
    refine Ev.step (fun _ => rfl) ?_
    by_cases h : m < 10
    · simp only [impl_decimal.j0, decide_eq_true (show (-(m : Int)) > -10 by omega), if_true, Int.neg_neg, w64 (show -9223372036854775808 ≤ (m : Int) by omega) (show (m : Int) ≤ 9223372036854775807 by omega)]
      refine Ev.bind (decimal_nn m hm) ?_
      have hl := dg_nine hm
      simp only [sB1, sB_size, sB_append]
      exact Ev_ifpos (by omega) (Ev.now _)
    · have e1 : wrap64 (Int.tdiv (-(m : Int)) 10) = -((m / 10 : Nat) : Int) := by
        rw [Int.neg_tdiv, Int.tdiv_eq_ediv_of_nonneg (by omega), w64 (by omega) (by omega)]; omega
      have e2 : wrap64 (-(Int.tmod (-(m : Int)) 10)) = ((m % 10 : Nat) : Int) := by
        rw [Int.neg_tmod, Int.neg_neg, Int.tmod_eq_emod_of_nonneg (by omega), w64 (by omega) (by omega)]; omega
      simp only [impl_decimal.j0, decide_eq_false (show ¬ (-(m : Int)) > -10 by omega), if_neg (show ¬ (false = true) by decide), if_pos (show (-(m : Int)) < 0 by omega), e1, e2]
      refine Ev.bind (ih (m / 10) (by omega) (by omega) (by omega)) ?_
      refine Ev.bind (decimal_nn (m % 10) (by omega)) ?_
      have hl := dg_nine (n := m / 10) (by omega)
      simp only [sB_size, sB_append, List.length_cons]
      rw [dg_ge h, dg_lt (n := m % 10) (by omega)]
      exact Ev_ifpos (by simp; omega) (Ev.now _)
theorem decimal_ev (n : Int) (h0 : -999999999 ≤ n) (h1 : n ≤ 999999999) : Ev (fun k => impl_decimal.f k n) (sB (dz n)) := by
  unfold dz
  by_cases h : n < 0
  · have e := decimal_neg n.natAbs (by omega) (by omega)
    rw [show -((n.natAbs : Nat) : Int) = n by omega] at e
    rw [if_pos h]
    exact e
  · have e := decimal_nn n.natAbs (by omega)
    rw [show ((n.natAbs : Nat) : Int) = n by omega] at e
    rw [if_neg h]
    exact e
theorem dz_len {n : Int} (h0 : -999999999 ≤ n) (h1 : n ≤ 999999999) : (dz n).length ≤ 10 := by
  have := dg_nine (n := n.natAbs) (by omega)
  unfold dz
  split
  · rw [List.length_cons]; omega
  · omega
def dgo (m : Nat) : List UInt8 := if m = 0 then [] else dg m
theorem dgo_step {m : Nat} (h : ¬ m = 0) (out : List UInt8) : dgo (m / 10) ++ (UInt8.ofNat (48 + m % 10) :: out) = dgo m ++ out := by
  unfold dgo
  rw [if_neg h]
  by_cases h10 : m < 10
  · rw [if_pos (by omega), dg_lt h10, show m % 10 = m by omega]; rfl
  · rw [if_neg (by omega), dg_ge h10, List.append_assoc]; rfl
theorem digits_l (b : Bool) : ∀ (m : Nat) (x : Int) (out : List UInt8), x.natAbs = m → m ≤ 999999999 → out.length + m ≤ 2000000000 → Ev (fun k => spec_l1Digits.l0 k x (sB out) b) (if b = true then sB (45 :: (dgo m ++ out)) else sB (dgo m ++ out)) := by
  intro m
  induction m using Nat.strongRecOn with
  | _ m ih =>
    intro x out hx hm ho
    refine Ev.step (fun _ => rfl) ?_
    simp only [spec_l1Digits.l0]
    by_cases h : x = 0
    · have h0 : m = 0 := by omega
      subst h0
      simp only [if_pos h]
      have e0 : dgo 0 = [] := rfl
      rw [e0, List.nil_append]
      cases b
      · simp only [if_neg (show ¬ (false = true) by decide)]
        exact Ev.now _
      · simp only [if_true, sB1, sB_size, sB_append]
        exact Ev_ifpos (by omega) (Ev.now _)
    · simp only [if_neg h, Option.bind_some]
      have key : Ev (fun k => spec_l1Digits.l0 k (wrap64 (Int.tdiv x 10)) (sB (UInt8.ofNat (48 + m % 10) :: out)) b) (if b = true then sB (45 :: (dgo m ++ out)) else sB (dgo m ++ out)) := by
        have e1 : (wrap64 (Int.tdiv x 10)).natAbs = m / 10 := by
          have h1 : Int.tdiv x 10 = if x < 0 then -((m / 10 : Nat) : Int) else ((m / 10 : Nat) : Int) := by
            by_cases hn : x < 0
            · rw [if_pos hn, show x = -(m : Int) by omega, Int.neg_tdiv, Int.tdiv_eq_ediv_of_nonneg (by omega)]; omega
            · rw [if_neg hn, show x = (m : Int) by omega, Int.tdiv_eq_ediv_of_nonneg (by omega)]; omega
          rw [h1]
          split <;> (rw [w64 (by omega) (by omega)]; omega)
        have h2 := ih (m / 10) (by omega) (wrap64 (Int.tdiv x 10)) (UInt8.ofNat (48 + m % 10) :: out) e1 (by omega) (by simp only [List.length_cons]; omega)
        rw [dgo_step (by omega)] at h2
        exact h2
      have es : ∀ d : Int, d = ((m % 10 : Nat) : Int) → strOfNums [(wrap64 (48 + d)) % 256] = sB [UInt8.ofNat (48 + m % 10)] := by
        intro d hd
        rw [hd, w64 (by omega) (by omega)]
        unfold strOfNums
        rw [List.map_cons, List.map_nil, show ((48 + ((m % 10 : Nat) : Int)) % 256).toNat = 48 + m % 10 by omega]
        rfl
      have fin : ∀ d : Int, d = ((m % 10 : Nat) : Int) → Ev (fun k => if (strOfNums [(wrap64 (48 + d)) % 256]).size + (sB out).size ≤ 9223372036854775807 then spec_l1Digits.l0 k (wrap64 (Int.tdiv x 10)) (strOfNums [(wrap64 (48 + d)) % 256] ++ sB out) b else none) (if b = true then sB (45 :: (dgo m ++ out)) else sB (dgo m ++ out)) := by
        intro d hd
        rw [es d hd]
        simp only [sB_size, sB_append]
        exact Ev_ifpos (by simp; omega) key
      by_cases hn : Int.tmod x 10 < 0
      · simp only [if_pos hn]
        refine fin _ ?_
        have hx0 : x < 0 := by
          by_cases hx0 : x < 0
          · exact hx0
          · have := Int.tmod_nonneg 10 (show 0 ≤ x by omega)
            omega
        rw [show x = -(m : Int) by omega, Int.neg_tmod, Int.neg_neg, Int.tmod_eq_emod_of_nonneg (by omega), w64 (by omega) (by omega)]
        omega
      · simp only [if_neg hn]
        refine fin _ ?_
        by_cases hx0 : x < 0
        · rw [show x = -(m : Int) by omega, Int.neg_tmod, Int.tmod_eq_emod_of_nonneg (by omega)] at hn ⊢
          omega
        · rw [show x = (m : Int) by omega, Int.tmod_eq_emod_of_nonneg (by omega)]
          omega
theorem digits_ev (n : Int) (h0 : -999999999 ≤ n) (h1 : n ≤ 999999999) : Ev (fun k => spec_l1Digits.f k n) (sB (dz n)) := by
  simp only [spec_l1Digits.f]
  by_cases h : n = 0
  · subst h
    simp only [if_true]
    have e : dz 0 = [48] := by unfold dz; rw [if_neg (by omega)]; show dg 0 = _; rw [dg_lt (by omega)]; rfl
    rw [e]
    exact Ev.now _
  · simp only [if_neg h]
    have e := digits_l (decide (n < 0)) n.natAbs n [] rfl (by omega) (by simp; omega)
    refine Ev_eq e ?_
    have ed : dgo n.natAbs = dg n.natAbs := if_neg (by omega)
    rw [ed, List.append_nil]
    by_cases hn : n < 0
    · rw [if_pos (decide_eq_true hn), dz, if_pos hn]
    · rw [if_neg (by rw [decide_eq_false hn]; decide), dz, if_neg hn]
noncomputable def msgT (a b : Int) (t : ByteArray) : ByteArray := if bP (msgOk a b t) = true then (if a = 1 then sB (dz b) else ((⟨#[34]⟩ : ByteArray) ++ t) ++ (⟨#[34]⟩ : ByteArray)) else (⟨#[63]⟩ : ByteArray)
theorem msgOk_num {b : Int} {a : Int} {t : ByteArray} (h : msgOk a b t) : -999999999 ≤ b ∧ b ≤ 999999999 := h.elim (fun h => h.2.2) (fun h => by have := h.2.1; omega)
theorem implMsgText_ev (a b : Int) (t : ByteArray) (ht : t.size ≤ 1048577) : Ev (fun k => impl_MsgText.f k a b t) (msgT a b t) := by
  simp only [impl_MsgText.f]
  refine Ev.bind (implMsgOk_ev a b t (by omega)) ?_
  unfold msgT
  by_cases h : msgOk a b t
  · simp only [bP_pos h, if_true]
    by_cases h1 : a = 1
    · simp only [if_pos h1]
      exact Ev.bind (decimal_ev b (msgOk_num h).1 (msgOk_num h).2) (Ev.now _)
    · simp only [if_neg h1]
      exact Ev_ifpos (by omega) (Ev_ifpos (by omega) (Ev.now _))
  · simp only [bP_neg h, if_neg (show ¬ (false = true) by decide)]
    exact Ev.now _
theorem specMsgText_ev (a b : Int) (t : ByteArray) (ht : t.size ≤ 1048577) : Ev (fun k => spec_MsgText.f k a b t) (msgT a b t) := by
  simp only [spec_MsgText.f]
  refine Ev.bind (specMsgOk_ev a b t (by omega)) ?_
  unfold msgT
  by_cases h : msgOk a b t
  · simp only [bP_pos h, if_true]
    by_cases h1 : a = 1
    · simp only [if_pos h1]
      exact Ev.bind (digits_ev b (msgOk_num h).1 (msgOk_num h).2) (Ev.now _)
    · simp only [if_neg h1]
      exact Ev_ifpos (by omega) (Ev_ifpos (by omega) (Ev.now _))
  · simp only [bP_neg h, if_neg (show ¬ (false = true) by decide)]
    exact Ev.now _
end Go.Proofs.Ytalehmhjddnmoaa.Q
