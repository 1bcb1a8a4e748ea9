/- Plain laws of what the printed functions compute, the program's and the reference's, for every number and list; conditions: those of each theorem. -/
import Derived.Test.YtalehmhjddnmoaaZx2
import Derived.Test.YtalehmhjddnmoaaZx3
import Derived.Test.YtalehmhjddnmoaaZx4
import Derived.Test.YtalehmhjddnmoaaZx5
import Derived.Test.YtalehmhjddnmoaaZx6
import Derived.Test.YtalehmhjddnmoaaZx7
import Derived.Test.YtalehmhjddnmoaaZx8
import Derived.Test.YtalehmhjddnmoaaZx9
import Derived.Test.YtalehmhjddnmoaaZx10
import Derived.Test.YtalehmhjddnmoaaZx15
import Derived.Test.YtalehmhjddnmoaaZx16
import Derived.Test.YtalehmhjddnmoaaZx18
import Derived.Test.YtalehmhjddnmoaaZx19
import Derived.Test.YtalehmhjddnmoaaZx21
import Derived.Test.YtalehmhjddnmoaaZx22
import Derived.Test.YtalehmhjddnmoaaZx23
import Derived.Test.YtalehmhjddnmoaaZx24
import Derived.Test.YtalehmhjddnmoaaZx25
import Derived.Test.YtalehmhjddnmoaaZx26
import Derived.Test.YtalehmhjddnmoaaZx42
namespace Go.Proofs.Ytalehmhjddnmoaa.Q
open Go.RowKit Go.Proofs.Ytalehmhjddnmoaa.Z Go.Proofs.YtalehmhjddnmoaaW.PrintWords Go.Proofs.YtalehmhjddnmoaaW.PrintLast Go.Proofs.YtalehmhjddnmoaaW.PrintMore
set_option linter.unusedVariables false
set_option linter.unusedSimpArgs false
theorem w64 {x : Int} (h0 : -9223372036854775808 ≤ x) (h1 : x ≤ 9223372036854775807) : wrap64 x = x := by unfold wrap64; omega
theorem w64n {n m : Nat} (h : n < m) (hm : m ≤ 9223372036854775807) : wrap64 ((n : Int) + 1) = ((n + 1 : Nat) : Int) := by rw [w64 (by omega) (by omega)]; omega
theorem rd_nat (l : List Int) (n : Nat) : rd l (n : Int) = l.getD n 0 := by simp [rd]
theorem rdOf_nat {α : Type} (d : α) (l : List α) (n : Nat) : rdOf d l (n : Int) = l.getD n d := by simp [rdOf]
theorem drop_cons {α : Type} (d : α) (l : List α) (n : Nat) (h : n < l.length) : l.drop n = l.getD n d :: l.drop (n + 1) := by
  rw [List.drop_eq_getElem_cons h, List.getD_eq_getElem?_getD, List.getElem?_eq_getElem h]; rfl
theorem take_cons {α : Type} (d : α) (l : List α) (n : Nat) (h : n < l.length) : l.take (n + 1) = l.take n ++ [l.getD n d] := by
  rw [List.take_succ_eq_append_getElem h, List.getD_eq_getElem?_getD, List.getElem?_eq_getElem h]; rfl
noncomputable def bP (p : Prop) : Bool := @decide p (Classical.propDecidable p)
theorem bP_iff {p : Prop} : bP p = true ↔ p := by simp [bP]
theorem bP_pos {p : Prop} (h : p) : bP p = true := bP_iff.2 h
theorem bP_neg {p : Prop} (h : ¬ p) : bP p = false := by
  cases hb : bP p
  · rfl
  · exact absurd (bP_iff.1 hb) h
theorem bP_congr {p q : Prop} (h : p ↔ q) : bP p = bP q := by rw [propext h]
theorem bP_dec (p : Prop) [Decidable p] : decide p = bP p := by
  by_cases h : p
  · rw [bP_pos h, decide_eq_true h]
  · rw [bP_neg h, decide_eq_false h]
theorem Ev_eq {α : Type} {g : Nat → Option α} {r s : α} (h : Ev g r) (e : r = s) : Ev g s := e ▸ h
theorem Ev_ifpos {α : Type} {c : Prop} [Decidable c] {g f : Nat → Option α} {r : α} (h : c) (k : Ev g r) : Ev (fun n => if c then g n else f n) r := by
  simpa only [if_pos h] using k
theorem Ev_ifneg {α : Type} {c : Prop} [Decidable c] {g f : Nat → Option α} {r : α} (h : ¬ c) (k : Ev f r) : Ev (fun n => if c then g n else f n) r := by
  simpa only [if_neg h] using k
theorem Ev_some {α β : Type} {g : Option α} {f : Nat → α → Option β} {a : α} {r : β} (h : g = some a) (k : Ev (fun n => f n a) r) : Ev (fun n => g.bind (f n)) r := by
  simpa only [h, Option.bind_some] using k
theorem Ev_ofk {α : Type} {r : α} {g : Option α} (h : g = some r) : Ev (fun _ => g) r := ⟨0, fun _ _ => h⟩
def upFrom : Int → Nat → List Int
  | _, 0 => []
  | v, n + 1 => v :: upFrom (v + 1) n
theorem upFrom_length : ∀ n v, (upFrom v n).length = n
  | 0, _ => rfl
  | n + 1, v => by simp [upFrom, upFrom_length n]
def pos (a : Int) : List Int → Int → Int
  | [], _ => -1
  | x :: xs, i => if x = a then i else pos a xs (i + 1)
theorem pos_spec (a : Int) : ∀ (l : List Int) (i : Int), 0 ≤ i → (a ∈ l → i ≤ pos a l i ∧ pos a l i < i + l.length) ∧ (a ∉ l → pos a l i = -1)
  | [], i, _ => by simp [pos]
  | x :: xs, i, hi => by
    have ih := pos_spec a xs (i + 1) (by omega)
    unfold pos
    by_cases hx : x = a
    · rw [if_pos hx]
      refine ⟨fun _ => ⟨Int.le_refl _, by simp only [List.length_cons]; omega⟩, fun h => absurd (by rw [hx]; exact List.mem_cons_self) h⟩
    · rw [if_neg hx]
      refine ⟨fun h => ?_, fun h => ih.2 (fun h' => h (List.mem_cons_of_mem _ h'))⟩
      have h' : a ∈ xs := by
        rcases List.mem_cons.1 h with h | h
        · exact absurd h.symm hx
        · exact h
      have := ih.1 h'
      simp only [List.length_cons]
      omega
theorem pos_mem (a : Int) (l : List Int) : (0 ≤ pos a l 0) ↔ a ∈ l := by
  have h := pos_spec a l 0 (by omega)
  constructor
  · intro h0
    by_cases hm : a ∈ l
    · exact hm
    · have := h.2 hm; omega
  · intro hm
    exact (h.1 hm).1
theorem l1In_eq (a b c : Int) : spec_l1In.f a b c = some (bP (b ≤ a ∧ a ≤ c)) := by
  simp only [spec_l1In.f]
  by_cases h : a ≥ b
  · rw [if_pos h, bP_dec, bP_congr (show (a ≤ c) ↔ (b ≤ a ∧ a ≤ c) by omega)]
  · rw [if_neg h, bP_neg (by omega)]
theorem within_eq (a b c : Int) : impl_within.f a b c = some (bP (b ≤ a ∧ a ≤ c)) := by
  simp only [impl_within.f]
  by_cases h : a ≥ b
  · rw [if_pos h, bP_dec, bP_congr (show (a ≤ c) ↔ (b ≤ a ∧ a ≤ c) by omega)]
  · rw [if_neg h, bP_neg (by omega)]
def plainFrom (t : ByteArray) (n : Nat) : Prop := ∀ i : Nat, n ≤ i → i < t.size → 32 ≤ bt t i ∧ bt t i ≤ 126 ∧ bt t i ≠ 34
def msgOk (a b : Int) (t : ByteArray) : Prop := (a = 1 ∧ t.toList = [] ∧ -999999999 ≤ b ∧ b ≤ 999999999) ∨ (a = 2 ∧ b = 0 ∧ t.size ≤ 40 ∧ plainFrom t 0)
theorem plainFrom_step (t : ByteArray) (n : Nat) (h : n < t.size) : plainFrom t n ↔ (32 ≤ bt t n ∧ bt t n ≤ 126 ∧ bt t n ≠ 34) ∧ plainFrom t (n + 1) := by
  constructor
  · intro hf
    exact ⟨hf n (Nat.le_refl _) h, fun i hi => hf i (by omega)⟩
  · rintro ⟨h0, hf⟩ i hi hl
    rcases Nat.eq_or_lt_of_le hi with rfl | hlt
    · exact h0
    · exact hf i hlt hl
theorem l1Plain_l (t : ByteArray) (hl : t.size ≤ 9223372036854775807) : ∀ d n : Nat, n + d = t.size → Ev (fun k => spec_l1Plain.l0 k t n) (bP (plainFrom t n))
  | 0, n, hd => by
    refine Ev.step (fun _ => rfl) ?_
    simp only [spec_l1Plain.l0, if_neg (show ¬ (n : Int) < (t.size : Int) by omega)]
    rw [bP_pos (show plainFrom t n from fun i hi hl => by omega)]
    exact Ev.now _
  | d + 1, n, hd => by
    refine Ev.step (fun _ => rfl) ?_
    simp only [spec_l1Plain.l0, if_pos (show (n : Int) < (t.size : Int) by omega), if_pos (show (0 : Int) ≤ (n : Int) by omega), w64n (show n < t.size by omega) hl]
    rw [bP_congr (plainFrom_step t n (by omega))]
    by_cases h1 : bt t n < 32
    · simp only [if_pos h1]
      rw [bP_neg (fun h => by have := h.1.1; omega)]
      exact Ev.now _
    · simp only [if_neg h1]
      by_cases h2 : bt t n > 126
      · simp only [if_pos h2]
        rw [bP_neg (fun h => by have := h.1.2.1; omega)]
        exact Ev.now _
      · simp only [if_neg h2]
        by_cases h3 : bt t n = 34
        · simp only [if_pos h3]
          rw [bP_neg (fun h => h.1.2.2 h3)]
          exact Ev.now _
        · simp only [if_neg h3]
          exact Ev_eq (l1Plain_l t hl d (n + 1) (by omega)) (bP_congr ⟨fun h => ⟨⟨by omega, by omega, h3⟩, h⟩, fun h => h.2⟩)
theorem specMsgOk_ev (a b : Int) (t : ByteArray) (hl : t.size ≤ 9223372036854775807) : Ev (fun k => spec_MsgOk.f k a b t) (bP (msgOk a b t)) := by
  simp only [spec_MsgOk.f, l1In_eq, Option.bind_some]
  by_cases h1 : a = 1
  · simp only [if_pos h1]
    by_cases h2 : t.toList = []
    · simp only [if_pos h2]
      exact Ev_eq (Ev.now _) (bP_congr ⟨fun h => .inl ⟨h1, h2, h⟩, fun h => h.elim (fun h => h.2.2) (fun h => by have := h.1; omega)⟩)
    · simp only [if_neg h2]
      rw [bP_neg (fun h => h.elim (fun h => h2 h.2.1) (fun h => by have := h.1; omega))]
      exact Ev.now _
  · simp only [if_neg h1]
    by_cases h2 : a = 2
    · simp only [if_pos h2]
      by_cases h3 : b = 0
      · simp only [if_pos h3, spec_l1Plain.f]
        by_cases h4 : (t.size : Int) > 40
        · simp only [if_pos h4, Option.bind_some]
          rw [bP_neg (fun h => h.elim (fun h => h1 h.1) (fun h => by have := h.2.2.1; omega))]
          exact Ev.now _
        · simp only [if_neg h4]
          refine Ev.bind (l1Plain_l t hl t.size 0 (by omega)) ?_
          exact Ev_eq (Ev.now _) (bP_congr ⟨fun h => .inr ⟨h2, h3, by omega, h⟩, fun h => h.elim (fun h => absurd h.1 h1) (fun h => h.2.2.2)⟩)
      · simp only [if_neg h3]
        rw [bP_neg (fun h => h.elim (fun h => h1 h.1) (fun h => h3 h.2.1))]
        exact Ev.now _
    · simp only [if_neg h2]
      rw [bP_neg (fun h => h.elim (fun h => h1 h.1) (fun h => h2 h.1))]
      exact Ev.now _
theorem implMsgOk_l (t : ByteArray) (a b : Int) (hl : t.size ≤ 9223372036854775807) : ∀ d n : Nat, n + d = t.size → Ev (fun k => impl_MsgOk.l0 k (t.size : Int) n a b t) (bP (plainFrom t n ∧ b = 0 ∧ t.size ≤ 40))
  | 0, n, hd => by
    refine Ev.step (fun _ => rfl) ?_
    simp only [impl_MsgOk.l0, if_neg (show ¬ (n : Int) < (t.size : Int) by omega)]
    by_cases h : b = 0
    · simp only [if_pos h]
      refine Ev_eq (Ev.now _) ?_
      rw [bP_dec]
      exact bP_congr ⟨fun h' => ⟨fun i hi hl => by omega, h, by omega⟩, fun h' => by have := h'.2.2; omega⟩
    · simp only [if_neg h]
      rw [bP_neg (fun h' => h h'.2.1)]
      exact Ev.now _
  | d + 1, n, hd => by
    have hb := bt_range t n
    refine Ev.step (fun _ => rfl) ?_
    simp only [impl_MsgOk.l0, if_pos (show (n : Int) < (t.size : Int) by omega), if_pos (show (0 : Int) ≤ (n : Int) by omega), w64n (show n < t.size by omega) hl, w64 (show -9223372036854775808 ≤ bt t n by omega) (show bt t n ≤ 9223372036854775807 by omega), within_eq, Option.bind_some]
    rw [bP_congr (and_congr_left' (plainFrom_step t n (by omega)))]
    by_cases h1 : 32 ≤ bt t n ∧ bt t n ≤ 126
    · simp only [bP_pos h1, if_true]
      by_cases h2 : bt t n = 34
      · simp only [if_pos h2]
        rw [bP_neg (fun h => h.1.1.2.2 h2)]
        exact Ev.now _
      · simp only [if_neg h2]
        exact Ev_eq (implMsgOk_l t a b hl d (n + 1) (by omega)) (bP_congr ⟨fun h => ⟨⟨⟨h1.1, h1.2, h2⟩, h.1⟩, h.2⟩, fun h => ⟨h.1.2, h.2⟩⟩)
    · simp only [bP_neg h1, if_neg (show ¬ (false = true) by decide)]
      rw [bP_neg (fun h => h1 ⟨h.1.1.1, h.1.1.2.1⟩)]
      exact Ev.now _
theorem implMsgOk_ev (a b : Int) (t : ByteArray) (hl : t.size ≤ 9223372036854775807) : Ev (fun k => impl_MsgOk.f k a b t) (bP (msgOk a b t)) := by
  simp only [impl_MsgOk.f, within_eq, Option.bind_some]
  by_cases h1 : a = 1
  · simp only [if_pos h1]
    by_cases h2 : -999999999 ≤ b ∧ b ≤ 999999999
    · simp only [bP_pos h2, if_true]
      refine Ev_eq (Ev.now _) ?_
      by_cases h3 : t.toList = []
      · rw [h3, bP_pos (.inl ⟨h1, h3, h2⟩)]
        rfl
      · rw [bP_neg (fun h => h.elim (fun h => h3 h.2.1) (fun h => by have := h.1; omega))]
        simpa using h3
    · simp only [bP_neg h2, if_neg (show ¬ (false = true) by decide)]
      rw [bP_neg (fun h => h.elim (fun h => h2 h.2.2) (fun h => by have := h.1; omega))]
      exact Ev.now _
  · simp only [if_neg h1]
    by_cases h2 : a = 2
    · simp only [if_pos h2]
      exact Ev_eq (implMsgOk_l t a b hl t.size 0 (by omega)) (bP_congr ⟨fun h => .inr ⟨h2, h.2.1, h.2.2, h.1⟩, fun h => h.elim (fun h => absurd h.1 h1) (fun h => ⟨h.2.2.2, h.2.1, h.2.2.1⟩)⟩)
    · simp only [if_neg h2]
      rw [bP_neg (fun h => h.elim (fun h => h1 h.1) (fun h => h2 h.1))]
      exact Ev.now _
theorem and255 (x : Int) : 0 ≤ Go.bits .and .i64 x 255 ∧ Go.bits .and .i64 x 255 ≤ 255 := by
  have h : (BitVec.ofInt IntKind.i64.bits x &&& BitVec.ofInt IntKind.i64.bits 255).toNat ≤ 255 := by
    rw [BitVec.toNat_and]
    exact Nat.le_trans Nat.and_le_right (by decide)
  unfold Go.bits
  dsimp only
  generalize (BitVec.ofInt IntKind.i64.bits x &&& BitVec.ofInt IntKind.i64.bits 255).toNat = n at h
  have e : IntKind.wrap .i64 (n : Int) = n := by
    unfold IntKind.wrap
    simp only [IntKind.bits, IntKind.signed]
    first | omega | (split <;> omega) | (simp; omega)
  rw [e]
  omega
theorem l1Byte_ex (s : List Int) (i x : Int) (hs : s.length ≤ 4611686018427387904) (h0 : 0 ≤ i) : ∃ b i' x', spec_l1Byte.f s i x = some (b, i', x') ∧ (0 ≤ b ∧ b ≤ 255) ∧ 0 ≤ i' := by
  simp only [spec_l1Byte.f]
  by_cases h : i < (s.length : Int)
  · rw [if_pos h, if_pos h0]
    exact ⟨_, _, _, rfl, and255 _, by rw [w64 (by omega) (by omega)]; omega⟩
  · rw [if_neg h]
    exact ⟨_, _, _, rfl, and255 _, h0⟩
theorem l1Below_ex (s : List Int) (i x a : Int) (hs : s.length ≤ 4611686018427387904) (h0 : 0 ≤ i) : ∃ r i' x', spec_l1Below.f s i x a = some (r, i', x') ∧ 0 ≤ r ∧ (0 < a → r < a) ∧ (a ≤ 0 → r = 0) ∧ 0 ≤ i' := by
  simp only [spec_l1Below.f]
  by_cases h : a ≤ 0
  · rw [if_pos h]
    exact ⟨0, i, x, rfl, by omega, by omega, fun _ => rfl, h0⟩
  · rw [if_neg h]
    by_cases h2 : a ≤ 256
    · rw [if_pos h2]
      obtain ⟨b, i1, x1, e1, hb, h1⟩ := l1Byte_ex s i x hs h0
      simp only [e1, Option.bind_some, if_neg (show ¬ a = 0 by omega)]
      exact ⟨_, _, _, rfl, Int.tmod_nonneg _ hb.1, fun hp => Int.tmod_lt_of_pos _ hp, fun hn => absurd hn h, h1⟩
    · rw [if_neg h2]
      obtain ⟨b1, i1, x1, e1, hb1, h1⟩ := l1Byte_ex s i x hs h0
      obtain ⟨b2, i2, x2, e2, hb2, h2'⟩ := l1Byte_ex s i1 x1 hs h1
      obtain ⟨b3, i3, x3, e3, hb3, h3⟩ := l1Byte_ex s i2 x2 hs h2'
      obtain ⟨b4, i4, x4, e4, hb4, h4⟩ := l1Byte_ex s i3 x3 hs h3
      simp only [e1, e2, e3, e4, Option.bind_some, if_neg (show ¬ a = 0 by omega), w64 (show -9223372036854775808 ≤ b1 * 16777216 by omega) (show b1 * 16777216 ≤ 9223372036854775807 by omega), w64 (show -9223372036854775808 ≤ b2 * 65536 by omega) (show b2 * 65536 ≤ 9223372036854775807 by omega), w64 (show -9223372036854775808 ≤ b3 * 256 by omega) (show b3 * 256 ≤ 9223372036854775807 by omega), w64 (show -9223372036854775808 ≤ b1 * 16777216 + b2 * 65536 by omega) (show b1 * 16777216 + b2 * 65536 ≤ 9223372036854775807 by omega), w64 (show -9223372036854775808 ≤ b1 * 16777216 + b2 * 65536 + b3 * 256 by omega) (show b1 * 16777216 + b2 * 65536 + b3 * 256 ≤ 9223372036854775807 by omega), w64 (show -9223372036854775808 ≤ b1 * 16777216 + b2 * 65536 + b3 * 256 + b4 by omega) (show b1 * 16777216 + b2 * 65536 + b3 * 256 + b4 ≤ 9223372036854775807 by omega)]
      exact ⟨_, _, _, rfl, Int.tmod_nonneg _ (by omega), fun hp => Int.tmod_lt_of_pos _ hp, fun hn => absurd hn h, h4⟩
theorem l1Once_ex (s : List Int) (i x a : Int) (hs : s.length ≤ 4611686018427387904) (h0 : 0 ≤ i) : ∃ b i' x', spec_l1Once.f s i x a = some (b, i', x') ∧ 0 ≤ i' := by
  obtain ⟨r, i', x', e, _, _, _, h⟩ := l1Below_ex s i x a hs h0
  simp only [spec_l1Once.f, e, Option.bind_some]
  exact ⟨_, _, _, rfl, h⟩
theorem l1PickInt_ex (s : List Int) (i x : Int) (l : List Int) (hs : s.length ≤ 4611686018427387904) (h0 : 0 ≤ i) (hl : 0 < l.length) : ∃ r i' x', spec_l1PickInt.f s i x l = some (r, i', x') ∧ r ∈ l ∧ 0 ≤ i' := by
  obtain ⟨r, i', x', e, h1, h2, _, h⟩ := l1Below_ex s i x (l.length : Int) hs h0
  have h3 := h2 (by omega)
  simp only [spec_l1PickInt.f, e, Option.bind_some, if_pos h1, if_pos h3]
  refine ⟨_, _, _, rfl, ?_, h⟩
  unfold rd
  rw [List.getD_eq_getElem?_getD, List.getElem?_eq_getElem (by omega)]
  exact List.getElem_mem _
theorem l1New_l (s : List Int) (hs : s.length ≤ 4611686018427387904) : ∀ d n : Nat, n + d = 4001 → ∀ x : Int, ∃ x' : Int, Ev (fun k => spec_l1New.l0 k s x n) (s, 0, x')
  | 0, n, hn, x => by
    refine ⟨x, Ev.step (fun _ => rfl) ?_⟩
    simp only [spec_l1New.l0]
    by_cases h : (n : Int) < (s.length : Int)
    · simp only [if_pos h, if_neg (show ¬ (n : Int) < 4000 by omega)]
      exact Ev.now _
    · simp only [if_neg h]
      exact Ev.now _
  | d + 1, n, hn, x => by
    by_cases h : (n : Int) < (s.length : Int)
    · by_cases h2 : (n : Int) < 4000
      · obtain ⟨x', h3⟩ := l1New_l s hs d (n + 1) (by omega) (Go.bits .and .i64 (wrap64 ((wrap64 ((wrap64 (x * 131)) + (wrap64 (rd s n)))) + 7)) 1073741823)
        refine ⟨x', Ev.step (fun _ => rfl) ?_⟩
        simp only [spec_l1New.l0, if_pos h, if_pos h2, if_pos (show (0 : Int) ≤ (n : Int) by omega), w64n (show n < s.length by omega) (show s.length ≤ 9223372036854775807 by omega)]
        exact h3
      · refine ⟨x, Ev.step (fun _ => rfl) ?_⟩
        simp only [spec_l1New.l0, if_pos h, if_neg h2]
        exact Ev.now _
    · refine ⟨x, Ev.step (fun _ => rfl) ?_⟩
      simp only [spec_l1New.l0, if_neg h]
      exact Ev.now _
theorem l1New_ev (s : List Int) (hs : s.length ≤ 4611686018427387904) : ∃ x' : Int, Ev (fun k => spec_l1New.f k s) (s, 0, x') := by
  simp only [spec_l1New.f]
  exact l1New_l s hs 4001 0 (by omega) _
theorem l1Pick_ex (s : List Int) (i x : Int) (l : List ByteArray) (hs : s.length ≤ 4611686018427387904) (h0 : 0 ≤ i) (hl : 0 < l.length) : ∃ r i' x', spec_l1Pick.f s i x l = some (r, i', x') ∧ r ∈ l ∧ 0 ≤ i' := by
  obtain ⟨r, i', x', e, h1, h2, _, h⟩ := l1Below_ex s i x (l.length : Int) hs h0
  have h3 := h2 (by omega)
  simp only [spec_l1Pick.f, e, Option.bind_some, if_pos h1, if_pos h3]
  refine ⟨_, _, _, rfl, ?_, h⟩
  unfold rdOf
  rw [List.getD_eq_getElem?_getD, List.getElem?_eq_getElem (by omega)]
  exact List.getElem_mem _
theorem l1Msg_ex (s : List Int) (i x : Int) (hs : s.length ≤ 4611686018427387904) (h0 : 0 ≤ i) : ∃ k n t i' x', spec_l1Msg.f s i x = some (k, n, t, i', x') ∧ t.size ≤ 40 ∧ 0 ≤ i' := by
  obtain ⟨b, i1, x1, e1, h1⟩ := l1Once_ex s i x 3 hs h0
  simp only [spec_l1Msg.f, e1, Option.bind_some]
  cases b
  · obtain ⟨r, i2, x2, e2, _, _, _, h2⟩ := l1Below_ex s i1 x1 40 hs h1
    obtain ⟨b, i3, x3, e3, h3⟩ := l1Once_ex s i2 x2 12 hs h2
    simp only [if_neg (show ¬ (false = true) by decide), e2, Option.bind_some, e3]
    cases b
    · simp only [if_neg (show ¬ (false = true) by decide)]
      exact ⟨_, _, _, _, _, rfl, Nat.zero_le _, h3⟩
    · obtain ⟨r, i4, x4, e4, _, h4⟩ := l1PickInt_ex s i3 x3 [999999999, -999999999, 999999998] hs h3 (by simp)
      simp only [if_true, e4, Option.bind_some]
      exact ⟨_, _, _, _, _, rfl, Nat.zero_le _, h4⟩
  · simp only [if_true]
    generalize hq : ([(⟨#[]⟩ : ByteArray), (⟨#[97]⟩ : ByteArray), (⟨#[97, 98]⟩ : ByteArray), (⟨#[97, 98, 99]⟩ : ByteArray), (⟨#[98]⟩ : ByteArray), (⟨#[104, 101, 108, 108, 111]⟩ : ByteArray), (⟨#[120, 32, 121]⟩ : ByteArray), (⟨#[48, 49, 50, 51, 52, 53, 54, 55, 56, 57, 48, 49, 50, 51, 52, 53, 54, 55, 56, 57, 48, 49, 50, 51, 52, 53, 54, 55, 56, 57, 48, 49, 50, 51, 52, 53, 54, 55, 56, 57]⟩ : ByteArray)] : List ByteArray) = q
    have hz : ∀ y ∈ q, y.size ≤ 40 := by
      rw [← hq]
      decide
    obtain ⟨r, i2, x2, e2, hr, h2⟩ := l1Pick_ex s i1 x1 q hs h1 (by rw [← hq]; simp)
    simp only [e2, Option.bind_some]
    exact ⟨_, _, _, _, _, rfl, hz _ hr, h2⟩
theorem l1AnyMsg_ex (s : List Int) (i x : Int) (hs : s.length ≤ 4611686018427387904) (h0 : 0 ≤ i) : ∃ k n t i' x', spec_l1AnyMsg.f s i x = some (k, n, t, i', x') ∧ t.size ≤ 100 ∧ 0 ≤ i' := by
  obtain ⟨k, n, t, i1, x1, e1, ht, h1⟩ := l1Msg_ex s i x hs h0
  obtain ⟨b, i2, x2, e2, h2⟩ := l1Once_ex s i1 x1 6 hs h1
  simp only [spec_l1AnyMsg.f, e1, Option.bind_some, e2]
  cases b
  · simp only [if_neg (show ¬ (false = true) by decide)]
    exact ⟨_, _, _, _, _, rfl, by omega, h2⟩
  · obtain ⟨r, i3, x3, e3, _, _, _, h3⟩ := l1Below_ex s i2 x2 5 hs h2
    simp only [if_true, e3, Option.bind_some]
    by_cases c0 : r = 0
    · obtain ⟨r4, i4, x4, e4, _, _, _, h4⟩ := l1Below_ex s i3 x3 5 hs h3
      simp only [if_pos c0, e4, Option.bind_some]
      exact ⟨_, _, _, _, _, rfl, by omega, h4⟩
    · simp only [if_neg c0]
      by_cases c1 : r = 1
      · obtain ⟨r4, i4, x4, e4, _, h4⟩ := l1PickInt_ex s i3 x3 [1000000000, -1000000000, 1] hs h3 (by simp)
        simp only [if_pos c1, e4, Option.bind_some]
        exact ⟨_, _, _, _, _, rfl, by omega, h4⟩
      · simp only [if_neg c1]
        by_cases c2 : r = 2
        · simp only [if_pos c2, if_pos (show t.size + 1 ≤ 9223372036854775807 by omega)]
          exact ⟨_, _, _, _, _, rfl, by rw [ByteArray.size_append]; show t.size + 1 ≤ 100; omega, h3⟩
        · simp only [if_neg c2]
          by_cases c3 : r = 3
          · simp only [if_pos c3, if_pos (show t.size + 1 ≤ 9223372036854775807 by omega)]
            exact ⟨_, _, _, _, _, rfl, by rw [ByteArray.size_append]; show t.size + 1 ≤ 100; omega, h3⟩
          · simp only [if_neg c3]
            exact ⟨_, _, _, _, _, rfl, by decide, h3⟩
def sB (l : List UInt8) : ByteArray := ⟨l.toArray⟩
theorem sB_append (a b : List UInt8) : sB a ++ sB b = sB (a ++ b) := by
  apply ByteArray.ext
  simp [sB]
theorem sB_size (l : List UInt8) : (sB l).size = l.length := by simp [sB, ByteArray.size]
theorem sB_list (l : List UInt8) : (sB l).toList = l := by
  have e : ∀ x : ByteArray, x.toList = x.data.toList := fun x => by first | exact Lib.toList_data x | exact ByteArray.toList_eq x | exact (Lib.toList_data x).symm
  rw [e]
  rfl
theorem sB_of (s : ByteArray) : s = sB s.toList := by
  have e : ∀ x : ByteArray, x.toList = x.data.toList := fun x => by first | exact Lib.toList_data x | exact ByteArray.toList_eq x | exact (Lib.toList_data x).symm
  apply ByteArray.ext
  simp [sB, e]
theorem enc_dig (d : Nat) (h : d < 10) : Go.Utf8.encode ((48 : Int) + (d : Int)) = sB [UInt8.ofNat (48 + d)] := by
  have hv : Go.Utf8.valid ((48 : Int) + (d : Int)) = true := by unfold Go.Utf8.valid; simp; omega
  have ht : ((48 : Int) + (d : Int)).toNat = 48 + d := by omega
  unfold Go.Utf8.encode
  simp only [hv, if_true, ht]
  rw [if_pos (show 48 + d < 128 by omega)]
  rfl
def dg (n : Nat) : List UInt8 := if n < 10 then [UInt8.ofNat (48 + n)] else dg (n / 10) ++ [UInt8.ofNat (48 + n % 10)]
termination_by n
decreasing_by omega
theorem dg_lt {n : Nat} (h : n < 10) : dg n = [UInt8.ofNat (48 + n)] := by rw [dg, if_pos h]
theorem dg_ge {n : Nat} (h : ¬ n < 10) : dg n = dg (n / 10) ++ [UInt8.ofNat (48 + n % 10)] := by rw [dg, if_neg h]
theorem dg_len : ∀ k n : Nat, n < 10 ^ (k + 1) → (dg n).length ≤ k + 1
  | 0, n, h => by rw [dg_lt (by omega)]; simp
  | k + 1, n, h => by
    by_cases h10 : n < 10
    · rw [dg_lt h10]; simp
    · rw [dg_ge h10, List.length_append]
      have := dg_len k (n / 10) (by rw [Nat.pow_succ] at h; omega)
      simp; omega
theorem dg_pos (n : Nat) : 1 ≤ (dg n).length := by
  by_cases h10 : n < 10
  · rw [dg_lt h10]; simp
  · rw [dg_ge h10, List.length_append]; simp
def vl (l : List UInt8) : Nat := l.foldl (fun n c => 10 * n + (c.toNat - 48)) 0
def isD (c : UInt8) : Prop := 48 ≤ c.toNat ∧ c.toNat ≤ 57
theorem vl_snoc (l : List UInt8) (c : UInt8) : vl (l ++ [c]) = 10 * vl l + (c.toNat - 48) := by simp [vl, List.foldl_append]
theorem dig_nat {d : Nat} (h : d < 10) : (UInt8.ofNat (48 + d)).toNat = 48 + d := by
  rw [UInt8.toNat_ofNat']; omega
theorem dig_of {c : UInt8} (h : isD c) : UInt8.ofNat (48 + (c.toNat - 48)) = c := by
  rw [show 48 + (c.toNat - 48) = c.toNat by unfold isD at h; omega]
  exact UInt8.ofNat_toNat
theorem dg_digits (n : Nat) : ∀ c ∈ dg n, isD c := by
  induction n using Nat.strongRecOn with
  | _ n ih =>
    intro c hc
    by_cases h10 : n < 10
    · rw [dg_lt h10, List.mem_singleton] at hc
      subst hc
      unfold isD
      rw [dig_nat h10]; omega
    · rw [dg_ge h10, List.mem_append, List.mem_singleton] at hc
      rcases hc with hc | hc
      · exact ih (n / 10) (by omega) c hc
      · subst hc
        unfold isD
        rw [dig_nat (by omega)]; omega
theorem vl_dg (n : Nat) : vl (dg n) = n := by
  induction n using Nat.strongRecOn with
  | _ n ih =>
    by_cases h10 : n < 10
    · rw [dg_lt h10]
      show 10 * 0 + ((UInt8.ofNat (48 + n)).toNat - 48) = n
      rw [dig_nat h10]; omega
    · rw [dg_ge h10, vl_snoc, ih (n / 10) (by omega), dig_nat (by omega)]; omega
def noZ (l : List UInt8) : Prop := l.head? = some 48 → l.length = 1
theorem dg_noZ (n : Nat) : noZ (dg n) := by
  have key : ∀ n : Nat, 0 < n → (dg n).head? ≠ some 48 := by
    intro n
    induction n using Nat.strongRecOn with
    | _ n ih =>
      intro h0
      by_cases h10 : n < 10
      · rw [dg_lt h10]
        intro e
        have e1 : UInt8.ofNat (48 + n) = 48 := Option.some.inj e
        have e2 := congrArg UInt8.toNat e1
        rw [dig_nat h10] at e2
        have e3 : (48 : UInt8).toNat = 48 := rfl
        omega
      · rw [dg_ge h10]
        have hl := dg_pos (n / 10)
        intro e
        apply ih (n / 10) (by omega) (by omega)
        cases hd : dg (n / 10) with
        | nil => rw [hd] at hl; simp at hl
        | cons x xs => rw [hd] at e; exact e
  intro e
  by_cases h0 : n = 0
  · subst h0; rw [dg_lt (by omega)]; rfl
  · exact absurd e (key n (by omega))
theorem dg_vl : ∀ (k : Nat) (l : List UInt8), l.length = k + 1 → (∀ c ∈ l, isD c) → noZ l → dg (vl l) = l ∧ (k ≠ 0 → 1 ≤ vl l)
  | 0, l, hl, hd, hz => by
    match l, hl with
    | [c], _ =>
      have hc := hd c (by simp)
      have hn : vl [c] = c.toNat - 48 := by show 10 * 0 + (c.toNat - 48) = _; omega
      rw [hn]
      refine ⟨?_, fun h => absurd rfl h⟩
      rw [dg_lt (by unfold isD at hc; omega), dig_of hc]
  | k + 1, l, hl, hd, hz => by
    have hne : l ≠ [] := by intro e; rw [e] at hl; simp at hl
    have e : l = l.dropLast ++ [l.getLast hne] := (List.dropLast_concat_getLast hne).symm
    have hdl : l.dropLast.length = k + 1 := by rw [List.length_dropLast, hl]; rfl
    obtain ⟨m, c, e2, hm⟩ : ∃ m c, l = m ++ [c] ∧ m.length = k + 1 := ⟨_, _, e, hdl⟩
    subst e2
    have hmz : m.head? ≠ some 48 := by
      intro h48
      have := hz (by cases m with
        | nil => simp at hm
        | cons x xs => exact h48)
      rw [List.length_append, hm] at this
      simp at this
    have hdm : ∀ c ∈ m, isD c := fun c hc => hd c (List.mem_append_left _ hc)
    have ih := dg_vl k m hm hdm (fun h => absurd h hmz)
    have h1 : 1 ≤ vl m := by
      by_cases hk : k = 0
      · subst hk
        match m, hm with
        | [x], _ =>
          have hx := hdm x (by simp)
          have hn : vl [x] = x.toNat - 48 := by show 10 * 0 + (x.toNat - 48) = _; omega
          rw [hn]
          have : x.toNat ≠ 48 := fun e => hmz (by show some x = some 48; rw [show x = 48 from UInt8.toNat_inj.1 e])
          unfold isD at hx
          omega
      · exact ih.2 hk
    have hc := hd c (by simp)
    have hv := vl_snoc m c
    refine ⟨?_, fun _ => by omega⟩
    rw [dg_ge (by omega), show vl (m ++ [c]) / 10 = vl m by unfold isD at hc; omega, ih.1, show vl (m ++ [c]) % 10 = c.toNat - 48 by unfold isD at hc; omega, dig_of hc]
theorem vl_lt : ∀ (k : Nat) (l : List UInt8), l.length = k → (∀ c ∈ l, isD c) → vl l < 10 ^ k
  | 0, l, hl, _ => by rw [List.length_eq_zero_iff.1 hl]; decide
  | k + 1, l, hl, hd => by
    have hne : l ≠ [] := by intro e; rw [e] at hl; simp at hl
    obtain ⟨m, c, e2, hm⟩ : ∃ m c, l = m ++ [c] ∧ m.length = k := ⟨_, _, (List.dropLast_concat_getLast hne).symm, by rw [List.length_dropLast, hl]; rfl⟩
    subst e2
    have ih := vl_lt k m hm (fun c hc => hd c (List.mem_append_left _ hc))
    have hc := hd c (by simp)
    rw [vl_snoc, Nat.pow_succ]
    unfold isD at hc
    omega
def dz (n : Int) : List UInt8 := if n < 0 then 45 :: dg n.natAbs else dg n.natAbs
def trm (l : List UInt8) : List UInt8 := if l.head? = some 45 then l.tail else l
theorem isD_45 : ¬ isD 45 := by unfold isD; decide
theorem dg_head (n : Nat) : (dg n).head? ≠ some 45 := by
  intro e
  have hl := dg_pos n
  cases hd : dg n with
  | nil => rw [hd] at hl; simp at hl
  | cons x xs =>
    rw [hd] at e
    have : x = 45 := Option.some.inj e
    exact isD_45 (this ▸ dg_digits n x (by rw [hd]; exact List.mem_cons_self))
theorem trm_dz (n : Int) : trm (dz n) = dg n.natAbs ∧ ((dz n).head? = some 45 ↔ n < 0) := by
  unfold trm dz
  by_cases h : n < 0
  · simp only [List.head?_cons, if_true, List.tail_cons, h, and_self]
  · simp only [h, iff_false, if_false]
    rw [if_neg (dg_head _)]
    exact ⟨rfl, dg_head _⟩
theorem dz_inj {a b : Int} (h : dz a = dz b) : a = b := by
  have h1 := trm_dz a
  have h2 := trm_dz b
  rw [h] at h1
  have e : a.natAbs = b.natAbs := by rw [← vl_dg a.natAbs, ← vl_dg b.natAbs, ← h1.1, ← h2.1]
  have e2 : a < 0 ↔ b < 0 := h1.2.symm.trans h2.2
  omega
theorem dg_nine {n : Nat} (h : n ≤ 999999999) : (dg n).length ≤ 9 := dg_len 8 n (by omega)
theorem vl_nine {l : List UInt8} (hl : l.length ≤ 9) (hd : ∀ c ∈ l, isD c) : vl l ≤ 999999999 := by
  have h := vl_lt _ l rfl hd
  have h2 : 10 ^ l.length ≤ 10 ^ 9 := Nat.pow_le_pow_right (by decide) hl
  have h3 : 10 ^ 9 = 1000000000 := by decide
  omega
def sgn (l : List UInt8) (n : Nat) : Int := if l.head? = some 45 then -(n : Int) else (n : Int)
theorem dz_iff (l : List UInt8) (h1 : 1 ≤ (trm l).length) (hd : ∀ c ∈ trm l, isD c) : dz (sgn l (vl (trm l))) = l ↔ ¬ ((trm l).head? = some 48 ∧ (1 < (trm l).length ∨ l.head? = some 45)) := by
  obtain ⟨k, hk⟩ : ∃ k, (trm l).length = k + 1 := ⟨(trm l).length - 1, by omega⟩
  by_cases hb : l.head? = some 45
  · have hl : l = 45 :: trm l := by
      unfold trm
      rw [if_pos hb]
      cases l with
      | nil => cases hb
      | cons x xs => rw [show x = 45 from Option.some.inj hb]; rfl
    have hs : sgn l (vl (trm l)) = -(vl (trm l) : Int) := by unfold sgn; rw [if_pos hb]
    rw [hs]
    constructor
    · intro e hn
      have hz := hn.1
      by_cases h0 : vl (trm l) = 0
      · rw [h0] at e
        have e2 : dz (-((0 : Nat) : Int)) = dg 0 := rfl
        rw [e2] at e
        exact dg_head 0 (e ▸ hb)
      · have e1 : dg (vl (trm l)) = trm l := by
          have h2 := (trm_dz (-(vl (trm l) : Int))).1
          rw [e, Int.natAbs_neg, Int.natAbs_natCast] at h2
          exact h2.symm
        have hz1 := dg_noZ (vl (trm l)) (by rw [e1]; exact hz)
        rw [e1] at hz1
        have h3 : vl (trm l) = 0 := by
          match ht : trm l, hz1 with
          | [x], _ =>
            rw [ht] at hz
            have : x = 48 := Option.some.inj hz
            subst this
            rfl
        exact h0 h3
    · intro hn
      have hz : (trm l).head? ≠ some 48 := fun e => hn ⟨e, .inr hb⟩
      have h2 := dg_vl k (trm l) hk hd (fun e => absurd e hz)
      have hp : 0 < vl (trm l) := by
        by_cases hk0 : k = 0
        · subst hk0
          match ht : trm l, hk with
          | [x], _ =>
            have hx := hd x (by rw [ht]; exact List.mem_cons_self)
            have hn : vl [x] = x.toNat - 48 := by show 10 * 0 + (x.toNat - 48) = _; omega
            rw [hn]
            have : x.toNat ≠ 48 := fun e => hz (by rw [ht]; show some x = some 48; rw [show x = 48 from UInt8.toNat_inj.1 e])
            unfold isD at hx
            omega
        · have := h2.2 hk0; omega
      unfold dz
      rw [if_pos (by omega), Int.natAbs_neg, Int.natAbs_natCast, h2.1]
      exact hl.symm
  · have hl : l = trm l := by unfold trm; rw [if_neg hb]
    have hs : sgn l (vl (trm l)) = (vl (trm l) : Int) := by unfold sgn; rw [if_neg hb]
    rw [hs]
    have e0 : dz (vl (trm l) : Int) = dg (vl (trm l)) := by unfold dz; rw [if_neg (by omega), Int.natAbs_natCast]
    rw [e0]
    constructor
    · intro e hn
      have e1 : dg (vl (trm l)) = trm l := e.trans hl
      have hz1 := dg_noZ (vl (trm l)) (by rw [e1]; exact hn.1)
      rw [e1] at hz1
      rcases hn.2 with h | h
      · omega
      · exact hb h
    · intro hn
      have hz : noZ (trm l) := by
        intro e
        by_cases h : 1 < (trm l).length
        · exact absurd ⟨e, .inl h⟩ hn
        · omega
      exact (dg_vl k (trm l) hk hd hz).1.trans hl.symm
theorem dz_facts {l : List UInt8} {n : Int} (h : l = dz n) (h0 : -999999999 ≤ n) (h1 : n ≤ 999999999) : 1 ≤ (trm l).length ∧ (trm l).length ≤ 9 ∧ (∀ c ∈ trm l, isD c) ∧ sgn l (vl (trm l)) = n := by
  have ht := trm_dz n
  rw [← h] at ht
  refine ⟨by rw [ht.1]; exact dg_pos _, by rw [ht.1]; exact dg_nine (by omega), by rw [ht.1]; exact dg_digits _, ?_⟩
  rw [ht.1, vl_dg]
  unfold sgn
  by_cases hn : n < 0
  · rw [if_pos (ht.2.2 hn)]; omega
  · rw [if_neg (fun e => hn (ht.2.1 e))]; omega
theorem sgn_bound (l : List UInt8) {m : Nat} (h : m ≤ 999999999) : -999999999 ≤ sgn l m ∧ sgn l m ≤ 999999999 := by
  unfold sgn
  split <;> omega
theorem sB1 (c : UInt8) : (⟨#[c]⟩ : ByteArray) = sB [c] := rfl
theorem w32 {x : Int} (h0 : -2147483648 ≤ x) (h1 : x ≤ 2147483647) : wrap32 x = x := by unfold wrap32; omega
theorem decimal_nn (n : Nat) (hn : n ≤ 999999999) : Ev (fun k => impl_decimal.f k (n : Int)) (sB (dg n)) := by
  induction n using Nat.strongRecOn with
  | _ n ih =>
    refine Ev.step (fun _ => rfl) ?_
    simp only [impl_decimal.f, if_neg (show ¬ (n : Int) < 0 by omega)]
    refine Ev.step (fun _ => rfl) ?_
    simp only [impl_decimal.j0, if_neg (show ¬ (false = true) by decide), if_neg (show ¬ (n : Int) < 0 by omega)]
    by_cases h : n < 10
    · simp only [if_pos (show (n : Int) < 10 by omega), w64 (show -9223372036854775808 ≤ (48 : Int) + n by omega) (show (48 : Int) + n ≤ 9223372036854775807 by omega), w32 (show -2147483648 ≤ (48 : Int) + n by omega) (show (48 : Int) + n ≤ 2147483647 by omega), enc_dig n h]
      rw [dg_lt h]
      exact Ev.now _
    · have e1 : wrap64 (Int.tdiv (n : Int) 10) = ((n / 10 : Nat) : Int) := by
        rw [Int.tdiv_eq_ediv_of_nonneg (by omega), w64 (by omega) (by omega)]; omega
      have e2 : Int.tmod (n : Int) 10 = ((n % 10 : Nat) : Int) := by rw [Int.tmod_eq_emod_of_nonneg (by omega)]; omega
      simp only [if_neg (show ¬ (n : Int) < 10 by omega), e1, e2, w64 (show -9223372036854775808 ≤ (48 : Int) + ((n % 10 : Nat) : Int) by omega) (show (48 : Int) + ((n % 10 : Nat) : Int) ≤ 9223372036854775807 by omega), w32 (show -2147483648 ≤ (48 : Int) + ((n % 10 : Nat) : Int) by omega) (show (48 : Int) + ((n % 10 : Nat) : Int) ≤ 2147483647 by omega), enc_dig (n % 10) (by omega)]
      refine Ev.bind (ih (n / 10) (by omega) (by omega)) ?_
      have hl := dg_nine (n := n / 10) (by omega)
      simp only [sB_size, sB_append]
      rw [dg_ge h]
      exact Ev_ifpos (by simp; omega) (Ev.now _)
theorem decimal_neg (m : Nat) (h0 : 0 < m) (hm : m ≤ 999999999) : Ev (fun k => impl_decimal.f k (-(m : Int))) (sB (45 :: dg m)) := by
  induction m using Nat.strongRecOn with
  | _ m ih =>
    refine Ev.step (fun _ => rfl) ?_
    simp only [impl_decimal.f, if_pos (show (-(m : Int)) < 0 by omega)]
    refine Ev.step (fun _ => rfl) ?_
    by_cases h : m < 10
    · simp only [impl_decimal.j0, decide_eq_true (show (-(m : Int)) > -10 by omega), if_true, Int.neg_neg, w64 (show -9223372036854775808 ≤ (m : Int) by omega) (show (m : Int) ≤ 9223372036854775807 by omega)]
      refine Ev.bind (decimal_nn m hm) ?_
      have hl := dg_nine hm
      simp only [sB1, sB_size, sB_append]
      exact Ev_ifpos (by omega) (Ev.now _)
    · have e1 : wrap64 (Int.tdiv (-(m : Int)) 10) = -((m / 10 : Nat) : Int) := by
        rw [Int.neg_tdiv, Int.tdiv_eq_ediv_of_nonneg (by omega), w64 (by omega) (by omega)]; omega
      have e2 : wrap64 (-(Int.tmod (-(m : Int)) 10)) = ((m % 10 : Nat) : Int) := by
        rw [Int.neg_tmod, Int.neg_neg, Int.tmod_eq_emod_of_nonneg (by omega), w64 (by omega) (by omega)]; omega
      simp only [impl_decimal.j0, decide_eq_false (show ¬ (-(m : Int)) > -10 by omega), if_neg (show ¬ (false = true) by decide), if_pos (show (-(m : Int)) < 0 by omega), e1, e2]
      refine Ev.bind (ih (m / 10) (by omega) (by omega) (by omega)) ?_
      refine Ev.bind (decimal_nn (m % 10) (by omega)) ?_
      have hl := dg_nine (n := m / 10) (by omega)
      simp only [sB_size, sB_append, List.length_cons]
      rw [dg_ge h, dg_lt (n := m % 10) (by omega)]
      exact Ev_ifpos (by simp; omega) (Ev.now _)
theorem decimal_ev (n : Int) (h0 : -999999999 ≤ n) (h1 : n ≤ 999999999) : Ev (fun k => impl_decimal.f k n) (sB (dz n)) := by
  unfold dz
  by_cases h : n < 0
  · have e := decimal_neg n.natAbs (by omega) (by omega)
    rw [show -((n.natAbs : Nat) : Int) = n by omega] at e
    rw [if_pos h]
    exact e
  · have e := decimal_nn n.natAbs (by omega)
    rw [show ((n.natAbs : Nat) : Int) = n by omega] at e
    rw [if_neg h]
    exact e
theorem dz_len {n : Int} (h0 : -999999999 ≤ n) (h1 : n ≤ 999999999) : (dz n).length ≤ 10 := by
  have := dg_nine (n := n.natAbs) (by omega)
  unfold dz
  split
  · rw [List.length_cons]; omega
  · omega
def dgo (m : Nat) : List UInt8 := if m = 0 then [] else dg m
theorem dgo_step {m : Nat} (h : ¬ m = 0) (out : List UInt8) : dgo (m / 10) ++ (UInt8.ofNat (48 + m % 10) :: out) = dgo m ++ out := by
  unfold dgo
  rw [if_neg h]
  by_cases h10 : m < 10
  · rw [if_pos (by omega), dg_lt h10, show m % 10 = m by omega]; rfl
  · rw [if_neg (by omega), dg_ge h10, List.append_assoc]; rfl
theorem digits_l (b : Bool) : ∀ (m : Nat) (x : Int) (out : List UInt8), x.natAbs = m → m ≤ 999999999 → out.length + m ≤ 2000000000 → Ev (fun k => spec_l1Digits.l0 k x (sB out) b) (if b = true then sB (45 :: (dgo m ++ out)) else sB (dgo m ++ out)) := by
  intro m
  induction m using Nat.strongRecOn with
  | _ m ih =>
    intro x out hx hm ho
    refine Ev.step (fun _ => rfl) ?_
    simp only [spec_l1Digits.l0]
    by_cases h : x = 0
    · have h0 : m = 0 := by omega
      subst h0
      simp only [if_pos h]
      have e0 : dgo 0 = [] := rfl
      rw [e0, List.nil_append]
      cases b
      · simp only [if_neg (show ¬ (false = true) by decide)]
        exact Ev.now _
      · simp only [if_true, sB1, sB_size, sB_append]
        exact Ev_ifpos (by omega) (Ev.now _)
    · simp only [if_neg h, Option.bind_some]
      have key : Ev (fun k => spec_l1Digits.l0 k (wrap64 (Int.tdiv x 10)) (sB (UInt8.ofNat (48 + m % 10) :: out)) b) (if b = true then sB (45 :: (dgo m ++ out)) else sB (dgo m ++ out)) := by
        have e1 : (wrap64 (Int.tdiv x 10)).natAbs = m / 10 := by
          have h1 : Int.tdiv x 10 = if x < 0 then -((m / 10 : Nat) : Int) else ((m / 10 : Nat) : Int) := by
            by_cases hn : x < 0
            · rw [if_pos hn, show x = -(m : Int) by omega, Int.neg_tdiv, Int.tdiv_eq_ediv_of_nonneg (by omega)]; omega
            · rw [if_neg hn, show x = (m : Int) by omega, Int.tdiv_eq_ediv_of_nonneg (by omega)]; omega
          rw [h1]
          split <;> (rw [w64 (by omega) (by omega)]; omega)
        have h2 := ih (m / 10) (by omega) (wrap64 (Int.tdiv x 10)) (UInt8.ofNat (48 + m % 10) :: out) e1 (by omega) (by simp only [List.length_cons]; omega)
        rw [dgo_step (by omega)] at h2
        exact h2
      have es : ∀ d : Int, d = ((m % 10 : Nat) : Int) → strOfNums [(wrap64 (48 + d)) % 256] = sB [UInt8.ofNat (48 + m % 10)] := by
        intro d hd
        rw [hd, w64 (by omega) (by omega)]
        unfold strOfNums
        rw [List.map_cons, List.map_nil, show ((48 + ((m % 10 : Nat) : Int)) % 256).toNat = 48 + m % 10 by omega]
        rfl
      have fin : ∀ d : Int, d = ((m % 10 : Nat) : Int) → Ev (fun k => if (strOfNums [(wrap64 (48 + d)) % 256]).size + (sB out).size ≤ 9223372036854775807 then spec_l1Digits.l0 k (wrap64 (Int.tdiv x 10)) (strOfNums [(wrap64 (48 + d)) % 256] ++ sB out) b else none) (if b = true then sB (45 :: (dgo m ++ out)) else sB (dgo m ++ out)) := by
        intro d hd
        rw [es d hd]
        simp only [sB_size, sB_append]
        exact Ev_ifpos (by simp; omega) key
      by_cases hn : Int.tmod x 10 < 0
      · simp only [if_pos hn]
        refine fin _ ?_
        have hx0 : x < 0 := by
          by_cases hx0 : x < 0
          · exact hx0
          · have := Int.tmod_nonneg 10 (show 0 ≤ x by omega)
            omega
        rw [show x = -(m : Int) by omega, Int.neg_tmod, Int.neg_neg, Int.tmod_eq_emod_of_nonneg (by omega), w64 (by omega) (by omega)]
        omega
      · simp only [if_neg hn]
        refine fin _ ?_
        by_cases hx0 : x < 0
        · rw [show x = -(m : Int) by omega, Int.neg_tmod, Int.tmod_eq_emod_of_nonneg (by omega)] at hn ⊢
          omega
        · rw [show x = (m : Int) by omega, Int.tmod_eq_emod_of_nonneg (by omega)]
          omega
theorem digits_ev (n : Int) (h0 : -999999999 ≤ n) (h1 : n ≤ 999999999) : Ev (fun k => spec_l1Digits.f k n) (sB (dz n)) := by
  simp only [spec_l1Digits.f]
  by_cases h : n = 0
  · subst h
    simp only [if_true]
    have e : dz 0 = [48] := by unfold dz; rw [if_neg (by omega)]; show dg 0 = _; rw [dg_lt (by omega)]; rfl
    rw [e]
    exact Ev.now _
  · simp only [if_neg h]
    have e := digits_l (decide (n < 0)) n.natAbs n [] rfl (by omega) (by simp; omega)
    refine Ev_eq e ?_
    have ed : dgo n.natAbs = dg n.natAbs := if_neg (by omega)
    rw [ed, List.append_nil]
    by_cases hn : n < 0
    · rw [if_pos (decide_eq_true hn), dz, if_pos hn]
    · rw [if_neg (by rw [decide_eq_false hn]; decide), dz, if_neg hn]
noncomputable def msgT (a b : Int) (t : ByteArray) : ByteArray := if bP (msgOk a b t) = true then (if a = 1 then sB (dz b) else ((⟨#[34]⟩ : ByteArray) ++ t) ++ (⟨#[34]⟩ : ByteArray)) else (⟨#[63]⟩ : ByteArray)
theorem msgOk_num {b : Int} {a : Int} {t : ByteArray} (h : msgOk a b t) : -999999999 ≤ b ∧ b ≤ 999999999 := h.elim (fun h => h.2.2) (fun h => by have := h.2.1; omega)
theorem implMsgText_ev (a b : Int) (t : ByteArray) (ht : t.size ≤ 1048577) : Ev (fun k => impl_MsgText.f k a b t) (msgT a b t) := by
  simp only [impl_MsgText.f]
  refine Ev.bind (implMsgOk_ev a b t (by omega)) ?_
  unfold msgT
  by_cases h : msgOk a b t
  · simp only [bP_pos h, if_true]
    by_cases h1 : a = 1
    · simp only [if_pos h1]
      exact Ev.bind (decimal_ev b (msgOk_num h).1 (msgOk_num h).2) (Ev.now _)
    · simp only [if_neg h1]
      exact Ev_ifpos (by omega) (Ev_ifpos (by omega) (Ev.now _))
  · simp only [bP_neg h, if_neg (show ¬ (false = true) by decide)]
    exact Ev.now _
theorem specMsgText_ev (a b : Int) (t : ByteArray) (ht : t.size ≤ 1048577) : Ev (fun k => spec_MsgText.f k a b t) (msgT a b t) := by
  simp only [spec_MsgText.f]
  refine Ev.bind (specMsgOk_ev a b t (by omega)) ?_
  unfold msgT
  by_cases h : msgOk a b t
  · simp only [bP_pos h, if_true]
    by_cases h1 : a = 1
    · simp only [if_pos h1]
      exact Ev.bind (digits_ev b (msgOk_num h).1 (msgOk_num h).2) (Ev.now _)
    · simp only [if_neg h1]
      exact Ev_ifpos (by omega) (Ev_ifpos (by omega) (Ev.now _))
  · simp only [bP_neg h, if_neg (show ¬ (false = true) by decide)]
    exact Ev.now _
theorem sB_take (l : List UInt8) (a b : Nat) : (sB l).extract a b = sB ((l.drop a).take (b - a)) := by
  apply ByteArray.ext
  apply Array.toList_inj.1
  simp [sB, List.extract_eq_take_drop]
theorem bt_sB (l : List UInt8) (n : Nat) (h : n < l.length) : bt (sB l) (n : Int) = ((l.getD n 0).toNat : Int) := by
  unfold bt
  have h1 : (n : Int).toNat < (sB l).size := by rw [sB_size]; simpa using h
  rw [dif_pos h1]
  have h2 : (sB l)[(n : Int).toNat]'h1 = l.getD n 0 := by
    rw [List.getD_eq_getElem?_getD, List.getElem?_eq_getElem h]
    rfl
  rw [h2]
theorem trim_eq (l : List UInt8) (hl : l.length ≤ 9223372036854775807) : strings_TrimPrefix.f (sB l) (⟨#[45]⟩ : ByteArray) = some (sB (trm l)) := by
  have e1 : ((⟨#[45]⟩ : ByteArray).size : Int) = 1 := rfl
  have hp : stringslite_HasPrefix.f (sB l) (⟨#[45]⟩ : ByteArray) = some (bP (l.head? = some 45)) := by
    simp only [stringslite_HasPrefix.f, e1, sB_size]
    cases l with
    | nil =>
      rw [if_neg (by simp), bP_neg (by simp)]
    | cons x xs =>
      rw [if_pos (by simp only [List.length_cons]; omega), if_pos (by omega), if_pos (by simp only [List.length_cons]; omega), sB_take, sB_list]
      have e2 : (⟨#[45]⟩ : ByteArray).toList = [45] := by
        have := sB_list [45]
        exact this
      rw [e2]
      congr 1
      have e3 : List.take ((1 : Int).toNat - 0) (List.drop 0 (x :: xs)) = [x] := rfl
      rw [e3]
      by_cases hx : x = 45
      · subst hx; rw [List.head?_cons, bP_pos rfl]; rfl
      · rw [List.head?_cons, bP_neg (fun e => hx (Option.some.inj e))]
        simpa using hx
  simp only [strings_TrimPrefix.f, stringslite_TrimPrefix.f, hp, Option.bind_some, e1, sB_size]
  unfold trm
  by_cases h : l.head? = some 45
  · rw [bP_pos h, if_pos rfl, if_pos (show (0 : Int) ≤ 1 by decide), if_pos h]
    cases l with
    | nil => cases h
    | cons x xs =>
      rw [if_pos (by simp only [List.length_cons]; omega), Option.bind_some, sB_take]
      congr 2
      show List.take ((x :: xs).length - 1) xs = xs
      rw [List.take_of_length_le (by simp)]
  · rw [bP_neg h, if_neg (by decide), if_neg h, Option.bind_some]
def numOk (l : List UInt8) : Prop := 1 ≤ (trm l).length ∧ (trm l).length ≤ 9 ∧ (∀ c ∈ trm l, isD c) ∧ dz (sgn l (vl (trm l))) = l
theorem trm_short (l : List UInt8) : (trm l).length ≤ l.length ∧ ((trm l).length < l.length ↔ l.head? = some 45) := by
  unfold trm
  by_cases h : l.head? = some 45
  · rw [if_pos h]
    cases l with
    | nil => cases h
    | cons x xs => exact ⟨by simp, ⟨fun _ => h, fun _ => by simp⟩⟩
  · rw [if_neg h]
    exact ⟨Nat.le_refl _, ⟨fun h' => absurd h' (Nat.lt_irrefl _), fun h' => absurd h' h⟩⟩
theorem getD_mem {l : List UInt8} {n : Nat} (h : n < l.length) : l.getD n 0 ∈ l := by
  rw [List.getD_eq_getElem?_getD, List.getElem?_eq_getElem h]; exact List.getElem_mem _
theorem take_snoc (l : List UInt8) (n : Nat) (h : n < l.length) : l.take (n + 1) = l.take n ++ [l.getD n 0] := take_cons 0 l n h
theorem vl_step (l : List UInt8) (n : Nat) (h : n < l.length) (hl : l.length ≤ 9) (hd : ∀ c ∈ l.take n, isD c) (hc : isD (l.getD n 0)) : vl (l.take (n + 1)) = 10 * vl (l.take n) + ((l.getD n 0).toNat - 48) ∧ vl (l.take n) ≤ 999999999 ∧ vl (l.take (n + 1)) ≤ 999999999 ∧ (∀ c ∈ l.take (n + 1), isD c) := by
  have h2 : ∀ c ∈ l.take (n + 1), isD c := by
    intro c hm
    rw [take_snoc l n h, List.mem_append, List.mem_singleton] at hm
    exact hm.elim (hd c) (fun e => e ▸ hc)
  refine ⟨by rw [take_snoc l n h, vl_snoc], vl_nine (by rw [List.length_take]; omega) hd, vl_nine (by rw [List.length_take]; omega) h2, h2⟩
theorem number_l (l : List UInt8) (hl : (trm l).length ≤ 9) (h1 : 1 ≤ (trm l).length) (hll : l.length ≤ 9223372036854775807) : ∀ d n : Nat, n + d = (trm l).length → (∀ c ∈ (trm l).take n, isD c) → ∃ v : Int, Ev (fun k => impl_number.l0 k (sB l) (sB (trm l)) (vl ((trm l).take n) : Int) ((trm l).length : Int) (n : Int)) (v, bP (numOk l)) ∧ (numOk l → v = sgn l (vl (trm l)))
  | 0, n, hd, ha => by
    have ha' : ∀ c ∈ trm l, isD c := by rw [List.take_of_length_le (by omega)] at ha; exact ha
    have hv := vl_nine hl ha'
    have hs := sgn_bound l hv
    have hok : bP (numOk l) = (dz (sgn l (vl (trm l))) == l) := by
      by_cases e : dz (sgn l (vl (trm l))) = l
      · rw [bP_pos ⟨h1, hl, ha', e⟩, e]; simp
      · rw [bP_neg (fun h => e h.2.2.2)]; simpa using e
    refine ⟨sgn l (vl (trm l)), Ev.step (fun _ => rfl) ?_, fun _ => rfl⟩
    simp only [impl_number.l0, if_neg (show ¬ (n : Int) < ((trm l).length : Int) by omega), sB_size]
    rw [List.take_of_length_le (show (trm l).length ≤ n by omega)]
    rw [hok]
    by_cases hb : l.head? = some 45
    · have hsg : sgn l (vl (trm l)) = -(vl (trm l) : Int) := by unfold sgn; rw [if_pos hb]
      rw [hsg] at hs ⊢
      simp only [if_pos (show ((trm l).length : Int) < (l.length : Int) by have := (trm_short l).2.2 hb; omega), w64 (show -9223372036854775808 ≤ -(vl (trm l) : Int) by omega) (show -(vl (trm l) : Int) ≤ 9223372036854775807 by omega)]
      refine Ev.bind (decimal_ev _ hs.1 hs.2) ?_
      simp only [sB_list]
      exact Ev.now _
    · have hsg : sgn l (vl (trm l)) = (vl (trm l) : Int) := by unfold sgn; rw [if_neg hb]
      rw [hsg] at hs ⊢
      simp only [if_neg (show ¬ ((trm l).length : Int) < (l.length : Int) from fun h => hb ((trm_short l).2.1 (by omega)))]
      refine Ev.bind (decimal_ev _ hs.1 hs.2) ?_
      simp only [sB_list]
      exact Ev.now _
  | d + 1, n, hd, ha => by
    have hlt : n < (trm l).length := by omega
    have hno : ¬ isD ((trm l).getD n 0) → ¬ numOk l := fun h h' => h (h'.2.2.1 _ (getD_mem hlt))
    have bad : ¬ isD ((trm l).getD n 0) → ∃ v : Int, Ev (fun _ => some ((0 : Int), false)) (v, bP (numOk l)) ∧ (numOk l → v = sgn l (vl (trm l))) := fun h => ⟨0, by rw [bP_neg (hno h)]; exact Ev.now _, fun h' => absurd h' (hno h)⟩
    by_cases c1 : bt (sB (trm l)) (n : Int) < 48
    · obtain ⟨v, e, hv⟩ := bad (fun h => by rw [bt_sB _ _ hlt] at c1; unfold isD at h; omega)
      refine ⟨v, Ev.step (fun _ => rfl) ?_, hv⟩
      simp only [impl_number.l0, if_pos (show (n : Int) < ((trm l).length : Int) by omega), if_pos (show (0 : Int) ≤ (n : Int) by omega), sB_size, if_pos c1]
      exact e
    · by_cases c2 : bt (sB (trm l)) (n : Int) > 57
      · obtain ⟨v, e, hv⟩ := bad (fun h => by rw [bt_sB _ _ hlt] at c2; unfold isD at h; omega)
        refine ⟨v, Ev.step (fun _ => rfl) ?_, hv⟩
        simp only [impl_number.l0, if_pos (show (n : Int) < ((trm l).length : Int) by omega), if_pos (show (0 : Int) ≤ (n : Int) by omega), sB_size, if_neg c1, if_pos c2]
        exact e
      · have hc : isD ((trm l).getD n 0) := by rw [bt_sB _ _ hlt] at c1 c2; unfold isD; omega
        obtain ⟨e1, e2, e3, e4⟩ := vl_step (trm l) n hlt hl ha hc
        obtain ⟨v, e, hv⟩ := number_l l hl h1 hll d (n + 1) (by omega) e4
        refine ⟨v, Ev.step (fun _ => rfl) ?_, hv⟩
        simp only [impl_number.l0, if_pos (show (n : Int) < ((trm l).length : Int) by omega), if_pos (show (0 : Int) ≤ (n : Int) by omega), sB_size, if_neg c1, if_neg c2]
        have en : wrap64 ((n : Int) + 1) = ((n + 1 : Nat) : Int) := w64n hlt (by omega)
        have ev : wrap64 ((wrap64 (10 * (vl ((trm l).take n) : Int))) + (((bt (sB (trm l)) (n : Int)) - 48) % 256)) = (vl ((trm l).take (n + 1)) : Int) := by
          rw [bt_sB _ _ hlt] at c1 c2 ⊢
          unfold isD at hc
          rw [w64 (show -9223372036854775808 ≤ 10 * (vl ((trm l).take n) : Int) by omega) (by omega), e1, w64 (by omega) (by omega)]
          omega
        simp only [en, ev]
        exact e
theorem implNumber_ev (l : List UInt8) (hl : l.length ≤ 9223372036854775807) : ∃ v : Int, Ev (fun k => impl_number.f k (sB l)) (v, bP (numOk l)) ∧ (numOk l → v = sgn l (vl (trm l))) := by
  have h0 := trm_short l
  by_cases h1 : trm l = []
  · have hno : ¬ numOk l := fun h => by have := h.1; rw [h1] at this; simp at this
    refine ⟨0, ?_, fun h => absurd h hno⟩
    simp only [impl_number.f, trim_eq l hl, Option.bind_some, sB_list, if_pos h1]
    refine Ev.step (fun _ => rfl) ?_
    simp only [impl_number.j0, if_true]
    rw [bP_neg hno]
    exact Ev.now _
  · by_cases h2 : (trm l).length ≤ 9
    · obtain ⟨v, e, hv⟩ := number_l l h2 (by have := List.length_pos_iff.2 h1; omega) hl (trm l).length 0 (by omega) (by simp)
      refine ⟨v, ?_, hv⟩
      simp only [impl_number.f, trim_eq l hl, Option.bind_some, sB_list, if_neg h1, sB_size, decide_eq_false (show ¬ ((trm l).length : Int) > 9 by omega)]
      refine Ev.step (fun _ => rfl) ?_
      simp only [impl_number.j0, if_neg (show ¬ (false = true) by decide), sB_size]
      exact e
    · have hno : ¬ numOk l := fun h => h2 h.2.1
      refine ⟨0, ?_, fun h => absurd h hno⟩
      simp only [impl_number.f, trim_eq l hl, Option.bind_some, sB_list, if_neg h1, sB_size, decide_eq_true (show ((trm l).length : Int) > 9 by omega)]
      refine Ev.step (fun _ => rfl) ?_
      simp only [impl_number.j0, if_true]
      rw [bP_neg hno]
      exact Ev.now _
theorem l1Number_l (l : List UInt8) (hl : (trm l).length ≤ 9) (h1 : 1 ≤ (trm l).length) (hz : ¬ ((trm l).head? = some 48 ∧ (1 < (trm l).length ∨ l.head? = some 45))) : ∀ d n : Nat, n + d = (trm l).length → (∀ c ∈ (trm l).take n, isD c) → ∃ v : Int, Ev (fun k => spec_l1Number.l0 k (sB (trm l)) (bP (l.head? = some 45)) (vl ((trm l).take n) : Int) (n : Int)) (v, bP (numOk l)) ∧ (numOk l → v = sgn l (vl (trm l)))
  | 0, n, hd, ha => by
    have ha' : ∀ c ∈ trm l, isD c := by rw [List.take_of_length_le (by omega)] at ha; exact ha
    have hv := vl_nine hl ha'
    have hok : numOk l := ⟨h1, hl, ha', (dz_iff l h1 ha').2 hz⟩
    refine ⟨sgn l (vl (trm l)), Ev.step (fun _ => rfl) ?_, fun _ => rfl⟩
    simp only [spec_l1Number.l0, sB_size, if_neg (show ¬ (n : Int) < ((trm l).length : Int) by omega)]
    rw [List.take_of_length_le (show (trm l).length ≤ n by omega), bP_pos hok]
    by_cases hb : l.head? = some 45
    · have hsg : sgn l (vl (trm l)) = -(vl (trm l) : Int) := by unfold sgn; rw [if_pos hb]
      simp only [bP_pos hb, if_true, hsg, w64 (show -9223372036854775808 ≤ -(vl (trm l) : Int) by omega) (show -(vl (trm l) : Int) ≤ 9223372036854775807 by omega)]
      exact Ev.now _
    · have hsg : sgn l (vl (trm l)) = (vl (trm l) : Int) := by unfold sgn; rw [if_neg hb]
      simp only [bP_neg hb, if_neg (show ¬ (false = true) by decide), hsg]
      exact Ev.now _
  | d + 1, n, hd, ha => by
    have hlt : n < (trm l).length := by omega
    have hno : ¬ isD ((trm l).getD n 0) → ¬ numOk l := fun h h' => h (h'.2.2.1 _ (getD_mem hlt))
    have bad : ¬ isD ((trm l).getD n 0) → ∃ v : Int, Ev (fun _ => some ((0 : Int), false)) (v, bP (numOk l)) ∧ (numOk l → v = sgn l (vl (trm l))) := fun h => ⟨0, by rw [bP_neg (hno h)]; exact Ev.now _, fun h' => absurd h' (hno h)⟩
    by_cases c1 : bt (sB (trm l)) (n : Int) < 48
    · obtain ⟨v, e, hv⟩ := bad (fun h => by rw [bt_sB _ _ hlt] at c1; unfold isD at h; omega)
      refine ⟨v, Ev.step (fun _ => rfl) ?_, hv⟩
      simp only [spec_l1Number.l0, sB_size, if_pos (show (n : Int) < ((trm l).length : Int) by omega), if_pos (show (0 : Int) ≤ (n : Int) by omega), if_pos c1]
      exact e
    · by_cases c2 : bt (sB (trm l)) (n : Int) > 57
      · obtain ⟨v, e, hv⟩ := bad (fun h => by rw [bt_sB _ _ hlt] at c2; unfold isD at h; omega)
        refine ⟨v, Ev.step (fun _ => rfl) ?_, hv⟩
        simp only [spec_l1Number.l0, sB_size, if_pos (show (n : Int) < ((trm l).length : Int) by omega), if_pos (show (0 : Int) ≤ (n : Int) by omega), if_neg c1, if_pos c2]
        exact e
      · have hc : isD ((trm l).getD n 0) := by rw [bt_sB _ _ hlt] at c1 c2; unfold isD; omega
        obtain ⟨e1, e2, e3, e4⟩ := vl_step (trm l) n hlt hl ha hc
        obtain ⟨v, e, hv⟩ := l1Number_l l hl h1 hz d (n + 1) (by omega) e4
        refine ⟨v, Ev.step (fun _ => rfl) ?_, hv⟩
        simp only [spec_l1Number.l0, sB_size, if_pos (show (n : Int) < ((trm l).length : Int) by omega), if_pos (show (0 : Int) ≤ (n : Int) by omega), if_neg c1, if_neg c2]
        have en : wrap64 ((n : Int) + 1) = ((n + 1 : Nat) : Int) := w64n hlt (by omega)
        have ev : wrap64 ((wrap64 ((vl ((trm l).take n) : Int) * 10)) + (((bt (sB (trm l)) (n : Int)) - 48) % 256)) = (vl ((trm l).take (n + 1)) : Int) := by
          rw [bt_sB _ _ hlt] at c1 c2 ⊢
          unfold isD at hc
          rw [w64 (show -9223372036854775808 ≤ (vl ((trm l).take n) : Int) * 10 by omega) (by omega), e1, w64 (by omega) (by omega)]
          omega
        simp only [en, ev]
        exact e
theorem specNumber_j1 (l : List UInt8) (hl : l.length ≤ 9223372036854775807) : ∃ v : Int, Ev (fun k => spec_l1Number.j1 k (sB (trm l)) (bP (l.head? = some 45))) (v, bP (numOk l)) ∧ (numOk l → v = sgn l (vl (trm l))) := by
  by_cases h : 1 ≤ (trm l).length ∧ (trm l).length ≤ 9
  · have h0 : (0 : Int) < ((trm l).length : Int) := by omega
    have hh : (bt (sB (trm l)) 0 = 48) ↔ (trm l).head? = some 48 := by
      have := bt_sB (trm l) 0 (by omega)
      rw [show ((0 : Nat) : Int) = 0 from rfl] at this
      rw [this]
      cases ht : trm l with
      | nil => rw [ht] at h; simp at h
      | cons x xs =>
        constructor
        · intro e
          have e1 : x.toNat = 48 := by have e2 : ((x.toNat : Nat) : Int) = 48 := e; omega
          show some x = some 48
          rw [show x = 48 from UInt8.toNat_inj.1 e1]
        · intro e
          have e1 : x = 48 := Option.some.inj e
          subst e1
          rfl
    have go : ∀ b : Bool, b = bP ((trm l).head? = some 48 ∧ (1 < (trm l).length ∨ l.head? = some 45)) → ∃ v : Int, Ev (fun k => spec_l1Number.j2 k (sB (trm l)) (bP (l.head? = some 45)) b) (v, bP (numOk l)) ∧ (numOk l → v = sgn l (vl (trm l))) := by
      intro b hb
      by_cases hz : (trm l).head? = some 48 ∧ (1 < (trm l).length ∨ l.head? = some 45)
      · have hno : ¬ numOk l := fun h' => (dz_iff l h'.1 h'.2.2.1).1 h'.2.2.2 hz
        rw [bP_pos hz] at hb
        subst hb
        refine ⟨0, Ev.step (fun _ => rfl) ?_, fun h' => absurd h' hno⟩
        simp only [spec_l1Number.j2, if_true]
        rw [bP_neg hno]
        exact Ev.now _
      · rw [bP_neg hz] at hb
        subst hb
        obtain ⟨v, e, hv⟩ := l1Number_l l h.2 h.1 hz (trm l).length 0 (by omega) (by simp)
        refine ⟨v, Ev.step (fun _ => rfl) ?_, hv⟩
        simp only [spec_l1Number.j2, if_neg (show ¬ (false = true) by decide)]
        exact e
    by_cases c1 : (trm l).head? = some 48
    · by_cases c2 : 1 < (trm l).length
      · obtain ⟨v, e, hv⟩ := go true (bP_pos ⟨c1, .inl c2⟩).symm
        refine ⟨v, Ev.step (fun _ => rfl) ?_, hv⟩
        simp only [spec_l1Number.j1, l1In_eq, Option.bind_some, sB_size, bP_pos (show (1 : Int) ≤ ((trm l).length : Int) ∧ ((trm l).length : Int) ≤ 9 by omega), if_true, if_pos h0, if_pos (hh.2 c1), if_pos (show ((trm l).length : Int) > 1 by omega)]
        exact e
      · obtain ⟨v, e, hv⟩ := go (bP (l.head? = some 45)) (bP_congr ⟨fun h' => ⟨c1, .inr h'⟩, fun h' => h'.2.resolve_left c2⟩)
        refine ⟨v, Ev.step (fun _ => rfl) ?_, hv⟩
        simp only [spec_l1Number.j1, l1In_eq, Option.bind_some, sB_size, bP_pos (show (1 : Int) ≤ ((trm l).length : Int) ∧ ((trm l).length : Int) ≤ 9 by omega), if_true, if_pos h0, if_pos (hh.2 c1), if_neg (show ¬ ((trm l).length : Int) > 1 by omega)]
        exact e
    · obtain ⟨v, e, hv⟩ := go false (bP_neg (fun h' => c1 h'.1)).symm
      refine ⟨v, Ev.step (fun _ => rfl) ?_, hv⟩
      simp only [spec_l1Number.j1, l1In_eq, Option.bind_some, sB_size, bP_pos (show (1 : Int) ≤ ((trm l).length : Int) ∧ ((trm l).length : Int) ≤ 9 by omega), if_true, if_pos h0, if_neg (fun e' => c1 (hh.1 e'))]
      exact e
  · have hno : ¬ numOk l := fun h' => h ⟨h'.1, h'.2.1⟩
    refine ⟨0, Ev.step (fun _ => rfl) ?_, fun h' => absurd h' hno⟩
    simp only [spec_l1Number.j1, l1In_eq, Option.bind_some, sB_size, bP_neg (show ¬ ((1 : Int) ≤ ((trm l).length : Int) ∧ ((trm l).length : Int) ≤ 9) by omega), if_neg (show ¬ (false = true) by decide)]
    refine Ev.step (fun _ => rfl) ?_
    simp only [spec_l1Number.j2, if_true]
    rw [bP_neg hno]
    exact Ev.now _
theorem specNumber_ev (l : List UInt8) (hl : l.length ≤ 9223372036854775807) : ∃ v : Int, Ev (fun k => spec_l1Number.f k (sB l)) (v, bP (numOk l)) ∧ (numOk l → v = sgn l (vl (trm l))) := by
  obtain ⟨v, e, hv⟩ := specNumber_j1 l hl
  refine ⟨v, ?_, hv⟩
  have j0 : Ev (fun k => spec_l1Number.j0 k (sB l) (bP (l.head? = some 45))) (v, bP (numOk l)) := by
    refine Ev.step (fun _ => rfl) ?_
    by_cases hb : l.head? = some 45
    · have hl1 : 1 ≤ l.length := by cases l with
        | nil => cases hb
        | cons x xs => simp
      have e1 : (sB l).extract 1 (sB l).size = sB (trm l) := by
        rw [sB_take, sB_size, List.take_of_length_le (by rw [List.length_drop]; exact Nat.le_refl _)]
        unfold trm
        rw [if_pos hb]
        cases l with
        | nil => rfl
        | cons x xs => rfl
      simp only [spec_l1Number.j0, bP_pos hb, if_true, if_pos (show (1 : Int) ≤ ((sB l).size : Int) by rw [sB_size]; omega), e1]
      rw [bP_pos hb] at e
      exact e
    · have e1 : trm l = l := by unfold trm; rw [if_neg hb]
      simp only [spec_l1Number.j0, bP_neg hb, if_neg (show ¬ (false = true) by decide)]
      rw [bP_neg hb, e1] at e
      exact e
  simp only [spec_l1Number.f, sB_size]
  cases l with
  | nil =>
    simp only [if_neg (show ¬ ((([] : List UInt8).length : Nat) : Int) > 0 by simp)]
    rw [bP_neg (show ¬ (([] : List UInt8).head? = some 45) by simp)] at j0
    exact j0
  | cons x xs =>
    have hb := bt_sB (x :: xs) 0 (by simp)
    rw [show ((0 : Nat) : Int) = 0 from rfl] at hb
    have e1 : (bt (sB (x :: xs)) 0 == 45) = bP ((x :: xs).head? = some 45) := by
      rw [hb]
      by_cases hx : x = 45
      · subst hx; rw [List.head?_cons, bP_pos rfl]; rfl
      · rw [List.head?_cons, bP_neg (fun e => hx (Option.some.inj e))]
        have h2 : ¬ ((x.toNat : Nat) : Int) = 45 := fun e => hx (UInt8.toNat_inj.1 (show x.toNat = 45 by omega))
        exact beq_eq_false_iff_ne.2 h2
    simp only [if_pos (show ((((x :: xs) : List UInt8).length : Nat) : Int) > 0 by simp only [List.length_cons]; omega), e1]
    exact j0
theorem parts (l : List UInt8) (h : 2 ≤ l.length) : ∃ a m z, l = a :: (m ++ [z]) := by
  cases l with
  | nil => simp at h
  | cons a xs =>
    have hne : xs ≠ [] := by intro e; rw [e] at h; simp at h
    exact ⟨a, xs.dropLast, xs.getLast hne, by rw [List.dropLast_concat_getLast]⟩
def quo (l : List UInt8) : Prop := ∃ m, l = 34 :: (m ++ [34]) ∧ msgOk 2 0 (sB m)
def inn (l : List UInt8) : List UInt8 := l.tail.dropLast
theorem inn_eq (a : UInt8) (m : List UInt8) (z : UInt8) : inn (a :: (m ++ [z])) = m := by simp [inn]
noncomputable def rdM (l : List UInt8) : Int × Int × ByteArray × Bool := if bP (numOk l) = true then (1, sgn l (vl (trm l)), (⟨#[]⟩ : ByteArray), true) else if bP (quo l) = true then (2, 0, sB (inn l), true) else (0, 0, (⟨#[]⟩ : ByteArray), false)
theorem num_head {l : List UInt8} (h : numOk l) : l.head? ≠ some 34 := by
  intro e
  have ht := h.2.2.1
  have h1 := h.1
  unfold trm at ht h1
  rw [if_neg (by rw [e]; decide)] at ht h1
  cases l with
  | nil => cases e
  | cons x xs =>
    have hx : x = 34 := Option.some.inj e
    have := ht x List.mem_cons_self
    rw [hx] at this
    unfold isD at this
    exact absurd this (by decide)
theorem ends (a : UInt8) (m : List UInt8) (z : UInt8) (hl : (a :: (m ++ [z])).length ≤ 9223372036854775807) : bt (sB (a :: (m ++ [z]))) 0 = (a.toNat : Int) ∧ wrap64 (((a :: (m ++ [z])).length : Int) - 1) = ((m.length + 1 : Nat) : Int) ∧ bt (sB (a :: (m ++ [z]))) ((m.length + 1 : Nat) : Int) = (z.toNat : Int) ∧ (sB (a :: (m ++ [z]))).extract 1 (m.length + 1) = sB m := by
  have e0 := bt_sB (a :: (m ++ [z])) 0 (by simp)
  have e1 := bt_sB (a :: (m ++ [z])) (m.length + 1) (by simp)
  simp only [List.length_cons, List.length_append, List.length_nil] at hl
  refine ⟨e0, ?_, ?_, ?_⟩
  · simp only [List.length_cons, List.length_append, List.length_nil]
    rw [w64 (by omega) (by omega)]
    omega
  · rw [e1]
    congr 2
    simp [List.getD_eq_getElem?_getD]
  · rw [sB_take]
    congr 1
    simp
theorem u34 (a : UInt8) : ((a.toNat : Nat) : Int) = 34 ↔ a = 34 := by
  constructor
  · intro h
    exact UInt8.toNat_inj.1 (show a.toNat = 34 by omega)
  · intro h; subst h; rfl
theorem quo_parts (a : UInt8) (m : List UInt8) (z : UInt8) : quo (a :: (m ++ [z])) ↔ (a = 34 ∧ z = 34 ∧ msgOk 2 0 (sB m)) := by
  constructor
  · rintro ⟨m', e, h⟩
    injection e with e1 e2
    obtain ⟨e3, e4⟩ := List.append_inj' e2 rfl
    injection e4 with e4
    subst e3
    exact ⟨e1, e4, h⟩
  · rintro ⟨rfl, rfl, h⟩
    exact ⟨m, rfl, h⟩
theorem quo_len {l : List UInt8} (h : quo l) : 2 ≤ l.length := by
  obtain ⟨m, e, _⟩ := h
  rw [e]; simp
theorem ok2_iff (t : ByteArray) (ht : t.size ≤ 9223372036854775807) : msgOk 2 0 t ↔ (t.size ≤ 40 ∧ plainFrom t 0) :=
  ⟨fun h => h.elim (fun h => by have := h.1; omega) (fun h => h.2.2), fun h => .inr ⟨rfl, rfl, h⟩⟩
theorem l1Plain_ev (t : ByteArray) (hl : t.size ≤ 9223372036854775807) : Ev (fun k => spec_l1Plain.f k t) (bP (msgOk 2 0 t)) := by
  simp only [spec_l1Plain.f]
  rw [bP_congr (ok2_iff t hl)]
  by_cases h : (t.size : Int) > 40
  · simp only [if_pos h]
    rw [bP_neg (fun h' => by have := h'.1; omega)]
    exact Ev.now _
  · simp only [if_neg h]
    exact Ev_eq (l1Plain_l t hl t.size 0 (by omega)) (bP_congr ⟨fun h' => ⟨by omega, h'⟩, fun h' => h'.2⟩)
theorem specReadMsg_ev (l : List UInt8) (hl : l.length ≤ 1048577) : Ev (fun k => spec_ReadMsg.f k (sB l)) (rdM l) := by
  obtain ⟨v, e, hv⟩ := specNumber_ev l (by omega)
  simp only [spec_ReadMsg.f]
  refine Ev.bind e ?_
  unfold rdM
  by_cases h : numOk l
  · simp only [bP_pos h, if_true, hv h]
    exact Ev.now _
  · simp only [bP_neg h, if_neg (show ¬ (false = true) by decide), sB_size]
    by_cases h2 : 2 ≤ l.length
    · obtain ⟨a, m, z, rfl⟩ := parts l h2
      obtain ⟨e1, e2, e3, e4⟩ := ends a m z (by omega)
      rw [bP_congr (quo_parts a m z), inn_eq]
      have hlen : ((a :: (m ++ [z])).length : Int) = (m.length : Int) + 2 := by simp; omega
      simp only [if_neg (show ¬ ((a :: (m ++ [z])).length : Int) < 2 by omega), if_pos (show (0 : Int) < ((a :: (m ++ [z])).length : Int) by omega), e1, e2, if_pos (show (0 : Int) ≤ ((m.length + 1 : Nat) : Int) by omega), if_pos (show ((m.length + 1 : Nat) : Int) < ((a :: (m ++ [z])).length : Int) by omega), e3, if_pos (show (1 : Int) ≤ ((m.length + 1 : Nat) : Int) by omega), if_pos (show ((m.length + 1 : Nat) : Int) ≤ ((a :: (m ++ [z])).length : Int) by omega), Int.toNat_natCast, e4]
      by_cases ha : a = 34
      · simp only [if_pos ((u34 a).2 ha)]
        by_cases hz : z = 34
        · simp only [if_pos ((u34 z).2 hz)]
          refine Ev.bind (l1Plain_ev (sB m) (by rw [sB_size]; simp at hl; omega)) ?_
          by_cases ho : msgOk 2 0 (sB m)
          · rw [bP_pos ho, bP_pos ⟨ha, hz, ho⟩]
            exact Ev.now _
          · rw [bP_neg ho, bP_neg (fun h' => ho h'.2.2)]
            exact Ev.now _
        · simp only [if_neg (fun e' => hz ((u34 z).1 e'))]
          rw [bP_neg (fun h' => hz h'.2.1)]
          exact Ev.now _
      · simp only [if_neg (fun e' => ha ((u34 a).1 e'))]
        rw [bP_neg (fun h' => ha h'.1)]
        exact Ev.now _
    · simp only [if_pos (show (l.length : Int) < 2 by omega)]
      rw [bP_neg (fun h' => h2 (quo_len h'))]
      exact Ev.now _
theorem msgT_num {l : List UInt8} (h : numOk l) : msgOk 1 (sgn l (vl (trm l))) (⟨#[]⟩ : ByteArray) ∧ msgT 1 (sgn l (vl (trm l))) (⟨#[]⟩ : ByteArray) = sB l := by
  have hb := sgn_bound l (vl_nine h.2.1 h.2.2.1)
  have ho : msgOk 1 (sgn l (vl (trm l))) (⟨#[]⟩ : ByteArray) := .inl ⟨rfl, sB_list [], hb⟩
  refine ⟨ho, ?_⟩
  unfold msgT
  rw [if_pos (bP_pos ho), if_pos rfl, h.2.2.2]
theorem msgT_quo (m : List UInt8) (h : msgOk 2 0 (sB m)) : msgT 2 0 (sB m) = sB (34 :: (m ++ [34])) := by
  unfold msgT
  rw [if_pos (bP_pos h), if_neg (by decide), sB1, sB_append, sB_append]
  rfl
theorem rdM_quo {l : List UInt8} (hn : ¬ numOk l) (h : quo l) : rdM l = (2, 0, sB (inn l), true) := by
  unfold rdM
  rw [if_neg (by rw [bP_neg hn]; decide), if_pos (bP_pos h)]
theorem rdM_num {l : List UInt8} (h : numOk l) : rdM l = (1, sgn l (vl (trm l)), (⟨#[]⟩ : ByteArray), true) := by
  unfold rdM
  rw [if_pos (bP_pos h)]
theorem rdM_no {l : List UInt8} (hn : ¬ numOk l) (h : ¬ quo l) : rdM l = (0, 0, (⟨#[]⟩ : ByteArray), false) := by
  unfold rdM
  rw [if_neg (by rw [bP_neg hn]; decide), if_neg (by rw [bP_neg h]; decide)]
theorem implReadMsg_ev (l : List UInt8) (hl : l.length ≤ 1048577) : Ev (fun k => impl_ReadMsg.f k (sB l)) (rdM l) := by
  obtain ⟨v, e, hv⟩ := implNumber_ev l (by omega)
  simp only [impl_ReadMsg.f]
  refine Ev.bind e ?_
  simp only [sB_size]
  have j1 : ∀ (c : Int) (n : Int) (t : ByteArray), t.size ≤ 1048577 → Ev (fun k => impl_ReadMsg.j1 k (sB l) true c n t) (if bP (msgOk c n t ∧ msgT c n t = sB l) = true then (c, n, t, true) else (0, 0, (⟨#[]⟩ : ByteArray), false)) := by
    intro c n t ht
    refine Ev.step (fun _ => rfl) ?_
    simp only [impl_ReadMsg.j1, if_true]
    refine Ev.bind (implMsgOk_ev c n t (by omega)) ?_
    by_cases ho : msgOk c n t
    · simp only [bP_pos ho, if_true]
      refine Ev.bind (implMsgText_ev c n t (by omega)) ?_
      by_cases he : msgT c n t = sB l
      · rw [bP_pos ⟨ho, he⟩, he]
        exact Ev_ifpos rfl (Ev.now _)
      · rw [bP_neg (fun h => he h.2)]
        exact Ev_ifneg (fun h => he (by rw [sB_of (msgT c n t), sB_of (sB l), h])) (Ev.now _)
    · simp only [bP_neg ho, if_neg (show ¬ (false = true) by decide)]
      rw [bP_neg (fun h => ho h.1)]
      exact Ev.now _
  have j1n : ∀ (c : Int) (n : Int) (t : ByteArray), Ev (fun k => impl_ReadMsg.j1 k (sB l) false c n t) (0, 0, (⟨#[]⟩ : ByteArray), false) := by
    intro c n t
    refine Ev.step (fun _ => rfl) ?_
    simp only [impl_ReadMsg.j1, if_neg (show ¬ (false = true) by decide)]
    exact Ev.now _
  have j0n : ¬ (2 ≤ l.length ∧ l.head? = some 34) → Ev (fun k => impl_ReadMsg.j0 k (sB l) (bP (numOk l)) false 1 v (⟨#[]⟩ : ByteArray)) (rdM l) := by
    intro hq
    refine Ev.step (fun _ => rfl) ?_
    simp only [impl_ReadMsg.j0, if_neg (show ¬ (false = true) by decide)]
    by_cases h : numOk l
    · rw [rdM_num h, bP_pos h, hv h]
      obtain ⟨h1, h2⟩ := msgT_num h
      exact Ev_eq (j1 1 _ _ (Nat.zero_le _)) (by rw [if_pos (bP_pos ⟨h1, h2⟩)])
    · have hn : ¬ quo l := fun h' => hq ⟨quo_len h', by obtain ⟨m, e', _⟩ := h'; rw [e']; rfl⟩
      rw [rdM_no h hn, bP_neg h]
      exact j1n _ _ _
  by_cases h2 : 2 ≤ l.length
  · obtain ⟨a, m, z, rfl⟩ := parts l h2
    obtain ⟨e1, e2, e3, e4⟩ := ends a m z (by omega)
    have hlen : ((a :: (m ++ [z])).length : Int) = (m.length : Int) + 2 := by simp; omega
    simp only [if_pos (show ((a :: (m ++ [z])).length : Int) ≥ 2 by omega), if_pos (show (0 : Int) < ((a :: (m ++ [z])).length : Int) by omega), e1]
    by_cases ha : a = 34
    · have hb : (((a.toNat : Nat) : Int) == 34) = true := beq_iff_eq.2 ((u34 a).2 ha)
      rw [hb]
      have hn : ¬ numOk (a :: (m ++ [z])) := fun h => num_head h (by rw [ha]; rfl)
      refine Ev.step (fun _ => rfl) ?_
      simp only [impl_ReadMsg.j0, if_true, sB_size, e2, if_pos (show (1 : Int) ≤ ((m.length + 1 : Nat) : Int) by omega), if_pos (show ((m.length + 1 : Nat) : Int) ≤ ((a :: (m ++ [z])).length : Int) by omega), Int.toNat_natCast, e4]
      refine Ev_eq (j1 2 0 (sB m) (by rw [sB_size]; simp at hl; omega)) ?_
      subst ha
      by_cases hq : quo (34 :: (m ++ [z]))
      · have hq' := (quo_parts _ _ _).1 hq
        obtain ⟨_, rfl, ho⟩ := hq'
        rw [if_pos (bP_pos ⟨ho, msgT_quo m ho⟩), rdM_quo hn hq, inn_eq]
      · rw [rdM_no hn hq, if_neg]
        rw [bP_neg]
        · decide
        · rintro ⟨ho, ht⟩
          rw [msgT_quo m ho] at ht
          have h3 := congrArg ByteArray.toList ht
          rw [sB_list, sB_list] at h3
          injection h3 with _ h4
          obtain ⟨_, h5⟩ := List.append_inj' h4 rfl
          injection h5 with h5
          exact hq ((quo_parts _ _ _).2 ⟨rfl, h5.symm, ho⟩)
    · have hb : (((a.toNat : Nat) : Int) == 34) = false := beq_eq_false_iff_ne.2 (fun e' => ha ((u34 a).1 e'))
      rw [hb]
      exact j0n (fun h => ha (Option.some.inj h.2))
  · simp only [if_neg (show ¬ (l.length : Int) ≥ 2 by omega)]
    exact j0n (fun h => h2 h.1)
theorem rdM_size (l : List UInt8) : (rdM l).2.2.1.size ≤ l.length := by
  by_cases h : numOk l
  · rw [rdM_num h]; exact Nat.zero_le _
  · by_cases hq : quo l
    · rw [rdM_quo h hq]
      show (sB (inn l)).size ≤ l.length
      rw [sB_size]
      simp [inn]; omega
    · rw [rdM_no h hq]; exact Nat.zero_le _
theorem rdM_says {l : List UInt8} (h : (rdM l).2.2.2 = true) : msgOk (rdM l).1 (rdM l).2.1 (rdM l).2.2.1 ∧ msgT (rdM l).1 (rdM l).2.1 (rdM l).2.2.1 = sB l := by
  by_cases hn : numOk l
  · rw [rdM_num hn]
    exact msgT_num hn
  · by_cases hq : quo l
    · rw [rdM_quo hn hq]
      obtain ⟨m, rfl, ho⟩ := hq
      rw [inn_eq]
      exact ⟨ho, msgT_quo m ho⟩
    · rw [rdM_no hn hq] at h
      cases h
theorem sB_inj {a b : List UInt8} (h : sB a = sB b) : a = b := by
  have := congrArg ByteArray.toList h
  rw [sB_list, sB_list] at this
  exact this
theorem rdM_back {a b : Int} {t : ByteArray} {l : List UInt8} (h : msgOk a b t) (e : msgT a b t = sB l) : rdM l = (a, b, t, true) := by
  unfold msgT at e
  rw [if_pos (bP_pos h)] at e
  rcases h with ⟨rfl, ht, h0, h1⟩ | ⟨rfl, rfl, h2⟩
  · rw [if_pos rfl] at e
    have el := sB_inj e
    have f := dz_facts el.symm h0 h1
    have hn : numOk l := ⟨f.1, f.2.1, f.2.2.1, by rw [f.2.2.2]; exact el⟩
    rw [rdM_num hn, f.2.2.2]
    have e3 : t = (⟨#[]⟩ : ByteArray) := by rw [sB_of t, ht]; rfl
    rw [e3]
  · rw [if_neg (by decide)] at e
    obtain ⟨m, rfl⟩ : ∃ m, t = sB m := ⟨_, sB_of t⟩
    rw [sB1, sB_append, sB_append] at e
    have el : 34 :: (m ++ [34]) = l := sB_inj e
    subst el
    have hn : ¬ numOk (34 :: (m ++ [34])) := fun h => num_head h rfl
    rw [rdM_quo hn ((quo_parts _ _ _).2 ⟨rfl, rfl, .inr ⟨rfl, rfl, h2⟩⟩), inn_eq]
theorem rdM_ask : rdM [63] = (0, 0, (⟨#[]⟩ : ByteArray), false) := by
  refine rdM_no (fun h => ?_) (fun h => by have := quo_len h; simp at this)
  have h1 := h.2.2.1
  have e : trm [63] = [63] := rfl
  rw [e] at h1
  have := h1 63 (by simp)
  unfold isD at this
  exact absurd this (by decide)
theorem msgT_size (a b : Int) (t : ByteArray) : (msgT a b t).size ≤ t.size + 10 := by
  unfold msgT
  by_cases h : msgOk a b t
  · rw [if_pos (bP_pos h)]
    split
    · rw [sB_size]
      have := dz_len (msgOk_num h).1 (msgOk_num h).2
      omega
    · rw [ByteArray.size_append, ByteArray.size_append]
      show 1 + t.size + 1 ≤ _
      omega
  · rw [if_neg (by rw [bP_neg h]; decide)]
    show 1 ≤ _
    omega
theorem DrawMsgText_ex (s : List Int) (hs : s.length ≤ 4611686018427387904) : ∃ k n t, Ev (fun q => spec_DrawMsgText.f q s) (k, n, t) ∧ t.size ≤ 100 := by
  obtain ⟨x0, h0⟩ := l1New_ev s hs
  obtain ⟨k, n, t, i1, x1, e1, ht, h1⟩ := l1AnyMsg_ex s 0 x0 hs (by omega)
  refine ⟨k, n, t, ?_, ht⟩
  simp only [spec_DrawMsgText.f]
  refine Ev.bind h0 ?_
  simp only [e1, Option.bind_some]
  exact Ev.now _
theorem DrawReadMsg_ex (s : List Int) (hs : s.length ≤ 4611686018427387904) : ∃ t, Ev (fun q => spec_DrawReadMsg.f q s) t ∧ t.size ≤ 200 := by
  obtain ⟨x0, h0⟩ := l1New_ev s hs
  obtain ⟨k, n, t, i1, x1, e1, ht, h1⟩ := l1AnyMsg_ex s 0 x0 hs (by omega)
  obtain ⟨b, i2, x2, e2, h2⟩ := l1Once_ex s i1 x1 3 hs h1
  cases b
  · refine ⟨msgT k n t, ?_, by have := msgT_size k n t; omega⟩
    simp only [spec_DrawReadMsg.f]
    refine Ev.bind h0 ?_
    simp only [e1, Option.bind_some]
    refine Ev.bind (specMsgText_ev k n t (by omega)) ?_
    simp only [e2, Option.bind_some, if_neg (show ¬ (false = true) by decide)]
    exact Ev.now _
  · have hq := @l1Pick_ex s i2 x2 [(⟨#[]⟩ : ByteArray), (⟨#[45]⟩ : ByteArray), (⟨#[45, 48]⟩ : ByteArray), (⟨#[48, 48, 55]⟩ : ByteArray), (⟨#[49, 50, 51, 52, 53, 54, 55, 56, 57, 48]⟩ : ByteArray), (⟨#[34]⟩ : ByteArray), (⟨#[34, 34]⟩ : ByteArray), (⟨#[34, 97]⟩ : ByteArray), (⟨#[97, 34]⟩ : ByteArray), (⟨#[32, 49]⟩ : ByteArray), (⟨#[49, 50, 120]⟩ : ByteArray), (⟨#[34, 97, 34, 98, 34]⟩ : ByteArray), (⟨#[45, 57, 57, 57, 57, 57, 57, 57, 57, 57]⟩ : ByteArray)] hs h2 (by simp)
    obtain ⟨r, i3, x3, e3, hr, h3⟩ := hq
    have hz : ∀ y ∈ [(⟨#[]⟩ : ByteArray), (⟨#[45]⟩ : ByteArray), (⟨#[45, 48]⟩ : ByteArray), (⟨#[48, 48, 55]⟩ : ByteArray), (⟨#[49, 50, 51, 52, 53, 54, 55, 56, 57, 48]⟩ : ByteArray), (⟨#[34]⟩ : ByteArray), (⟨#[34, 34]⟩ : ByteArray), (⟨#[34, 97]⟩ : ByteArray), (⟨#[97, 34]⟩ : ByteArray), (⟨#[32, 49]⟩ : ByteArray), (⟨#[49, 50, 120]⟩ : ByteArray), (⟨#[34, 97, 34, 98, 34]⟩ : ByteArray), (⟨#[45, 57, 57, 57, 57, 57, 57, 57, 57, 57]⟩ : ByteArray)], y.size ≤ 200 := by decide
    refine ⟨r, ?_, hz _ hr⟩
    simp only [spec_DrawReadMsg.f]
    refine Ev.bind h0 ?_
    simp only [e1, Option.bind_some]
    refine Ev.bind (specMsgText_ev k n t (by omega)) ?_
    simp only [e2, Option.bind_some, if_true, e3]
    exact Ev.now _
theorem msgBack_j0 (s : List Int) (hs : s.length ≤ 4611686018427387904) : Ev (fun q => laws_FnMsgBack.j0 q s false) true := by
  obtain ⟨t, ht, hz⟩ := DrawReadMsg_ex s hs
  obtain ⟨l, rfl⟩ : ∃ l, t = sB l := ⟨_, sB_of t⟩
  rw [sB_size] at hz
  have h4 := rdM_size l
  refine Ev.step (fun _ => rfl) ?_
  simp only [laws_FnMsgBack.j0, if_neg (show ¬ (false = true) by decide)]
  refine Ev.bind ht ?_
  refine Ev.bind (implReadMsg_ev l (by omega)) ?_
  refine Ev.bind (specReadMsg_ev l (by omega)) ?_
  refine Ev_ifpos (by simp) ?_
  by_cases h : (rdM l).2.2.2 = true
  · refine Ev_ifpos h ?_
    obtain ⟨h1, h2⟩ := rdM_says h
    refine Ev.bind (implMsgText_ev _ _ _ (by omega)) ?_
    refine Ev_ifpos (by rw [h2]) ?_
    refine Ev.bind (implMsgOk_ev _ _ _ (by omega)) ?_
    refine Ev_eq (Ev.now _) (bP_pos h1)
  · exact Ev_ifneg h (Ev.now _)
theorem msgBack_ev (l0 : List Int) : Ev (fun q => laws_FnMsgBack.f q l0) true := by
  simp only [laws_FnMsgBack.f, laws_big.f, Option.bind_some]
  by_cases h : (l0.length : Int) > 1048576
  · simp only [decide_eq_true h, if_true]
    exact Ev.now _
  · simp only [decide_eq_false h, if_neg (show ¬ (false = true) by decide)]
    obtain ⟨k, n, t, hd, ht⟩ := DrawMsgText_ex l0 (by omega)
    refine Ev.bind hd ?_
    refine Ev.bind (implMsgText_ev k n t (by omega)) ?_
    have hz := msgT_size k n t
    obtain ⟨l, hl⟩ : ∃ l, msgT k n t = sB l := ⟨_, sB_of _⟩
    rw [hl, sB_size] at hz
    rw [hl]
    refine Ev.bind (implReadMsg_ev l (by omega)) ?_
    refine Ev.bind (specMsgOk_ev k n t (by omega)) ?_
    by_cases ho : msgOk k n t
    · simp only [rdM_back ho hl, bP_pos ho, if_true]
      refine Ev_ifneg (by simp) ?_
      refine Ev.bind (specMsgOk_ev k n t (by omega)) ?_
      simp only [bP_pos ho, if_true]
      exact msgBack_j0 l0 (by omega)
    · have e : l = [63] := by
        unfold msgT at hl
        rw [if_neg (by rw [bP_neg ho]; decide)] at hl
        exact (sB_inj (show sB [63] = sB l from hl)).symm
      subst e
      simp only [rdM_ask, bP_neg ho, if_neg (show ¬ (false = true) by decide)]
      refine Ev_ifneg (by decide) ?_
      refine Ev.bind (specMsgOk_ev k n t (by omega)) ?_
      simp only [bP_neg ho, if_neg (show ¬ (false = true) by decide), sB_list]
      exact Ev_eq (msgBack_j0 l0 (by omega)) rfl
end Go.Proofs.Ytalehmhjddnmoaa.Q
