/- Plain laws of what the printed functions compute, the program's and the reference's, for every number and list; conditions: those of each theorem. -/
import Derived.Test.YtalehmhjddnmoaaZx2
import Derived.Test.YtalehmhjddnmoaaZx3
import Derived.Test.YtalehmhjddnmoaaZx4
import Derived.Test.YtalehmhjddnmoaaZx5
import Derived.Test.YtalehmhjddnmoaaZx6
import Derived.Test.YtalehmhjddnmoaaZx11
import Derived.Test.YtalehmhjddnmoaaZx12
import Derived.Test.YtalehmhjddnmoaaZx13
import Derived.Test.YtalehmhjddnmoaaZx14
import Derived.Test.YtalehmhjddnmoaaZx21
import Derived.Test.YtalehmhjddnmoaaZx22
import Derived.Test.YtalehmhjddnmoaaZx23
import Derived.Test.YtalehmhjddnmoaaZx24
import Derived.Test.YtalehmhjddnmoaaZx25
import Derived.Test.YtalehmhjddnmoaaZx26
import Derived.Test.YtalehmhjddnmoaaZx29
import Derived.Test.YtalehmhjddnmoaaZx31
import Derived.Test.YtalehmhjddnmoaaZx34
import Derived.Test.YtalehmhjddnmoaaZx43
namespace Go.Proofs.Ytalehmhjddnmoaa.Q
open Go.RowKit Go.Proofs.Ytalehmhjddnmoaa.Z Go.Proofs.YtalehmhjddnmoaaW.PrintWords Go.Proofs.YtalehmhjddnmoaaW.PrintLast Go.Proofs.YtalehmhjddnmoaaW.PrintMore
set_option linter.unusedVariables false
set_option linter.unusedSimpArgs false
theorem w64 {x : Int} (h0 : -9223372036854775808 ≤ x) (h1 : x ≤ 9223372036854775807) : wrap64 x = x := by unfold wrap64; omega
theorem w64n {n m : Nat} (h : n < m) (hm : m ≤ 9223372036854775807) : wrap64 ((n : Int) + 1) = ((n + 1 : Nat) : Int) := by rw [w64 (by omega) (by omega)]; omega
theorem rd_nat (l : List Int) (n : Nat) : rd l (n : Int) = l.getD n 0 := by simp [rd]
theorem rdOf_nat {α : Type} (d : α) (l : List α) (n : Nat) : rdOf d l (n : Int) = l.getD n d := by simp [rdOf]
theorem drop_cons {α : Type} (d : α) (l : List α) (n : Nat) (h : n < l.length) : l.drop n = l.getD n d :: l.drop (n + 1) := by
  rw [List.drop_eq_getElem_cons h, List.getD_eq_getElem?_getD, List.getElem?_eq_getElem h]; rfl
theorem take_cons {α : Type} (d : α) (l : List α) (n : Nat) (h : n < l.length) : l.take (n + 1) = l.take n ++ [l.getD n d] := by
  rw [List.take_succ_eq_append_getElem h, List.getD_eq_getElem?_getD, List.getElem?_eq_getElem h]; rfl
noncomputable def bP (p : Prop) : Bool := @decide p (Classical.propDecidable p)
theorem bP_iff {p : Prop} : bP p = true ↔ p := by simp [bP]
theorem bP_pos {p : Prop} (h : p) : bP p = true := bP_iff.2 h
theorem bP_neg {p : Prop} (h : ¬ p) : bP p = false := by
  cases hb : bP p
  · rfl
  · exact absurd (bP_iff.1 hb) h
theorem bP_congr {p q : Prop} (h : p ↔ q) : bP p = bP q := by rw [propext h]
theorem bP_dec (p : Prop) [Decidable p] : decide p = bP p := by
  by_cases h : p
  · rw [bP_pos h, decide_eq_true h]
  · rw [bP_neg h, decide_eq_false h]
theorem Ev_eq {α : Type} {g : Nat → Option α} {r s : α} (h : Ev g r) (e : r = s) : Ev g s := e ▸ h
theorem Ev_ifpos {α : Type} {c : Prop} [Decidable c] {g f : Nat → Option α} {r : α} (h : c) (k : Ev g r) : Ev (fun n => if c then g n else f n) r := by
  simpa only [if_pos h] using k
theorem Ev_ifneg {α : Type} {c : Prop} [Decidable c] {g f : Nat → Option α} {r : α} (h : ¬ c) (k : Ev f r) : Ev (fun n => if c then g n else f n) r := by
  simpa only [if_neg h] using k
theorem Ev_some {α β : Type} {g : Option α} {f : Nat → α → Option β} {a : α} {r : β} (h : g = some a) (k : Ev (fun n => f n a) r) : Ev (fun n => g.bind (f n)) r := by
  simpa only [h, Option.bind_some] using k
theorem Ev_ofk {α : Type} {r : α} {g : Option α} (h : g = some r) : Ev (fun _ => g) r := ⟨0, fun _ _ => h⟩
def upFrom : Int → Nat → List Int
  | _, 0 => []
  | v, n + 1 => v :: upFrom (v + 1) n
theorem upFrom_length : ∀ n v, (upFrom v n).length = n
  | 0, _ => rfl
  | n + 1, v => by simp [upFrom, upFrom_length n]
def pos (a : Int) : List Int → Int → Int
  | [], _ => -1
  | x :: xs, i => if x = a then i else pos a xs (i + 1)
theorem pos_spec (a : Int) : ∀ (l : List Int) (i : Int), 0 ≤ i → (a ∈ l → i ≤ pos a l i ∧ pos a l i < i + l.length) ∧ (a ∉ l → pos a l i = -1)
  | [], i, _ => by simp [pos]
  | x :: xs, i, hi => by
    have ih := pos_spec a xs (i + 1) (by omega)
    unfold pos
    by_cases hx : x = a
    · rw [if_pos hx]
      refine ⟨fun _ => ⟨Int.le_refl _, by simp only [List.length_cons]; omega⟩, fun h => absurd (by rw [hx]; exact List.mem_cons_self) h⟩
    · rw [if_neg hx]
      refine ⟨fun h => ?_, fun h => ih.2 (fun h' => h (List.mem_cons_of_mem _ h'))⟩
      have h' : a ∈ xs := by
        rcases List.mem_cons.1 h with h | h
        · exact absurd h.symm hx
        · exact h
      have := ih.1 h'
      simp only [List.length_cons]
      omega
theorem pos_mem (a : Int) (l : List Int) : (0 ≤ pos a l 0) ↔ a ∈ l := by
  have h := pos_spec a l 0 (by omega)
  constructor
  · intro h0
    by_cases hm : a ∈ l
    · exact hm
    · have := h.2 hm; omega
  · intro hm
    exact (h.1 hm).1
theorem l1In_eq (a b c : Int) : spec_l1In.f a b c = some (bP (b ≤ a ∧ a ≤ c)) := by
  simp only [spec_l1In.f]
  by_cases h : a ≥ b
  · rw [if_pos h, bP_dec, bP_congr (show (a ≤ c) ↔ (b ≤ a ∧ a ≤ c) by omega)]
  · rw [if_neg h, bP_neg (by omega)]
theorem within_eq (a b c : Int) : impl_within.f a b c = some (bP (b ≤ a ∧ a ≤ c)) := by
  simp only [impl_within.f]
  by_cases h : a ≥ b
  · rw [if_pos h, bP_dec, bP_congr (show (a ≤ c) ↔ (b ≤ a ∧ a ≤ c) by omega)]
  · rw [if_neg h, bP_neg (by omega)]
def plainFrom (t : ByteArray) (n : Nat) : Prop := ∀ i : Nat, n ≤ i → i < t.size → 32 ≤ bt t i ∧ bt t i ≤ 126 ∧ bt t i ≠ 34
def msgOk (a b : Int) (t : ByteArray) : Prop := (a = 1 ∧ t.toList = [] ∧ -999999999 ≤ b ∧ b ≤ 999999999) ∨ (a = 2 ∧ b = 0 ∧ t.size ≤ 40 ∧ plainFrom t 0)
theorem plainFrom_step (t : ByteArray) (n : Nat) (h : n < t.size) : plainFrom t n ↔ (32 ≤ bt t n ∧ bt t n ≤ 126 ∧ bt t n ≠ 34) ∧ plainFrom t (n + 1) := by
  constructor
  · intro hf
    exact ⟨hf n (Nat.le_refl _) h, fun i hi => hf i (by omega)⟩
  · rintro ⟨h0, hf⟩ i hi hl
    rcases Nat.eq_or_lt_of_le hi with rfl | hlt
    · exact h0
    · exact hf i hlt hl
theorem l1Plain_l (t : ByteArray) (hl : t.size ≤ 9223372036854775807) : ∀ d n : Nat, n + d = t.size → Ev (fun k => spec_l1Plain.l0 k t n) (bP (plainFrom t n))
  | 0, n, hd => by
    refine Ev.step (fun _ => rfl) ?_
    simp only [spec_l1Plain.l0, if_neg (show ¬ (n : Int) < (t.size : Int) by omega)]
    rw [bP_pos (show plainFrom t n from fun i hi hl => by omega)]
    exact Ev.now _
  | d + 1, n, hd => by
    refine Ev.step (fun _ => rfl) ?_
    simp only [spec_l1Plain.l0, if_pos (show (n : Int) < (t.size : Int) by omega), if_pos (show (0 : Int) ≤ (n : Int) by omega), w64n (show n < t.size by omega) hl]
    rw [bP_congr (plainFrom_step t n (by omega))]
    by_cases h1 : bt t n < 32
    · simp only [if_pos h1]
      rw [bP_neg (fun h => by have := h.1.1; omega)]
      exact Ev.now _
    · simp only [if_neg h1]
      by_cases h2 : bt t n > 126
      · simp only [if_pos h2]
        rw [bP_neg (fun h => by have := h.1.2.1; omega)]
        exact Ev.now _
      · simp only [if_neg h2]
        by_cases h3 : bt t n = 34
        · simp only [if_pos h3]
          rw [bP_neg (fun h => h.1.2.2 h3)]
          exact Ev.now _
        · simp only [if_neg h3]
          exact Ev_eq (l1Plain_l t hl d (n + 1) (by omega)) (bP_congr ⟨fun h => ⟨⟨by omega, by omega, h3⟩, h⟩, fun h => h.2⟩)
theorem specMsgOk_ev (a b : Int) (t : ByteArray) (hl : t.size ≤ 9223372036854775807) : Ev (fun k => spec_MsgOk.f k a b t) (bP (msgOk a b t)) := by
  simp only [spec_MsgOk.f, l1In_eq, Option.bind_some]
  by_cases h1 : a = 1
  · simp only [if_pos h1]
    by_cases h2 : t.toList = []
    · simp only [if_pos h2]
      exact Ev_eq (Ev.now _) (bP_congr ⟨fun h => .inl ⟨h1, h2, h⟩, fun h => h.elim (fun h => h.2.2) (fun h => by have := h.1; omega)⟩)
    · simp only [if_neg h2]
      rw [bP_neg (fun h => h.elim (fun h => h2 h.2.1) (fun h => by have := h.1; omega))]
      exact Ev.now _
  · simp only [if_neg h1]
    by_cases h2 : a = 2
    · simp only [if_pos h2]
      by_cases h3 : b = 0
      · simp only [if_pos h3, spec_l1Plain.f]
        by_cases h4 : (t.size : Int) > 40
        · simp only [if_pos h4, Option.bind_some]
          rw [bP_neg (fun h => h.elim (fun h => h1 h.1) (fun h => by have := h.2.2.1; omega))]
          exact Ev.now _
        · simp only [if_neg h4]
          refine Ev.bind (l1Plain_l t hl t.size 0 (by omega)) ?_
          exact Ev_eq (Ev.now _) (bP_congr ⟨fun h => .inr ⟨h2, h3, by omega, h⟩, fun h => h.elim (fun h => absurd h.1 h1) (fun h => h.2.2.2)⟩)
      · simp only [if_neg h3]
        rw [bP_neg (fun h => h.elim (fun h => h1 h.1) (fun h => h3 h.2.1))]
        exact Ev.now _
    · simp only [if_neg h2]
      rw [bP_neg (fun h => h.elim (fun h => h1 h.1) (fun h => h2 h.1))]
      exact Ev.now _
theorem implMsgOk_l (t : ByteArray) (a b : Int) (hl : t.size ≤ 9223372036854775807) : ∀ d n : Nat, n + d = t.size → Ev (fun k => impl_MsgOk.l0 k (t.size : Int) n a b t) (bP (plainFrom t n ∧ b = 0 ∧ t.size ≤ 40))
  | 0, n, hd => by
    refine Ev.step (fun _ => rfl) ?_
    simp only [impl_MsgOk.l0, if_neg (show ¬ (n : Int) < (t.size : Int) by omega)]
    by_cases h : b = 0
    · simp only [if_pos h]
      refine Ev_eq (Ev.now _) ?_
      rw [bP_dec]
      exact bP_congr ⟨fun h' => ⟨fun i hi hl => by omega, h, by omega⟩, fun h' => by have := h'.2.2; omega⟩
    · simp only [if_neg h]
      rw [bP_neg (fun h' => h h'.2.1)]
      exact Ev.now _
  | d + 1, n, hd => by
    have hb := bt_range t n
    refine Ev.step (fun _ => rfl) ?_
    simp only [impl_MsgOk.l0, if_pos (show (n : Int) < (t.size : Int) by omega), if_pos (show (0 : Int) ≤ (n : Int) by omega), w64n (show n < t.size by omega) hl, w64 (show -9223372036854775808 ≤ bt t n by omega) (show bt t n ≤ 9223372036854775807 by omega), within_eq, Option.bind_some]
    rw [bP_congr (and_congr_left' (plainFrom_step t n (by omega)))]
    by_cases h1 : 32 ≤ bt t n ∧ bt t n ≤ 126
    · simp only [bP_pos h1, if_true]
      by_cases h2 : bt t n = 34
      · simp only [if_pos h2]
        rw [bP_neg (fun h => h.1.1.2.2 h2)]
        exact Ev.now _
      · simp only [if_neg h2]
        exact Ev_eq (implMsgOk_l t a b hl d (n + 1) (by omega)) (bP_congr ⟨fun h => ⟨⟨⟨h1.1, h1.2, h2⟩, h.1⟩, h.2⟩, fun h => ⟨h.1.2, h.2⟩⟩)
    · simp only [bP_neg h1, if_neg (show ¬ (false = true) by decide)]
      rw [bP_neg (fun h => h1 ⟨h.1.1.1, h.1.1.2.1⟩)]
      exact Ev.now _
theorem implMsgOk_ev (a b : Int) (t : ByteArray) (hl : t.size ≤ 9223372036854775807) : Ev (fun k => impl_MsgOk.f k a b t) (bP (msgOk a b t)) := by
  simp only [impl_MsgOk.f, within_eq, Option.bind_some]
  by_cases h1 : a = 1
  · simp only [if_pos h1]
    by_cases h2 : -999999999 ≤ b ∧ b ≤ 999999999
    · simp only [bP_pos h2, if_true]
      refine Ev_eq (Ev.now _) ?_
      by_cases h3 : t.toList = []
      · rw [h3, bP_pos (.inl ⟨h1, h3, h2⟩)]
        rfl
      · rw [bP_neg (fun h => h.elim (fun h => h3 h.2.1) (fun h => by have := h.1; omega))]
        simpa using h3
    · simp only [bP_neg h2, if_neg (show ¬ (false = true) by decide)]
      rw [bP_neg (fun h => h.elim (fun h => h2 h.2.2) (fun h => by have := h.1; omega))]
      exact Ev.now _
  · simp only [if_neg h1]
    by_cases h2 : a = 2
    · simp only [if_pos h2]
      exact Ev_eq (implMsgOk_l t a b hl t.size 0 (by omega)) (bP_congr ⟨fun h => .inr ⟨h2, h.2.1, h.2.2, h.1⟩, fun h => h.elim (fun h => absurd h.1 h1) (fun h => ⟨h.2.2.2, h.2.1, h.2.2.1⟩)⟩)
    · simp only [if_neg h2]
      rw [bP_neg (fun h => h.elim (fun h => h1 h.1) (fun h => h2 h.1))]
      exact Ev.now _
theorem and255 (x : Int) : 0 ≤ Go.bits .and .i64 x 255 ∧ Go.bits .and .i64 x 255 ≤ 255 := by
  have h : (BitVec.ofInt IntKind.i64.bits x &&& BitVec.ofInt IntKind.i64.bits 255).toNat ≤ 255 := by
    rw [BitVec.toNat_and]
    exact Nat.le_trans Nat.and_le_right (by decide)
  unfold Go.bits
  dsimp only
  generalize (BitVec.ofInt IntKind.i64.bits x &&& BitVec.ofInt IntKind.i64.bits 255).toNat = n at h
  have e : IntKind.wrap .i64 (n : Int) = n := by
    unfold IntKind.wrap
    simp only [IntKind.bits, IntKind.signed]
    first | omega | (split <;> omega) | (simp; omega)
  rw [e]
  omega
theorem l1Byte_ex (s : List Int) (i x : Int) (hs : s.length ≤ 4611686018427387904) (h0 : 0 ≤ i) : ∃ b i' x', spec_l1Byte.f s i x = some (b, i', x') ∧ (0 ≤ b ∧ b ≤ 255) ∧ 0 ≤ i' := by
  simp only [spec_l1Byte.f]
  by_cases h : i < (s.length : Int)
  · rw [if_pos h, if_pos h0]
    exact ⟨_, _, _, rfl, and255 _, by rw [w64 (by omega) (by omega)]; omega⟩
  · rw [if_neg h]
    exact ⟨_, _, _, rfl, and255 _, h0⟩
theorem l1Below_ex (s : List Int) (i x a : Int) (hs : s.length ≤ 4611686018427387904) (h0 : 0 ≤ i) : ∃ r i' x', spec_l1Below.f s i x a = some (r, i', x') ∧ 0 ≤ r ∧ (0 < a → r < a) ∧ (a ≤ 0 → r = 0) ∧ 0 ≤ i' := by
  simp only [spec_l1Below.f]
  by_cases h : a ≤ 0
  · rw [if_pos h]
    exact ⟨0, i, x, rfl, by omega, by omega, fun _ => rfl, h0⟩
  · rw [if_neg h]
    by_cases h2 : a ≤ 256
    · rw [if_pos h2]
      obtain ⟨b, i1, x1, e1, hb, h1⟩ := l1Byte_ex s i x hs h0
      simp only [e1, Option.bind_some, if_neg (show ¬ a = 0 by omega)]
      exact ⟨_, _, _, rfl, Int.tmod_nonneg _ hb.1, fun hp => Int.tmod_lt_of_pos _ hp, fun hn => absurd hn h, h1⟩
    · rw [if_neg h2]
      obtain ⟨b1, i1, x1, e1, hb1, h1⟩ := l1Byte_ex s i x hs h0
      obtain ⟨b2, i2, x2, e2, hb2, h2'⟩ := l1Byte_ex s i1 x1 hs h1
      obtain ⟨b3, i3, x3, e3, hb3, h3⟩ := l1Byte_ex s i2 x2 hs h2'
      obtain ⟨b4, i4, x4, e4, hb4, h4⟩ := l1Byte_ex s i3 x3 hs h3
      simp only [e1, e2, e3, e4, Option.bind_some, if_neg (show ¬ a = 0 by omega), w64 (show -9223372036854775808 ≤ b1 * 16777216 by omega) (show b1 * 16777216 ≤ 9223372036854775807 by omega), w64 (show -9223372036854775808 ≤ b2 * 65536 by omega) (show b2 * 65536 ≤ 9223372036854775807 by omega), w64 (show -9223372036854775808 ≤ b3 * 256 by omega) (show b3 * 256 ≤ 9223372036854775807 by omega), w64 (show -9223372036854775808 ≤ b1 * 16777216 + b2 * 65536 by omega) (show b1 * 16777216 + b2 * 65536 ≤ 9223372036854775807 by omega), w64 (show -9223372036854775808 ≤ b1 * 16777216 + b2 * 65536 + b3 * 256 by omega) (show b1 * 16777216 + b2 * 65536 + b3 * 256 ≤ 9223372036854775807 by omega), w64 (show -9223372036854775808 ≤ b1 * 16777216 + b2 * 65536 + b3 * 256 + b4 by omega) (show b1 * 16777216 + b2 * 65536 + b3 * 256 + b4 ≤ 9223372036854775807 by omega)]
      exact ⟨_, _, _, rfl, Int.tmod_nonneg _ (by omega), fun hp => Int.tmod_lt_of_pos _ hp, fun hn => absurd hn h, h4⟩
theorem l1Once_ex (s : List Int) (i x a : Int) (hs : s.length ≤ 4611686018427387904) (h0 : 0 ≤ i) : ∃ b i' x', spec_l1Once.f s i x a = some (b, i', x') ∧ 0 ≤ i' := by
  obtain ⟨r, i', x', e, _, _, _, h⟩ := l1Below_ex s i x a hs h0
  simp only [spec_l1Once.f, e, Option.bind_some]
  exact ⟨_, _, _, rfl, h⟩
theorem l1PickInt_ex (s : List Int) (i x : Int) (l : List Int) (hs : s.length ≤ 4611686018427387904) (h0 : 0 ≤ i) (hl : 0 < l.length) : ∃ r i' x', spec_l1PickInt.f s i x l = some (r, i', x') ∧ r ∈ l ∧ 0 ≤ i' := by
  obtain ⟨r, i', x', e, h1, h2, _, h⟩ := l1Below_ex s i x (l.length : Int) hs h0
  have h3 := h2 (by omega)
  simp only [spec_l1PickInt.f, e, Option.bind_some, if_pos h1, if_pos h3]
  refine ⟨_, _, _, rfl, ?_, h⟩
  unfold rd
  rw [List.getD_eq_getElem?_getD, List.getElem?_eq_getElem (by omega)]
  exact List.getElem_mem _
theorem l1New_l (s : List Int) (hs : s.length ≤ 4611686018427387904) : ∀ d n : Nat, n + d = 4001 → ∀ x : Int, ∃ x' : Int, Ev (fun k => spec_l1New.l0 k s x n) (s, 0, x')
  | 0, n, hn, x => by
    refine ⟨x, Ev.step (fun _ => rfl) ?_⟩
    simp only [spec_l1New.l0]
    by_cases h : (n : Int) < (s.length : Int)
    · simp only [if_pos h, if_neg (show ¬ (n : Int) < 4000 by omega)]
      exact Ev.now _
    · simp only [if_neg h]
      exact Ev.now _
  | d + 1, n, hn, x => by
    by_cases h : (n : Int) < (s.length : Int)
    · by_cases h2 : (n : Int) < 4000
      · obtain ⟨x', h3⟩ := l1New_l s hs d (n + 1) (by omega) (Go.bits .and .i64 (wrap64 ((wrap64 ((wrap64 (x * 131)) + (wrap64 (rd s n)))) + 7)) 1073741823)
        refine ⟨x', Ev.step (fun _ => rfl) ?_⟩
        simp only [spec_l1New.l0, if_pos h, if_pos h2, if_pos (show (0 : Int) ≤ (n : Int) by omega), w64n (show n < s.length by omega) (show s.length ≤ 9223372036854775807 by omega)]
        exact h3
      · refine ⟨x, Ev.step (fun _ => rfl) ?_⟩
        simp only [spec_l1New.l0, if_pos h, if_neg h2]
        exact Ev.now _
    · refine ⟨x, Ev.step (fun _ => rfl) ?_⟩
      simp only [spec_l1New.l0, if_neg h]
      exact Ev.now _
theorem l1New_ev (s : List Int) (hs : s.length ≤ 4611686018427387904) : ∃ x' : Int, Ev (fun k => spec_l1New.f k s) (s, 0, x') := by
  simp only [spec_l1New.f]
  exact l1New_l s hs 4001 0 (by omega) _
theorem l1Pick_ex (s : List Int) (i x : Int) (l : List ByteArray) (hs : s.length ≤ 4611686018427387904) (h0 : 0 ≤ i) (hl : 0 < l.length) : ∃ r i' x', spec_l1Pick.f s i x l = some (r, i', x') ∧ r ∈ l ∧ 0 ≤ i' := by
  obtain ⟨r, i', x', e, h1, h2, _, h⟩ := l1Below_ex s i x (l.length : Int) hs h0
  have h3 := h2 (by omega)
  simp only [spec_l1Pick.f, e, Option.bind_some, if_pos h1, if_pos h3]
  refine ⟨_, _, _, rfl, ?_, h⟩
  unfold rdOf
  rw [List.getD_eq_getElem?_getD, List.getElem?_eq_getElem (by omega)]
  exact List.getElem_mem _
theorem l1Msg_ex (s : List Int) (i x : Int) (hs : s.length ≤ 4611686018427387904) (h0 : 0 ≤ i) : ∃ k n t i' x', spec_l1Msg.f s i x = some (k, n, t, i', x') ∧ t.size ≤ 40 ∧ 0 ≤ i' := by
  obtain ⟨b, i1, x1, e1, h1⟩ := l1Once_ex s i x 3 hs h0
  simp only [spec_l1Msg.f, e1, Option.bind_some]
  cases b
  · obtain ⟨r, i2, x2, e2, _, _, _, h2⟩ := l1Below_ex s i1 x1 40 hs h1
    obtain ⟨b, i3, x3, e3, h3⟩ := l1Once_ex s i2 x2 12 hs h2
    simp only [if_neg (show ¬ (false = true) by decide), e2, Option.bind_some, e3]
    cases b
    · simp only [if_neg (show ¬ (false = true) by decide)]
      exact ⟨_, _, _, _, _, rfl, Nat.zero_le _, h3⟩
    · obtain ⟨r, i4, x4, e4, _, h4⟩ := l1PickInt_ex s i3 x3 [999999999, -999999999, 999999998] hs h3 (by simp)
      simp only [if_true, e4, Option.bind_some]
      exact ⟨_, _, _, _, _, rfl, Nat.zero_le _, h4⟩
  · simp only [if_true]
    generalize hq : ([(⟨#[]⟩ : ByteArray), (⟨#[97]⟩ : ByteArray), (⟨#[97, 98]⟩ : ByteArray), (⟨#[97, 98, 99]⟩ : ByteArray), (⟨#[98]⟩ : ByteArray), (⟨#[104, 101, 108, 108, 111]⟩ : ByteArray), (⟨#[120, 32, 121]⟩ : ByteArray), (⟨#[48, 49, 50, 51, 52, 53, 54, 55, 56, 57, 48, 49, 50, 51, 52, 53, 54, 55, 56, 57, 48, 49, 50, 51, 52, 53, 54, 55, 56, 57, 48, 49, 50, 51, 52, 53, 54, 55, 56, 57]⟩ : ByteArray)] : List ByteArray) = q
    have hz : ∀ y ∈ q, y.size ≤ 40 := by
      rw [← hq]
      decide
    obtain ⟨r, i2, x2, e2, hr, h2⟩ := l1Pick_ex s i1 x1 q hs h1 (by rw [← hq]; simp)
    simp only [e2, Option.bind_some]
    exact ⟨_, _, _, _, _, rfl, hz _ hr, h2⟩
theorem l1AnyMsg_ex (s : List Int) (i x : Int) (hs : s.length ≤ 4611686018427387904) (h0 : 0 ≤ i) : ∃ k n t i' x', spec_l1AnyMsg.f s i x = some (k, n, t, i', x') ∧ t.size ≤ 100 ∧ 0 ≤ i' := by
  obtain ⟨k, n, t, i1, x1, e1, ht, h1⟩ := l1Msg_ex s i x hs h0
  obtain ⟨b, i2, x2, e2, h2⟩ := l1Once_ex s i1 x1 6 hs h1
  simp only [spec_l1AnyMsg.f, e1, Option.bind_some, e2]
  cases b
  · simp only [if_neg (show ¬ (false = true) by decide)]
    exact ⟨_, _, _, _, _, rfl, by omega, h2⟩
  · obtain ⟨r, i3, x3, e3, _, _, _, h3⟩ := l1Below_ex s i2 x2 5 hs h2
    simp only [if_true, e3, Option.bind_some]
    by_cases c0 : r = 0
    · obtain ⟨r4, i4, x4, e4, _, _, _, h4⟩ := l1Below_ex s i3 x3 5 hs h3
      simp only [if_pos c0, e4, Option.bind_some]
      exact ⟨_, _, _, _, _, rfl, by omega, h4⟩
    · simp only [if_neg c0]
      by_cases c1 : r = 1
      · obtain ⟨r4, i4, x4, e4, _, h4⟩ := l1PickInt_ex s i3 x3 [1000000000, -1000000000, 1] hs h3 (by simp)
        simp only [if_pos c1, e4, Option.bind_some]
        exact ⟨_, _, _, _, _, rfl, by omega, h4⟩
      · simp only [if_neg c1]
        by_cases c2 : r = 2
        · simp only [if_pos c2, if_pos (show t.size + 1 ≤ 9223372036854775807 by omega)]
          exact ⟨_, _, _, _, _, rfl, by rw [ByteArray.size_append]; show t.size + 1 ≤ 100; omega, h3⟩
        · simp only [if_neg c2]
          by_cases c3 : r = 3
          · simp only [if_pos c3, if_pos (show t.size + 1 ≤ 9223372036854775807 by omega)]
            exact ⟨_, _, _, _, _, rfl, by rw [ByteArray.size_append]; show t.size + 1 ≤ 100; omega, h3⟩
          · simp only [if_neg c3]
            exact ⟨_, _, _, _, _, rfl, by decide, h3⟩
theorem cmpB_lt : ∀ (x y : List UInt8), decide (Lib.compareBytes x y < 0) = Op.bytesLess x y
  | [], [] => by simp [Lib.compareBytes, Op.bytesLess]
  | [], _ :: _ => by simp [Lib.compareBytes, Op.bytesLess]
  | _ :: _, [] => by simp [Lib.compareBytes, Op.bytesLess]
  | a :: x, b :: y => by
    have ih := cmpB_lt x y
    simp only [Lib.compareBytes, Op.bytesLess]
    by_cases h1 : a < b
    · simp [h1]
    · by_cases h2 : b < a
      · have h3 : ¬ a = b := fun e => by subst e; exact h1 h2
        simp [h1, h2, h3]
      · have h3 : a = b := UInt8.le_antisymm (UInt8.not_lt.1 h2) (UInt8.not_lt.1 h1)
        subst h3
        simp [h1, ih]
theorem strCmp_eq (a b : ByteArray) : (strings_Compare.f a b).bind (fun t => some (decide (t < 0))) = some (Op.bytesLess a.toList b.toList) := by
  have e : ∀ x : ByteArray, x.toList = x.data.toList := fun x => by first | exact Lib.toList_data x | exact ByteArray.toList_eq x | exact (Lib.toList_data x).symm
  simp only [strings_Compare.f, bytealg_CompareString.f, Option.bind_some, e, cmpB_lt]
theorem cmpInt_eq (a b : Int) : cmp_Compare_int.f a b = some (if a < b then -1 else if a > b then 1 else 0) := by
  simp only [cmp_Compare_int.f, cmp_isNaN_int.f, Option.bind_some, bne_self_eq_false, if_neg (show ¬ (false = true) by decide)]
  by_cases h1 : a < b
  · simp only [if_pos h1]
  · simp only [if_neg h1]
    by_cases h2 : a > b
    · simp only [if_pos h2]
    · simp only [if_neg h2]
def msgLess (k n : Int) (t : ByteArray) (k' n' : Int) (t' : ByteArray) : Prop := msgOk k n t ∧ msgOk k' n' t' ∧ (if k = k' then (if k = 1 then n < n' else Op.bytesLess t.toList t'.toList = true) else k < k')
theorem bP_eta (b : Bool) : b = bP (b = true) := by
  cases b
  · rw [bP_neg (by decide)]
  · rw [bP_pos rfl]
theorem specMsgLess_ev (k n : Int) (t : ByteArray) (k' n' : Int) (t' : ByteArray) (h0 : t.size ≤ 9223372036854775807) (h1 : t'.size ≤ 9223372036854775807) : Ev (fun q => spec_MsgLess.f q k n t k' n' t') (bP (msgLess k n t k' n' t')) := by
  simp only [spec_MsgLess.f]
  refine Ev.bind (specMsgOk_ev k n t h0) ?_
  by_cases h2 : msgOk k n t
  · simp only [bP_pos h2, if_true]
    refine Ev.bind (specMsgOk_ev k' n' t' h1) ?_
    refine Ev.step (fun _ => rfl) ?_
    by_cases h3 : msgOk k' n' t'
    · simp only [bP_pos h3, spec_MsgLess.j0, Bool.not_true, if_neg (show ¬ (false = true) by decide)]
      rw [bP_congr (show msgLess k n t k' n' t' ↔ (if k = k' then (if k = 1 then n < n' else Op.bytesLess t.toList t'.toList = true) else k < k') from ⟨fun h => h.2.2, fun h => ⟨h2, h3, h⟩⟩)]
      by_cases h4 : k = k'
      · simp only [if_pos h4]
        by_cases h5 : k = 1
        · simp only [if_pos h5]
          exact Ev_eq (Ev.now _) (bP_dec _)
        · simp only [if_neg h5]
          exact Ev_eq (Ev.now _) (bP_eta _)
      · simp only [if_neg h4]
        exact Ev_eq (Ev.now _) (bP_dec _)
    · simp only [bP_neg h3, spec_MsgLess.j0, Bool.not_false, if_true]
      rw [bP_neg (fun h => h3 h.2.1)]
      exact Ev.now _
  · simp only [bP_neg h2, if_neg (show ¬ (false = true) by decide)]
    refine Ev.step (fun _ => rfl) ?_
    simp only [spec_MsgLess.j0, if_true]
    rw [bP_neg (fun h => h2 h.1)]
    exact Ev.now _
theorem bl_asymm : ∀ x y : List UInt8, Op.bytesLess x y = true → Op.bytesLess y x = true → False
  | [], [] => by simp [Op.bytesLess]
  | [], _ :: _ => by simp [Op.bytesLess]
  | _ :: _, [] => by simp [Op.bytesLess]
  | a :: x, b :: y => by
    have ih := bl_asymm x y
    simp only [Op.bytesLess, Bool.or_eq_true, Bool.and_eq_true, decide_eq_true_eq, beq_iff_eq]
    intro h1 h2
    rcases h1 with h1 | ⟨e, h1⟩
    · rcases h2 with h2 | ⟨e, h2⟩
      · exact absurd h1 (UInt8.not_lt.2 (UInt8.le_of_lt h2))
      · subst e; exact UInt8.lt_irrefl _ h1
    · subst e
      rcases h2 with h2 | ⟨_, h2⟩
      · exact UInt8.lt_irrefl _ h2
      · exact ih h1 h2
theorem bl_total : ∀ x y : List UInt8, ¬ Op.bytesLess x y = true → ¬ Op.bytesLess y x = true → x = y
  | [], [] => by simp
  | [], _ :: _ => by simp [Op.bytesLess]
  | _ :: _, [] => by simp [Op.bytesLess]
  | a :: x, b :: y => by
    have ih := bl_total x y
    simp only [Op.bytesLess, Bool.or_eq_true, Bool.and_eq_true, decide_eq_true_eq, beq_iff_eq, not_or, not_and]
    rintro ⟨h1, h2⟩ ⟨h3, h4⟩
    have e : a = b := UInt8.le_antisymm (UInt8.not_lt.1 h3) (UInt8.not_lt.1 h1)
    subst e
    rw [ih (h2 rfl) (h4 rfl)]
theorem ba_inj {a b : ByteArray} (h : a.toList = b.toList) : a = b := by
  have e : ∀ x : ByteArray, x.toList = x.data.toList := fun x => by first | exact Lib.toList_data x | exact ByteArray.toList_eq x | exact (Lib.toList_data x).symm
  rw [e, e] at h
  cases a; cases b
  simp only [ByteArray.mk.injEq]
  exact Array.toList_inj.1 h
theorem ba_nil : (⟨#[]⟩ : ByteArray).toList = [] := by
  have e : ∀ x : ByteArray, x.toList = x.data.toList := fun x => by first | exact Lib.toList_data x | exact ByteArray.toList_eq x | exact (Lib.toList_data x).symm
  rw [e]
theorem msgLess_asymm {k n : Int} {t : ByteArray} {k' n' : Int} {t' : ByteArray} (h : msgLess k n t k' n' t') : ¬ msgLess k' n' t' k n t := by
  intro h'
  have a := h.2.2
  have b := h'.2.2
  by_cases e : k = k'
  · rw [if_pos e] at a
    rw [if_pos e.symm] at b
    by_cases e1 : k = 1
    · rw [if_pos e1] at a
      rw [if_pos (e ▸ e1)] at b
      omega
    · rw [if_neg e1] at a
      rw [if_neg (e ▸ e1)] at b
      exact bl_asymm _ _ a b
  · rw [if_neg e] at a
    rw [if_neg (fun e' => e e'.symm)] at b
    omega
theorem msgLess_total {k n : Int} {t : ByteArray} {k' n' : Int} {t' : ByteArray} (h1 : msgOk k n t) (h2 : msgOk k' n' t') (h3 : ¬ msgLess k n t k' n' t') (h4 : ¬ msgLess k' n' t' k n t) : k = k' ∧ n = n' ∧ t = t' := by
  have a : ¬ (if k = k' then (if k = 1 then n < n' else Op.bytesLess t.toList t'.toList = true) else k < k') := fun h => h3 ⟨h1, h2, h⟩
  have b : ¬ (if k' = k then (if k' = 1 then n' < n else Op.bytesLess t'.toList t.toList = true) else k' < k) := fun h => h4 ⟨h2, h1, h⟩
  by_cases e : k = k'
  · rw [if_pos e] at a
    rw [if_pos e.symm] at b
    subst e
    by_cases e1 : k = 1
    · rw [if_pos e1] at a
      rw [if_pos e1] at b
      have e2 : t.toList = [] := h1.elim (fun h => h.2.1) (fun h => by have := h.1; omega)
      have e3 : t'.toList = [] := h2.elim (fun h => h.2.1) (fun h => by have := h.1; omega)
      exact ⟨rfl, by omega, ba_inj (e2.trans e3.symm)⟩
    · rw [if_neg e1] at a
      rw [if_neg e1] at b
      have e2 : n = 0 := h1.elim (fun h => absurd h.1 e1) (fun h => h.2.1)
      have e3 : n' = 0 := h2.elim (fun h => absurd h.1 e1) (fun h => h.2.1)
      exact ⟨rfl, e2.trans e3.symm, ba_inj (bl_total _ _ a b)⟩
  · rw [if_neg e] at a
    rw [if_neg (fun e' => e e'.symm)] at b
    omega
theorem implMsgLess_ev (k n : Int) (t : ByteArray) (k' n' : Int) (t' : ByteArray) (h0 : t.size ≤ 9223372036854775807) (h1 : t'.size ≤ 9223372036854775807) : Ev (fun q => impl_MsgLess.f q k n t k' n' t') (bP (msgLess k n t k' n' t')) := by
  simp only [impl_MsgLess.f]
  refine Ev.bind (implMsgOk_ev k n t h0) ?_
  by_cases h2 : msgOk k n t
  · simp only [bP_pos h2, if_true]
    refine Ev.bind (implMsgOk_ev k' n' t' h1) ?_
    refine Ev.step (fun _ => rfl) ?_
    by_cases h3 : msgOk k' n' t'
    · simp only [bP_pos h3, impl_MsgLess.j0, Bool.not_true, if_neg (show ¬ (false = true) by decide), cmpInt_eq, Option.bind_some, strCmp_eq]
      rw [bP_congr (show msgLess k n t k' n' t' ↔ (if k = k' then (if k = 1 then n < n' else Op.bytesLess t.toList t'.toList = true) else k < k') from ⟨fun h => h.2.2, fun h => ⟨h2, h3, h⟩⟩)]
      by_cases h4 : k = k'
      · simp only [if_pos h4, if_neg (show ¬ k < k' by omega), if_neg (show ¬ k > k' by omega), if_true]
        by_cases h5 : n = n'
        · simp only [if_neg (show ¬ n < n' by omega), if_neg (show ¬ n > n' by omega), if_true]
          refine Ev_eq (Ev.now _) ?_
          by_cases h6 : k = 1
          · rw [if_pos h6]
            have e1 : t.toList = [] := h2.elim (fun h => h.2.1) (fun h => by have := h.1; omega)
            have e2 : t'.toList = [] := h3.elim (fun h => h.2.1) (fun h => by have := h.1; omega)
            rw [e1, e2, bP_neg (show ¬ n < n' by omega)]
            rfl
          · rw [if_neg h6]
            exact bP_eta _
        · have h6 : k = 1 := h2.elim (fun h => h.1) (fun h => by have := h.2.1; exact h3.elim (fun h' => by have := h'.1; omega) (fun h' => by have := h'.2.1; omega))
          rw [if_pos h6]
          by_cases h7 : n < n'
          · simp only [if_pos h7, if_neg (show ¬ (-1 : Int) = 0 by decide)]
            refine Ev_eq (Ev.now _) ?_
            rw [bP_pos h7]
            rfl
          · simp only [if_neg h7, if_pos (show n > n' by omega), if_neg (show ¬ (1 : Int) = 0 by decide)]
            refine Ev_eq (Ev.now _) ?_
            rw [bP_neg h7]
            rfl
      · rw [if_neg h4]
        by_cases h7 : k < k'
        · simp only [if_pos h7, if_neg (show ¬ (-1 : Int) = 0 by decide)]
          refine Ev_eq (Ev.now _) ?_
          rw [bP_pos h7]
          rfl
        · simp only [if_neg h7, if_pos (show k > k' by omega), if_neg (show ¬ (1 : Int) = 0 by decide)]
          refine Ev_eq (Ev.now _) ?_
          rw [bP_neg h7]
          rfl
    · simp only [bP_neg h3, impl_MsgLess.j0, Bool.not_false, if_true]
      rw [bP_neg (fun h => h3 h.2.1)]
      exact Ev.now _
  · simp only [bP_neg h2, if_neg (show ¬ (false = true) by decide)]
    refine Ev.step (fun _ => rfl) ?_
    simp only [impl_MsgLess.j0, if_true]
    rw [bP_neg (fun h => h2 h.1)]
    exact Ev.now _
noncomputable def retM (k n : Int) (t : ByteArray) : Int × Int × ByteArray × Bool := if bP (msgOk k n t) = true then (k, n, t, true) else (0, 0, ⟨#[]⟩, false)
theorem retM_size (k n : Int) (t : ByteArray) : (retM k n t).2.2.1.size ≤ t.size := by
  unfold retM
  split
  · exact Nat.le_refl _
  · exact Nat.zero_le _
theorem specRet (k n : Int) (t : ByteArray) (ht : t.size ≤ 9223372036854775807) : Ev (fun q => (spec_MsgOk.f q k n t).bind fun x => if x = true then some (k, n, t, true) else some ((0 : Int), (0 : Int), (⟨#[]⟩ : ByteArray), false)) (retM k n t) := by
  show Ev _ (if bP (msgOk k n t) = true then (k, n, t, true) else (0, 0, ⟨#[]⟩, false))
  refine Ev.bind (specMsgOk_ev k n t ht) ?_
  by_cases h : msgOk k n t
  · simp only [bP_pos h, if_true]
    exact Ev.now _
  · simp only [bP_neg h, if_neg (show ¬ (false = true) by decide)]
    exact Ev.now _
theorem implRet (k n : Int) (t : ByteArray) (ht : t.size ≤ 9223372036854775807) : Ev (fun q => (impl_MsgOk.f q k n t).bind fun x => if x = true then some (k, n, t, true) else some ((0 : Int), (0 : Int), (⟨#[]⟩ : ByteArray), false)) (retM k n t) := by
  show Ev _ (if bP (msgOk k n t) = true then (k, n, t, true) else (0, 0, ⟨#[]⟩, false))
  refine Ev.bind (implMsgOk_ev k n t ht) ?_
  by_cases h : msgOk k n t
  · simp only [bP_pos h, if_true]
    exact Ev.now _
  · simp only [bP_neg h, if_neg (show ¬ (false = true) by decide)]
    exact Ev.now _
theorem ba_append (s t : ByteArray) : (s ++ t).size = s.size + t.size := by simp
theorem both_Changed (k n : Int) (t : ByteArray) (o k' n' : Int) (t' : ByteArray) (ht : t.size ≤ 1048577) (ht' : t'.size ≤ 1048577) : ∃ r_ : Int × Int × ByteArray × Bool, Ev (fun q => spec_Changed.f q k n t o k' n' t') r_ ∧ Ev (fun q => impl_Changed.f q k n t o k' n' t') r_ ∧ r_.2.2.1.size ≤ 2097154 := by
  have hbad : ∀ x : Bool, x = true → Ev (fun q => spec_Changed.j0 q x k n t o k' n' t' k' n' t') (0, 0, ⟨#[]⟩, false) ∧ Ev (fun q => impl_Changed.j0 q x k n t o k' n' t') (0, 0, ⟨#[]⟩, false) := by
    intro x hx
    subst hx
    constructor
    · refine Ev.step (fun _ => rfl) ?_
      simp only [spec_Changed.j0, if_true]
      exact Ev.now _
    · refine Ev.step (fun _ => rfl) ?_
      simp only [impl_Changed.j0, if_true]
      exact Ev.now _
  by_cases h1 : msgOk k n t
  · by_cases h2 : msgOk k' n' t'
    · have key : ∃ r_ : Int × Int × ByteArray × Bool, Ev (fun q => spec_Changed.j0 q false k n t o k' n' t' k' n' t') r_ ∧ Ev (fun q => impl_Changed.j0 q false k n t o k' n' t') r_ ∧ r_.2.2.1.size ≤ 2097154 := by
        by_cases o1 : o = 1
        · refine ⟨retM k' n' t', Ev.step (fun _ => rfl) ?_, Ev.step (fun _ => rfl) ?_, Nat.le_trans (retM_size _ _ _) (by omega)⟩
          · simp only [spec_Changed.j0, if_neg (show ¬ (false = true) by decide), if_pos o1]
            exact specRet k' n' t' (by omega)
          · simp only [impl_Changed.j0, if_neg (show ¬ (false = true) by decide), if_pos o1]
            exact implRet k' n' t' (by omega)
        · by_cases o2 : o = 2
          · by_cases kk : k = 1
            · by_cases kk' : k' = 1
              · have e3 : t' = ⟨#[]⟩ := ba_inj (by have : t'.toList = [] := h2.elim (fun h => h.2.1) (fun h => by have := h.1; omega); rw [this, ba_nil])
                refine ⟨retM 1 (wrap64 (n + n')) t', Ev.step (fun _ => rfl) ?_, Ev.step (fun _ => rfl) ?_, Nat.le_trans (retM_size _ _ _) (by omega)⟩
                · simp only [spec_Changed.j0, if_neg (show ¬ (false = true) by decide), if_neg o1, if_pos o2, if_pos kk]
                  refine Ev.step (fun _ => rfl) ?_
                  simp only [spec_Changed.j1, kk', bne_self_eq_false, if_neg (show ¬ (false = true) by decide)]
                  exact specRet 1 (wrap64 (n + n')) t' (by omega)
                · simp only [impl_Changed.j0, if_neg (show ¬ (false = true) by decide), if_neg o1, if_pos o2, if_pos kk]
                  refine Ev.step (fun _ => rfl) ?_
                  simp only [impl_Changed.j1, kk', bne_self_eq_false, if_neg (show ¬ (false = true) by decide)]
                  rw [e3]
                  exact implRet 1 (wrap64 (n + n')) ⟨#[]⟩ (Nat.zero_le _)
              · refine ⟨(0, 0, ⟨#[]⟩, false), Ev.step (fun _ => rfl) ?_, Ev.step (fun _ => rfl) ?_, Nat.zero_le _⟩
                · simp only [spec_Changed.j0, if_neg (show ¬ (false = true) by decide), if_neg o1, if_pos o2, if_pos kk]
                  refine Ev.step (fun _ => rfl) ?_
                  simp only [spec_Changed.j1, if_pos (show (k' != 1) = true by simpa using kk')]
                  exact Ev.now _
                · simp only [impl_Changed.j0, if_neg (show ¬ (false = true) by decide), if_neg o1, if_pos o2, if_pos kk]
                  refine Ev.step (fun _ => rfl) ?_
                  simp only [impl_Changed.j1, if_pos (show (k' != 1) = true by simpa using kk')]
                  exact Ev.now _
            · refine ⟨(0, 0, ⟨#[]⟩, false), Ev.step (fun _ => rfl) ?_, Ev.step (fun _ => rfl) ?_, Nat.zero_le _⟩
              · simp only [spec_Changed.j0, if_neg (show ¬ (false = true) by decide), if_neg o1, if_pos o2, if_neg kk]
                refine Ev.step (fun _ => rfl) ?_
                simp only [spec_Changed.j1, if_true]
                exact Ev.now _
              · simp only [impl_Changed.j0, if_neg (show ¬ (false = true) by decide), if_neg o1, if_pos o2, if_neg kk]
                refine Ev.step (fun _ => rfl) ?_
                simp only [impl_Changed.j1, if_true]
                exact Ev.now _
          · by_cases o3 : o = 3
            · have hs : t.size + t'.size ≤ 9223372036854775807 := by omega
              have ha := ba_append t t'
              by_cases kk : k = 2
              · by_cases kk' : k' = 2
                · have e3 : n' = 0 := h2.elim (fun h => by have := h.1; omega) (fun h => h.2.1)
                  refine ⟨retM 2 n' (t ++ t'), Ev.step (fun _ => rfl) ?_, Ev.step (fun _ => rfl) ?_, Nat.le_trans (retM_size _ _ _) (by omega)⟩
                  · simp only [spec_Changed.j0, if_neg (show ¬ (false = true) by decide), if_neg o1, if_neg o2, if_pos o3, if_pos kk]
                    refine Ev.step (fun _ => rfl) ?_
                    simp only [spec_Changed.j2, kk', bne_self_eq_false, if_neg (show ¬ (false = true) by decide), if_pos hs]
                    exact specRet 2 n' (t ++ t') (by omega)
                  · simp only [impl_Changed.j0, if_neg (show ¬ (false = true) by decide), if_neg o1, if_neg o2, if_pos o3, if_pos kk, if_pos hs]
                    refine Ev.step (fun _ => rfl) ?_
                    simp only [impl_Changed.j2, kk', bne_self_eq_false, if_neg (show ¬ (false = true) by decide)]
                    rw [e3]
                    exact implRet 2 0 (t ++ t') (by omega)
                · refine ⟨(0, 0, ⟨#[]⟩, false), Ev.step (fun _ => rfl) ?_, Ev.step (fun _ => rfl) ?_, Nat.zero_le _⟩
                  · simp only [spec_Changed.j0, if_neg (show ¬ (false = true) by decide), if_neg o1, if_neg o2, if_pos o3, if_pos kk]
                    refine Ev.step (fun _ => rfl) ?_
                    simp only [spec_Changed.j2, if_pos (show (k' != 2) = true by simpa using kk')]
                    exact Ev.now _
                  · simp only [impl_Changed.j0, if_neg (show ¬ (false = true) by decide), if_neg o1, if_neg o2, if_pos o3, if_pos kk, if_pos hs]
                    refine Ev.step (fun _ => rfl) ?_
                    simp only [impl_Changed.j2, if_pos (show (k' != 2) = true by simpa using kk')]
                    exact Ev.now _
              · refine ⟨(0, 0, ⟨#[]⟩, false), Ev.step (fun _ => rfl) ?_, Ev.step (fun _ => rfl) ?_, Nat.zero_le _⟩
                · simp only [spec_Changed.j0, if_neg (show ¬ (false = true) by decide), if_neg o1, if_neg o2, if_pos o3, if_neg kk]
                  refine Ev.step (fun _ => rfl) ?_
                  simp only [spec_Changed.j2, if_true]
                  exact Ev.now _
                · simp only [impl_Changed.j0, if_neg (show ¬ (false = true) by decide), if_neg o1, if_neg o2, if_pos o3, if_neg kk, if_pos hs]
                  refine Ev.step (fun _ => rfl) ?_
                  simp only [impl_Changed.j2, if_true]
                  exact Ev.now _
            · by_cases o4 : o = 4
              · by_cases l1 : msgLess k n t k' n' t'
                · refine ⟨(k', n', t', true), Ev.step (fun _ => rfl) ?_, Ev.step (fun _ => rfl) ?_, by show t'.size ≤ _; omega⟩
                  · simp only [spec_Changed.j0, if_neg (show ¬ (false = true) by decide), if_neg o1, if_neg o2, if_neg o3, if_pos o4]
                    refine Ev.bind (specMsgLess_ev k' n' t' k n t (by omega) (by omega)) ?_
                    simp only [bP_neg (msgLess_asymm l1), if_neg (show ¬ (false = true) by decide)]
                    exact Ev_eq (specRet k' n' t' (by omega)) (if_pos (bP_pos h2))
                  · simp only [impl_Changed.j0, if_neg (show ¬ (false = true) by decide), if_neg o1, if_neg o2, if_neg o3, if_pos o4]
                    refine Ev.bind (implMsgLess_ev k n t k' n' t' (by omega) (by omega)) ?_
                    simp only [bP_pos l1, if_true]
                    exact Ev_eq (implRet k' n' t' (by omega)) (if_pos (bP_pos h2))
                · refine ⟨(k, n, t, true), Ev.step (fun _ => rfl) ?_, Ev.step (fun _ => rfl) ?_, by show t.size ≤ _; omega⟩
                  · simp only [spec_Changed.j0, if_neg (show ¬ (false = true) by decide), if_neg o1, if_neg o2, if_neg o3, if_pos o4]
                    refine Ev.bind (specMsgLess_ev k' n' t' k n t (by omega) (by omega)) ?_
                    by_cases l2 : msgLess k' n' t' k n t
                    · simp only [bP_pos l2, if_true]
                      exact Ev_eq (specRet k n t (by omega)) (if_pos (bP_pos h1))
                    · obtain ⟨e1, e2, e3⟩ := msgLess_total h1 h2 l1 l2
                      simp only [bP_neg l2, if_neg (show ¬ (false = true) by decide)]
                      exact Ev_eq (specRet k' n' t' (by omega)) ((if_pos (bP_pos h2)).trans (by rw [e1, e2, e3]))
                  · simp only [impl_Changed.j0, if_neg (show ¬ (false = true) by decide), if_neg o1, if_neg o2, if_neg o3, if_pos o4]
                    refine Ev.bind (implMsgLess_ev k n t k' n' t' (by omega) (by omega)) ?_
                    simp only [bP_neg l1, if_neg (show ¬ (false = true) by decide)]
                    exact Ev_eq (implRet k n t (by omega)) (if_pos (bP_pos h1))
              · refine ⟨(0, 0, ⟨#[]⟩, false), Ev.step (fun _ => rfl) ?_, Ev.step (fun _ => rfl) ?_, Nat.zero_le _⟩
                · simp only [spec_Changed.j0, if_neg (show ¬ (false = true) by decide), if_neg o1, if_neg o2, if_neg o3, if_neg o4]
                  exact Ev.now _
                · simp only [impl_Changed.j0, if_neg (show ¬ (false = true) by decide), if_neg o1, if_neg o2, if_neg o3, if_neg o4]
                  exact Ev.now _
      obtain ⟨r, hs, hi, hr⟩ := key
      refine ⟨r, ?_, ?_, hr⟩
      · simp only [spec_Changed.f]
        refine Ev.bind (specMsgOk_ev k n t (by omega)) ?_
        simp only [bP_pos h1, if_true]
        refine Ev.bind (specMsgOk_ev k' n' t' (by omega)) ?_
        simp only [bP_pos h2, Bool.not_true]
        exact hs
      · simp only [impl_Changed.f]
        refine Ev.bind (implMsgOk_ev k n t (by omega)) ?_
        simp only [bP_pos h1, if_true]
        refine Ev.bind (implMsgOk_ev k' n' t' (by omega)) ?_
        simp only [bP_pos h2, Bool.not_true]
        exact hi
    · refine ⟨(0, 0, ⟨#[]⟩, false), ?_, ?_, Nat.zero_le _⟩
      · simp only [spec_Changed.f]
        refine Ev.bind (specMsgOk_ev k n t (by omega)) ?_
        simp only [bP_pos h1, if_true]
        refine Ev.bind (specMsgOk_ev k' n' t' (by omega)) ?_
        exact (hbad _ (by rw [bP_neg h2]; rfl)).1
      · simp only [impl_Changed.f]
        refine Ev.bind (implMsgOk_ev k n t (by omega)) ?_
        simp only [bP_pos h1, if_true]
        refine Ev.bind (implMsgOk_ev k' n' t' (by omega)) ?_
        exact (hbad _ (by rw [bP_neg h2]; rfl)).2
  · refine ⟨(0, 0, ⟨#[]⟩, false), ?_, ?_, Nat.zero_le _⟩
    · simp only [spec_Changed.f]
      refine Ev.bind (specMsgOk_ev k n t (by omega)) ?_
      simp only [bP_neg h1, if_neg (show ¬ (false = true) by decide)]
      exact (hbad true rfl).1
    · simp only [impl_Changed.f]
      refine Ev.bind (implMsgOk_ev k n t (by omega)) ?_
      simp only [bP_neg h1, if_neg (show ¬ (false = true) by decide)]
      exact (hbad true rfl).2
theorem bl_trans : ∀ x y z : List UInt8, Op.bytesLess x y = true → Op.bytesLess y z = true → Op.bytesLess x z = true
  | [], [], _ => by simp [Op.bytesLess]
  | [], _ :: _, [] => by simp [Op.bytesLess]
  | [], _ :: _, _ :: _ => by simp [Op.bytesLess]
  | _ :: _, [], _ => by simp [Op.bytesLess]
  | _ :: _, _ :: _, [] => by simp [Op.bytesLess]
  | a :: x, b :: y, c :: z => by
    have ih := bl_trans x y z
    simp only [Op.bytesLess, Bool.or_eq_true, Bool.and_eq_true, decide_eq_true_eq, beq_iff_eq]
    intro h1 h2
    rcases h1 with h1 | ⟨e, h1⟩
    · rcases h2 with h2 | ⟨e, h2⟩
      · exact .inl (UInt8.lt_trans h1 h2)
      · subst e; exact .inl h1
    · subst e
      rcases h2 with h2 | ⟨e, h2⟩
      · exact .inl h2
      · exact .inr ⟨e, ih h1 h2⟩
theorem msgLess_trans {k n : Int} {t : ByteArray} {k' n' : Int} {t' : ByteArray} {k2 n2 : Int} {t2 : ByteArray} (h : msgLess k n t k' n' t') (h' : msgLess k' n' t' k2 n2 t2) : msgLess k n t k2 n2 t2 := by
  refine ⟨h.1, h'.2.1, ?_⟩
  have a := h.2.2
  have b := h'.2.2
  by_cases e : k = k'
  · rw [if_pos e] at a
    subst e
    by_cases e2 : k = k2
    · rw [if_pos e2] at b ⊢
      by_cases e1 : k = 1
      · rw [if_pos e1] at a b ⊢
        omega
      · rw [if_neg e1] at a b ⊢
        exact bl_trans _ _ _ a b
    · rw [if_neg e2] at b ⊢
      exact b
  · rw [if_neg e] at a
    by_cases e2 : k' = k2
    · subst e2
      rw [if_neg e]
      exact a
    · rw [if_neg e2] at b
      rw [if_neg (by omega)]
      omega
theorem l7Change_ex (s : List Int) (i x : Int) (hs : s.length ≤ 4611686018427387904) (h0 : 0 ≤ i) : ∃ o k n t i' x', Ev (fun q => spec_l7Change.f q s i x) (o, k, n, t, i', x') ∧ t.size ≤ 100 ∧ 0 ≤ i' := by
  obtain ⟨r, i1, x1, e1, _, _, _, h1⟩ := l1Below_ex s i x 4 hs h0
  obtain ⟨k, n, t, i2, x2, e2, ht, h2⟩ := l1Msg_ex s i1 x1 hs h1
  obtain ⟨b, i3, x3, e3, h3⟩ := l1Once_ex s i2 x2 10 hs h2
  have key : ∀ (o k n : Int) (t : ByteArray) (i x : Int), t.size ≤ 100 → 0 ≤ i → ∃ o' k' n' t' i' x', Ev (fun q => spec_l7Change.j0 q s i x o k n t) (o', k', n', t', i', x') ∧ t'.size ≤ 100 ∧ 0 ≤ i' := by
    intro o k n t i x ht hi
    obtain ⟨b, i4, x4, e4, h4⟩ := l1Once_ex s i x 12 hs hi
    cases b
    · refine ⟨o, k, n, t, i4, x4, Ev.step (fun _ => rfl) ?_, ht, h4⟩
      simp only [spec_l7Change.j0, e4, Option.bind_some, if_neg (show ¬ (false = true) by decide)]
      exact Ev.now _
    · obtain ⟨r5, i5, x5, e5, _, _, _, h5⟩ := l1Below_ex s i4 x4 7 hs h4
      refine ⟨wrap64 (r5 - 1), k, n, t, i5, x5, Ev.step (fun _ => rfl) ?_, ht, h5⟩
      simp only [spec_l7Change.j0, e4, Option.bind_some, if_true, e5]
      exact Ev.now _
  cases b
  · obtain ⟨o', k', n', t', i', x', e, ht', hi'⟩ := key (wrap64 (1 + r)) k n t i3 x3 (by omega) h3
    refine ⟨o', k', n', t', i', x', ?_, ht', hi'⟩
    simp only [spec_l7Change.f, e1, Option.bind_some, e2, e3, if_neg (show ¬ (false = true) by decide)]
    exact e
  · obtain ⟨k4, n4, t4, i4, x4, e4, ht4, h4⟩ := l1AnyMsg_ex s i3 x3 hs h3
    obtain ⟨o', k', n', t', i', x', e, ht', hi'⟩ := key (wrap64 (1 + r)) k4 n4 t4 i4 x4 ht4 h4
    refine ⟨o', k', n', t', i', x', ?_, ht', hi'⟩
    simp only [spec_l7Change.f, e1, Option.bind_some, e2, e3, if_true, e4]
    exact e
theorem DrawChanged_ex (s : List Int) (hs : s.length ≤ 4611686018427387904) : ∃ k n t o k' n' t', Ev (fun q => spec_DrawChanged.f q s) (k, n, t, o, k', n', t') ∧ t.size ≤ 100 ∧ t'.size ≤ 100 := by
  obtain ⟨x0, h0⟩ := l1New_ev s hs
  obtain ⟨k, n, t, i1, x1, e1, ht, h1⟩ := l1Msg_ex s 0 x0 hs (by omega)
  obtain ⟨o, k2, n2, t2, i2, x2, e2, ht2, h2⟩ := l7Change_ex s i1 x1 hs h1
  obtain ⟨b, i3, x3, e3, h3⟩ := l1Once_ex s i2 x2 2 hs h2
  cases b
  · refine ⟨k, n, t, o, k2, n2, t2, ?_, by omega, ht2⟩
    simp only [spec_DrawChanged.f]
    refine Ev.bind h0 ?_
    simp only [e1, Option.bind_some]
    refine Ev.bind e2 ?_
    simp only [e3, Option.bind_some, if_neg (show ¬ (false = true) by decide)]
    exact Ev.now _
  · obtain ⟨k4, n4, t4, i4, x4, e4, ht4, h4⟩ := l1Msg_ex s i3 x3 hs h3
    by_cases hk : k4 = 1
    · refine ⟨k4, n, ⟨#[]⟩, o, k4, n4, t4, ?_, by decide, by omega⟩
      simp only [spec_DrawChanged.f]
      refine Ev.bind h0 ?_
      simp only [e1, Option.bind_some]
      refine Ev.bind e2 ?_
      simp only [e3, Option.bind_some, if_true, e4, if_pos hk]
      exact Ev.now _
    · refine ⟨k4, 0, t, o, k4, n4, t4, ?_, by omega, by omega⟩
      simp only [spec_DrawChanged.f]
      refine Ev.bind h0 ?_
      simp only [e1, Option.bind_some]
      refine Ev.bind e2 ?_
      simp only [e3, Option.bind_some, if_true, e4, if_neg hk]
      exact Ev.now _
theorem Ev_uniq {α : Type} {g : Nat → Option α} {r s : α} (h : Ev g r) (h' : Ev g s) : r = s := by
  obtain ⟨a, ha⟩ := h
  obtain ⟨b, hb⟩ := h'
  have h1 := ha (max a b) (Nat.le_max_left _ _)
  have h2 := hb (max a b) (Nat.le_max_right _ _)
  rw [h1] at h2
  exact Option.some.inj h2
def saysOk (r : Int × Int × ByteArray × Bool) : Prop := r.2.2.2 = true → msgOk r.1 r.2.1 r.2.2.1
theorem retM_ok (k n : Int) (t : ByteArray) : saysOk (retM k n t) := by
  unfold retM
  by_cases h : msgOk k n t
  · rw [if_pos (bP_pos h)]; exact fun _ => h
  · rw [if_neg (by rw [bP_neg h]; decide)]; exact fun e => by cases e
theorem retM_yes {k n : Int} {t : ByteArray} (h : msgOk k n t) : retM k n t = (k, n, t, true) := by
  unfold retM
  rw [if_pos (bP_pos h)]
theorem ch_none : saysOk (0, 0, ⟨#[]⟩, false) := fun e => by cases e
theorem ch_pre (k n : Int) (t : ByteArray) (o k' n' : Int) (t' : ByteArray) (ht : t.size ≤ 1000) (ht' : t'.size ≤ 1000) (r : Int × Int × ByteArray × Bool) (h1 : msgOk k n t) (h2 : msgOk k' n' t') (h : Ev (fun q => impl_Changed.j0 q false k n t o k' n' t') r) : Ev (fun q => impl_Changed.f q k n t o k' n' t') r := by
  simp only [impl_Changed.f]
  refine Ev.bind (implMsgOk_ev k n t (by omega)) ?_
  simp only [bP_pos h1, if_true]
  refine Ev.bind (implMsgOk_ev k' n' t' (by omega)) ?_
  simp only [bP_pos h2, Bool.not_true]
  exact h
theorem ch_bad (k n : Int) (t : ByteArray) (o k' n' : Int) (t' : ByteArray) (ht : t.size ≤ 1000) (ht' : t'.size ≤ 1000) (h : ¬ (msgOk k n t ∧ msgOk k' n' t')) : Ev (fun q => impl_Changed.f q k n t o k' n' t') (0, 0, ⟨#[]⟩, false) := by
  have bad : Ev (fun q => impl_Changed.j0 q true k n t o k' n' t') (0, 0, ⟨#[]⟩, false) := by
    refine Ev.step (fun _ => rfl) ?_
    simp only [impl_Changed.j0, if_true]
    exact Ev.now _
  simp only [impl_Changed.f]
  refine Ev.bind (implMsgOk_ev k n t (by omega)) ?_
  by_cases h1 : msgOk k n t
  · simp only [bP_pos h1, if_true]
    refine Ev.bind (implMsgOk_ev k' n' t' (by omega)) ?_
    simp only [bP_neg (fun e => h ⟨h1, e⟩), Bool.not_false]
    exact bad
  · simp only [bP_neg h1, if_neg (show ¬ (false = true) by decide)]
    exact bad
theorem ch_one (k n : Int) (t : ByteArray) (k' n' : Int) (t' : ByteArray) (ht : t.size ≤ 1000) (ht' : t'.size ≤ 1000) (h1 : msgOk k n t) (h2 : msgOk k' n' t') : Ev (fun q => impl_Changed.f q k n t 1 k' n' t') (k', n', t', true) := by
  refine ch_pre _ _ _ _ _ _ _ ht ht' _ h1 h2 (Ev.step (fun _ => rfl) ?_)
  simp only [impl_Changed.j0, if_neg (show ¬ (false = true) by decide), if_true]
  exact Ev_eq (implRet k' n' t' (by omega)) (retM_yes h2)
noncomputable def sum2 (k n k' n' : Int) : Int × Int × ByteArray × Bool := if k = 1 ∧ k' = 1 then retM 1 (wrap64 (n + n')) ⟨#[]⟩ else (0, 0, ⟨#[]⟩, false)
theorem ch_two (k n : Int) (t : ByteArray) (k' n' : Int) (t' : ByteArray) (ht : t.size ≤ 1000) (ht' : t'.size ≤ 1000) (h1 : msgOk k n t) (h2 : msgOk k' n' t') : Ev (fun q => impl_Changed.f q k n t 2 k' n' t') (sum2 k n k' n') := by
  refine ch_pre _ _ _ _ _ _ _ ht ht' _ h1 h2 (Ev.step (fun _ => rfl) ?_)
  simp only [impl_Changed.j0, if_neg (show ¬ (false = true) by decide), if_neg (show ¬ (2 : Int) = 1 by decide), if_true]
  by_cases hk : k = 1
  · simp only [if_pos hk]
    refine Ev.step (fun _ => rfl) ?_
    by_cases hk' : k' = 1
    · simp only [impl_Changed.j1, hk', bne_self_eq_false, if_neg (show ¬ (false = true) by decide)]
      exact Ev_eq (implRet 1 (wrap64 (n + n')) ⟨#[]⟩ (Nat.zero_le _)) (by unfold sum2; rw [if_pos ⟨hk, rfl⟩])
    · simp only [impl_Changed.j1, bne_iff_ne.mpr hk', if_true]
      exact Ev_eq (Ev.now _) (by unfold sum2; rw [if_neg (fun e => hk' e.2)])
  · simp only [if_neg hk]
    refine Ev.step (fun _ => rfl) ?_
    simp only [impl_Changed.j1, if_true]
    exact Ev_eq (Ev.now _) (by unfold sum2; rw [if_neg (fun e => hk e.1)])
theorem sum2_comm (k n k' n' : Int) : sum2 k n k' n' = sum2 k' n' k n := by
  unfold sum2
  rw [Int.add_comm n n']
  by_cases h : k = 1 ∧ k' = 1
  · rw [if_pos h, if_pos ⟨h.2, h.1⟩]
  · rw [if_neg h, if_neg (fun e => h ⟨e.2, e.1⟩)]
theorem ch_four (k n : Int) (t : ByteArray) (k' n' : Int) (t' : ByteArray) (ht : t.size ≤ 1000) (ht' : t'.size ≤ 1000) (h1 : msgOk k n t) (h2 : msgOk k' n' t') : (msgLess k n t k' n' t' → Ev (fun q => impl_Changed.f q k n t 4 k' n' t') (k', n', t', true)) ∧ (¬ msgLess k n t k' n' t' → Ev (fun q => impl_Changed.f q k n t 4 k' n' t') (k, n, t, true)) := by
  constructor
  · intro h
    refine ch_pre _ _ _ _ _ _ _ ht ht' _ h1 h2 (Ev.step (fun _ => rfl) ?_)
    simp only [impl_Changed.j0, if_neg (show ¬ (false = true) by decide), if_neg (show ¬ (4 : Int) = 1 by decide), if_neg (show ¬ (4 : Int) = 2 by decide), if_neg (show ¬ (4 : Int) = 3 by decide), if_true]
    refine Ev.bind (implMsgLess_ev _ _ _ _ _ _ (by omega) (by omega)) ?_
    simp only [bP_pos h, if_true]
    exact Ev_eq (implRet k' n' t' (by omega)) (retM_yes h2)
  · intro h
    refine ch_pre _ _ _ _ _ _ _ ht ht' _ h1 h2 (Ev.step (fun _ => rfl) ?_)
    simp only [impl_Changed.j0, if_neg (show ¬ (false = true) by decide), if_neg (show ¬ (4 : Int) = 1 by decide), if_neg (show ¬ (4 : Int) = 2 by decide), if_neg (show ¬ (4 : Int) = 3 by decide), if_true]
    refine Ev.bind (implMsgLess_ev _ _ _ _ _ _ (by omega) (by omega)) ?_
    simp only [bP_neg h, if_neg (show ¬ (false = true) by decide)]
    exact Ev_eq (implRet k n t (by omega)) (retM_yes h1)
theorem ch_says (k n : Int) (t : ByteArray) (o k' n' : Int) (t' : ByteArray) (ht : t.size ≤ 1000) (ht' : t'.size ≤ 1000) : ∃ r, Ev (fun q => impl_Changed.f q k n t o k' n' t') r ∧ saysOk r ∧ (r.2.2.2 = true → msgOk k n t ∧ msgOk k' n' t') := by
  by_cases h1 : msgOk k n t
  · by_cases h2 : msgOk k' n' t'
    · suffices h : ∃ r, Ev (fun q => impl_Changed.j0 q false k n t o k' n' t') r ∧ saysOk r by
        obtain ⟨r, hr, hs⟩ := h
        exact ⟨r, ch_pre _ _ _ _ _ _ _ ht ht' _ h1 h2 hr, hs, fun _ => ⟨h1, h2⟩⟩
      by_cases o1 : o = 1
      · refine ⟨retM k' n' t', Ev.step (fun _ => rfl) ?_, retM_ok _ _ _⟩
        simp only [impl_Changed.j0, if_neg (show ¬ (false = true) by decide), if_pos o1]
        exact implRet k' n' t' (by omega)
      by_cases o2 : o = 2
      · subst o2
        by_cases hk : k = 1 ∧ k' = 1
        · refine ⟨retM 1 (wrap64 (n + n')) ⟨#[]⟩, Ev.step (fun _ => rfl) ?_, retM_ok _ _ _⟩
          simp only [impl_Changed.j0, if_neg (show ¬ (false = true) by decide), if_neg o1, if_true, if_pos hk.1]
          refine Ev.step (fun _ => rfl) ?_
          simp only [impl_Changed.j1, hk.2, bne_self_eq_false, if_neg (show ¬ (false = true) by decide)]
          exact implRet 1 _ ⟨#[]⟩ (Nat.zero_le _)
        · refine ⟨_, Ev.step (fun _ => rfl) ?_, ch_none⟩
          simp only [impl_Changed.j0, if_neg (show ¬ (false = true) by decide), if_neg o1, if_true]
          by_cases hk1 : k = 1
          · simp only [if_pos hk1]
            refine Ev.step (fun _ => rfl) ?_
            simp only [impl_Changed.j1, bne_iff_ne.mpr (fun e => hk ⟨hk1, e⟩), if_true]
            exact Ev.now _
          · simp only [if_neg hk1]
            refine Ev.step (fun _ => rfl) ?_
            simp only [impl_Changed.j1, if_true]
            exact Ev.now _
      by_cases o3 : o = 3
      · subst o3
        by_cases hk : k = 2 ∧ k' = 2
        · refine ⟨retM 2 0 (t ++ t'), Ev.step (fun _ => rfl) ?_, retM_ok _ _ _⟩
          simp only [impl_Changed.j0, if_neg (show ¬ (false = true) by decide), if_neg o1, if_neg o2, if_true, if_pos (show t.size + t'.size ≤ 9223372036854775807 by omega), if_pos hk.1]
          refine Ev.step (fun _ => rfl) ?_
          simp only [impl_Changed.j2, hk.2, bne_self_eq_false, if_neg (show ¬ (false = true) by decide)]
          exact implRet 2 0 (t ++ t') (by rw [ba_append]; omega)
        · refine ⟨_, Ev.step (fun _ => rfl) ?_, ch_none⟩
          simp only [impl_Changed.j0, if_neg (show ¬ (false = true) by decide), if_neg o1, if_neg o2, if_true, if_pos (show t.size + t'.size ≤ 9223372036854775807 by omega)]
          by_cases hk1 : k = 2
          · simp only [if_pos hk1]
            refine Ev.step (fun _ => rfl) ?_
            simp only [impl_Changed.j2, bne_iff_ne.mpr (fun e => hk ⟨hk1, e⟩), if_true]
            exact Ev.now _
          · simp only [if_neg hk1]
            refine Ev.step (fun _ => rfl) ?_
            simp only [impl_Changed.j2, if_true]
            exact Ev.now _
      by_cases o4 : o = 4
      · subst o4
        by_cases h : msgLess k n t k' n' t'
        · refine ⟨retM k' n' t', Ev.step (fun _ => rfl) ?_, retM_ok _ _ _⟩
          simp only [impl_Changed.j0, if_neg (show ¬ (false = true) by decide), if_neg o1, if_neg o2, if_neg o3, if_true]
          refine Ev.bind (implMsgLess_ev _ _ _ _ _ _ (by omega) (by omega)) ?_
          simp only [bP_pos h, if_true]
          exact implRet k' n' t' (by omega)
        · refine ⟨retM k n t, Ev.step (fun _ => rfl) ?_, retM_ok _ _ _⟩
          simp only [impl_Changed.j0, if_neg (show ¬ (false = true) by decide), if_neg o1, if_neg o2, if_neg o3, if_true]
          refine Ev.bind (implMsgLess_ev _ _ _ _ _ _ (by omega) (by omega)) ?_
          simp only [bP_neg h, if_neg (show ¬ (false = true) by decide)]
          exact implRet k n t (by omega)
      · refine ⟨_, Ev.step (fun _ => rfl) ?_, ch_none⟩
        simp only [impl_Changed.j0, if_neg (show ¬ (false = true) by decide), if_neg o1, if_neg o2, if_neg o3, if_neg o4]
        exact Ev.now _
    · exact ⟨_, ch_bad _ _ _ _ _ _ _ ht ht' (fun e => h2 e.2), ch_none, fun e => by cases e⟩
  · exact ⟨_, ch_bad _ _ _ _ _ _ _ ht ht' (fun e => h1 e.1), ch_none, fun e => by cases e⟩
theorem chs_bad (b : Bool) (k n : Int) (t : ByteArray) (o k' n' : Int) (t' : ByteArray) (hb : b = false) : Ev (fun q => laws_FnChanges.j1 q b true k n t o k' n' t') true := by
  subst hb
  refine Ev.step (fun _ => rfl) ?_
  simp only [laws_FnChanges.j1, if_true]
  exact Ev.now _
theorem chs_good (b : Bool) (k n : Int) (t : ByteArray) (o k' n' : Int) (t' : ByteArray) (ht : t.size ≤ 1000) (ht' : t'.size ≤ 1000) (h1 : msgOk k n t) (h2 : msgOk k' n' t') : Ev (fun q => laws_FnChanges.j1 q b false k n t o k' n' t') true := by
  refine Ev.step (fun _ => rfl) ?_
  simp only [laws_FnChanges.j1, if_neg (show ¬ (false = true) by decide)]
  have c1 := ch_one k n t k' n' t' ht ht' h1 h2
  have c2 := ch_two k n t k' n' t' ht ht' h1 h2
  have c3 : Ev (fun q => impl_Changed.f q k' n' t' 2 k n t) (sum2 k n k' n') := Ev_eq (ch_two k' n' t' k n t ht' ht h2 h1) (sum2_comm _ _ _ _)
  by_cases h : msgLess k n t k' n' t'
  · refine Ev.bind ((ch_four k n t k' n' t' ht ht' h1 h2).1 h) ?_
    refine Ev.bind ((ch_four k' n' t' k n t ht' ht h2 h1).2 (msgLess_asymm h)) ?_
    refine Ev.bind c2 (Ev.bind c3 (Ev.bind c1 ?_))
    simp only [if_true, beq_self_eq_true, Bool.and_self]
    refine Ev.bind (specMsgLess_ev _ _ _ _ _ _ (by omega) (by omega)) ?_
    simp only [bP_neg (msgLess_asymm h), if_neg (show ¬ (false = true) by decide)]
    exact Ev.now _
  · by_cases h' : msgLess k' n' t' k n t
    · refine Ev.bind ((ch_four k n t k' n' t' ht ht' h1 h2).2 h) ?_
      refine Ev.bind ((ch_four k' n' t' k n t ht' ht h2 h1).1 h') ?_
      refine Ev.bind c2 (Ev.bind c3 (Ev.bind c1 ?_))
      simp only [if_true, beq_self_eq_true, Bool.and_self]
      refine Ev.bind (specMsgLess_ev _ _ _ _ _ _ (by omega) (by omega)) ?_
      simp only [bP_neg (fun e => msgLess_asymm (k := k) (n := n) (t := t) e e), if_neg (show ¬ (false = true) by decide)]
      exact Ev.now _
    · obtain ⟨e1, e2, e3⟩ := msgLess_total h1 h2 h h'
      subst e1 e2 e3
      refine Ev.bind ((ch_four k n t k n t ht ht' h1 h2).2 h) ?_
      refine Ev.bind ((ch_four k n t k n t ht' ht h2 h1).2 h') ?_
      refine Ev.bind c2 (Ev.bind c3 (Ev.bind c1 ?_))
      simp only [if_true, beq_self_eq_true, Bool.and_self]
      refine Ev.bind (specMsgLess_ev _ _ _ _ _ _ (by omega) (by omega)) ?_
      simp only [bP_neg h, if_neg (show ¬ (false = true) by decide)]
      exact Ev.now _
theorem chs_j0 (b : Bool) (k n : Int) (t : ByteArray) (o k' n' : Int) (t' : ByteArray) (ht : t.size ≤ 1000) (ht' : t'.size ≤ 1000) (hb : b = true → msgOk k n t ∧ msgOk k' n' t') : Ev (fun q => laws_FnChanges.j0 q b false k n t o k' n' t') true := by
  have hb' : ¬ (msgOk k n t ∧ msgOk k' n' t') → b = false := fun h => by
    cases b
    · rfl
    · exact absurd (hb rfl) h
  refine Ev.step (fun _ => rfl) ?_
  simp only [laws_FnChanges.j0, if_neg (show ¬ (false = true) by decide)]
  refine Ev.bind (specMsgOk_ev k n t (by omega)) ?_
  by_cases h1 : msgOk k n t
  · simp only [bP_pos h1, if_true]
    refine Ev.bind (specMsgOk_ev k' n' t' (by omega)) ?_
    by_cases h2 : msgOk k' n' t'
    · simp only [bP_pos h2, Bool.not_true]
      exact chs_good b k n t o k' n' t' ht ht' h1 h2
    · simp only [bP_neg h2, Bool.not_false]
      exact chs_bad b k n t o k' n' t' (hb' (fun e => h2 e.2))
  · simp only [bP_neg h1, if_neg (show ¬ (false = true) by decide)]
    exact chs_bad b k n t o k' n' t' (hb' (fun e => h1 e.1))
theorem changes_ev (l : List Int) : Ev (fun k => laws_FnChanges.f k l) true := by
  simp only [laws_FnChanges.f, laws_big.f, Option.bind_some]
  by_cases h : (l.length : Int) > 1048576
  · simp only [decide_eq_true h, if_true]
    exact Ev.now _
  · simp only [decide_eq_false h, if_neg (show ¬ (false = true) by decide)]
    obtain ⟨k, n, t, o, k', n', t', hd, ht, ht'⟩ := DrawChanged_ex l (by omega)
    obtain ⟨r, hi, hok, hboth⟩ := ch_says k n t o k' n' t' (by omega) (by omega)
    obtain ⟨r', hs', hi', hz⟩ := both_Changed k n t o k' n' t' (by omega) (by omega)
    obtain rfl := Ev_uniq hi hi'
    obtain ⟨r1, r2, r3, r4⟩ := r
    dsimp only [saysOk] at hok hboth hz
    refine Ev.bind hd ?_
    refine Ev.bind hi ?_
    refine Ev.bind hs' ?_
    simp only [bne_self_eq_false, beq_self_eq_true, Bool.not_true, Bool.or_self, if_neg (show ¬ (false = true) by decide)]
    cases r4
    · simp only [if_neg (show ¬ (false = true) by decide)]
      exact chs_j0 false k n t o k' n' t' (by omega) (by omega) hboth
    · simp only [if_true]
      refine Ev.bind (implMsgOk_ev r1 r2 r3 (by omega)) ?_
      simp only [bP_pos (hok rfl), Bool.not_true]
      exact chs_j0 true k n t o k' n' t' (by omega) (by omega) hboth
end Go.Proofs.Ytalehmhjddnmoaa.Q
