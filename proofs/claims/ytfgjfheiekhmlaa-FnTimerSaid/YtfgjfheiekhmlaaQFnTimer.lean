/- Plain laws of what the printed functions compute, the program's and the reference's, for every number and list; conditions: those of each theorem. -/
import Derived.Test.YtfgjfheiekhmlaaZx2
import Derived.Test.YtfgjfheiekhmlaaZx3
import Derived.Test.YtfgjfheiekhmlaaZx4
import Derived.Test.YtfgjfheiekhmlaaZx5
import Derived.Test.YtfgjfheiekhmlaaZx8
import Derived.Test.YtfgjfheiekhmlaaZx10
import Derived.Test.YtfgjfheiekhmlaaZx11
import Derived.Test.YtfgjfheiekhmlaaZx14
import Derived.Test.YtfgjfheiekhmlaaZx15
import Derived.Test.YtfgjfheiekhmlaaZx16
import Derived.Test.YtfgjfheiekhmlaaZx17
import Derived.Test.YtfgjfheiekhmlaaZx18
import Derived.Test.YtfgjfheiekhmlaaZx19
import Derived.Test.YtfgjfheiekhmlaaZx21
import Derived.Test.YtfgjfheiekhmlaaZx22
import Derived.Test.YtfgjfheiekhmlaaZx23
import Derived.Test.YtfgjfheiekhmlaaZx25
import Derived.Test.YtfgjfheiekhmlaaZx29
import Derived.Test.YtfgjfheiekhmlaaZx37
namespace Go.Proofs.Ytfgjfheiekhmlaa.Q
open Go.RowKit Go.Proofs.Ytfgjfheiekhmlaa.Z Go.Proofs.YtfgjfheiekhmlaaW.PrintWords Go.Proofs.YtfgjfheiekhmlaaW.PrintLast Go.Proofs.YtfgjfheiekhmlaaW.PrintMore
set_option linter.unusedVariables false
set_option linter.unusedSimpArgs false
theorem w64 {x : Int} (h0 : -9223372036854775808 ≤ x) (h1 : x ≤ 9223372036854775807) : wrap64 x = x := by unfold wrap64; omega
theorem w64n {n m : Nat} (h : n < m) (hm : m ≤ 9223372036854775807) : wrap64 ((n : Int) + 1) = ((n + 1 : Nat) : Int) := by rw [w64 (by omega) (by omega)]; omega
theorem rd_nat (l : List Int) (n : Nat) : rd l (n : Int) = l.getD n 0 := by simp [rd]
theorem rdOf_nat {α : Type} (d : α) (l : List α) (n : Nat) : rdOf d l (n : Int) = l.getD n d := by simp [rdOf]
theorem drop_cons {α : Type} (d : α) (l : List α) (n : Nat) (h : n < l.length) : l.drop n = l.getD n d :: l.drop (n + 1) := by
  rw [List.drop_eq_getElem_cons h, List.getD_eq_getElem?_getD, List.getElem?_eq_getElem h]; rfl
theorem take_cons {α : Type} (d : α) (l : List α) (n : Nat) (h : n < l.length) : l.take (n + 1) = l.take n ++ [l.getD n d] := by
  rw [List.take_succ_eq_append_getElem h, List.getD_eq_getElem?_getD, List.getElem?_eq_getElem h]; rfl
noncomputable def bP (p : Prop) : Bool := @decide p (Classical.propDecidable p)
theorem bP_iff {p : Prop} : bP p = true ↔ p := by simp [bP]
theorem bP_pos {p : Prop} (h : p) : bP p = true := bP_iff.2 h
theorem bP_neg {p : Prop} (h : ¬ p) : bP p = false := by
  cases hb : bP p
  · rfl
  · exact absurd (bP_iff.1 hb) h
theorem bP_congr {p q : Prop} (h : p ↔ q) : bP p = bP q := by rw [propext h]
theorem bP_dec (p : Prop) [Decidable p] : decide p = bP p := by
  by_cases h : p
  · rw [bP_pos h, decide_eq_true h]
  · rw [bP_neg h, decide_eq_false h]
theorem Ev_eq {α : Type} {g : Nat → Option α} {r s : α} (h : Ev g r) (e : r = s) : Ev g s := e ▸ h
theorem Ev_ifpos {α : Type} {c : Prop} [Decidable c] {g f : Nat → Option α} {r : α} (h : c) (k : Ev g r) : Ev (fun n => if c then g n else f n) r := by
  simpa only [if_pos h] using k
theorem Ev_ifneg {α : Type} {c : Prop} [Decidable c] {g f : Nat → Option α} {r : α} (h : ¬ c) (k : Ev f r) : Ev (fun n => if c then g n else f n) r := by
  simpa only [if_neg h] using k
theorem Ev_some {α β : Type} {g : Option α} {f : Nat → α → Option β} {a : α} {r : β} (h : g = some a) (k : Ev (fun n => f n a) r) : Ev (fun n => g.bind (f n)) r := by
  simpa only [h, Option.bind_some] using k
theorem Ev_ofk {α : Type} {r : α} {g : Option α} (h : g = some r) : Ev (fun _ => g) r := ⟨0, fun _ _ => h⟩
def upFrom : Int → Nat → List Int
  | _, 0 => []
  | v, n + 1 => v :: upFrom (v + 1) n
theorem upFrom_length : ∀ n v, (upFrom v n).length = n
  | 0, _ => rfl
  | n + 1, v => by simp [upFrom, upFrom_length n]
def pos (a : Int) : List Int → Int → Int
  | [], _ => -1
  | x :: xs, i => if x = a then i else pos a xs (i + 1)
theorem pos_spec (a : Int) : ∀ (l : List Int) (i : Int), 0 ≤ i → (a ∈ l → i ≤ pos a l i ∧ pos a l i < i + l.length) ∧ (a ∉ l → pos a l i = -1)
  | [], i, _ => by simp [pos]
  | x :: xs, i, hi => by
    have ih := pos_spec a xs (i + 1) (by omega)
    unfold pos
    by_cases hx : x = a
    · rw [if_pos hx]
      refine ⟨fun _ => ⟨Int.le_refl _, by simp only [List.length_cons]; omega⟩, fun h => absurd (by rw [hx]; exact List.mem_cons_self) h⟩
    · rw [if_neg hx]
      refine ⟨fun h => ?_, fun h => ih.2 (fun h' => h (List.mem_cons_of_mem _ h'))⟩
      have h' : a ∈ xs := by
        rcases List.mem_cons.1 h with h | h
        · exact absurd h.symm hx
        · exact h
      have := ih.1 h'
      simp only [List.length_cons]
      omega
theorem pos_mem (a : Int) (l : List Int) : (0 ≤ pos a l 0) ↔ a ∈ l := by
  have h := pos_spec a l 0 (by omega)
  constructor
  · intro h0
    by_cases hm : a ∈ l
    · exact hm
    · have := h.2 hm; omega
  · intro hm
    exact (h.1 hm).1
theorem l1In_eq (a b c : Int) : spec_l1In.f a b c = some (bP (b ≤ a ∧ a ≤ c)) := by
  simp only [spec_l1In.f]
  by_cases h : a ≥ b
  · rw [if_pos h, bP_dec, bP_congr (show (a ≤ c) ↔ (b ≤ a ∧ a ≤ c) by omega)]
  · rw [if_neg h, bP_neg (by omega)]
theorem within_eq (a b c : Int) : impl_within.f a b c = some (bP (b ≤ a ∧ a ≤ c)) := by
  simp only [impl_within.f]
  by_cases h : a ≥ b
  · rw [if_pos h, bP_dec, bP_congr (show (a ≤ c) ↔ (b ≤ a ∧ a ≤ c) by omega)]
  · rw [if_neg h, bP_neg (by omega)]
theorem and255 (x : Int) : 0 ≤ Go.bits .and .i64 x 255 ∧ Go.bits .and .i64 x 255 ≤ 255 := by
  have h : (BitVec.ofInt IntKind.i64.bits x &&& BitVec.ofInt IntKind.i64.bits 255).toNat ≤ 255 := by
    rw [BitVec.toNat_and]
    exact Nat.le_trans Nat.and_le_right (by decide)
  unfold Go.bits
  dsimp only
  generalize (BitVec.ofInt IntKind.i64.bits x &&& BitVec.ofInt IntKind.i64.bits 255).toNat = n at h
  have e : IntKind.wrap .i64 (n : Int) = n := by
    unfold IntKind.wrap
    simp only [IntKind.bits, IntKind.signed]
    first | omega | (split <;> omega) | (simp; omega)
  rw [e]
  omega
theorem l1Byte_ex (s : List Int) (i x : Int) (hs : s.length ≤ 4611686018427387904) (h0 : 0 ≤ i) : ∃ b i' x', spec_l1Byte.f s i x = some (b, i', x') ∧ (0 ≤ b ∧ b ≤ 255) ∧ 0 ≤ i' := by
  simp only [spec_l1Byte.f]
  by_cases h : i < (s.length : Int)
  · rw [if_pos h, if_pos h0]
    exact ⟨_, _, _, rfl, and255 _, by rw [w64 (by omega) (by omega)]; omega⟩
  · rw [if_neg h]
    exact ⟨_, _, _, rfl, and255 _, h0⟩
theorem l1Below_ex (s : List Int) (i x a : Int) (hs : s.length ≤ 4611686018427387904) (h0 : 0 ≤ i) : ∃ r i' x', spec_l1Below.f s i x a = some (r, i', x') ∧ 0 ≤ r ∧ (0 < a → r < a) ∧ (a ≤ 0 → r = 0) ∧ 0 ≤ i' := by
  simp only [spec_l1Below.f]
  by_cases h : a ≤ 0
  · rw [if_pos h]
    exact ⟨0, i, x, rfl, by omega, by omega, fun _ => rfl, h0⟩
  · rw [if_neg h]
    by_cases h2 : a ≤ 256
    · rw [if_pos h2]
      obtain ⟨b, i1, x1, e1, hb, h1⟩ := l1Byte_ex s i x hs h0
      simp only [e1, Option.bind_some, if_neg (show ¬ a = 0 by omega)]
      exact ⟨_, _, _, rfl, Int.tmod_nonneg _ hb.1, fun hp => Int.tmod_lt_of_pos _ hp, fun hn => absurd hn h, h1⟩
    · rw [if_neg h2]
      obtain ⟨b1, i1, x1, e1, hb1, h1⟩ := l1Byte_ex s i x hs h0
      obtain ⟨b2, i2, x2, e2, hb2, h2'⟩ := l1Byte_ex s i1 x1 hs h1
      obtain ⟨b3, i3, x3, e3, hb3, h3⟩ := l1Byte_ex s i2 x2 hs h2'
      obtain ⟨b4, i4, x4, e4, hb4, h4⟩ := l1Byte_ex s i3 x3 hs h3
      simp only [e1, e2, e3, e4, Option.bind_some, if_neg (show ¬ a = 0 by omega), w64 (show -9223372036854775808 ≤ b1 * 16777216 by omega) (show b1 * 16777216 ≤ 9223372036854775807 by omega), w64 (show -9223372036854775808 ≤ b2 * 65536 by omega) (show b2 * 65536 ≤ 9223372036854775807 by omega), w64 (show -9223372036854775808 ≤ b3 * 256 by omega) (show b3 * 256 ≤ 9223372036854775807 by omega), w64 (show -9223372036854775808 ≤ b1 * 16777216 + b2 * 65536 by omega) (show b1 * 16777216 + b2 * 65536 ≤ 9223372036854775807 by omega), w64 (show -9223372036854775808 ≤ b1 * 16777216 + b2 * 65536 + b3 * 256 by omega) (show b1 * 16777216 + b2 * 65536 + b3 * 256 ≤ 9223372036854775807 by omega), w64 (show -9223372036854775808 ≤ b1 * 16777216 + b2 * 65536 + b3 * 256 + b4 by omega) (show b1 * 16777216 + b2 * 65536 + b3 * 256 + b4 ≤ 9223372036854775807 by omega)]
      exact ⟨_, _, _, rfl, Int.tmod_nonneg _ (by omega), fun hp => Int.tmod_lt_of_pos _ hp, fun hn => absurd hn h, h4⟩
theorem l1Once_ex (s : List Int) (i x a : Int) (hs : s.length ≤ 4611686018427387904) (h0 : 0 ≤ i) : ∃ b i' x', spec_l1Once.f s i x a = some (b, i', x') ∧ 0 ≤ i' := by
  obtain ⟨r, i', x', e, _, _, _, h⟩ := l1Below_ex s i x a hs h0
  simp only [spec_l1Once.f, e, Option.bind_some]
  exact ⟨_, _, _, rfl, h⟩
theorem l1PickInt_ex (s : List Int) (i x : Int) (l : List Int) (hs : s.length ≤ 4611686018427387904) (h0 : 0 ≤ i) (hl : 0 < l.length) : ∃ r i' x', spec_l1PickInt.f s i x l = some (r, i', x') ∧ r ∈ l ∧ 0 ≤ i' := by
  obtain ⟨r, i', x', e, h1, h2, _, h⟩ := l1Below_ex s i x (l.length : Int) hs h0
  have h3 := h2 (by omega)
  simp only [spec_l1PickInt.f, e, Option.bind_some, if_pos h1, if_pos h3]
  refine ⟨_, _, _, rfl, ?_, h⟩
  unfold rd
  rw [List.getD_eq_getElem?_getD, List.getElem?_eq_getElem (by omega)]
  exact List.getElem_mem _
theorem l1New_l (s : List Int) (hs : s.length ≤ 4611686018427387904) : ∀ d n : Nat, n + d = 4001 → ∀ x : Int, ∃ x' : Int, Ev (fun k => spec_l1New.l0 k s x n) (s, 0, x')
  | 0, n, hn, x => by
    refine ⟨x, Ev.step (fun _ => rfl) ?_⟩
    simp only [spec_l1New.l0]
    by_cases h : (n : Int) < (s.length : Int)
    · simp only [if_pos h, if_neg (show ¬ (n : Int) < 4000 by omega)]
      exact Ev.now _
    · simp only [if_neg h]
      exact Ev.now _
  | d + 1, n, hn, x => by
    by_cases h : (n : Int) < (s.length : Int)
    · by_cases h2 : (n : Int) < 4000
      · obtain ⟨x', h3⟩ := l1New_l s hs d (n + 1) (by omega) (Go.bits .and .i64 (wrap64 ((wrap64 ((wrap64 (x * 131)) + (wrap64 (rd s n)))) + 7)) 1073741823)
        refine ⟨x', Ev.step (fun _ => rfl) ?_⟩
        simp only [spec_l1New.l0, if_pos h, if_pos h2, if_pos (show (0 : Int) ≤ (n : Int) by omega), w64n (show n < s.length by omega) (show s.length ≤ 9223372036854775807 by omega)]
        exact h3
      · refine ⟨x, Ev.step (fun _ => rfl) ?_⟩
        simp only [spec_l1New.l0, if_pos h, if_neg h2]
        exact Ev.now _
    · refine ⟨x, Ev.step (fun _ => rfl) ?_⟩
      simp only [spec_l1New.l0, if_neg h]
      exact Ev.now _
theorem l1New_ev (s : List Int) (hs : s.length ≤ 4611686018427387904) : ∃ x' : Int, Ev (fun k => spec_l1New.f k s) (s, 0, x') := by
  simp only [spec_l1New.f]
  exact l1New_l s hs 4001 0 (by omega) _
def cFrom (c : Int) (l : List S46) (n : Nat) : Prop := ∀ i : Nat, n ≤ i → i < l.length → (c < (l.getD i z46).f0 ∧ (l.getD i z46).f0 ≤ 1000000000) ∧ (0 ≤ (l.getD i z46).f1 ∧ (l.getD i z46).f1 ≤ 23) ∧ (0 < i → (l.getD (i - 1) z46).f0 ≤ (l.getD i z46).f0)
def clockOk (c : Int) (l : List S46) : Prop := (0 ≤ c ∧ c ≤ 1000000000) ∧ l.length ≤ 40 ∧ cFrom c l 0
theorem cFrom_step (c : Int) (l : List S46) (n : Nat) (h : n < l.length) : cFrom c l n ↔ ((c < (l.getD n z46).f0 ∧ (l.getD n z46).f0 ≤ 1000000000) ∧ (0 ≤ (l.getD n z46).f1 ∧ (l.getD n z46).f1 ≤ 23) ∧ (0 < n → (l.getD (n - 1) z46).f0 ≤ (l.getD n z46).f0)) ∧ cFrom c l (n + 1) := by
  constructor
  · intro hf
    exact ⟨hf n (Nat.le_refl _) h, fun i hi => hf i (by omega)⟩
  · rintro ⟨h0, hf⟩ i hi hl
    rcases Nat.eq_or_lt_of_le hi with rfl | hlt
    · exact h0
    · exact hf i hlt hl
theorem rdT_n (l : List S46) (n : Nat) : rd_T46 l (n : Int) = l.getD n z46 := by simp [rd_T46]
theorem rdT_p (l : List S46) (n : Nat) (h : 0 < n) : rd_T46 l ((n : Int) - 1) = l.getD (n - 1) z46 := by
  rw [show (n : Int) - 1 = ((n - 1 : Nat) : Int) by omega, rdT_n]
theorem specClockOk_l (c : Int) (l : List S46) (hl : l.length ≤ 9223372036854775807) : ∀ d n : Nat, n + d = l.length → Ev (fun k => spec_ClockOk.l0 k n c l) (bP (cFrom c l n))
  | 0, n, hd => by
    refine Ev.step (fun _ => rfl) ?_
    simp only [spec_ClockOk.l0, if_neg (show ¬ (n : Int) < (l.length : Int) by omega)]
    rw [bP_pos (show cFrom c l n from fun i hi hl => by omega)]
    exact Ev.now _
  | d + 1, n, hd => by
    have ih := specClockOk_l c l hl d (n + 1) (by omega)
    refine Ev.step (fun _ => rfl) ?_
    simp only [spec_ClockOk.l0, if_pos (show (n : Int) < (l.length : Int) by omega), if_pos (show (0 : Int) ≤ (n : Int) by omega), w64n (show n < l.length by omega) hl, rdT_n, l1In_eq, Option.bind_some, w64 (show -9223372036854775808 ≤ (n : Int) - 1 by omega) (show (n : Int) - 1 ≤ 9223372036854775807 by omega)]
    rw [bP_congr (cFrom_step c l n (by omega))]
    by_cases h1 : (l.getD n z46).f0 ≤ c
    · simp only [if_pos h1]
      rw [bP_neg (fun h => by have := h.1.1.1; omega)]
      exact Ev.now _
    · simp only [if_neg h1]
      by_cases h2 : (l.getD n z46).f0 > 1000000000
      · simp only [if_pos h2]
        rw [bP_neg (fun h => by have := h.1.1.2; omega)]
        exact Ev.now _
      · simp only [if_neg h2]
        by_cases h3 : 0 ≤ (l.getD n z46).f1 ∧ (l.getD n z46).f1 ≤ 23
        · simp only [bP_pos h3, if_true]
          by_cases h4 : 0 < n
          · simp only [if_pos (show (n : Int) > 0 by omega), if_pos (show (0 : Int) ≤ (n : Int) - 1 by omega), if_pos (show (n : Int) - 1 < (l.length : Int) by omega), rdT_p l n h4]
            by_cases h5 : (l.getD (n - 1) z46).f0 > (l.getD n z46).f0
            · simp only [if_pos h5]
              rw [bP_neg (fun h => by have := h.1.2.2 h4; omega)]
              exact Ev.now _
            · simp only [if_neg h5]
              exact Ev_eq ih (bP_congr ⟨fun h => ⟨⟨⟨by omega, by omega⟩, h3, fun _ => by omega⟩, h⟩, fun h => h.2⟩)
          · simp only [if_neg (show ¬ (n : Int) > 0 by omega)]
            exact Ev_eq ih (bP_congr ⟨fun h => ⟨⟨⟨by omega, by omega⟩, h3, fun h' => absurd h' h4⟩, h⟩, fun h => h.2⟩)
        · simp only [bP_neg h3, if_neg (show ¬ (false = true) by decide)]
          rw [bP_neg (fun h => h3 h.1.2.1)]
          exact Ev.now _
theorem specClockOk_ev (c : Int) (l : List S46) (hl : l.length ≤ 9223372036854775807) : Ev (fun k => spec_ClockOk.f k c l) (bP (clockOk c l)) := by
  simp only [spec_ClockOk.f, l1In_eq, Option.bind_some]
  by_cases h1 : 0 ≤ c ∧ c ≤ 1000000000
  · simp only [bP_pos h1, if_true]
    refine Ev.step (fun _ => rfl) ?_
    by_cases h2 : (l.length : Int) > 40
    · simp only [spec_ClockOk.j0, decide_eq_true h2, if_true]
      rw [bP_neg (fun h => by have := h.2.1; omega)]
      exact Ev.now _
    · simp only [spec_ClockOk.j0, decide_eq_false h2, if_neg (show ¬ (false = true) by decide)]
      exact Ev_eq (specClockOk_l c l hl l.length 0 (by omega)) (bP_congr ⟨fun h => ⟨h1, by omega, h⟩, fun h => h.2.2⟩)
  · simp only [bP_neg h1, if_neg (show ¬ (false = true) by decide)]
    refine Ev.step (fun _ => rfl) ?_
    simp only [spec_ClockOk.j0, if_true]
    rw [bP_neg (fun h => h1 h.1)]
    exact Ev.now _
theorem implClockOk_l (c : Int) (l : List S46) (hl : l.length ≤ 9223372036854775807) : ∀ d n : Nat, n + d = l.length → Ev (fun k => impl_ClockOk.l0 k l (l.length : Int) n c l) (bP ((0 ≤ c ∧ c ≤ 1000000000) ∧ l.length ≤ 40 ∧ cFrom c l n))
  | 0, n, hd => by
    refine Ev.step (fun _ => rfl) ?_
    simp only [impl_ClockOk.l0, if_neg (show ¬ (n : Int) < (l.length : Int) by omega), within_eq, Option.bind_some]
    by_cases h1 : 0 ≤ c ∧ c ≤ 1000000000
    · simp only [bP_pos h1, if_true]
      refine Ev_eq (Ev.now _) ?_
      rw [bP_dec]
      exact bP_congr ⟨fun h => ⟨h1, by omega, fun i hi hl => by omega⟩, fun h => by have := h.2.1; omega⟩
    · simp only [bP_neg h1, if_neg (show ¬ (false = true) by decide)]
      rw [bP_neg (fun h => h1 h.1)]
      exact Ev.now _
  | d + 1, n, hd => by
    have ih := implClockOk_l c l hl d (n + 1) (by omega)
    refine Ev.step (fun _ => rfl) ?_
    simp only [impl_ClockOk.l0, if_pos (show (n : Int) < (l.length : Int) by omega), if_pos (show (0 : Int) ≤ (n : Int) by omega), w64n (show n < l.length by omega) hl, rdT_n, within_eq, Option.bind_some, w64 (show -9223372036854775808 ≤ (n : Int) - 1 by omega) (show (n : Int) - 1 ≤ 9223372036854775807 by omega)]
    rw [bP_congr (and_congr_right fun _ => and_congr_right fun _ => cFrom_step c l n (by omega))]
    by_cases h1 : (l.getD n z46).f0 ≤ c
    · simp only [if_pos h1]
      rw [bP_neg (fun h => by have := h.2.2.1.1.1; omega)]
      exact Ev.now _
    · simp only [if_neg h1]
      by_cases h2 : (l.getD n z46).f0 > 1000000000
      · simp only [if_pos h2]
        rw [bP_neg (fun h => by have := h.2.2.1.1.2; omega)]
        exact Ev.now _
      · simp only [if_neg h2]
        by_cases h3 : 0 ≤ (l.getD n z46).f1 ∧ (l.getD n z46).f1 ≤ 23
        · simp only [bP_pos h3, if_true]
          by_cases h4 : 0 < n
          · simp only [if_pos (show (n : Int) > 0 by omega), if_pos (show (0 : Int) ≤ (n : Int) - 1 by omega), if_pos (show (n : Int) - 1 < (l.length : Int) by omega), rdT_p l n h4]
            by_cases h5 : (l.getD (n - 1) z46).f0 > (l.getD n z46).f0
            · simp only [if_pos h5]
              rw [bP_neg (fun h => by have := h.2.2.1.2.2 h4; omega)]
              exact Ev.now _
            · simp only [if_neg h5]
              exact Ev_eq ih (bP_congr ⟨fun h => ⟨h.1, h.2.1, ⟨⟨by omega, by omega⟩, h3, fun _ => by omega⟩, h.2.2⟩, fun h => ⟨h.1, h.2.1, h.2.2.2⟩⟩)
          · simp only [if_neg (show ¬ (n : Int) > 0 by omega)]
            exact Ev_eq ih (bP_congr ⟨fun h => ⟨h.1, h.2.1, ⟨⟨by omega, by omega⟩, h3, fun h' => absurd h' h4⟩, h.2.2⟩, fun h => ⟨h.1, h.2.1, h.2.2.2⟩⟩)
        · simp only [bP_neg h3, if_neg (show ¬ (false = true) by decide)]
          rw [bP_neg (fun h => h3 h.2.2.1.2.1)]
          exact Ev.now _
theorem implClockOk_ev (c : Int) (l : List S46) (hl : l.length ≤ 9223372036854775807) : Ev (fun k => impl_ClockOk.f k c l) (bP (clockOk c l)) := by
  simp only [impl_ClockOk.f]
  exact implClockOk_l c l hl l.length 0 (by omega)
theorem l4Copy_eq (c : Int) (l : List S46) (hl : l.length < 8796093022208) : spec_l4Copy.f c l = some (c, l) := by
  simp only [spec_l4Copy.f, Option.bind_some, List.length_nil, Nat.zero_add, if_pos hl, List.nil_append]
theorem copyClock_eq (c : Int) (l : List S46) (hl : l.length < 8796093022208) : impl_copyClock.f c l = some (c, l) := by
  simp only [impl_copyClock.f, impl_Timer_52.f, Option.bind_some, List.length_nil, Nat.zero_add, if_pos hl, List.nil_append]
def sorted (l : List S46) : Prop := l.Pairwise fun a b => a.f0 ≤ b.f0
theorem sorted_of (l : List S46) (h : ∀ i, 0 < i → i < l.length → (l.getD (i - 1) z46).f0 ≤ (l.getD i z46).f0) : sorted l := by
  induction l with
  | nil => exact List.Pairwise.nil
  | cons x xs ih =>
    have ht : sorted xs := ih (fun i h0 h1 => by
      have := h (i + 1) (by omega) (by simpa using h1)
      obtain ⟨j, rfl⟩ : ∃ j, i = j + 1 := ⟨i - 1, by omega⟩
      simpa using this)
    refine List.pairwise_cons.2 ⟨?_, ht⟩
    cases xs with
    | nil => intro y hy; cases hy
    | cons y ys =>
      have h1 : x.f0 ≤ y.f0 := by simpa using h 1 (by omega) (by simp)
      intro z hz
      rcases List.mem_cons.1 hz with rfl | hz
      · exact h1
      · have := (List.pairwise_cons.1 ht).1 z hz
        omega
def firedT (t : Int) : List S46 → List Int
  | [] => []
  | x :: xs => if x.f0 ≤ t then x.f1 :: firedT t xs else []
def leftT (t : Int) : List S46 → List S46
  | [] => []
  | x :: xs => if x.f0 ≤ t then leftT t xs else x :: xs
theorem fired_left_len (t : Int) : ∀ l, (leftT t l).length + (firedT t l).length = l.length
  | [] => rfl
  | x :: xs => by
    have := fired_left_len t xs
    simp only [firedT, leftT]
    split
    · simp only [List.length_cons]; omega
    · simp
theorem filt (t : Int) : ∀ l : List S46, sorted l → l.filter (fun x => decide (¬ x.f0 ≤ t)) = leftT t l ∧ (l.filter (fun x => decide (x.f0 ≤ t))).map (fun x => x.f1) = firedT t l
  | [], _ => ⟨rfl, rfl⟩
  | x :: xs, h => by
    have ih := filt t xs (List.pairwise_cons.1 h).2
    have hx := (List.pairwise_cons.1 h).1
    by_cases hc : x.f0 ≤ t
    · simp only [leftT, firedT, if_pos hc, List.filter_cons, decide_eq_true hc, if_true, List.map_cons, ih.2]
      refine ⟨?_, trivial⟩
      rw [← ih.1]
      simp [hc]
    · simp only [leftT, firedT, if_neg hc]
      constructor
      · rw [List.filter_eq_self]
        intro y hy
        rcases List.mem_cons.1 hy with rfl | hy
        · exact decide_eq_true hc
        · have := hx y hy
          exact decide_eq_true (by omega)
      · rw [List.filter_eq_nil_iff.2 (fun y hy => ?_)]
        · rfl
        · rcases List.mem_cons.1 hy with rfl | hy
          · simpa using hc
          · have := hx y hy
            simp only [decide_eq_true_eq]
            omega
theorem implAdv_l (t : Int) : ∀ (l : List S46) (acc : List Int), acc.length + l.length ≤ 4000000 → Ev (fun k => impl_Advance.l0 k acc t l) (t, leftT t l, acc ++ firedT t l, 0)
  | [], acc, h => by
    refine Ev.step (fun _ => rfl) ?_
    simp only [impl_Advance.l0, List.length_nil, if_neg (show ¬ (((0 : Nat) : Int) > 0) by omega), leftT, firedT, List.append_nil]
    exact Ev.now _
  | x :: xs, acc, h => by
    simp only [List.length_cons] at h
    refine Ev.step (fun _ => rfl) ?_
    simp only [impl_Advance.l0, List.length_cons, if_pos (show (((xs.length + 1 : Nat) : Int) > 0) by omega), if_pos (show (0 : Int) < ((xs.length + 1 : Nat) : Int) by omega), if_pos (show (1 : Int) ≤ ((xs.length + 1 : Nat) : Int) by omega), show rd_T46 (x :: xs) 0 = x by simp [rd_T46], if_pos (show acc.length < 17592186044416 by omega), leftT, firedT]
    by_cases hc : x.f0 ≤ t
    · simp only [if_pos hc]
      refine Ev_eq (implAdv_l t xs (acc ++ [x.f1]) (by simp; omega)) ?_
      simp
    · simp only [if_neg hc, List.append_nil]
      exact Ev.now _
theorem specAdv_l (c t : Int) (l : List S46) (hl : l.length ≤ 1048577) : ∀ d n : Nat, n + d = l.length → ∀ (acc : List Int) (rest : List S46), acc.length + d ≤ 4000000 → rest.length + d ≤ 4000000 → Ev (fun k => spec_Advance.l0 k acc n c l t rest) (t, rest ++ (l.drop n).filter (fun x => decide (¬ x.f0 ≤ t)), acc ++ ((l.drop n).filter (fun x => decide (x.f0 ≤ t))).map (fun x => x.f1), 0)
  | 0, n, hd, acc, rest, h0, h1 => by
    refine Ev.step (fun _ => rfl) ?_
    simp only [spec_Advance.l0, if_neg (show ¬ (n : Int) < (l.length : Int) by omega)]
    rw [List.drop_eq_nil_of_le (show l.length ≤ n by omega)]
    refine Ev_eq (Ev.now _) (by simp)
  | d + 1, n, hd, acc, rest, h0, h1 => by
    refine Ev.step (fun _ => rfl) ?_
    simp only [spec_Advance.l0, if_pos (show (n : Int) < (l.length : Int) by omega), if_pos (show (0 : Int) ≤ (n : Int) by omega), w64n (show n < l.length by omega) (show l.length ≤ 9223372036854775807 by omega), rdT_n, if_pos (show acc.length < 17592186044416 by omega), if_pos (show rest.length < 8796093022208 by omega)]
    rw [drop_cons z46 l n (by omega)]
    by_cases hc : (l.getD n z46).f0 ≤ t
    · simp only [if_pos hc]
      refine Ev_eq (specAdv_l c t l hl d (n + 1) (by omega) _ _ (by simp; omega) (by omega)) ?_
      rw [List.filter_cons, List.filter_cons, if_neg (by simpa using hc), if_pos (by simpa using hc)]
      simp
    · simp only [if_neg hc]
      refine Ev_eq (specAdv_l c t l hl d (n + 1) (by omega) _ _ (by omega) (by simp; omega)) ?_
      rw [List.filter_cons, List.filter_cons, if_pos (by simpa using hc), if_neg (by simpa using hc)]
      simp
theorem adv_good (c : Int) (l : List S46) (a : Int) (h1 : clockOk c l) (h2 : 0 ≤ a) (h3 : a ≤ 1000000000 - c) : Ev (fun k => spec_Advance.f k c l a) (c + a, leftT (c + a) l, firedT (c + a) l, 0) ∧ Ev (fun k => impl_Advance.f k c l a) (c + a, leftT (c + a) l, firedT (c + a) l, 0) := by
  have hc := h1.1
  have hl := h1.2.1
  have hs : sorted l := sorted_of l (fun i h0 hi => (h1.2.2 i (by omega) hi).2.2 h0)
  have wa : wrap64 (c + a) = c + a := w64 (by omega) (by omega)
  simp only [spec_Advance.f, impl_Advance.f, copyClock_eq c l (show l.length < 8796093022208 by omega), Option.bind_some]
  constructor
  · refine Ev.bind (specClockOk_ev c l (by omega)) ?_
    simp only [bP_pos h1, if_true, if_neg (show ¬ a < 0 by omega), w64 (show -9223372036854775808 ≤ 1000000000 - c by omega) (show 1000000000 - c ≤ 9223372036854775807 by omega), decide_eq_false (show ¬ a > 1000000000 - c by omega)]
    refine Ev.step (fun _ => rfl) ?_
    simp only [spec_Advance.j0, if_neg (show ¬ (false = true) by decide), wa]
    have h := specAdv_l c (c + a) l (by omega) l.length 0 (by omega) [] [] (by simp; omega) (by simp; omega)
    rw [List.drop_zero, (filt (c + a) l hs).1, (filt (c + a) l hs).2] at h
    simpa using h
  · refine Ev.bind (implClockOk_ev c l (by omega)) ?_
    simp only [bP_pos h1, if_true, if_neg (show ¬ a < 0 by omega), w64 (show -9223372036854775808 ≤ 1000000000 - c by omega) (show 1000000000 - c ≤ 9223372036854775807 by omega), decide_eq_false (show ¬ a > 1000000000 - c by omega)]
    refine Ev.step (fun _ => rfl) ?_
    simp only [impl_Advance.j0, if_neg (show ¬ (false = true) by decide), wa]
    have h := implAdv_l (c + a) l [] (by simp; omega)
    simpa using h
theorem rdS_nat (l : List S46) (n : Nat) : rd_T46 l (n : Int) = l.getD n z46 := by simp [rd_T46]
def posT (a : Int) : List S46 → Int → Int
  | [], _ => -1
  | x :: xs, i => if x.f1 = a then i else posT a xs (i + 1)
def keepT (a : Int) (l : List S46) : List S46 := l.filter fun x => decide (x.f1 ≠ a)
theorem keepT_pos {a : Int} {x : S46} (h : ¬ x.f1 = a) (xs : List S46) : keepT a (x :: xs) = x :: keepT a xs := List.filter_cons_of_pos (by simpa using h)
theorem keepT_neg {a : Int} {x : S46} (h : x.f1 = a) (xs : List S46) : keepT a (x :: xs) = keepT a xs := List.filter_cons_of_neg (by rw [h]; simp)
theorem keepT_len (a : Int) (l : List S46) : (keepT a l).length ≤ l.length := List.length_filter_le _ _
theorem posT_split (a : Int) : ∀ (l : List S46) (i : Int), (∃ x, x ∈ l ∧ x.f1 = a) → ∃ n : Nat, posT a l i = i + n ∧ n < l.length ∧ keepT a l = l.take n ++ keepT a (l.drop (n + 1))
  | [], _, h => by obtain ⟨x, h, _⟩ := h; simp at h
  | x :: xs, i, h => by
    by_cases hx : x.f1 = a
    · refine ⟨0, ?_, by simp, ?_⟩
      · simp only [posT]; rw [if_pos hx]; omega
      · rw [keepT_neg hx]
        simp
    · have h' : ∃ x, x ∈ xs ∧ x.f1 = a := by
        obtain ⟨y, hy, e⟩ := h
        rcases List.mem_cons.1 hy with hy | hy
        · subst hy; exact absurd e hx
        · exact ⟨y, hy, e⟩
      obtain ⟨n, h1, h2, h3⟩ := posT_split a xs (i + 1) h'
      refine ⟨n + 1, ?_, by simp; omega, ?_⟩
      · simp only [posT]; rw [if_neg hx, h1]; omega
      · rw [keepT_pos hx, h3]
        simp
theorem posT_none (a : Int) : ∀ (l : List S46) (i : Int), (¬ ∃ x, x ∈ l ∧ x.f1 = a) → posT a l i = -1 ∧ keepT a l = l
  | [], _, _ => ⟨rfl, rfl⟩
  | x :: xs, i, h => by
    have hx : ¬ x.f1 = a := fun e => h ⟨x, List.mem_cons_self, e⟩
    have ih := posT_none a xs (i + 1) (fun ⟨y, hy, e⟩ => h ⟨y, List.mem_cons_of_mem _ hy, e⟩)
    refine ⟨?_, by rw [keepT_pos hx, ih.2]⟩
    simp only [posT]
    rw [if_neg hx, ih.1]
theorem IFst_l (l : List S46) (a : Int) (hl : l.length ≤ 9223372036854775807) : ∀ d n : Nat, n + d = l.length → Ev (fun k => slices_IndexFunc_st.l0 k l a (l.length : Int) n) (posT a (l.drop n) n)
  | 0, n, hd => by
    refine Ev.step (fun _ => rfl) ?_
    simp only [slices_IndexFunc_st.l0, if_neg (show ¬ (n : Int) < (l.length : Int) by omega)]
    rw [List.drop_eq_nil_of_le (by omega)]
    exact Ev.now _
  | d + 1, n, hd => by
    refine Ev.step (fun _ => rfl) ?_
    simp only [slices_IndexFunc_st.l0, if_pos (show (n : Int) < (l.length : Int) by omega), if_pos (show (0 : Int) ≤ (n : Int) by omega), w64n (show n < l.length by omega) hl, rdS_nat, impl_StopTimer_1.f, Option.bind_some, decide_eq_true_eq]
    rw [drop_cons z46 l n (by omega)]
    by_cases h : (l.getD n z46).f1 = a
    · simp only [if_pos h]
      refine Ev_eq (Ev.now _) ?_
      simp only [posT]
      rw [if_pos h]
    · simp only [if_neg h]
      refine Ev_eq (IFst_l l a hl d (n + 1) (by omega)) ?_
      simp only [posT]
      rw [if_neg h]
      rw [show ((n + 1 : Nat) : Int) = (n : Int) + 1 by omega]
theorem IFst_ev (l : List S46) (a : Int) (hl : l.length ≤ 9223372036854775807) : Ev (fun k => slices_IndexFunc_st.f k l a) (posT a l 0) := by
  simp only [slices_IndexFunc_st.f]
  exact IFst_l l a hl l.length 0 (by omega)
theorem DFst_l (a : Int) : ∀ (d n : Nat) (l : List S46), n + d = l.length → l.length ≤ 9223372036854775807 → ∀ i : Nat, i < n → Ev (fun k => slices_DeleteFunc_st.l0 k l a i n) (l.take i ++ keepT a (l.drop n))
  | 0, n, l, hd, hl, i, hi => by
    refine Ev.step (fun _ => rfl) ?_
    simp only [slices_DeleteFunc_st.l0, if_neg (show ¬ (n : Int) < (l.length : Int) by omega), if_pos (show (0 : Int) ≤ (i : Int) by omega), if_pos (show (i : Int) < (l.length : Int) by omega), Int.toNat_natCast]
    rw [List.drop_eq_nil_of_le (by omega)]
    simp only [keepT, List.filter_nil, List.append_nil]
    exact Ev.now _
  | d + 1, n, l, hd, hl, i, hi => by
    refine Ev.step (fun _ => rfl) ?_
    simp only [slices_DeleteFunc_st.l0, if_pos (show (n : Int) < (l.length : Int) by omega), if_pos (show (0 : Int) ≤ (n : Int) by omega), if_pos (show (0 : Int) ≤ (i : Int) by omega), if_pos (show (i : Int) < (l.length : Int) by omega), w64n (show n < l.length by omega) hl, w64n (show i < l.length by omega) hl, rdS_nat, impl_StopTimer_1.f, Option.bind_some, decide_eq_true_eq, Int.toNat_natCast]
    rw [drop_cons z46 l n (by omega)]
    by_cases h : (l.getD n z46).f1 = a
    · simp only [if_pos h]
      rw [keepT_neg h]
      exact DFst_l a d (n + 1) l (by omega) hl i (by omega)
    · simp only [if_neg h]
      rw [keepT_pos h]
      have ih := DFst_l a d (n + 1) (l.set i (l.getD n z46)) (by simp; omega) (by simpa using hl) (i + 1) (by omega)
      refine Ev_eq ih ?_
      rw [take_cons z46 _ i (by simp; omega), List.take_set_of_le (Nat.le_refl i), List.drop_set_of_lt (by omega), List.append_assoc]
      congr 1
      simp [List.getD_eq_getElem?_getD, List.getElem?_set_self (show i < l.length by omega)]
theorem DFst_ev (l : List S46) (a : Int) (hl : l.length < 8796093022208) : Ev (fun k => slices_DeleteFunc_st.f k l a) (keepT a l) := by
  simp only [slices_DeleteFunc_st.f]
  refine Ev.bind (IFst_ev l a (by omega)) ?_
  by_cases h : ∃ x, x ∈ l ∧ x.f1 = a
  · obtain ⟨n, h1, h2, h3⟩ := posT_split a l 0 h
    rw [h1, h3]
    simp only [if_neg (show ¬ (0 : Int) + (n : Int) = -1 by omega), Int.zero_add]
    rw [w64n h2 (by omega)]
    exact DFst_l a (l.length - (n + 1)) (n + 1) l (by omega) (by omega) n (by omega)
  · rw [(posT_none a l 0 h).1, (posT_none a l 0 h).2]
    simp only [if_true]
    exact Ev.now _
theorem implStop_ev (c : Int) (l : List S46) (a : Int) (hl : l.length ≤ 1048576) : Ev (fun k => impl_StopTimer.f k c l a) (if bP (clockOk c l) = true then (c, keepT a l, (l.length : Int) - (keepT a l).length) else (c, l, 0)) := by
  simp only [impl_StopTimer.f, copyClock_eq c l (by omega), Option.bind_some]
  refine Ev.bind (implClockOk_ev c l (by omega)) ?_
  by_cases h : clockOk c l
  · simp only [bP_pos h, if_true]
    refine Ev.bind (DFst_ev l a (by omega)) ?_
    have := keepT_len a l
    simp only [w64 (show -9223372036854775808 ≤ (l.length : Int) - ((keepT a l).length : Int) by omega) (show (l.length : Int) - ((keepT a l).length : Int) ≤ 9223372036854775807 by omega)]
    exact Ev.now _
  · simp only [bP_neg h, if_neg (show ¬ (false = true) by decide)]
    exact Ev.now _
def insT (t w : Int) : List S46 → List S46
  | [] => [⟨t, w⟩]
  | x :: xs => if x.f0 > t then ⟨t, w⟩ :: x :: xs else x :: insT t w xs
theorem insT_length (t w : Int) : ∀ l, (insT t w l).length = l.length + 1
  | [] => rfl
  | x :: xs => by
    simp only [insT]
    split
    · simp
    · simp [insT_length t w xs]
theorem specSet_l (c c' t w : Int) (l : List S46) (hl : l.length ≤ 1048577) : ∀ d n : Nat, n + d = l.length → ∀ (b : Bool) (acc : List S46), acc.length + 2 * d ≤ 4000000 → Ev (fun k => spec_SetTimer.l0 k b n c l c' acc t w) (c', acc ++ (if b = true then l.drop n else insT t w (l.drop n)), 0)
  | 0, n, hd, b, acc, h0 => by
    refine Ev.step (fun _ => rfl) ?_
    simp only [spec_SetTimer.l0, if_neg (show ¬ (n : Int) < (l.length : Int) by omega)]
    rw [List.drop_eq_nil_of_le (show l.length ≤ n by omega)]
    cases b
    · simp only [if_neg (show ¬ (false = true) by decide), if_pos (show acc.length < 8796093022208 by omega), insT]
      exact Ev.now _
    · simp only [if_true, List.append_nil]
      exact Ev.now _
  | d + 1, n, hd, b, acc, h0 => by
    refine Ev.step (fun _ => rfl) ?_
    simp only [spec_SetTimer.l0, if_pos (show (n : Int) < (l.length : Int) by omega), if_pos (show (0 : Int) ≤ (n : Int) by omega), w64n (show n < l.length by omega) (show l.length ≤ 9223372036854775807 by omega), rdT_n, if_pos (show acc.length < 8796093022208 by omega), Option.bind_some]
    rw [drop_cons z46 l n (by omega)]
    by_cases hc : (l.getD n z46).f0 > t
    · simp only [if_pos hc]
      cases b
      · simp only [if_neg (show ¬ (false = true) by decide), if_pos (show (acc ++ [(⟨t, w⟩ : S46)]).length < 8796093022208 by simp; omega), insT, if_pos hc]
        refine Ev_eq (specSet_l c c' t w l hl d (n + 1) (by omega) true _ (by simp; omega)) ?_
        simp
      · simp only [if_true]
        refine Ev_eq (specSet_l c c' t w l hl d (n + 1) (by omega) true _ (by simp; omega)) ?_
        simp
    · simp only [if_neg hc]
      refine Ev_eq (specSet_l c c' t w l hl d (n + 1) (by omega) b _ (by simp; omega)) ?_
      cases b
      · simp only [if_neg (show ¬ (false = true) by decide), insT, if_neg hc]
        simp
      · simp
theorem SetTimer_ex (c : Int) (l : List S46) (a w : Int) (hl : l.length ≤ 40) : ∃ c' l' e, Ev (fun k => spec_SetTimer.f k c l a w) (c', l', e) ∧ l'.length ≤ 40 := by
  have key : ∀ b : Bool, ∃ c' l' e, Ev (fun k => spec_SetTimer.j0 k a w b c l c l) (c', l', e) ∧ l'.length ≤ 40 := by
    intro b
    cases b
    · by_cases h : (l.length : Int) ≥ 40
      · refine ⟨c, l, 2, Ev.step (fun _ => rfl) ?_, hl⟩
        simp only [spec_SetTimer.j0, if_neg (show ¬ (false = true) by decide), if_pos h]
        exact Ev.now _
      · refine ⟨c, insT (wrap64 (c + a)) w l, 0, Ev.step (fun _ => rfl) ?_, by rw [insT_length]; omega⟩
        simp only [spec_SetTimer.j0, if_neg (show ¬ (false = true) by decide), if_neg h]
        have hh := specSet_l c c (wrap64 (c + a)) w l (by omega) l.length 0 (by omega) false [] (by simp; omega)
        simpa using hh
    · refine ⟨c, l, 1, Ev.step (fun _ => rfl) ?_, hl⟩
      simp only [spec_SetTimer.j0, if_true]
      exact Ev.now _
  simp only [spec_SetTimer.f, l4Copy_eq c l (show l.length < 8796093022208 by omega), Option.bind_some]
  by_cases h1 : clockOk c l
  · by_cases h2 : a < 1
    · obtain ⟨c', l', e, h, hb⟩ := key true
      refine ⟨c', l', e, Ev.bind (specClockOk_ev c l (by omega)) ?_, hb⟩
      simp only [bP_pos h1, if_true, if_pos h2]
      exact h
    · by_cases h3 : 0 ≤ w ∧ w ≤ 23
      · obtain ⟨c', l', e, h, hb⟩ := key (decide (a > wrap64 (1000000000 - c)))
        refine ⟨c', l', e, Ev.bind (specClockOk_ev c l (by omega)) ?_, hb⟩
        simp only [bP_pos h1, if_true, if_neg h2, l1In_eq, Option.bind_some, bP_pos h3]
        exact h
      · obtain ⟨c', l', e, h, hb⟩ := key true
        refine ⟨c', l', e, Ev.bind (specClockOk_ev c l (by omega)) ?_, hb⟩
        simp only [bP_pos h1, if_true, if_neg h2, l1In_eq, Option.bind_some, bP_neg h3, if_neg (show ¬ (false = true) by decide)]
        exact h
  · obtain ⟨c', l', e, h, hb⟩ := key true
    refine ⟨c', l', e, Ev.bind (specClockOk_ev c l (by omega)) ?_, hb⟩
    simp only [bP_neg h1, if_neg (show ¬ (false = true) by decide)]
    exact h
theorem l4Clock_l (s : List Int) (hs : s.length ≤ 4611686018427387904) (m : Nat) (hm : m ≤ 1000) : ∀ d n : Nat, n + d = m → ∀ (i x c : Int) (l : List S46), 0 ≤ i → l.length ≤ 40 → ∃ c' l' i' x', Ev (fun k => spec_l4Clock.l0 k m n s i x c l) (c', l', i', x') ∧ l'.length ≤ 40 ∧ 0 ≤ i'
  | 0, n, hn, i, x, c, l, h0, hl => by
    refine ⟨c, l, i, x, Ev.step (fun _ => rfl) ?_, hl, h0⟩
    simp only [spec_l4Clock.l0, if_neg (show ¬ (n : Int) < (m : Int) by omega)]
    exact Ev.now _
  | d + 1, n, hn, i, x, c, l, h0, hl => by
    obtain ⟨r1, i1, x1, e1, _, _, _, h1⟩ := l1Below_ex s i x 15 hs h0
    obtain ⟨r2, i2, x2, e2, _, _, _, h2⟩ := l1Below_ex s i1 x1 6 hs h1
    obtain ⟨c3, l3, e, h3, hl3⟩ := SetTimer_ex c l (wrap64 (1 + r1)) r2 hl
    obtain ⟨c', l', i', x', h4, hl4, h5⟩ := l4Clock_l s hs m hm d (n + 1) (by omega) i2 x2 c3 l3 h2 hl3
    refine ⟨c', l', i', x', Ev.step (fun _ => rfl) ?_, hl4, h5⟩
    simp only [spec_l4Clock.l0, if_pos (show (n : Int) < (m : Int) by omega), e1, e2, Option.bind_some, w64n (show n < m by omega) (show m ≤ 9223372036854775807 by omega)]
    exact Ev.bind h3 h4
theorem l4Clock_ex (s : List Int) (hs : s.length ≤ 4611686018427387904) (i x a : Int) (h0 : 0 ≤ i) (ha : 0 ≤ a ∧ a ≤ 900) : ∃ c l i' x', Ev (fun k => spec_l4Clock.f k s i x a) (c, l, i', x') ∧ l.length ≤ 40 ∧ 0 ≤ i' := by
  obtain ⟨c, i1, x1, e1, _, h1⟩ := l1PickInt_ex s i x [0, 5, 100, 999999980] hs h0 (by simp)
  obtain ⟨r, i2, x2, e2, hr0, hr1, _, h2⟩ := l1Below_ex s i1 x1 (a + 1) hs h1
  have hr := hr1 (by omega)
  obtain ⟨c', l', i', x', h, hl, h5⟩ := l4Clock_l s hs r.toNat (by omega) r.toNat 0 (by omega) i2 x2 c [] h2 (by simp)
  refine ⟨c', l', i', x', ?_, hl, h5⟩
  simp only [spec_l4Clock.f, e1, Option.bind_some, w64 (show -9223372036854775808 ≤ a + 1 by omega) (show a + 1 ≤ 9223372036854775807 by omega), e2]
  rw [show ((r.toNat : Nat) : Int) = r by omega] at h
  exact h
theorem l4Some_j1 (s : List Int) (hs : s.length ≤ 4611686018427387904) (i x c : Int) (l : List S46) (h0 : 0 ≤ i) (hl : l.length ≤ 40) : ∃ c' l' i' x', Ev (fun k => spec_l4Some.j1 k s i x c l) (c', l', i', x') ∧ l'.length ≤ 40 ∧ 0 ≤ i' := by
  obtain ⟨b, i1, x1, e1, h1⟩ := l1Once_ex s i x 8 hs h0
  have no : ∃ c' l' i' x', Ev (fun k => spec_l4Some.j2 k false s i1 x1 c l) (c', l', i', x') ∧ l'.length ≤ 40 ∧ 0 ≤ i' := by
    refine ⟨c, l, i1, x1, Ev.step (fun _ => rfl) ?_, hl, h1⟩
    simp only [spec_l4Some.j2, if_neg (show ¬ (false = true) by decide)]
    exact Ev.now _
  cases b
  · obtain ⟨c', l', i', x', h, hb⟩ := no
    refine ⟨c', l', i', x', Ev.step (fun _ => rfl) ?_, hb⟩
    simp only [spec_l4Some.j1, e1, Option.bind_some, if_neg (show ¬ (false = true) by decide)]
    exact h
  · by_cases hz : (l.length : Int) > 0
    · obtain ⟨r, i2, x2, e2, hr0, hr1, _, h2⟩ := l1Below_ex s i1 x1 (l.length : Int) hs h1
      have hr := hr1 (by omega)
      obtain ⟨v, i3, x3, e3, _, h3⟩ := l1PickInt_ex s i2 x2 [0, c, 1000000001] hs h2 (by simp)
      refine ⟨c, l.set (r : Int).toNat ⟨v, (rd_T46 l r).f1⟩, i3, x3, Ev.step (fun _ => rfl) ?_, by rw [List.length_set]; exact hl, h3⟩
      simp only [spec_l4Some.j1, e1, Option.bind_some, if_true, decide_eq_true hz]
      refine Ev.step (fun _ => rfl) ?_
      simp only [spec_l4Some.j2, if_true, e2, Option.bind_some, e3, if_pos hr0, if_pos hr]
      exact Ev.now _
    · obtain ⟨c', l', i', x', h, hb⟩ := no
      refine ⟨c', l', i', x', Ev.step (fun _ => rfl) ?_, hb⟩
      simp only [spec_l4Some.j1, e1, Option.bind_some, if_true, decide_eq_false hz]
      exact h
theorem l4Some_l (s : List Int) (hs : s.length ≤ 4611686018427387904) : ∀ d n : Nat, n + d = 41 → ∀ (i x c : Int) (l : List S46), 0 ≤ i → l.length ≤ 40 → ∃ c' l' i' x', Ev (fun k => spec_l4Some.l0 k n s i x c l) (c', l', i', x') ∧ l'.length ≤ 40 ∧ 0 ≤ i' := by
  intro d
  induction d with
  | zero =>
    intro n hn i x c l h0 hl
    obtain ⟨r, i1, x1, e1, hr0, hr1, _, h1⟩ := l1Below_ex s i x 2 hs h0
    have hr := hr1 (by omega)
    obtain ⟨c', l', i', x', h, hb⟩ := l4Some_j1 s hs i1 x1 c l h1 hl
    refine ⟨c', l', i', x', Ev.step (fun _ => rfl) ?_, hb⟩
    simp only [spec_l4Some.l0, e1, Option.bind_some, w64 (show -9223372036854775808 ≤ 40 - r by omega) (show 40 - r ≤ 9223372036854775807 by omega), if_neg (show ¬ (n : Int) < 40 - r by omega)]
    exact h
  | succ d ih =>
    intro n hn i x c l h0 hl
    obtain ⟨r, i1, x1, e1, hr0, hr1, _, h1⟩ := l1Below_ex s i x 2 hs h0
    have hr := hr1 (by omega)
    by_cases hc : (n : Int) < 40 - r
    · obtain ⟨c2, l2, e, h2, hl2⟩ := SetTimer_ex c l (wrap64 (1 + Int.tmod (n : Int) 9)) (Int.tmod (n : Int) 5) hl
      obtain ⟨c', l', i', x', h, hb⟩ := ih (n + 1) (by omega) i1 x1 c2 l2 h1 hl2
      refine ⟨c', l', i', x', Ev.step (fun _ => rfl) ?_, hb⟩
      simp only [spec_l4Some.l0, e1, Option.bind_some, w64 (show -9223372036854775808 ≤ 40 - r by omega) (show 40 - r ≤ 9223372036854775807 by omega), if_pos hc, w64n (show n < 100 by omega) (show (100 : Nat) ≤ 9223372036854775807 by omega)]
      exact Ev.bind h2 h
    · obtain ⟨c', l', i', x', h, hb⟩ := l4Some_j1 s hs i1 x1 c l h1 hl
      refine ⟨c', l', i', x', Ev.step (fun _ => rfl) ?_, hb⟩
      simp only [spec_l4Some.l0, e1, Option.bind_some, w64 (show -9223372036854775808 ≤ 40 - r by omega) (show 40 - r ≤ 9223372036854775807 by omega), if_neg hc]
      exact h
theorem l4Some_ex (s : List Int) (hs : s.length ≤ 4611686018427387904) (i x : Int) (h0 : 0 ≤ i) : ∃ c l i' x', Ev (fun k => spec_l4Some.f k s i x) (c, l, i', x') ∧ l.length ≤ 40 ∧ 0 ≤ i' := by
  obtain ⟨c, l, i1, x1, e1, hl, h1⟩ := l4Clock_ex s hs i x 6 h0 (by omega)
  obtain ⟨b, i2, x2, e2, h2⟩ := l1Once_ex s i1 x1 12 hs h1
  cases b
  · obtain ⟨c', l', i', x', h, hb⟩ := l4Some_j1 s hs i2 x2 c l h2 hl
    refine ⟨c', l', i', x', ?_, hb⟩
    simp only [spec_l4Some.f]
    refine Ev.bind e1 ?_
    simp only [e2, Option.bind_some, if_neg (show ¬ (false = true) by decide)]
    exact h
  · obtain ⟨c3, l3, i3, x3, e3, hl3, h3⟩ := l4Clock_ex s hs i2 x2 0 h2 (by omega)
    obtain ⟨c', l', i', x', h, hb⟩ := l4Some_l s hs 41 0 (by omega) i3 x3 c3 l3 h3 hl3
    refine ⟨c', l', i', x', ?_, hb⟩
    simp only [spec_l4Some.f]
    refine Ev.bind e1 ?_
    simp only [e2, Option.bind_some, if_true]
    exact Ev.bind e3 h
theorem l15_l (c : Int) (l : List S46) (hl : l.length ≤ 9223372036854775807) : ∀ d n : Nat, n + d = l.length → Ev (fun k => spec_l15Clock.l0 k n c l c l) true
  | 0, n, hd => by
    refine Ev.step (fun _ => rfl) ?_
    simp only [spec_l15Clock.l0, if_neg (show ¬ (n : Int) < (l.length : Int) by omega)]
    exact Ev.now _
  | d + 1, n, hd => by
    refine Ev.step (fun _ => rfl) ?_
    simp only [spec_l15Clock.l0, if_pos (show (n : Int) < (l.length : Int) by omega), if_pos (show (0 : Int) ≤ (n : Int) by omega), w64n (show n < l.length by omega) hl, beq_self_eq_true, Bool.not_true, Bool.or_self, if_neg (show ¬ (false = true) by decide)]
    exact l15_l c l hl d (n + 1) (by omega)
theorem ClockSame_self (c : Int) (l : List S46) (hl : l.length ≤ 9223372036854775807) : Ev (fun k => spec_ClockSame.f k c l c l) true := by
  simp only [spec_ClockSame.f, spec_l15Clock.f, if_true, bne_self_eq_false]
  refine Ev.bind (a := true) (Ev.step (fun _ => rfl) ?_) (Ev.now _)
  simp only [spec_l15Clock.j0, if_neg (show ¬ (false = true) by decide)]
  exact l15_l c l hl l.length 0 (by omega)
theorem rdG_nat (l : List S46) (n : Nat) : rd_T46 l (n : Int) = l.getD n z46 := by simp [rd_T46]
def posG (t : Int) : List S46 → Int → Int
  | [], _ => -1
  | x :: xs, i => if x.f0 > t then i else posG t xs (i + 1)
theorem posG_split (t w : Int) : ∀ (l : List S46) (i : Int), (posG t l i = -1 ∧ insT t w l = l ++ [⟨t, w⟩]) ∨ ∃ n : Nat, posG t l i = i + n ∧ n < l.length ∧ insT t w l = l.take n ++ (⟨t, w⟩ :: l.drop n)
  | [], i => .inl ⟨rfl, rfl⟩
  | x :: xs, i => by
    by_cases h : x.f0 > t
    · refine .inr ⟨0, ?_, by simp, ?_⟩
      · simp only [posG]; rw [if_pos h]; omega
      · simp only [insT]; rw [if_pos h]; rfl
    · rcases posG_split t w xs (i + 1) with ⟨h1, h2⟩ | ⟨n, h1, h2, h3⟩
      · refine .inl ⟨?_, ?_⟩
        · simp only [posG]; rw [if_neg h, h1]
        · simp only [insT]; rw [if_neg h, h2]; rfl
      · refine .inr ⟨n + 1, ?_, by simp; omega, ?_⟩
        · simp only [posG]; rw [if_neg h, h1]; omega
        · simp only [insT]; rw [if_neg h, h3]; simp
theorem IFse_l (l : List S46) (t : Int) (hl : l.length ≤ 9223372036854775807) : ∀ d n : Nat, n + d = l.length → Ev (fun k => slices_IndexFunc_se.l0 k l t (l.length : Int) n) (posG t (l.drop n) n)
  | 0, n, hd => by
    refine Ev.step (fun _ => rfl) ?_
    simp only [slices_IndexFunc_se.l0, if_neg (show ¬ (n : Int) < (l.length : Int) by omega)]
    rw [List.drop_eq_nil_of_le (by omega)]
    exact Ev.now _
  | d + 1, n, hd => by
    refine Ev.step (fun _ => rfl) ?_
    simp only [slices_IndexFunc_se.l0, if_pos (show (n : Int) < (l.length : Int) by omega), if_pos (show (0 : Int) ≤ (n : Int) by omega), w64n (show n < l.length by omega) hl, rdG_nat, impl_SetTimer_1.f, Option.bind_some, decide_eq_true_eq]
    rw [drop_cons z46 l n (by omega)]
    by_cases h : (l.getD n z46).f0 > t
    · simp only [if_pos h]
      refine Ev_eq (Ev.now _) ?_
      simp only [posG]
      rw [if_pos h]
    · simp only [if_neg h]
      refine Ev_eq (IFse_l l t hl d (n + 1) (by omega)) ?_
      simp only [posG]
      rw [if_neg h]
      rw [show ((n + 1 : Nat) : Int) = (n : Int) + 1 by omega]
theorem IFse_ev (l : List S46) (t : Int) (hl : l.length ≤ 9223372036854775807) : Ev (fun k => slices_IndexFunc_se.f k l t) (posG t l 0) := by
  simp only [slices_IndexFunc_se.f]
  exact IFse_l l t hl l.length 0 (by omega)
theorem insert_eq (l : List S46) (n : Nat) (x : S46) (hn : n ≤ l.length) (hl : l.length ≤ 1048577) : impl_Timer_49.f l (n : Int) [x] = some (l.take n ++ (x :: l.drop n)) := by
  simp only [impl_Timer_49.f, if_pos (show (0 : Int) ≤ (n : Int) by omega), if_pos (show (n : Int) ≤ (l.length : Int) by omega), List.length_cons, List.length_nil, Nat.zero_add, if_true, if_pos (show l.length + 1 < 4398046511104 by omega), Int.toNat_natCast]
  rfl
def setOk (c : Int) (l : List S46) (a w : Int) : Prop := clockOk c l ∧ 1 ≤ a ∧ (0 ≤ w ∧ w ≤ 23) ∧ a ≤ 1000000000 - c
noncomputable def setR (c : Int) (l : List S46) (a w : Int) : Int × List S46 × Int := if bP (setOk c l a w) = true then (if l.length = 40 then (c, l, 2) else (c, insT (c + a) w l, 0)) else (c, l, 1)
theorem setR_no {c : Int} {l : List S46} {a w : Int} (h : ¬ setOk c l a w) : setR c l a w = (c, l, 1) := by unfold setR; rw [if_neg (by rw [bP_neg h]; decide)]
theorem setR_full {c : Int} {l : List S46} {a w : Int} (h : setOk c l a w) (h2 : l.length = 40) : setR c l a w = (c, l, 2) := by unfold setR; rw [if_pos (bP_pos h), if_pos h2]
theorem setR_done {c : Int} {l : List S46} {a w : Int} (h : setOk c l a w) (h2 : ¬ l.length = 40) : setR c l a w = (c, insT (c + a) w l, 0) := by unfold setR; rw [if_pos (bP_pos h), if_neg h2]
theorem implSet_ev (c : Int) (l : List S46) (a w : Int) (hl : l.length ≤ 1048576) : Ev (fun k => impl_SetTimer.f k c l a w) (setR c l a w) := by
  have jt : ¬ setOk c l a w → Ev (fun k => impl_SetTimer.j0 k a w true c l c l) (setR c l a w) := by
    intro h
    rw [setR_no h]
    refine Ev.step (fun _ => rfl) ?_
    simp only [impl_SetTimer.j0, if_true]
    exact Ev.now _
  simp only [impl_SetTimer.f, copyClock_eq c l (by omega), Option.bind_some]
  refine Ev.bind (implClockOk_ev c l (by omega)) ?_
  by_cases h1 : clockOk c l
  · simp only [bP_pos h1, if_true]
    by_cases h2 : a < 1
    · simp only [if_pos h2]
      exact jt (fun h => by have := h.2.1; omega)
    · simp only [if_neg h2, within_eq, Option.bind_some]
      by_cases h3 : 0 ≤ w ∧ w ≤ 23
      · simp only [bP_pos h3, if_true]
        have hc := h1.1
        have hl2 := h1.2.1
        rw [w64 (show -9223372036854775808 ≤ 1000000000 - c by omega) (show 1000000000 - c ≤ 9223372036854775807 by omega)]
        by_cases h4 : a > 1000000000 - c
        · rw [decide_eq_true h4]
          exact jt (fun h => by have := h.2.2.2; omega)
        · rw [decide_eq_false h4]
          have hok : setOk c l a w := ⟨h1, by omega, h3, by omega⟩
          refine Ev.step (fun _ => rfl) ?_
          simp only [impl_SetTimer.j0, if_neg (show ¬ (false = true) by decide), w64 (show -9223372036854775808 ≤ c + a by omega) (show c + a ≤ 9223372036854775807 by omega)]
          by_cases h5 : l.length = 40
          · simp only [if_pos (show (l.length : Int) = 40 by omega)]
            rw [setR_full hok h5]
            exact Ev.now _
          · simp only [if_neg (show ¬ (l.length : Int) = 40 by omega)]
            rw [setR_done hok h5]
            refine Ev.bind (IFse_ev l (c + a) (by omega)) ?_
            rcases posG_split (c + a) w l 0 with ⟨q1, q2⟩ | ⟨n, q1, q2, q3⟩
            · rw [q1, q2]
              simp only [if_pos (show (-1 : Int) < 0 by decide)]
              rw [insert_eq l l.length _ (Nat.le_refl _) (by omega), List.take_length, List.drop_length]
              exact Ev.now _
            · rw [q1, q3]
              simp only [if_neg (show ¬ (0 : Int) + (n : Int) < 0 by omega), Int.zero_add]
              rw [insert_eq l n _ (by omega) (by omega)]
              exact Ev.now _
      · simp only [bP_neg h3, if_neg (show ¬ (false = true) by decide)]
        exact jt (fun h => h3 h.2.2.1)
  · simp only [bP_neg h1, if_neg (show ¬ (false = true) by decide)]
    exact jt (fun h => h1 h.1)
theorem specSet_ev (c : Int) (l : List S46) (a w : Int) (hl : l.length ≤ 1048576) : Ev (fun k => spec_SetTimer.f k c l a w) (setR c l a w) := by
  have jt : ¬ setOk c l a w → Ev (fun k => spec_SetTimer.j0 k a w true c l c l) (setR c l a w) := by
    intro h
    rw [setR_no h]
    refine Ev.step (fun _ => rfl) ?_
    simp only [spec_SetTimer.j0, if_true]
    exact Ev.now _
  simp only [spec_SetTimer.f, l4Copy_eq c l (by omega), Option.bind_some]
  refine Ev.bind (specClockOk_ev c l (by omega)) ?_
  by_cases h1 : clockOk c l
  · simp only [bP_pos h1, if_true]
    by_cases h2 : a < 1
    · simp only [if_pos h2]
      exact jt (fun h => by have := h.2.1; omega)
    · simp only [if_neg h2, l1In_eq, Option.bind_some]
      by_cases h3 : 0 ≤ w ∧ w ≤ 23
      · simp only [bP_pos h3, if_true]
        have hc := h1.1
        have hl2 := h1.2.1
        rw [w64 (show -9223372036854775808 ≤ 1000000000 - c by omega) (show 1000000000 - c ≤ 9223372036854775807 by omega)]
        by_cases h4 : a > 1000000000 - c
        · rw [decide_eq_true h4]
          exact jt (fun h => by have := h.2.2.2; omega)
        · rw [decide_eq_false h4]
          have hok : setOk c l a w := ⟨h1, by omega, h3, by omega⟩
          refine Ev.step (fun _ => rfl) ?_
          simp only [spec_SetTimer.j0, if_neg (show ¬ (false = true) by decide), w64 (show -9223372036854775808 ≤ c + a by omega) (show c + a ≤ 9223372036854775807 by omega)]
          by_cases h5 : l.length = 40
          · simp only [if_pos (show (l.length : Int) ≥ 40 by omega)]
            rw [setR_full hok h5]
            exact Ev.now _
          · simp only [if_neg (show ¬ (l.length : Int) ≥ 40 by omega)]
            rw [setR_done hok h5]
            have hh := specSet_l c c (c + a) w l (by omega) l.length 0 (by omega) false [] (by simp; omega)
            simpa using hh
      · simp only [bP_neg h3, if_neg (show ¬ (false = true) by decide)]
        exact jt (fun h => h3 h.2.2.1)
  · simp only [bP_neg h1, if_neg (show ¬ (false = true) by decide)]
    exact jt (fun h => h1 h.1)
theorem both_SetTimer (c : Int) (l : List S46) (a w : Int) (hl : l.length ≤ 1048576) : ∃ r_ : Int × (List S46) × Int, Ev (fun k => spec_SetTimer.f k c l a w) r_ ∧ Ev (fun k => impl_SetTimer.f k c l a w) r_ ∧ r_.2.1.length ≤ 1048577 := by
  refine ⟨_, specSet_ev c l a w hl, implSet_ev c l a w hl, ?_⟩
  unfold setR
  split
  · split
    · show l.length ≤ _; omega
    · show (insT (c + a) w l).length ≤ _; rw [insT_length]; omega
  · show l.length ≤ _; omega
theorem ok_mem {c : Int} {l : List S46} (h : clockOk c l) : ∀ x ∈ l, (c < x.f0 ∧ x.f0 ≤ 1000000000) ∧ (0 ≤ x.f1 ∧ x.f1 ≤ 23) := by
  intro x hx
  obtain ⟨i, hi, rfl⟩ := List.mem_iff_getElem.1 hx
  have := h.2.2 i (Nat.zero_le _) hi
  rw [List.getD_eq_getElem?_getD, List.getElem?_eq_getElem hi] at this
  exact ⟨this.1, this.2.1⟩
theorem ok_of {c : Int} {l : List S46} (hc : 0 ≤ c ∧ c ≤ 1000000000) (hl : l.length ≤ 40) (hm : ∀ x ∈ l, (c < x.f0 ∧ x.f0 ≤ 1000000000) ∧ (0 ≤ x.f1 ∧ x.f1 ≤ 23)) (hs : sorted l) : clockOk c l := by
  refine ⟨hc, hl, fun i _ hi => ?_⟩
  have := hm _ (List.getElem_mem hi)
  rw [List.getD_eq_getElem?_getD, List.getElem?_eq_getElem hi]
  refine ⟨this.1, this.2, fun h0 => ?_⟩
  rw [List.getD_eq_getElem?_getD, List.getElem?_eq_getElem (show i - 1 < l.length by omega)]
  exact List.pairwise_iff_getElem.1 hs (i - 1) i (by omega) hi (by omega)
theorem left_mem (t : Int) : ∀ (l : List S46) (x), x ∈ leftT t l → x ∈ l
  | [], x, h => h
  | y :: ys, x, h => by
    simp only [leftT] at h
    split at h
    · exact List.mem_cons_of_mem _ (left_mem t ys x h)
    · exact h
theorem left_sorted (t : Int) : ∀ (l : List S46), sorted l → sorted (leftT t l)
  | [], h => h
  | y :: ys, h => by
    simp only [leftT]
    split
    · exact left_sorted t ys (List.pairwise_cons.1 h).2
    · exact h
theorem left_gt (t : Int) : ∀ (l : List S46), sorted l → ∀ x ∈ leftT t l, t < x.f0
  | [], _, x, h => by cases h
  | y :: ys, hs, x, h => by
    simp only [leftT] at h
    split at h
    · exact left_gt t ys (List.pairwise_cons.1 hs).2 x h
    · rcases List.mem_cons.1 h with rfl | hx
      · omega
      · have := (List.pairwise_cons.1 hs).1 x hx
        omega
theorem left_left {s t : Int} (h : s ≤ t) : ∀ l : List S46, leftT t (leftT s l) = leftT t l ∧ firedT s l ++ firedT t (leftT s l) = firedT t l
  | [] => ⟨rfl, rfl⟩
  | x :: xs => by
    have ih := left_left h xs
    by_cases hc : x.f0 ≤ s
    · simp only [leftT, firedT, if_pos hc, if_pos (show x.f0 ≤ t by omega), List.cons_append, ih.1, ih.2]
      exact ⟨trivial, trivial⟩
    · simp only [leftT, firedT, if_neg hc, List.nil_append]
      exact ⟨trivial, trivial⟩
theorem ok_sorted {c : Int} {l : List S46} (h : clockOk c l) : sorted l := sorted_of l (fun i h0 hi => (h.2.2 i (by omega) hi).2.2 h0)
theorem ins_mem (t w : Int) : ∀ (l : List S46) (x : S46), x ∈ insT t w l ↔ x = ⟨t, w⟩ ∨ x ∈ l
  | [], x => by simp [insT]
  | y :: ys, x => by
    simp only [insT]
    split
    · simp
    · rw [List.mem_cons, ins_mem t w ys x, List.mem_cons]
      exact ⟨fun h => h.elim (fun h => .inr (.inl h)) (fun h => h.elim .inl (fun h => .inr (.inr h))), fun h => h.elim (fun h => .inr (.inl h)) (fun h => h.elim .inl (fun h => .inr (.inr h)))⟩
theorem ins_sorted (t w : Int) : ∀ l : List S46, sorted l → sorted (insT t w l)
  | [], _ => List.pairwise_cons.2 ⟨(fun _ h => by cases h), List.Pairwise.nil⟩
  | y :: ys, h => by
    obtain ⟨h1, h2⟩ := List.pairwise_cons.1 h
    simp only [insT]
    split
    · rename_i hc
      refine List.pairwise_cons.2 ⟨fun z hz => ?_, h⟩
      rcases List.mem_cons.1 hz with rfl | hz
      · show t ≤ _; omega
      · have := h1 z hz
        show t ≤ _; omega
    · rename_i hc
      refine List.pairwise_cons.2 ⟨fun z hz => ?_, ins_sorted t w ys h2⟩
      rcases (ins_mem t w ys z).1 hz with rfl | hz
      · show y.f0 ≤ t; omega
      · exact h1 z hz
theorem ins_before {s t : Int} (w : Int) (h : s < t) : ∀ l : List S46, firedT s (insT t w l) = firedT s l ∧ leftT s (insT t w l) = insT t w (leftT s l)
  | [] => by simp [insT, firedT, leftT]; omega
  | x :: xs => by
    have ih := ins_before w h xs
    by_cases hc : x.f0 > t
    · simp only [insT, if_pos hc, firedT, leftT, if_neg (show ¬ t ≤ s by omega), if_neg (show ¬ x.f0 ≤ s by omega)]
      exact ⟨trivial, trivial⟩
    · by_cases hs : x.f0 ≤ s
      · simp only [insT, if_neg hc, firedT, leftT, if_pos hs, ih.1, ih.2]
        exact ⟨trivial, trivial⟩
      · simp only [insT, if_neg hc, firedT, leftT, if_neg hs]
        exact ⟨trivial, trivial⟩
theorem ins_at (t w : Int) : ∀ l : List S46, firedT t (insT t w l) = firedT t l ++ [w]
  | [] => by simp [insT, firedT]
  | x :: xs => by
    have ih := ins_at t w xs
    by_cases hc : x.f0 > t
    · simp only [insT, if_pos hc, firedT, if_pos (Int.le_refl t), if_neg (show ¬ x.f0 ≤ t by omega)]
      rfl
    · simp only [insT, if_neg hc, firedT, if_pos (show x.f0 ≤ t by omega), ih]
      rfl
theorem ins_keep (t w : Int) : ∀ l : List S46, keepT w (insT t w l) = keepT w l
  | [] => by simp only [insT]; rw [keepT_neg (x := (⟨t, w⟩ : S46)) rfl]
  | x :: xs => by
    simp only [insT]
    split
    · rw [keepT_neg (x := (⟨t, w⟩ : S46)) rfl]
    · by_cases hx : x.f1 = w
      · rw [keepT_neg hx, keepT_neg hx, ins_keep t w xs]
      · rw [keepT_pos hx, keepT_pos hx, ins_keep t w xs]
theorem fired_mem (t : Int) : ∀ (l : List S46) (y : Int), y ∈ firedT t l → ∃ x, x ∈ l ∧ x.f1 = y
  | [], y, h => by cases h
  | x :: xs, y, h => by
    simp only [firedT] at h
    split at h
    · rcases List.mem_cons.1 h with h | h
      · exact ⟨x, List.mem_cons_self, h.symm⟩
      · obtain ⟨z, hz, e⟩ := fired_mem t xs y h
        exact ⟨z, List.mem_cons_of_mem _ hz, e⟩
    · cases h
theorem same_l (a : List Int) (hl : a.length ≤ 9223372036854775807) : ∀ d n : Nat, n + d = a.length → Ev (fun k => laws_sameInts.l0 k a a n) true
  | 0, n, hd => by
    refine Ev.step (fun _ => rfl) ?_
    simp only [laws_sameInts.l0, if_neg (show ¬ (n : Int) < (a.length : Int) by omega)]
    exact Ev.now _
  | d + 1, n, hd => by
    refine Ev.step (fun _ => rfl) ?_
    simp only [laws_sameInts.l0, if_pos (show (n : Int) < (a.length : Int) by omega), if_pos (show (0 : Int) ≤ (n : Int) by omega), w64n (show n < a.length by omega) hl, if_true]
    exact same_l a hl d (n + 1) (by omega)
theorem same_self (a : List Int) (hl : a.length ≤ 9223372036854775807) : Ev (fun k => laws_sameInts.f k a a) true := by
  simp only [laws_sameInts.f, if_true]
  exact same_l a hl a.length 0 (by omega)
theorem in_l (l : List Int) (a : Int) (hl : l.length ≤ 9223372036854775807) (h : a ∉ l) : ∀ d n : Nat, n + d = l.length → Ev (fun k => laws_within.l0 k l a n) false
  | 0, n, hd => by
    refine Ev.step (fun _ => rfl) ?_
    simp only [laws_within.l0, if_neg (show ¬ (n : Int) < (l.length : Int) by omega)]
    exact Ev.now _
  | d + 1, n, hd => by
    refine Ev.step (fun _ => rfl) ?_
    have hne : ¬ l.getD n 0 = a := fun e => h (by rw [← e, List.getD_eq_getElem?_getD, List.getElem?_eq_getElem (show n < l.length by omega)]; exact List.getElem_mem _)
    simp only [laws_within.l0, if_pos (show (n : Int) < (l.length : Int) by omega), if_pos (show (0 : Int) ≤ (n : Int) by omega), w64n (show n < l.length by omega) hl, rd_nat, if_neg hne]
    exact in_l l a hl h d (n + 1) (by omega)
theorem DrawSetTimer_ex (s : List Int) (hs : s.length ≤ 4611686018427387904) : ∃ c l a w, Ev (fun k => spec_DrawSetTimer.f k s) (c, l, a, w) ∧ l.length ≤ 40 := by
  obtain ⟨x0, h0⟩ := l1New_ev s hs
  obtain ⟨c, l, i1, x1, e1, hl, h1⟩ := l4Some_ex s hs 0 x0 (by omega)
  obtain ⟨a, i2, x2, e2, _, h2⟩ := l1PickInt_ex s i1 x1 [0, 1, 2, 5, 9, 15, 20, 21, 100, 1000000000, 9223372036854775807, (-1)] hs h1 (by simp)
  obtain ⟨w, i3, x3, e3, _, h3⟩ := l1PickInt_ex s i2 x2 [0, 1, 2, 3, 23, 24, (-1)] hs h2 (by simp)
  refine ⟨c, l, a, w, ?_, hl⟩
  simp only [spec_DrawSetTimer.f]
  refine Ev.bind h0 (Ev.bind e1 ?_)
  simp only [e2, Option.bind_some, e3]
  exact Ev.now _
theorem timer_j0 (c : Int) (l : List S46) (a w : Int) (h : setOk c l a w) (h40 : ¬ l.length = 40) : Ev (fun k => laws_FnTimer.j0 k a w false c (insT (c + a) w l)) true := by
  have hlen := insT_length (c + a) w l
  have hl := h.1.2.1
  have hL : clockOk c (insT (c + a) w l) := ok_of h.1.1 (by omega) (fun x hx => by
    rcases (ins_mem _ _ _ _).1 hx with rfl | hx
    · exact ⟨⟨by show c < c + a; have := h.2.1; omega, by show c + a ≤ _; have := h.2.2.2; omega⟩, h.2.2.1⟩
    · exact ok_mem h.1 x hx) (ins_sorted _ _ _ (ok_sorted h.1))
  have hK : clockOk c (keepT w l) := ok_of h.1.1 (Nat.le_trans (keepT_len w l) hl) (fun x hx => ok_mem h.1 x (List.mem_filter.1 hx).1) (List.Pairwise.filter _ (ok_sorted h.1))
  have hkl := keepT_len w l
  refine Ev.step (fun _ => rfl) ?_
  simp only [laws_FnTimer.j0, if_neg (show ¬ (false = true) by decide)]
  refine Ev.bind (implStop_ev c (insT (c + a) w l) w (by omega)) ?_
  simp only [bP_pos hL, if_true, ins_keep]
  refine Ev.bind (adv_good c (keepT w l) a hK (by have := h.2.1; omega) h.2.2.2).2 ?_
  have hf := fired_left_len (c + a) (keepT w l)
  refine Ev_ifpos (by omega) ?_
  refine Ev.bind (a := false) ?_ ?_
  · simp only [laws_within.f]
    refine in_l (firedT (c + a) (keepT w l)) w (by omega) (fun hm => ?_) _ 0 (Nat.zero_add _)
    obtain ⟨x, hx, e⟩ := fired_mem _ _ _ hm
    have := (List.mem_filter.1 hx).2
    simp [e] at this
  · refine Ev_ifneg (by decide) ?_
    refine Ev_eq (Ev.now _) ?_
    rw [w64 (by omega) (by omega)]
    exact beq_iff_eq.2 (by omega)
theorem timer_ev (s : List Int) : Ev (fun k => laws_FnTimer.f k s) true := by
  simp only [laws_FnTimer.f, laws_big.f, Option.bind_some]
  by_cases hb : (s.length : Int) > 1048576
  · simp only [decide_eq_true hb, if_true]
    exact Ev.now _
  simp only [decide_eq_false hb, if_neg (show ¬ (false = true) by decide)]
  obtain ⟨c, l, a, w, hd, hl⟩ := DrawSetTimer_ex s (by omega)
  refine Ev.bind hd ?_
  refine Ev.bind (implSet_ev c l a w (by omega)) ?_
  refine Ev.bind (specSet_ev c l a w (by omega)) ?_
  by_cases h : setOk c l a w
  · by_cases h40 : l.length = 40
    · rw [setR_full h h40]
      refine Ev_ifneg (fun e => absurd (show (2 : Int) = 0 from e) (by decide)) (Ev_ifpos rfl ?_)
      exact Ev.bind (ClockSame_self c l (by omega)) (Ev.now _)
    · rw [setR_done h h40]
      have hlen := insT_length (c + a) w l
      have hca := h.1.1
      have ha1 := h.2.1
      have ha2 := h.2.2.2
      have hL : clockOk c (insT (c + a) w l) := ok_of h.1.1 (by omega) (fun x hx => by
        rcases (ins_mem _ _ _ _).1 hx with rfl | hx
        · exact ⟨⟨by show c < c + a; omega, by show c + a ≤ _; omega⟩, h.2.2.1⟩
        · exact ok_mem h.1 x hx) (ins_sorted _ _ _ (ok_sorted h.1))
      obtain ⟨q1, q2⟩ := ins_before w (show c + (a - 1) < c + a by omega) l
      have hF : clockOk (c + (a - 1)) (leftT (c + (a - 1)) (insT (c + a) w l)) := ok_of (by omega) (by have := fired_left_len (c + (a - 1)) (insT (c + a) w l); omega) (fun x hx => by
        have h1 := left_gt _ _ (ok_sorted hL) x hx
        have h2 := ok_mem hL x (left_mem _ _ x hx)
        exact ⟨⟨h1, h2.1.2⟩, h2.2⟩) (left_sorted _ _ (ok_sorted hL))
      refine Ev_ifpos (by first | trivial | rfl) ?_
      simp only [w64 (show -9223372036854775808 ≤ a - 1 by omega) (show a - 1 ≤ 9223372036854775807 by omega)]
      refine Ev.bind (adv_good c _ (a - 1) hL (by omega) (by omega)).2 ?_
      refine Ev.bind (adv_good c l (a - 1) h.1 (by omega) (by omega)).1 ?_
      refine Ev.bind (adv_good _ _ 1 hF (by omega) (by omega)).2 ?_
      refine Ev.bind (adv_good c l a h.1 (by omega) ha2).1 ?_
      refine Ev_ifpos (by first | trivial | rfl) (Ev_ifpos (by first | trivial | rfl) ?_)
      rw [show c + (a - 1) + 1 = c + a by omega]
      simp only [q1, q2, ins_at]
      have f1 := fired_left_len (c + (a - 1)) l
      have f2 := fired_left_len (c + a) (leftT (c + (a - 1)) l)
      have f3 := congrArg List.length (left_left (show c + (a - 1) ≤ c + a by omega) l).2
      rw [List.length_append] at f3
      have f4 : ((firedT (c + a) (leftT (c + (a - 1)) l) ++ [w]).length : Int) = ((firedT (c + a) (leftT (c + (a - 1)) l)).length : Int) + 1 := by simp
      refine Ev.bind (same_self _ (by omega)) ?_
      refine Ev_ifpos rfl (Ev_ifneg (by omega) ?_)
      rw [f4]
      rw [w64 (show -9223372036854775808 ≤ ((firedT (c + a) (leftT (c + (a - 1)) l)).length : Int) + 1 - 1 by omega) (by omega)]
      refine Ev_ifpos (by omega) (Ev_ifpos (by omega) ?_)
      have f5 : rd (firedT (c + a) (leftT (c + (a - 1)) l) ++ [w]) (((firedT (c + a) (leftT (c + (a - 1)) l)).length : Int) + 1 - 1) = w := by
        rw [show ((firedT (c + a) (leftT (c + (a - 1)) l)).length : Int) + 1 - 1 = (((firedT (c + a) (leftT (c + (a - 1)) l)).length : Nat) : Int) by omega, rd_nat]
        simp [List.getD_eq_getElem?_getD]
      refine Ev_ifpos f5 ?_
      rw [w64 (by omega) (by omega), w64 (by omega) (by omega), show ((firedT (c + (a - 1)) l).length : Int) + (((firedT (c + a) (leftT (c + (a - 1)) l)).length : Int) + 1) = ((firedT (c + a) l).length : Int) + 1 by omega, bne_self_eq_false]
      exact timer_j0 c l a w h h40
  · rw [setR_no h]
    refine Ev_ifneg (fun e => absurd (show (1 : Int) = 0 from e) (by decide)) (Ev_ifpos rfl ?_)
    exact Ev.bind (ClockSame_self c l (by omega)) (Ev.now _)
end Go.Proofs.Ytfgjfheiekhmlaa.Q
