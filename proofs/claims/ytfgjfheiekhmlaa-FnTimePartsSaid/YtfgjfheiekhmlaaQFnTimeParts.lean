/- Plain laws of what the printed functions compute, the program's and the reference's, for every number and list; conditions: those of each theorem. -/
import Derived.Test.YtfgjfheiekhmlaaZx2
import Derived.Test.YtfgjfheiekhmlaaZx3
import Derived.Test.YtfgjfheiekhmlaaZx4
import Derived.Test.YtfgjfheiekhmlaaZx5
import Derived.Test.YtfgjfheiekhmlaaZx8
import Derived.Test.YtfgjfheiekhmlaaZx10
import Derived.Test.YtfgjfheiekhmlaaZx14
import Derived.Test.YtfgjfheiekhmlaaZx15
import Derived.Test.YtfgjfheiekhmlaaZx16
import Derived.Test.YtfgjfheiekhmlaaZx17
import Derived.Test.YtfgjfheiekhmlaaZx18
import Derived.Test.YtfgjfheiekhmlaaZx19
import Derived.Test.YtfgjfheiekhmlaaZx20
import Derived.Test.YtfgjfheiekhmlaaZx21
import Derived.Test.YtfgjfheiekhmlaaZx22
import Derived.Test.YtfgjfheiekhmlaaZx23
import Derived.Test.YtfgjfheiekhmlaaZx25
import Derived.Test.YtfgjfheiekhmlaaZx34
namespace Go.Proofs.Ytfgjfheiekhmlaa.Q
open Go.RowKit Go.Proofs.Ytfgjfheiekhmlaa.Z Go.Proofs.YtfgjfheiekhmlaaW.PrintWords Go.Proofs.YtfgjfheiekhmlaaW.PrintLast Go.Proofs.YtfgjfheiekhmlaaW.PrintMore
set_option linter.unusedVariables false
set_option linter.unusedSimpArgs false
theorem w64 {x : Int} (h0 : -9223372036854775808 ≤ x) (h1 : x ≤ 9223372036854775807) : wrap64 x = x := by unfold wrap64; omega
theorem w64n {n m : Nat} (h : n < m) (hm : m ≤ 9223372036854775807) : wrap64 ((n : Int) + 1) = ((n + 1 : Nat) : Int) := by rw [w64 (by omega) (by omega)]; omega
theorem rd_nat (l : List Int) (n : Nat) : rd l (n : Int) = l.getD n 0 := by simp [rd]
theorem rdOf_nat {α : Type} (d : α) (l : List α) (n : Nat) : rdOf d l (n : Int) = l.getD n d := by simp [rdOf]
theorem drop_cons {α : Type} (d : α) (l : List α) (n : Nat) (h : n < l.length) : l.drop n = l.getD n d :: l.drop (n + 1) := by
  rw [List.drop_eq_getElem_cons h, List.getD_eq_getElem?_getD, List.getElem?_eq_getElem h]; rfl
theorem take_cons {α : Type} (d : α) (l : List α) (n : Nat) (h : n < l.length) : l.take (n + 1) = l.take n ++ [l.getD n d] := by
  rw [List.take_succ_eq_append_getElem h, List.getD_eq_getElem?_getD, List.getElem?_eq_getElem h]; rfl
noncomputable def bP (p : Prop) : Bool := @decide p (Classical.propDecidable p)
theorem bP_iff {p : Prop} : bP p = true ↔ p := by simp [bP]
theorem bP_pos {p : Prop} (h : p) : bP p = true := bP_iff.2 h
theorem bP_neg {p : Prop} (h : ¬ p) : bP p = false := by
  cases hb : bP p
  · rfl
  · exact absurd (bP_iff.1 hb) h
theorem bP_congr {p q : Prop} (h : p ↔ q) : bP p = bP q := by rw [propext h]
theorem bP_dec (p : Prop) [Decidable p] : decide p = bP p := by
  by_cases h : p
  · rw [bP_pos h, decide_eq_true h]
  · rw [bP_neg h, decide_eq_false h]
theorem Ev_eq {α : Type} {g : Nat → Option α} {r s : α} (h : Ev g r) (e : r = s) : Ev g s := e ▸ h
theorem Ev_ifpos {α : Type} {c : Prop} [Decidable c] {g f : Nat → Option α} {r : α} (h : c) (k : Ev g r) : Ev (fun n => if c then g n else f n) r := by
  simpa only [if_pos h] using k
theorem Ev_ifneg {α : Type} {c : Prop} [Decidable c] {g f : Nat → Option α} {r : α} (h : ¬ c) (k : Ev f r) : Ev (fun n => if c then g n else f n) r := by
  simpa only [if_neg h] using k
theorem Ev_some {α β : Type} {g : Option α} {f : Nat → α → Option β} {a : α} {r : β} (h : g = some a) (k : Ev (fun n => f n a) r) : Ev (fun n => g.bind (f n)) r := by
  simpa only [h, Option.bind_some] using k
theorem Ev_ofk {α : Type} {r : α} {g : Option α} (h : g = some r) : Ev (fun _ => g) r := ⟨0, fun _ _ => h⟩
def upFrom : Int → Nat → List Int
  | _, 0 => []
  | v, n + 1 => v :: upFrom (v + 1) n
theorem upFrom_length : ∀ n v, (upFrom v n).length = n
  | 0, _ => rfl
  | n + 1, v => by simp [upFrom, upFrom_length n]
def pos (a : Int) : List Int → Int → Int
  | [], _ => -1
  | x :: xs, i => if x = a then i else pos a xs (i + 1)
theorem pos_spec (a : Int) : ∀ (l : List Int) (i : Int), 0 ≤ i → (a ∈ l → i ≤ pos a l i ∧ pos a l i < i + l.length) ∧ (a ∉ l → pos a l i = -1)
  | [], i, _ => by simp [pos]
  | x :: xs, i, hi => by
    have ih := pos_spec a xs (i + 1) (by omega)
    unfold pos
    by_cases hx : x = a
    · rw [if_pos hx]
      refine ⟨fun _ => ⟨Int.le_refl _, by simp only [List.length_cons]; omega⟩, fun h => absurd (by rw [hx]; exact List.mem_cons_self) h⟩
    · rw [if_neg hx]
      refine ⟨fun h => ?_, fun h => ih.2 (fun h' => h (List.mem_cons_of_mem _ h'))⟩
      have h' : a ∈ xs := by
        rcases List.mem_cons.1 h with h | h
        · exact absurd h.symm hx
        · exact h
      have := ih.1 h'
      simp only [List.length_cons]
      omega
theorem pos_mem (a : Int) (l : List Int) : (0 ≤ pos a l 0) ↔ a ∈ l := by
  have h := pos_spec a l 0 (by omega)
  constructor
  · intro h0
    by_cases hm : a ∈ l
    · exact hm
    · have := h.2 hm; omega
  · intro hm
    exact (h.1 hm).1
theorem l1In_eq (a b c : Int) : spec_l1In.f a b c = some (bP (b ≤ a ∧ a ≤ c)) := by
  simp only [spec_l1In.f]
  by_cases h : a ≥ b
  · rw [if_pos h, bP_dec, bP_congr (show (a ≤ c) ↔ (b ≤ a ∧ a ≤ c) by omega)]
  · rw [if_neg h, bP_neg (by omega)]
theorem within_eq (a b c : Int) : impl_within.f a b c = some (bP (b ≤ a ∧ a ≤ c)) := by
  simp only [impl_within.f]
  by_cases h : a ≥ b
  · rw [if_pos h, bP_dec, bP_congr (show (a ≤ c) ↔ (b ≤ a ∧ a ≤ c) by omega)]
  · rw [if_neg h, bP_neg (by omega)]
theorem and255 (x : Int) : 0 ≤ Go.bits .and .i64 x 255 ∧ Go.bits .and .i64 x 255 ≤ 255 := by
  have h : (BitVec.ofInt IntKind.i64.bits x &&& BitVec.ofInt IntKind.i64.bits 255).toNat ≤ 255 := by
    rw [BitVec.toNat_and]
    exact Nat.le_trans Nat.and_le_right (by decide)
  unfold Go.bits
  dsimp only
  generalize (BitVec.ofInt IntKind.i64.bits x &&& BitVec.ofInt IntKind.i64.bits 255).toNat = n at h
  have e : IntKind.wrap .i64 (n : Int) = n := by
    unfold IntKind.wrap
    simp only [IntKind.bits, IntKind.signed]
    first | omega | (split <;> omega) | (simp; omega)
  rw [e]
  omega
theorem l1Byte_ex (s : List Int) (i x : Int) (hs : s.length ≤ 4611686018427387904) (h0 : 0 ≤ i) : ∃ b i' x', spec_l1Byte.f s i x = some (b, i', x') ∧ (0 ≤ b ∧ b ≤ 255) ∧ 0 ≤ i' := by
  simp only [spec_l1Byte.f]
  by_cases h : i < (s.length : Int)
  · rw [if_pos h, if_pos h0]
    exact ⟨_, _, _, rfl, and255 _, by rw [w64 (by omega) (by omega)]; omega⟩
  · rw [if_neg h]
    exact ⟨_, _, _, rfl, and255 _, h0⟩
theorem l1Below_ex (s : List Int) (i x a : Int) (hs : s.length ≤ 4611686018427387904) (h0 : 0 ≤ i) : ∃ r i' x', spec_l1Below.f s i x a = some (r, i', x') ∧ 0 ≤ r ∧ (0 < a → r < a) ∧ (a ≤ 0 → r = 0) ∧ 0 ≤ i' := by
  simp only [spec_l1Below.f]
  by_cases h : a ≤ 0
  · rw [if_pos h]
    exact ⟨0, i, x, rfl, by omega, by omega, fun _ => rfl, h0⟩
  · rw [if_neg h]
    by_cases h2 : a ≤ 256
    · rw [if_pos h2]
      obtain ⟨b, i1, x1, e1, hb, h1⟩ := l1Byte_ex s i x hs h0
      simp only [e1, Option.bind_some, if_neg (show ¬ a = 0 by omega)]
      exact ⟨_, _, _, rfl, Int.tmod_nonneg _ hb.1, fun hp => Int.tmod_lt_of_pos _ hp, fun hn => absurd hn h, h1⟩
    · rw [if_neg h2]
      obtain ⟨b1, i1, x1, e1, hb1, h1⟩ := l1Byte_ex s i x hs h0
      obtain ⟨b2, i2, x2, e2, hb2, h2'⟩ := l1Byte_ex s i1 x1 hs h1
      obtain ⟨b3, i3, x3, e3, hb3, h3⟩ := l1Byte_ex s i2 x2 hs h2'
      obtain ⟨b4, i4, x4, e4, hb4, h4⟩ := l1Byte_ex s i3 x3 hs h3
      simp only [e1, e2, e3, e4, Option.bind_some, if_neg (show ¬ a = 0 by omega), w64 (show -9223372036854775808 ≤ b1 * 16777216 by omega) (show b1 * 16777216 ≤ 9223372036854775807 by omega), w64 (show -9223372036854775808 ≤ b2 * 65536 by omega) (show b2 * 65536 ≤ 9223372036854775807 by omega), w64 (show -9223372036854775808 ≤ b3 * 256 by omega) (show b3 * 256 ≤ 9223372036854775807 by omega), w64 (show -9223372036854775808 ≤ b1 * 16777216 + b2 * 65536 by omega) (show b1 * 16777216 + b2 * 65536 ≤ 9223372036854775807 by omega), w64 (show -9223372036854775808 ≤ b1 * 16777216 + b2 * 65536 + b3 * 256 by omega) (show b1 * 16777216 + b2 * 65536 + b3 * 256 ≤ 9223372036854775807 by omega), w64 (show -9223372036854775808 ≤ b1 * 16777216 + b2 * 65536 + b3 * 256 + b4 by omega) (show b1 * 16777216 + b2 * 65536 + b3 * 256 + b4 ≤ 9223372036854775807 by omega)]
      exact ⟨_, _, _, rfl, Int.tmod_nonneg _ (by omega), fun hp => Int.tmod_lt_of_pos _ hp, fun hn => absurd hn h, h4⟩
theorem l1Once_ex (s : List Int) (i x a : Int) (hs : s.length ≤ 4611686018427387904) (h0 : 0 ≤ i) : ∃ b i' x', spec_l1Once.f s i x a = some (b, i', x') ∧ 0 ≤ i' := by
  obtain ⟨r, i', x', e, _, _, _, h⟩ := l1Below_ex s i x a hs h0
  simp only [spec_l1Once.f, e, Option.bind_some]
  exact ⟨_, _, _, rfl, h⟩
theorem l1PickInt_ex (s : List Int) (i x : Int) (l : List Int) (hs : s.length ≤ 4611686018427387904) (h0 : 0 ≤ i) (hl : 0 < l.length) : ∃ r i' x', spec_l1PickInt.f s i x l = some (r, i', x') ∧ r ∈ l ∧ 0 ≤ i' := by
  obtain ⟨r, i', x', e, h1, h2, _, h⟩ := l1Below_ex s i x (l.length : Int) hs h0
  have h3 := h2 (by omega)
  simp only [spec_l1PickInt.f, e, Option.bind_some, if_pos h1, if_pos h3]
  refine ⟨_, _, _, rfl, ?_, h⟩
  unfold rd
  rw [List.getD_eq_getElem?_getD, List.getElem?_eq_getElem (by omega)]
  exact List.getElem_mem _
theorem l1New_l (s : List Int) (hs : s.length ≤ 4611686018427387904) : ∀ d n : Nat, n + d = 4001 → ∀ x : Int, ∃ x' : Int, Ev (fun k => spec_l1New.l0 k s x n) (s, 0, x')
  | 0, n, hn, x => by
    refine ⟨x, Ev.step (fun _ => rfl) ?_⟩
    simp only [spec_l1New.l0]
    by_cases h : (n : Int) < (s.length : Int)
    · simp only [if_pos h, if_neg (show ¬ (n : Int) < 4000 by omega)]
      exact Ev.now _
    · simp only [if_neg h]
      exact Ev.now _
  | d + 1, n, hn, x => by
    by_cases h : (n : Int) < (s.length : Int)
    · by_cases h2 : (n : Int) < 4000
      · obtain ⟨x', h3⟩ := l1New_l s hs d (n + 1) (by omega) (Go.bits .and .i64 (wrap64 ((wrap64 ((wrap64 (x * 131)) + (wrap64 (rd s n)))) + 7)) 1073741823)
        refine ⟨x', Ev.step (fun _ => rfl) ?_⟩
        simp only [spec_l1New.l0, if_pos h, if_pos h2, if_pos (show (0 : Int) ≤ (n : Int) by omega), w64n (show n < s.length by omega) (show s.length ≤ 9223372036854775807 by omega)]
        exact h3
      · refine ⟨x, Ev.step (fun _ => rfl) ?_⟩
        simp only [spec_l1New.l0, if_pos h, if_neg h2]
        exact Ev.now _
    · refine ⟨x, Ev.step (fun _ => rfl) ?_⟩
      simp only [spec_l1New.l0, if_neg h]
      exact Ev.now _
theorem l1New_ev (s : List Int) (hs : s.length ≤ 4611686018427387904) : ∃ x' : Int, Ev (fun k => spec_l1New.f k s) (s, 0, x') := by
  simp only [spec_l1New.f]
  exact l1New_l s hs 4001 0 (by omega) _
theorem sameInts_l (a b : List Int) (hl : a.length ≤ 9223372036854775807) (he : a.length = b.length) : ∀ d n : Nat, n + d = a.length → Ev (fun k => laws_sameInts.l0 k a b n) (bP (a.drop n = b.drop n))
  | 0, n, hd => by
    refine Ev.step (fun _ => rfl) ?_
    simp only [laws_sameInts.l0, if_neg (show ¬ (n : Int) < (a.length : Int) by omega)]
    rw [bP_pos (by rw [List.drop_eq_nil_of_le (by omega), List.drop_eq_nil_of_le (by omega)])]
    exact Ev.now _
  | d + 1, n, hd => by
    refine Ev.step (fun _ => rfl) ?_
    simp only [laws_sameInts.l0, if_pos (show (n : Int) < (a.length : Int) by omega), if_pos (show (0 : Int) ≤ (n : Int) by omega), if_pos (show (n : Int) < (b.length : Int) by omega), w64n (show n < a.length by omega) hl, rd_nat]
    rw [drop_cons 0 a n (by omega), drop_cons 0 b n (by omega)]
    by_cases h : a.getD n 0 = b.getD n 0
    · simp only [if_pos h]
      exact Ev_eq (sameInts_l a b hl he d (n + 1) (by omega)) (bP_congr ⟨fun e => by rw [h, e], fun e => (List.cons.inj e).2⟩)
    · simp only [if_neg h]
      rw [bP_neg (fun e => h (List.cons.inj e).1)]
      exact Ev.now _
theorem sameInts_ev (a b : List Int) (hl : a.length ≤ 9223372036854775807) : Ev (fun k => laws_sameInts.f k a b) (bP (a = b)) := by
  by_cases h : a.length = b.length
  · simp only [laws_sameInts.f, if_pos (show (a.length : Int) = (b.length : Int) by omega)]
    simpa using sameInts_l a b hl h a.length 0 (by omega)
  · simp only [laws_sameInts.f, if_neg (show ¬ (a.length : Int) = (b.length : Int) by omega)]
    rw [bP_neg (fun e => h (by rw [e]))]
    exact Ev.now _
theorem sameInts_self (a : List Int) (hl : a.length ≤ 9223372036854775807) : Ev (fun k => laws_sameInts.f k a a) true := Ev_eq (sameInts_ev a a hl) (bP_pos rfl)
def cFrom (c : Int) (l : List S46) (n : Nat) : Prop := ∀ i : Nat, n ≤ i → i < l.length → (c < (l.getD i z46).f0 ∧ (l.getD i z46).f0 ≤ 1000000000) ∧ (0 ≤ (l.getD i z46).f1 ∧ (l.getD i z46).f1 ≤ 23) ∧ (0 < i → (l.getD (i - 1) z46).f0 ≤ (l.getD i z46).f0)
def clockOk (c : Int) (l : List S46) : Prop := (0 ≤ c ∧ c ≤ 1000000000) ∧ l.length ≤ 40 ∧ cFrom c l 0
theorem cFrom_step (c : Int) (l : List S46) (n : Nat) (h : n < l.length) : cFrom c l n ↔ ((c < (l.getD n z46).f0 ∧ (l.getD n z46).f0 ≤ 1000000000) ∧ (0 ≤ (l.getD n z46).f1 ∧ (l.getD n z46).f1 ≤ 23) ∧ (0 < n → (l.getD (n - 1) z46).f0 ≤ (l.getD n z46).f0)) ∧ cFrom c l (n + 1) := by
  constructor
  · intro hf
    exact ⟨hf n (Nat.le_refl _) h, fun i hi => hf i (by omega)⟩
  · rintro ⟨h0, hf⟩ i hi hl
    rcases Nat.eq_or_lt_of_le hi with rfl | hlt
    · exact h0
    · exact hf i hlt hl
theorem rdT_n (l : List S46) (n : Nat) : rd_T46 l (n : Int) = l.getD n z46 := by simp [rd_T46]
theorem rdT_p (l : List S46) (n : Nat) (h : 0 < n) : rd_T46 l ((n : Int) - 1) = l.getD (n - 1) z46 := by
  rw [show (n : Int) - 1 = ((n - 1 : Nat) : Int) by omega, rdT_n]
theorem specClockOk_l (c : Int) (l : List S46) (hl : l.length ≤ 9223372036854775807) : ∀ d n : Nat, n + d = l.length → Ev (fun k => spec_ClockOk.l0 k n c l) (bP (cFrom c l n))
  | 0, n, hd => by
    refine Ev.step (fun _ => rfl) ?_
    simp only [spec_ClockOk.l0, if_neg (show ¬ (n : Int) < (l.length : Int) by omega)]
    rw [bP_pos (show cFrom c l n from fun i hi hl => by omega)]
    exact Ev.now _
  | d + 1, n, hd => by
    have ih := specClockOk_l c l hl d (n + 1) (by omega)
    refine Ev.step (fun _ => rfl) ?_
    simp only [spec_ClockOk.l0, if_pos (show (n : Int) < (l.length : Int) by omega), if_pos (show (0 : Int) ≤ (n : Int) by omega), w64n (show n < l.length by omega) hl, rdT_n, l1In_eq, Option.bind_some, w64 (show -9223372036854775808 ≤ (n : Int) - 1 by omega) (show (n : Int) - 1 ≤ 9223372036854775807 by omega)]
    rw [bP_congr (cFrom_step c l n (by omega))]
    by_cases h1 : (l.getD n z46).f0 ≤ c
    · simp only [if_pos h1]
      rw [bP_neg (fun h => by have := h.1.1.1; omega)]
      exact Ev.now _
    · simp only [if_neg h1]
      by_cases h2 : (l.getD n z46).f0 > 1000000000
      · simp only [if_pos h2]
        rw [bP_neg (fun h => by have := h.1.1.2; omega)]
        exact Ev.now _
      · simp only [if_neg h2]
        by_cases h3 : 0 ≤ (l.getD n z46).f1 ∧ (l.getD n z46).f1 ≤ 23
        · simp only [bP_pos h3, if_true]
          by_cases h4 : 0 < n
          · simp only [if_pos (show (n : Int) > 0 by omega), if_pos (show (0 : Int) ≤ (n : Int) - 1 by omega), if_pos (show (n : Int) - 1 < (l.length : Int) by omega), rdT_p l n h4]
            by_cases h5 : (l.getD (n - 1) z46).f0 > (l.getD n z46).f0
            · simp only [if_pos h5]
              rw [bP_neg (fun h => by have := h.1.2.2 h4; omega)]
              exact Ev.now _
            · simp only [if_neg h5]
              exact Ev_eq ih (bP_congr ⟨fun h => ⟨⟨⟨by omega, by omega⟩, h3, fun _ => by omega⟩, h⟩, fun h => h.2⟩)
          · simp only [if_neg (show ¬ (n : Int) > 0 by omega)]
            exact Ev_eq ih (bP_congr ⟨fun h => ⟨⟨⟨by omega, by omega⟩, h3, fun h' => absurd h' h4⟩, h⟩, fun h => h.2⟩)
        · simp only [bP_neg h3, if_neg (show ¬ (false = true) by decide)]
          rw [bP_neg (fun h => h3 h.1.2.1)]
          exact Ev.now _
theorem specClockOk_ev (c : Int) (l : List S46) (hl : l.length ≤ 9223372036854775807) : Ev (fun k => spec_ClockOk.f k c l) (bP (clockOk c l)) := by
  simp only [spec_ClockOk.f, l1In_eq, Option.bind_some]
  by_cases h1 : 0 ≤ c ∧ c ≤ 1000000000
  · simp only [bP_pos h1, if_true]
    refine Ev.step (fun _ => rfl) ?_
    by_cases h2 : (l.length : Int) > 40
    · simp only [spec_ClockOk.j0, decide_eq_true h2, if_true]
      rw [bP_neg (fun h => by have := h.2.1; omega)]
      exact Ev.now _
    · simp only [spec_ClockOk.j0, decide_eq_false h2, if_neg (show ¬ (false = true) by decide)]
      exact Ev_eq (specClockOk_l c l hl l.length 0 (by omega)) (bP_congr ⟨fun h => ⟨h1, by omega, h⟩, fun h => h.2.2⟩)
  · simp only [bP_neg h1, if_neg (show ¬ (false = true) by decide)]
    refine Ev.step (fun _ => rfl) ?_
    simp only [spec_ClockOk.j0, if_true]
    rw [bP_neg (fun h => h1 h.1)]
    exact Ev.now _
theorem implClockOk_l (c : Int) (l : List S46) (hl : l.length ≤ 9223372036854775807) : ∀ d n : Nat, n + d = l.length → Ev (fun k => impl_ClockOk.l0 k l (l.length : Int) n c l) (bP ((0 ≤ c ∧ c ≤ 1000000000) ∧ l.length ≤ 40 ∧ cFrom c l n))
  | 0, n, hd => by
    refine Ev.step (fun _ => rfl) ?_
    simp only [impl_ClockOk.l0, if_neg (show ¬ (n : Int) < (l.length : Int) by omega), within_eq, Option.bind_some]
    by_cases h1 : 0 ≤ c ∧ c ≤ 1000000000
    · simp only [bP_pos h1, if_true]
      refine Ev_eq (Ev.now _) ?_
      rw [bP_dec]
      exact bP_congr ⟨fun h => ⟨h1, by omega, fun i hi hl => by omega⟩, fun h => by have := h.2.1; omega⟩
    · simp only [bP_neg h1, if_neg (show ¬ (false = true) by decide)]
      rw [bP_neg (fun h => h1 h.1)]
      exact Ev.now _
  | d + 1, n, hd => by
    have ih := implClockOk_l c l hl d (n + 1) (by omega)
    refine Ev.step (fun _ => rfl) ?_
    simp only [impl_ClockOk.l0, if_pos (show (n : Int) < (l.length : Int) by omega), if_pos (show (0 : Int) ≤ (n : Int) by omega), w64n (show n < l.length by omega) hl, rdT_n, within_eq, Option.bind_some, w64 (show -9223372036854775808 ≤ (n : Int) - 1 by omega) (show (n : Int) - 1 ≤ 9223372036854775807 by omega)]
    rw [bP_congr (and_congr_right fun _ => and_congr_right fun _ => cFrom_step c l n (by omega))]
    by_cases h1 : (l.getD n z46).f0 ≤ c
    · simp only [if_pos h1]
      rw [bP_neg (fun h => by have := h.2.2.1.1.1; omega)]
      exact Ev.now _
    · simp only [if_neg h1]
      by_cases h2 : (l.getD n z46).f0 > 1000000000
      · simp only [if_pos h2]
        rw [bP_neg (fun h => by have := h.2.2.1.1.2; omega)]
        exact Ev.now _
      · simp only [if_neg h2]
        by_cases h3 : 0 ≤ (l.getD n z46).f1 ∧ (l.getD n z46).f1 ≤ 23
        · simp only [bP_pos h3, if_true]
          by_cases h4 : 0 < n
          · simp only [if_pos (show (n : Int) > 0 by omega), if_pos (show (0 : Int) ≤ (n : Int) - 1 by omega), if_pos (show (n : Int) - 1 < (l.length : Int) by omega), rdT_p l n h4]
            by_cases h5 : (l.getD (n - 1) z46).f0 > (l.getD n z46).f0
            · simp only [if_pos h5]
              rw [bP_neg (fun h => by have := h.2.2.1.2.2 h4; omega)]
              exact Ev.now _
            · simp only [if_neg h5]
              exact Ev_eq ih (bP_congr ⟨fun h => ⟨h.1, h.2.1, ⟨⟨by omega, by omega⟩, h3, fun _ => by omega⟩, h.2.2⟩, fun h => ⟨h.1, h.2.1, h.2.2.2⟩⟩)
          · simp only [if_neg (show ¬ (n : Int) > 0 by omega)]
            exact Ev_eq ih (bP_congr ⟨fun h => ⟨h.1, h.2.1, ⟨⟨by omega, by omega⟩, h3, fun h' => absurd h' h4⟩, h.2.2⟩, fun h => ⟨h.1, h.2.1, h.2.2.2⟩⟩)
        · simp only [bP_neg h3, if_neg (show ¬ (false = true) by decide)]
          rw [bP_neg (fun h => h3 h.2.2.1.2.1)]
          exact Ev.now _
theorem implClockOk_ev (c : Int) (l : List S46) (hl : l.length ≤ 9223372036854775807) : Ev (fun k => impl_ClockOk.f k c l) (bP (clockOk c l)) := by
  simp only [impl_ClockOk.f]
  exact implClockOk_l c l hl l.length 0 (by omega)
theorem l4Copy_eq (c : Int) (l : List S46) (hl : l.length < 8796093022208) : spec_l4Copy.f c l = some (c, l) := by
  simp only [spec_l4Copy.f, Option.bind_some, List.length_nil, Nat.zero_add, if_pos hl, List.nil_append]
theorem copyClock_eq (c : Int) (l : List S46) (hl : l.length < 8796093022208) : impl_copyClock.f c l = some (c, l) := by
  simp only [impl_copyClock.f, impl_Timer_52.f, Option.bind_some, List.length_nil, Nat.zero_add, if_pos hl, List.nil_append]
def sorted (l : List S46) : Prop := l.Pairwise fun a b => a.f0 ≤ b.f0
theorem sorted_of (l : List S46) (h : ∀ i, 0 < i → i < l.length → (l.getD (i - 1) z46).f0 ≤ (l.getD i z46).f0) : sorted l := by
  induction l with
  | nil => exact List.Pairwise.nil
  | cons x xs ih =>
    have ht : sorted xs := ih (fun i h0 h1 => by
      have := h (i + 1) (by omega) (by simpa using h1)
      obtain ⟨j, rfl⟩ : ∃ j, i = j + 1 := ⟨i - 1, by omega⟩
      simpa using this)
    refine List.pairwise_cons.2 ⟨?_, ht⟩
    cases xs with
    | nil => intro y hy; cases hy
    | cons y ys =>
      have h1 : x.f0 ≤ y.f0 := by simpa using h 1 (by omega) (by simp)
      intro z hz
      rcases List.mem_cons.1 hz with rfl | hz
      · exact h1
      · have := (List.pairwise_cons.1 ht).1 z hz
        omega
def firedT (t : Int) : List S46 → List Int
  | [] => []
  | x :: xs => if x.f0 ≤ t then x.f1 :: firedT t xs else []
def leftT (t : Int) : List S46 → List S46
  | [] => []
  | x :: xs => if x.f0 ≤ t then leftT t xs else x :: xs
theorem fired_left_len (t : Int) : ∀ l, (leftT t l).length + (firedT t l).length = l.length
  | [] => rfl
  | x :: xs => by
    have := fired_left_len t xs
    simp only [firedT, leftT]
    split
    · simp only [List.length_cons]; omega
    · simp
theorem filt (t : Int) : ∀ l : List S46, sorted l → l.filter (fun x => decide (¬ x.f0 ≤ t)) = leftT t l ∧ (l.filter (fun x => decide (x.f0 ≤ t))).map (fun x => x.f1) = firedT t l
  | [], _ => ⟨rfl, rfl⟩
  | x :: xs, h => by
    have ih := filt t xs (List.pairwise_cons.1 h).2
    have hx := (List.pairwise_cons.1 h).1
    by_cases hc : x.f0 ≤ t
    · simp only [leftT, firedT, if_pos hc, List.filter_cons, decide_eq_true hc, if_true, List.map_cons, ih.2]
      refine ⟨?_, trivial⟩
      rw [← ih.1]
      simp [hc]
    · simp only [leftT, firedT, if_neg hc]
      constructor
      · rw [List.filter_eq_self]
        intro y hy
        rcases List.mem_cons.1 hy with rfl | hy
        · exact decide_eq_true hc
        · have := hx y hy
          exact decide_eq_true (by omega)
      · rw [List.filter_eq_nil_iff.2 (fun y hy => ?_)]
        · rfl
        · rcases List.mem_cons.1 hy with rfl | hy
          · simpa using hc
          · have := hx y hy
            simp only [decide_eq_true_eq]
            omega
theorem implAdv_l (t : Int) : ∀ (l : List S46) (acc : List Int), acc.length + l.length ≤ 4000000 → Ev (fun k => impl_Advance.l0 k acc t l) (t, leftT t l, acc ++ firedT t l, 0)
  | [], acc, h => by
    refine Ev.step (fun _ => rfl) ?_
    simp only [impl_Advance.l0, List.length_nil, if_neg (show ¬ (((0 : Nat) : Int) > 0) by omega), leftT, firedT, List.append_nil]
    exact Ev.now _
  | x :: xs, acc, h => by
    simp only [List.length_cons] at h
    refine Ev.step (fun _ => rfl) ?_
    simp only [impl_Advance.l0, List.length_cons, if_pos (show (((xs.length + 1 : Nat) : Int) > 0) by omega), if_pos (show (0 : Int) < ((xs.length + 1 : Nat) : Int) by omega), if_pos (show (1 : Int) ≤ ((xs.length + 1 : Nat) : Int) by omega), show rd_T46 (x :: xs) 0 = x by simp [rd_T46], if_pos (show acc.length < 17592186044416 by omega), leftT, firedT]
    by_cases hc : x.f0 ≤ t
    · simp only [if_pos hc]
      refine Ev_eq (implAdv_l t xs (acc ++ [x.f1]) (by simp; omega)) ?_
      simp
    · simp only [if_neg hc, List.append_nil]
      exact Ev.now _
theorem specAdv_l (c t : Int) (l : List S46) (hl : l.length ≤ 1048577) : ∀ d n : Nat, n + d = l.length → ∀ (acc : List Int) (rest : List S46), acc.length + d ≤ 4000000 → rest.length + d ≤ 4000000 → Ev (fun k => spec_Advance.l0 k acc n c l t rest) (t, rest ++ (l.drop n).filter (fun x => decide (¬ x.f0 ≤ t)), acc ++ ((l.drop n).filter (fun x => decide (x.f0 ≤ t))).map (fun x => x.f1), 0)
  | 0, n, hd, acc, rest, h0, h1 => by
    refine Ev.step (fun _ => rfl) ?_
    simp only [spec_Advance.l0, if_neg (show ¬ (n : Int) < (l.length : Int) by omega)]
    rw [List.drop_eq_nil_of_le (show l.length ≤ n by omega)]
    refine Ev_eq (Ev.now _) (by simp)
  | d + 1, n, hd, acc, rest, h0, h1 => by
    refine Ev.step (fun _ => rfl) ?_
    simp only [spec_Advance.l0, if_pos (show (n : Int) < (l.length : Int) by omega), if_pos (show (0 : Int) ≤ (n : Int) by omega), w64n (show n < l.length by omega) (show l.length ≤ 9223372036854775807 by omega), rdT_n, if_pos (show acc.length < 17592186044416 by omega), if_pos (show rest.length < 8796093022208 by omega)]
    rw [drop_cons z46 l n (by omega)]
    by_cases hc : (l.getD n z46).f0 ≤ t
    · simp only [if_pos hc]
      refine Ev_eq (specAdv_l c t l hl d (n + 1) (by omega) _ _ (by simp; omega) (by omega)) ?_
      rw [List.filter_cons, List.filter_cons, if_neg (by simpa using hc), if_pos (by simpa using hc)]
      simp
    · simp only [if_neg hc]
      refine Ev_eq (specAdv_l c t l hl d (n + 1) (by omega) _ _ (by omega) (by simp; omega)) ?_
      rw [List.filter_cons, List.filter_cons, if_pos (by simpa using hc), if_neg (by simpa using hc)]
      simp
theorem adv_bad (c : Int) (l : List S46) (a : Int) (hl : l.length ≤ 1048576) (h : ¬ (clockOk c l ∧ 0 ≤ a ∧ a ≤ 1000000000 - c)) : Ev (fun k => spec_Advance.f k c l a) (c, l, [], 1) ∧ Ev (fun k => impl_Advance.f k c l a) (c, l, [], 1) := by
  have b1 : Ev (fun k => spec_Advance.j0 k a true c l) (c, l, [], 1) := by
    refine Ev.step (fun _ => rfl) ?_
    simp only [spec_Advance.j0, if_true, l4Copy_eq c l (by omega), Option.bind_some]
    exact Ev.now _
  have b2 : Ev (fun k => impl_Advance.j0 k a true c l) (c, l, [], 1) := by
    refine Ev.step (fun _ => rfl) ?_
    simp only [impl_Advance.j0, if_true]
    exact Ev.now _
  simp only [spec_Advance.f, impl_Advance.f, copyClock_eq c l (show l.length < 8796093022208 by omega), Option.bind_some]
  by_cases h1 : clockOk c l
  · have hc := h1.1
    constructor
    · refine Ev.bind (specClockOk_ev c l (by omega)) ?_
      simp only [bP_pos h1, if_true, w64 (show -9223372036854775808 ≤ 1000000000 - c by omega) (show 1000000000 - c ≤ 9223372036854775807 by omega)]
      by_cases h2 : a < 0
      · simp only [if_pos h2]; exact b1
      · simp only [if_neg h2]
        rw [decide_eq_true (show a > 1000000000 - c by by_cases h3 : a > 1000000000 - c; exact h3; exact absurd ⟨h1, by omega, by omega⟩ h)]
        exact b1
    · refine Ev.bind (implClockOk_ev c l (by omega)) ?_
      simp only [bP_pos h1, if_true, w64 (show -9223372036854775808 ≤ 1000000000 - c by omega) (show 1000000000 - c ≤ 9223372036854775807 by omega)]
      by_cases h2 : a < 0
      · simp only [if_pos h2]; exact b2
      · simp only [if_neg h2]
        rw [decide_eq_true (show a > 1000000000 - c by by_cases h3 : a > 1000000000 - c; exact h3; exact absurd ⟨h1, by omega, by omega⟩ h)]
        exact b2
  · constructor
    · refine Ev.bind (specClockOk_ev c l (by omega)) ?_
      simp only [bP_neg h1, if_neg (show ¬ (false = true) by decide)]
      exact b1
    · refine Ev.bind (implClockOk_ev c l (by omega)) ?_
      simp only [bP_neg h1, if_neg (show ¬ (false = true) by decide)]
      exact b2
theorem adv_good (c : Int) (l : List S46) (a : Int) (h1 : clockOk c l) (h2 : 0 ≤ a) (h3 : a ≤ 1000000000 - c) : Ev (fun k => spec_Advance.f k c l a) (c + a, leftT (c + a) l, firedT (c + a) l, 0) ∧ Ev (fun k => impl_Advance.f k c l a) (c + a, leftT (c + a) l, firedT (c + a) l, 0) := by
  have hc := h1.1
  have hl := h1.2.1
  have hs : sorted l := sorted_of l (fun i h0 hi => (h1.2.2 i (by omega) hi).2.2 h0)
  have wa : wrap64 (c + a) = c + a := w64 (by omega) (by omega)
  simp only [spec_Advance.f, impl_Advance.f, copyClock_eq c l (show l.length < 8796093022208 by omega), Option.bind_some]
  constructor
  · refine Ev.bind (specClockOk_ev c l (by omega)) ?_
    simp only [bP_pos h1, if_true, if_neg (show ¬ a < 0 by omega), w64 (show -9223372036854775808 ≤ 1000000000 - c by omega) (show 1000000000 - c ≤ 9223372036854775807 by omega), decide_eq_false (show ¬ a > 1000000000 - c by omega)]
    refine Ev.step (fun _ => rfl) ?_
    simp only [spec_Advance.j0, if_neg (show ¬ (false = true) by decide), wa]
    have h := specAdv_l c (c + a) l (by omega) l.length 0 (by omega) [] [] (by simp; omega) (by simp; omega)
    rw [List.drop_zero, (filt (c + a) l hs).1, (filt (c + a) l hs).2] at h
    simpa using h
  · refine Ev.bind (implClockOk_ev c l (by omega)) ?_
    simp only [bP_pos h1, if_true, if_neg (show ¬ a < 0 by omega), w64 (show -9223372036854775808 ≤ 1000000000 - c by omega) (show 1000000000 - c ≤ 9223372036854775807 by omega), decide_eq_false (show ¬ a > 1000000000 - c by omega)]
    refine Ev.step (fun _ => rfl) ?_
    simp only [impl_Advance.j0, if_neg (show ¬ (false = true) by decide), wa]
    have h := implAdv_l (c + a) l [] (by simp; omega)
    simpa using h
theorem both_Advance (c : Int) (l : List S46) (a : Int) (hl : l.length ≤ 1048576) : ∃ r_ : Int × (List S46) × List Int × Int, Ev (fun k => spec_Advance.f k c l a) r_ ∧ Ev (fun k => impl_Advance.f k c l a) r_ ∧ r_.2.1.length ≤ 1048577 ∧ r_.2.2.1.length ≤ 1048577 := by
  by_cases h : clockOk c l ∧ 0 ≤ a ∧ a ≤ 1000000000 - c
  · have hg := adv_good c l a h.1 h.2.1 h.2.2
    have hh := fired_left_len (c + a) l
    exact ⟨_, hg.1, hg.2, by show (leftT (c + a) l).length ≤ _; omega, by show (firedT (c + a) l).length ≤ _; omega⟩
  · have hg := adv_bad c l a hl h
    exact ⟨_, hg.1, hg.2, by show l.length ≤ _; omega, by simp⟩
def insT (t w : Int) : List S46 → List S46
  | [] => [⟨t, w⟩]
  | x :: xs => if x.f0 > t then ⟨t, w⟩ :: x :: xs else x :: insT t w xs
theorem insT_length (t w : Int) : ∀ l, (insT t w l).length = l.length + 1
  | [] => rfl
  | x :: xs => by
    simp only [insT]
    split
    · simp
    · simp [insT_length t w xs]
theorem specSet_l (c c' t w : Int) (l : List S46) (hl : l.length ≤ 1048577) : ∀ d n : Nat, n + d = l.length → ∀ (b : Bool) (acc : List S46), acc.length + 2 * d ≤ 4000000 → Ev (fun k => spec_SetTimer.l0 k b n c l c' acc t w) (c', acc ++ (if b = true then l.drop n else insT t w (l.drop n)), 0)
  | 0, n, hd, b, acc, h0 => by
    refine Ev.step (fun _ => rfl) ?_
    simp only [spec_SetTimer.l0, if_neg (show ¬ (n : Int) < (l.length : Int) by omega)]
    rw [List.drop_eq_nil_of_le (show l.length ≤ n by omega)]
    cases b
    · simp only [if_neg (show ¬ (false = true) by decide), if_pos (show acc.length < 8796093022208 by omega), insT]
      exact Ev.now _
    · simp only [if_true, List.append_nil]
      exact Ev.now _
  | d + 1, n, hd, b, acc, h0 => by
    refine Ev.step (fun _ => rfl) ?_
    simp only [spec_SetTimer.l0, if_pos (show (n : Int) < (l.length : Int) by omega), if_pos (show (0 : Int) ≤ (n : Int) by omega), w64n (show n < l.length by omega) (show l.length ≤ 9223372036854775807 by omega), rdT_n, if_pos (show acc.length < 8796093022208 by omega), Option.bind_some]
    rw [drop_cons z46 l n (by omega)]
    by_cases hc : (l.getD n z46).f0 > t
    · simp only [if_pos hc]
      cases b
      · simp only [if_neg (show ¬ (false = true) by decide), if_pos (show (acc ++ [(⟨t, w⟩ : S46)]).length < 8796093022208 by simp; omega), insT, if_pos hc]
        refine Ev_eq (specSet_l c c' t w l hl d (n + 1) (by omega) true _ (by simp; omega)) ?_
        simp
      · simp only [if_true]
        refine Ev_eq (specSet_l c c' t w l hl d (n + 1) (by omega) true _ (by simp; omega)) ?_
        simp
    · simp only [if_neg hc]
      refine Ev_eq (specSet_l c c' t w l hl d (n + 1) (by omega) b _ (by simp; omega)) ?_
      cases b
      · simp only [if_neg (show ¬ (false = true) by decide), insT, if_neg hc]
        simp
      · simp
theorem SetTimer_ex (c : Int) (l : List S46) (a w : Int) (hl : l.length ≤ 40) : ∃ c' l' e, Ev (fun k => spec_SetTimer.f k c l a w) (c', l', e) ∧ l'.length ≤ 40 := by
  have key : ∀ b : Bool, ∃ c' l' e, Ev (fun k => spec_SetTimer.j0 k a w b c l c l) (c', l', e) ∧ l'.length ≤ 40 := by
    intro b
    cases b
    · by_cases h : (l.length : Int) ≥ 40
      · refine ⟨c, l, 2, Ev.step (fun _ => rfl) ?_, hl⟩
        simp only [spec_SetTimer.j0, if_neg (show ¬ (false = true) by decide), if_pos h]
        exact Ev.now _
      · refine ⟨c, insT (wrap64 (c + a)) w l, 0, Ev.step (fun _ => rfl) ?_, by rw [insT_length]; omega⟩
        simp only [spec_SetTimer.j0, if_neg (show ¬ (false = true) by decide), if_neg h]
        have hh := specSet_l c c (wrap64 (c + a)) w l (by omega) l.length 0 (by omega) false [] (by simp; omega)
        simpa using hh
    · refine ⟨c, l, 1, Ev.step (fun _ => rfl) ?_, hl⟩
      simp only [spec_SetTimer.j0, if_true]
      exact Ev.now _
  simp only [spec_SetTimer.f, l4Copy_eq c l (show l.length < 8796093022208 by omega), Option.bind_some]
  by_cases h1 : clockOk c l
  · by_cases h2 : a < 1
    · obtain ⟨c', l', e, h, hb⟩ := key true
      refine ⟨c', l', e, Ev.bind (specClockOk_ev c l (by omega)) ?_, hb⟩
      simp only [bP_pos h1, if_true, if_pos h2]
      exact h
    · by_cases h3 : 0 ≤ w ∧ w ≤ 23
      · obtain ⟨c', l', e, h, hb⟩ := key (decide (a > wrap64 (1000000000 - c)))
        refine ⟨c', l', e, Ev.bind (specClockOk_ev c l (by omega)) ?_, hb⟩
        simp only [bP_pos h1, if_true, if_neg h2, l1In_eq, Option.bind_some, bP_pos h3]
        exact h
      · obtain ⟨c', l', e, h, hb⟩ := key true
        refine ⟨c', l', e, Ev.bind (specClockOk_ev c l (by omega)) ?_, hb⟩
        simp only [bP_pos h1, if_true, if_neg h2, l1In_eq, Option.bind_some, bP_neg h3, if_neg (show ¬ (false = true) by decide)]
        exact h
  · obtain ⟨c', l', e, h, hb⟩ := key true
    refine ⟨c', l', e, Ev.bind (specClockOk_ev c l (by omega)) ?_, hb⟩
    simp only [bP_neg h1, if_neg (show ¬ (false = true) by decide)]
    exact h
theorem l4Clock_l (s : List Int) (hs : s.length ≤ 4611686018427387904) (m : Nat) (hm : m ≤ 1000) : ∀ d n : Nat, n + d = m → ∀ (i x c : Int) (l : List S46), 0 ≤ i → l.length ≤ 40 → ∃ c' l' i' x', Ev (fun k => spec_l4Clock.l0 k m n s i x c l) (c', l', i', x') ∧ l'.length ≤ 40 ∧ 0 ≤ i'
  | 0, n, hn, i, x, c, l, h0, hl => by
    refine ⟨c, l, i, x, Ev.step (fun _ => rfl) ?_, hl, h0⟩
    simp only [spec_l4Clock.l0, if_neg (show ¬ (n : Int) < (m : Int) by omega)]
    exact Ev.now _
  | d + 1, n, hn, i, x, c, l, h0, hl => by
    obtain ⟨r1, i1, x1, e1, _, _, _, h1⟩ := l1Below_ex s i x 15 hs h0
    obtain ⟨r2, i2, x2, e2, _, _, _, h2⟩ := l1Below_ex s i1 x1 6 hs h1
    obtain ⟨c3, l3, e, h3, hl3⟩ := SetTimer_ex c l (wrap64 (1 + r1)) r2 hl
    obtain ⟨c', l', i', x', h4, hl4, h5⟩ := l4Clock_l s hs m hm d (n + 1) (by omega) i2 x2 c3 l3 h2 hl3
    refine ⟨c', l', i', x', Ev.step (fun _ => rfl) ?_, hl4, h5⟩
    simp only [spec_l4Clock.l0, if_pos (show (n : Int) < (m : Int) by omega), e1, e2, Option.bind_some, w64n (show n < m by omega) (show m ≤ 9223372036854775807 by omega)]
    exact Ev.bind h3 h4
theorem l4Clock_ex (s : List Int) (hs : s.length ≤ 4611686018427387904) (i x a : Int) (h0 : 0 ≤ i) (ha : 0 ≤ a ∧ a ≤ 900) : ∃ c l i' x', Ev (fun k => spec_l4Clock.f k s i x a) (c, l, i', x') ∧ l.length ≤ 40 ∧ 0 ≤ i' := by
  obtain ⟨c, i1, x1, e1, _, h1⟩ := l1PickInt_ex s i x [0, 5, 100, 999999980] hs h0 (by simp)
  obtain ⟨r, i2, x2, e2, hr0, hr1, _, h2⟩ := l1Below_ex s i1 x1 (a + 1) hs h1
  have hr := hr1 (by omega)
  obtain ⟨c', l', i', x', h, hl, h5⟩ := l4Clock_l s hs r.toNat (by omega) r.toNat 0 (by omega) i2 x2 c [] h2 (by simp)
  refine ⟨c', l', i', x', ?_, hl, h5⟩
  simp only [spec_l4Clock.f, e1, Option.bind_some, w64 (show -9223372036854775808 ≤ a + 1 by omega) (show a + 1 ≤ 9223372036854775807 by omega), e2]
  rw [show ((r.toNat : Nat) : Int) = r by omega] at h
  exact h
theorem l4Some_j1 (s : List Int) (hs : s.length ≤ 4611686018427387904) (i x c : Int) (l : List S46) (h0 : 0 ≤ i) (hl : l.length ≤ 40) : ∃ c' l' i' x', Ev (fun k => spec_l4Some.j1 k s i x c l) (c', l', i', x') ∧ l'.length ≤ 40 ∧ 0 ≤ i' := by
  obtain ⟨b, i1, x1, e1, h1⟩ := l1Once_ex s i x 8 hs h0
  have no : ∃ c' l' i' x', Ev (fun k => spec_l4Some.j2 k false s i1 x1 c l) (c', l', i', x') ∧ l'.length ≤ 40 ∧ 0 ≤ i' := by
    refine ⟨c, l, i1, x1, Ev.step (fun _ => rfl) ?_, hl, h1⟩
    simp only [spec_l4Some.j2, if_neg (show ¬ (false = true) by decide)]
    exact Ev.now _
  cases b
  · obtain ⟨c', l', i', x', h, hb⟩ := no
    refine ⟨c', l', i', x', Ev.step (fun _ => rfl) ?_, hb⟩
    simp only [spec_l4Some.j1, e1, Option.bind_some, if_neg (show ¬ (false = true) by decide)]
    exact h
  · by_cases hz : (l.length : Int) > 0
    · obtain ⟨r, i2, x2, e2, hr0, hr1, _, h2⟩ := l1Below_ex s i1 x1 (l.length : Int) hs h1
      have hr := hr1 (by omega)
      obtain ⟨v, i3, x3, e3, _, h3⟩ := l1PickInt_ex s i2 x2 [0, c, 1000000001] hs h2 (by simp)
      refine ⟨c, l.set (r : Int).toNat ⟨v, (rd_T46 l r).f1⟩, i3, x3, Ev.step (fun _ => rfl) ?_, by rw [List.length_set]; exact hl, h3⟩
      simp only [spec_l4Some.j1, e1, Option.bind_some, if_true, decide_eq_true hz]
      refine Ev.step (fun _ => rfl) ?_
      simp only [spec_l4Some.j2, if_true, e2, Option.bind_some, e3, if_pos hr0, if_pos hr]
      exact Ev.now _
    · obtain ⟨c', l', i', x', h, hb⟩ := no
      refine ⟨c', l', i', x', Ev.step (fun _ => rfl) ?_, hb⟩
      simp only [spec_l4Some.j1, e1, Option.bind_some, if_true, decide_eq_false hz]
      exact h
theorem l4Some_l (s : List Int) (hs : s.length ≤ 4611686018427387904) : ∀ d n : Nat, n + d = 41 → ∀ (i x c : Int) (l : List S46), 0 ≤ i → l.length ≤ 40 → ∃ c' l' i' x', Ev (fun k => spec_l4Some.l0 k n s i x c l) (c', l', i', x') ∧ l'.length ≤ 40 ∧ 0 ≤ i' := by
  intro d
  induction d with
  | zero =>
    intro n hn i x c l h0 hl
    obtain ⟨r, i1, x1, e1, hr0, hr1, _, h1⟩ := l1Below_ex s i x 2 hs h0
    have hr := hr1 (by omega)
    obtain ⟨c', l', i', x', h, hb⟩ := l4Some_j1 s hs i1 x1 c l h1 hl
    refine ⟨c', l', i', x', Ev.step (fun _ => rfl) ?_, hb⟩
    simp only [spec_l4Some.l0, e1, Option.bind_some, w64 (show -9223372036854775808 ≤ 40 - r by omega) (show 40 - r ≤ 9223372036854775807 by omega), if_neg (show ¬ (n : Int) < 40 - r by omega)]
    exact h
  | succ d ih =>
    intro n hn i x c l h0 hl
    obtain ⟨r, i1, x1, e1, hr0, hr1, _, h1⟩ := l1Below_ex s i x 2 hs h0
    have hr := hr1 (by omega)
    by_cases hc : (n : Int) < 40 - r
    · obtain ⟨c2, l2, e, h2, hl2⟩ := SetTimer_ex c l (wrap64 (1 + Int.tmod (n : Int) 9)) (Int.tmod (n : Int) 5) hl
      obtain ⟨c', l', i', x', h, hb⟩ := ih (n + 1) (by omega) i1 x1 c2 l2 h1 hl2
      refine ⟨c', l', i', x', Ev.step (fun _ => rfl) ?_, hb⟩
      simp only [spec_l4Some.l0, e1, Option.bind_some, w64 (show -9223372036854775808 ≤ 40 - r by omega) (show 40 - r ≤ 9223372036854775807 by omega), if_pos hc, w64n (show n < 100 by omega) (show (100 : Nat) ≤ 9223372036854775807 by omega)]
      exact Ev.bind h2 h
    · obtain ⟨c', l', i', x', h, hb⟩ := l4Some_j1 s hs i1 x1 c l h1 hl
      refine ⟨c', l', i', x', Ev.step (fun _ => rfl) ?_, hb⟩
      simp only [spec_l4Some.l0, e1, Option.bind_some, w64 (show -9223372036854775808 ≤ 40 - r by omega) (show 40 - r ≤ 9223372036854775807 by omega), if_neg hc]
      exact h
theorem l4Some_ex (s : List Int) (hs : s.length ≤ 4611686018427387904) (i x : Int) (h0 : 0 ≤ i) : ∃ c l i' x', Ev (fun k => spec_l4Some.f k s i x) (c, l, i', x') ∧ l.length ≤ 40 ∧ 0 ≤ i' := by
  obtain ⟨c, l, i1, x1, e1, hl, h1⟩ := l4Clock_ex s hs i x 6 h0 (by omega)
  obtain ⟨b, i2, x2, e2, h2⟩ := l1Once_ex s i1 x1 12 hs h1
  cases b
  · obtain ⟨c', l', i', x', h, hb⟩ := l4Some_j1 s hs i2 x2 c l h2 hl
    refine ⟨c', l', i', x', ?_, hb⟩
    simp only [spec_l4Some.f]
    refine Ev.bind e1 ?_
    simp only [e2, Option.bind_some, if_neg (show ¬ (false = true) by decide)]
    exact h
  · obtain ⟨c3, l3, i3, x3, e3, hl3, h3⟩ := l4Clock_ex s hs i2 x2 0 h2 (by omega)
    obtain ⟨c', l', i', x', h, hb⟩ := l4Some_l s hs 41 0 (by omega) i3 x3 c3 l3 h3 hl3
    refine ⟨c', l', i', x', ?_, hb⟩
    simp only [spec_l4Some.f]
    refine Ev.bind e1 ?_
    simp only [e2, Option.bind_some, if_true]
    exact Ev.bind e3 h
theorem DrawAdvance_ex (s : List Int) (hs : s.length ≤ 4611686018427387904) : ∃ c l a, Ev (fun k => spec_DrawAdvance.f k s) (c, l, a) ∧ l.length ≤ 40 := by
  obtain ⟨x0, h0⟩ := l1New_ev s hs
  obtain ⟨c, l, i1, x1, e1, hl, h1⟩ := l4Some_ex s hs 0 x0 (by omega)
  obtain ⟨a, i2, x2, e2, _, h2⟩ := l1PickInt_ex s i1 x1 [0, 1, 2, 3, 5, 8, 15, 20, 21, (-1), 9223372036854775807, 1000000000] hs h1 (by simp)
  refine ⟨c, l, a, ?_, hl⟩
  simp only [spec_DrawAdvance.f]
  refine Ev.bind h0 (Ev.bind e1 ?_)
  simp only [e2, Option.bind_some]
  exact Ev.now _
theorem l15_l (c : Int) (l : List S46) (hl : l.length ≤ 9223372036854775807) : ∀ d n : Nat, n + d = l.length → Ev (fun k => spec_l15Clock.l0 k n c l c l) true
  | 0, n, hd => by
    refine Ev.step (fun _ => rfl) ?_
    simp only [spec_l15Clock.l0, if_neg (show ¬ (n : Int) < (l.length : Int) by omega)]
    exact Ev.now _
  | d + 1, n, hd => by
    refine Ev.step (fun _ => rfl) ?_
    simp only [spec_l15Clock.l0, if_pos (show (n : Int) < (l.length : Int) by omega), if_pos (show (0 : Int) ≤ (n : Int) by omega), w64n (show n < l.length by omega) hl, beq_self_eq_true, Bool.not_true, Bool.or_self, if_neg (show ¬ (false = true) by decide)]
    exact l15_l c l hl d (n + 1) (by omega)
theorem ClockSame_self (c : Int) (l : List S46) (hl : l.length ≤ 9223372036854775807) : Ev (fun k => spec_ClockSame.f k c l c l) true := by
  simp only [spec_ClockSame.f, spec_l15Clock.f, if_true, bne_self_eq_false]
  refine Ev.bind (a := true) (Ev.step (fun _ => rfl) ?_) (Ev.now _)
  simp only [spec_l15Clock.j0, if_neg (show ¬ (false = true) by decide)]
  exact l15_l c l hl l.length 0 (by omega)
theorem at_some (l : List Int) (hw : ∀ x ∈ l, (Lit.int .u8 x).wf = true) (a : Int) (h0 : 0 ≤ a) (h1 : a ≤ 1000) (hl : l.length ≤ 1048576) : ∃ t, laws_at.f l a = some t ∧ 0 ≤ t ∧ t ≤ 255 := by
  simp only [laws_at.f]
  by_cases h : a < (l.length : Int)
  · simp only [if_pos h, if_pos h0]
    have hm : rd l a ∈ l := by
      rw [show a = ((a.toNat : Nat) : Int) by omega, rd_nat, List.getD_eq_getElem?_getD, List.getElem?_eq_getElem (show a.toNat < l.length by omega)]
      exact List.getElem_mem _
    have hb := hw _ hm
    simp [Lit.wf] at hb
    have hb : 0 ≤ rd l a ∧ rd l a ≤ 255 := by have e0 : IntKind.u8.min = 0 := rfl; have e1 : IntKind.u8.max = 255 := rfl; omega
    exact ⟨_, rfl, by rw [w64 (by omega) (by omega)]; exact hb.1, by rw [w64 (by omega) (by omega)]; exact hb.2⟩
  · simp only [if_neg h]
    refine ⟨_, rfl, ?_⟩
    rw [w64 (show -9223372036854775808 ≤ a * 7 by omega) (show a * 7 ≤ 9223372036854775807 by omega), w64 (show -9223372036854775808 ≤ a * 7 + (l.length : Int) by omega) (show a * 7 + (l.length : Int) ≤ 9223372036854775807 by omega), Int.tmod_eq_emod_of_nonneg (by omega)]
    omega
theorem ok_mem {c : Int} {l : List S46} (h : clockOk c l) : ∀ x ∈ l, (c < x.f0 ∧ x.f0 ≤ 1000000000) ∧ (0 ≤ x.f1 ∧ x.f1 ≤ 23) := by
  intro x hx
  obtain ⟨i, hi, rfl⟩ := List.mem_iff_getElem.1 hx
  have := h.2.2 i (Nat.zero_le _) hi
  rw [List.getD_eq_getElem?_getD, List.getElem?_eq_getElem hi] at this
  exact ⟨this.1, this.2.1⟩
theorem ok_of {c : Int} {l : List S46} (hc : 0 ≤ c ∧ c ≤ 1000000000) (hl : l.length ≤ 40) (hm : ∀ x ∈ l, (c < x.f0 ∧ x.f0 ≤ 1000000000) ∧ (0 ≤ x.f1 ∧ x.f1 ≤ 23)) (hs : sorted l) : clockOk c l := by
  refine ⟨hc, hl, fun i _ hi => ?_⟩
  have := hm _ (List.getElem_mem hi)
  rw [List.getD_eq_getElem?_getD, List.getElem?_eq_getElem hi]
  refine ⟨this.1, this.2, fun h0 => ?_⟩
  rw [List.getD_eq_getElem?_getD, List.getElem?_eq_getElem (show i - 1 < l.length by omega)]
  exact List.pairwise_iff_getElem.1 hs (i - 1) i (by omega) hi (by omega)
theorem left_mem (t : Int) : ∀ (l : List S46) (x), x ∈ leftT t l → x ∈ l
  | [], x, h => h
  | y :: ys, x, h => by
    simp only [leftT] at h
    split at h
    · exact List.mem_cons_of_mem _ (left_mem t ys x h)
    · exact h
theorem left_sorted (t : Int) : ∀ (l : List S46), sorted l → sorted (leftT t l)
  | [], h => h
  | y :: ys, h => by
    simp only [leftT]
    split
    · exact left_sorted t ys (List.pairwise_cons.1 h).2
    · exact h
theorem left_gt (t : Int) : ∀ (l : List S46), sorted l → ∀ x ∈ leftT t l, t < x.f0
  | [], _, x, h => by cases h
  | y :: ys, hs, x, h => by
    simp only [leftT] at h
    split at h
    · exact left_gt t ys (List.pairwise_cons.1 hs).2 x h
    · rcases List.mem_cons.1 h with rfl | hx
      · omega
      · have := (List.pairwise_cons.1 hs).1 x hx
        omega
theorem left_left {s t : Int} (h : s ≤ t) : ∀ l : List S46, leftT t (leftT s l) = leftT t l ∧ firedT s l ++ firedT t (leftT s l) = firedT t l
  | [] => ⟨rfl, rfl⟩
  | x :: xs => by
    have ih := left_left h xs
    by_cases hc : x.f0 ≤ s
    · simp only [leftT, firedT, if_pos hc, if_pos (show x.f0 ≤ t by omega), List.cons_append, ih.1, ih.2]
      exact ⟨trivial, trivial⟩
    · simp only [leftT, firedT, if_neg hc, List.nil_append]
      exact ⟨trivial, trivial⟩
theorem parts_l (told : List Int) (c : Int) (l : List S46) (t : Int) (q : List S46) (hq : ∀ x ∈ q, t < x.f0) (hql : q.length ≤ 1000) (htl : told.length ≤ 1000) (hlen : q.length + told.length = l.length) : ∀ d n : Nat, n + d = q.length → Ev (fun k => laws_FnTimeParts.l0 k told n c l t q) true
  | 0, n, hd => by
    refine Ev.step (fun _ => rfl) ?_
    simp only [laws_FnTimeParts.l0, if_neg (show ¬ (n : Int) < (q.length : Int) by omega), w64 (show -9223372036854775808 ≤ (q.length : Int) + (told.length : Int) by omega) (show (q.length : Int) + (told.length : Int) ≤ 9223372036854775807 by omega)]
    exact Ev_eq (Ev.now _) (beq_iff_eq.2 (by omega))
  | d + 1, n, hd => by
    have hm : q.getD n z46 ∈ q := by
      rw [List.getD_eq_getElem?_getD, List.getElem?_eq_getElem (show n < q.length by omega)]
      exact List.getElem_mem _
    have := hq _ hm
    refine Ev.step (fun _ => rfl) ?_
    simp only [laws_FnTimeParts.l0, if_pos (show (n : Int) < (q.length : Int) by omega), if_pos (show (0 : Int) ≤ (n : Int) by omega), rdT_n, if_neg (show ¬ (q.getD n z46).f0 ≤ t by omega), w64n (show n < q.length by omega) (show q.length ≤ 9223372036854775807 by omega)]
    exact parts_l told c l t q hq hql htl hlen d (n + 1) (by omega)
theorem parts_j1 (c : Int) (l : List S46) (a p : Int) (h1 : clockOk c l) (h2 : 0 ≤ a) (h3 : a ≤ 1000000000 - c) (hp0 : 0 ≤ p) (hp : p ≤ a) : Ev (fun k => laws_FnTimeParts.j1 k a (firedT (c + a) l) (firedT (c + a) l) p c l (c + a) (leftT (c + a) l) (c + a) (leftT (c + a) l)) true := by
  have hc := h1.1
  have hl := h1.2.1
  have hs : sorted l := sorted_of l (fun i h0 hi => (h1.2.2 i (by omega) hi).2.2 h0)
  have n1 := fired_left_len (c + p) l
  have n2 := fired_left_len (c + a) l
  have n3 := fired_left_len (c + a) (leftT (c + p) l)
  have ll := left_left (show c + p ≤ c + a by omega) l
  have ok2 : clockOk (c + p) (leftT (c + p) l) := ok_of (by omega) (by omega) (fun x hx => by
    have := ok_mem h1 x (left_mem _ _ _ hx)
    have hg := left_gt _ _ hs x hx
    exact ⟨⟨hg, this.1.2⟩, this.2⟩) (left_sorted _ _ hs)
  have s2 := (adv_good (c + p) (leftT (c + p) l) (a - p) ok2 (by omega) (by omega)).2
  rw [show c + p + (a - p) = c + a by omega, ll.1] at s2
  refine Ev.step (fun _ => rfl) ?_
  simp only [laws_FnTimeParts.j1, w64 (show -9223372036854775808 ≤ a - p by omega) (show a - p ≤ 9223372036854775807 by omega)]
  refine Ev.bind (adv_good c l p h1 hp0 (by omega)).2 (Ev.bind s2 ?_)
  simp only [if_true, Option.bind_some, List.length_nil, Nat.zero_add, List.nil_append, if_pos (show (firedT (c + p) l).length < 17592186044416 by omega), if_pos (show (firedT (c + p) l).length + (firedT (c + a) (leftT (c + p) l)).length < 17592186044416 by omega), ll.2]
  refine Ev.bind (sameInts_self _ (by omega)) ?_
  simp only [if_true]
  refine Ev.bind (ClockSame_self _ _ (by omega)) ?_
  simp only [Bool.not_true]
  refine Ev.step (fun _ => rfl) ?_
  simp only [laws_FnTimeParts.j2, if_neg (show ¬ (false = true) by decide)]
  exact parts_l _ c l (c + a) _ (left_gt _ _ hs) (by omega) (by omega) (by omega) (leftT (c + a) l).length 0 (by omega)
theorem parts_good (s : List Int) (hw : ∀ x ∈ s, (Lit.int .u8 x).wf = true) (hsl : s.length ≤ 1048576) (c : Int) (l : List S46) (a : Int) (h1 : clockOk c l) (h2 : 0 ≤ a) (h3 : a ≤ 1000000000 - c) : Ev (fun k => laws_FnTimeParts.j0 k s a (firedT (c + a) l) (firedT (c + a) l) 0 false c l (c + a) (leftT (c + a) l) (c + a) (leftT (c + a) l)) true := by
  have hc := h1.1
  refine Ev.step (fun _ => rfl) ?_
  simp only [laws_FnTimeParts.j0, if_neg (show ¬ (false = true) by decide), if_true]
  by_cases hz : a > 0
  · obtain ⟨t, ht, t0, t1⟩ := at_some s hw 2 (by omega) (by omega) hsl
    have hm : Int.tmod a 1000 = a % 1000 := Int.tmod_eq_emod_of_nonneg h2
    have hb0 := Int.tmod_nonneg (a % 1000 + 1) t0
    have hb1 := Int.tmod_lt_of_pos t (show 0 < a % 1000 + 1 by omega)
    simp only [if_pos hz, ht, Option.bind_some, hm, w64 (show -9223372036854775808 ≤ a % 1000 + 1 by omega) (show a % 1000 + 1 ≤ 9223372036854775807 by omega), if_neg (show ¬ a % 1000 + 1 = 0 by omega)]
    exact parts_j1 c l a _ h1 h2 h3 hb0 (by omega)
  · simp only [if_neg hz]
    exact parts_j1 c l a 0 h1 h2 h3 (by omega) h2
theorem parts_bad (s : List Int) (c : Int) (l : List S46) (a : Int) (hl : l.length ≤ 1000) : Ev (fun k => laws_FnTimeParts.j0 k s a [] [] 1 false c l c l c l) true := by
  refine Ev.step (fun _ => rfl) ?_
  simp only [laws_FnTimeParts.j0, if_neg (show ¬ (false = true) by decide), if_neg (show ¬ (1 : Int) = 0 by decide)]
  exact Ev.bind (ClockSame_self _ _ (by omega)) (Ev.now _)
theorem parts_ev (s : List Int) (hw : ∀ x ∈ s, (Lit.int .u8 x).wf = true) : Ev (fun k => laws_FnTimeParts.f k s) true := by
  simp only [laws_FnTimeParts.f, laws_big.f, Option.bind_some]
  by_cases h : (s.length : Int) > 1048576
  · simp only [decide_eq_true h, if_true]
    exact Ev.now _
  · simp only [decide_eq_false h, if_neg (show ¬ (false = true) by decide)]
    obtain ⟨c, l, a, hd, hl⟩ := DrawAdvance_ex s (by omega)
    refine Ev.bind hd ?_
    by_cases hk : clockOk c l ∧ 0 ≤ a ∧ a ≤ 1000000000 - c
    · have hg := adv_good c l a hk.1 hk.2.1 hk.2.2
      have n2 := fired_left_len (c + a) l
      refine Ev.bind hg.2 (Ev.bind hg.1 ?_)
      simp only [if_true]
      refine Ev.bind (sameInts_self _ (by omega)) ?_
      simp only [if_true]
      refine Ev.bind (ClockSame_self _ _ (by omega)) ?_
      simp only [Bool.not_true]
      exact parts_good s hw (by omega) c l a hk.1 hk.2.1 hk.2.2
    · have hg := adv_bad c l a (by omega) hk
      refine Ev.bind hg.2 (Ev.bind hg.1 ?_)
      simp only [if_true]
      refine Ev.bind (sameInts_self _ (by simp)) ?_
      simp only [if_true]
      refine Ev.bind (ClockSame_self _ _ (by omega)) ?_
      simp only [Bool.not_true]
      exact parts_bad s c l a (by omega)
end Go.Proofs.Ytfgjfheiekhmlaa.Q
