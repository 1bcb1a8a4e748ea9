/- Plain laws of what the printed functions compute, the program's and the reference's, for every number and list; conditions: those of each theorem. -/
import Derived.Test.YtfgjfheiekhmlaaZx2
import Derived.Test.YtfgjfheiekhmlaaZx3
import Derived.Test.YtfgjfheiekhmlaaZx4
import Derived.Test.YtfgjfheiekhmlaaZx5
import Derived.Test.YtfgjfheiekhmlaaZx7
import Derived.Test.YtfgjfheiekhmlaaZx8
import Derived.Test.YtfgjfheiekhmlaaZx9
import Derived.Test.YtfgjfheiekhmlaaZx10
import Derived.Test.YtfgjfheiekhmlaaZx11
import Derived.Test.YtfgjfheiekhmlaaZx12
import Derived.Test.YtfgjfheiekhmlaaZx13
namespace Go.Proofs.Ytfgjfheiekhmlaa.Q
open Go.RowKit Go.Proofs.Ytfgjfheiekhmlaa.Z Go.Proofs.YtfgjfheiekhmlaaW.PrintWords Go.Proofs.YtfgjfheiekhmlaaW.PrintLast Go.Proofs.YtfgjfheiekhmlaaW.PrintMore
set_option linter.unusedVariables false
set_option linter.unusedSimpArgs false
theorem w64 {x : Int} (h0 : -9223372036854775808 ≤ x) (h1 : x ≤ 9223372036854775807) : wrap64 x = x := by unfold wrap64; omega
theorem w64n {n m : Nat} (h : n < m) (hm : m ≤ 9223372036854775807) : wrap64 ((n : Int) + 1) = ((n + 1 : Nat) : Int) := by rw [w64 (by omega) (by omega)]; omega
theorem drop_cons {α : Type} (d : α) (l : List α) (n : Nat) (h : n < l.length) : l.drop n = l.getD n d :: l.drop (n + 1) := by
  rw [List.drop_eq_getElem_cons h, List.getD_eq_getElem?_getD, List.getElem?_eq_getElem h]; rfl
theorem take_cons {α : Type} (d : α) (l : List α) (n : Nat) (h : n < l.length) : l.take (n + 1) = l.take n ++ [l.getD n d] := by
  rw [List.take_succ_eq_append_getElem h, List.getD_eq_getElem?_getD, List.getElem?_eq_getElem h]; rfl
noncomputable def bP (p : Prop) : Bool := @decide p (Classical.propDecidable p)
theorem bP_iff {p : Prop} : bP p = true ↔ p := by simp [bP]
theorem bP_pos {p : Prop} (h : p) : bP p = true := bP_iff.2 h
theorem bP_neg {p : Prop} (h : ¬ p) : bP p = false := by
  cases hb : bP p
  · rfl
  · exact absurd (bP_iff.1 hb) h
theorem bP_congr {p q : Prop} (h : p ↔ q) : bP p = bP q := by rw [propext h]
theorem bP_dec (p : Prop) [Decidable p] : decide p = bP p := by
  by_cases h : p
  · rw [bP_pos h, decide_eq_true h]
  · rw [bP_neg h, decide_eq_false h]
theorem Ev_eq {α : Type} {g : Nat → Option α} {r s : α} (h : Ev g r) (e : r = s) : Ev g s := e ▸ h
theorem Ev_ifpos {α : Type} {c : Prop} [Decidable c] {g f : Nat → Option α} {r : α} (h : c) (k : Ev g r) : Ev (fun n => if c then g n else f n) r := by
  simpa only [if_pos h] using k
theorem Ev_ifneg {α : Type} {c : Prop} [Decidable c] {g f : Nat → Option α} {r : α} (h : ¬ c) (k : Ev f r) : Ev (fun n => if c then g n else f n) r := by
  simpa only [if_neg h] using k
def upFrom : Int → Nat → List Int
  | _, 0 => []
  | v, n + 1 => v :: upFrom (v + 1) n
theorem upFrom_length : ∀ n v, (upFrom v n).length = n
  | 0, _ => rfl
  | n + 1, v => by simp [upFrom, upFrom_length n]
theorem l1In_eq (a b c : Int) : spec_l1In.f a b c = some (bP (b ≤ a ∧ a ≤ c)) := by
  simp only [spec_l1In.f]
  by_cases h : a ≥ b
  · rw [if_pos h, bP_dec, bP_congr (show (a ≤ c) ↔ (b ≤ a ∧ a ≤ c) by omega)]
  · rw [if_neg h, bP_neg (by omega)]
theorem within_eq (a b c : Int) : impl_within.f a b c = some (bP (b ≤ a ∧ a ≤ c)) := by
  simp only [impl_within.f]
  by_cases h : a ≥ b
  · rw [if_pos h, bP_dec, bP_congr (show (a ≤ c) ↔ (b ≤ a ∧ a ≤ c) by omega)]
  · rw [if_neg h, bP_neg (by omega)]
def toT (l : List S68) : List S46 := l.map fun x => ⟨x.f0, x.f1⟩
theorem toT_length (l : List S68) : (toT l).length = l.length := by simp [toT]
theorem rdL_nat (l : List S68) (n : Nat) : rd_T68 l (n : Int) = l.getD n z68 := by simp [rd_T68]
theorem toTimerS_l (l : List S68) (hl : l.length ≤ 9223372036854775807) : ∀ d n : Nat, n + d = l.length → ∀ out : List S46, out.length = l.length → Ev (fun k => laws_toTimerS.l0 k l out n) (out.take n ++ (toT l).drop n)
  | 0, n, hd, out, ho => by
    refine Ev.step (fun _ => rfl) ?_
    simp only [laws_toTimerS.l0, if_neg (show ¬ (n : Int) < (l.length : Int) by omega)]
    rw [List.drop_eq_nil_of_le (by rw [toT_length]; omega), List.append_nil, List.take_of_length_le (by omega)]
    exact Ev.now _
  | d + 1, n, hd, out, ho => by
    refine Ev.step (fun _ => rfl) ?_
    simp only [laws_toTimerS.l0, laws_toTimer.f, Option.bind_some, if_pos (show (n : Int) < (l.length : Int) by omega), if_pos (show (0 : Int) ≤ (n : Int) by omega), if_pos (show (n : Int) < (out.length : Int) by omega), w64n (show n < l.length by omega) hl, Int.toNat_natCast, rdL_nat]
    have ih := toTimerS_l l hl d (n + 1) (by omega) (out.set n ⟨(l.getD n z68).f0, (l.getD n z68).f1⟩) (by simp [ho])
    refine Ev_eq ih ?_
    rw [take_cons z46 _ n (by simp; omega), List.take_set_of_le (Nat.le_refl n), drop_cons z46 (toT l) n (by rw [toT_length]; omega), List.append_assoc]
    congr 2
    simp [toT, List.getD_eq_getElem?_getD, List.getElem?_set_self (show n < out.length by omega), List.getElem?_eq_getElem (show n < l.length by omega)]
theorem toTimerS_ev (l : List S68) (hl : l.length ≤ 17592186044416) : Ev (fun k => laws_toTimerS.f k l) (toT l) := by
  simp only [laws_toTimerS.f, if_pos (show (0 : Int) ≤ (l.length : Int) by omega), Int.toNat_natCast, if_pos hl]
  have h := toTimerS_l l (by omega) l.length 0 (by omega) (List.replicate l.length z46) (by simp)
  simpa using h
theorem eqTimerS_l (a : List S46) (hl : a.length ≤ 9223372036854775807) : ∀ d n : Nat, n + d = a.length → Ev (fun k => laws_eqTimerS.l0 k a a n) true
  | 0, n, hd => by
    refine Ev.step (fun _ => rfl) ?_
    simp only [laws_eqTimerS.l0, if_neg (show ¬ (n : Int) < (a.length : Int) by omega)]
    exact Ev.now _
  | d + 1, n, hd => by
    refine Ev.step (fun _ => rfl) ?_
    simp only [laws_eqTimerS.l0, laws_eqTimer.f, if_true, Option.bind_some, if_pos (show (n : Int) < (a.length : Int) by omega), if_pos (show (0 : Int) ≤ (n : Int) by omega), w64n (show n < a.length by omega) hl]
    exact eqTimerS_l a hl d (n + 1) (by omega)
theorem eqTimerS_self (a : List S46) (hl : a.length ≤ 9223372036854775807) : Ev (fun k => laws_eqTimerS.f k a a) true := by
  simp only [laws_eqTimerS.f, if_true]
  exact eqTimerS_l a hl a.length 0 (by omega)
theorem toClock_ev (c : Int) (l : List S68) (hl : l.length ≤ 17592186044416) : Ev (fun k => laws_toClock.f k c l) (c, toT l) := by
  simp only [laws_toClock.f]
  repeat (first
    | (dsimp only)
    | (with_reducible exact Ev.now _)
    | (with_reducible refine Ev.bind (toTimerS_ev _ (by omega)) ?_)
    | (refine Ev_ifpos (by first | rfl | omega | (simp; omega)) ?_)
    | (refine Ev_ifneg (by first | omega | decide | (simp; omega)) ?_)
    | (refine Ev_ifneg (by simp only [bne_self_eq_false]; decide) ?_)
    | (refine Ev_ifpos (by simp) ?_)
    | (refine Ev_ifneg (by simp) ?_))
theorem eqClock_self (c : Int) (l : List S46) (hl : l.length ≤ 9223372036854775807) : Ev (fun k => laws_eqClock.f k c l c l) true := by
  simp only [laws_eqClock.f]
  repeat (first
    | (dsimp only)
    | (with_reducible exact Ev.now _)
    | (with_reducible refine Ev.bind (eqTimerS_self _ (by omega)) ?_)
    | (refine Ev_ifpos (by first | rfl | omega | (simp; omega)) ?_)
    | (refine Ev_ifneg (by first | omega | decide | (simp; omega)) ?_)
    | (refine Ev_ifneg (by simp only [bne_self_eq_false]; decide) ?_)
    | (refine Ev_ifpos (by simp) ?_)
    | (refine Ev_ifneg (by simp) ?_))
theorem szClock_cases (c : Int) (l : List S68) (hl : l.length ≤ 9223372036854775807) : ∃ v, laws_szClock.f c l 1048576 = some v ∧ (v < 0 ∨ (0 ≤ v ∧ (l.length : Int) ≤ 1048576)) := by
  simp only [laws_szClock.f, laws_szTimerS.f, w64 (show -9223372036854775808 ≤ (1048576 : Int) - (l.length : Int) by omega) (show (1048576 : Int) - (l.length : Int) ≤ 9223372036854775807 by omega)]
  by_cases h : (1048576 : Int) - l.length < 0
  · exact ⟨-1, by simp [h], .inl (by omega)⟩
  · exact ⟨1048576 - l.length, by simp [h], .inr ⟨by omega, by omega⟩⟩
def cFrom (c : Int) (l : List S46) (n : Nat) : Prop := ∀ i : Nat, n ≤ i → i < l.length → (c < (l.getD i z46).f0 ∧ (l.getD i z46).f0 ≤ 1000000000) ∧ (0 ≤ (l.getD i z46).f1 ∧ (l.getD i z46).f1 ≤ 23) ∧ (0 < i → (l.getD (i - 1) z46).f0 ≤ (l.getD i z46).f0)
def clockOk (c : Int) (l : List S46) : Prop := (0 ≤ c ∧ c ≤ 1000000000) ∧ l.length ≤ 40 ∧ cFrom c l 0
theorem cFrom_step (c : Int) (l : List S46) (n : Nat) (h : n < l.length) : cFrom c l n ↔ ((c < (l.getD n z46).f0 ∧ (l.getD n z46).f0 ≤ 1000000000) ∧ (0 ≤ (l.getD n z46).f1 ∧ (l.getD n z46).f1 ≤ 23) ∧ (0 < n → (l.getD (n - 1) z46).f0 ≤ (l.getD n z46).f0)) ∧ cFrom c l (n + 1) := by
  constructor
  · intro hf
    exact ⟨hf n (Nat.le_refl _) h, fun i hi => hf i (by omega)⟩
  · rintro ⟨h0, hf⟩ i hi hl
    rcases Nat.eq_or_lt_of_le hi with rfl | hlt
    · exact h0
    · exact hf i hlt hl
theorem rdT_n (l : List S46) (n : Nat) : rd_T46 l (n : Int) = l.getD n z46 := by simp [rd_T46]
theorem rdT_p (l : List S46) (n : Nat) (h : 0 < n) : rd_T46 l ((n : Int) - 1) = l.getD (n - 1) z46 := by
  rw [show (n : Int) - 1 = ((n - 1 : Nat) : Int) by omega, rdT_n]
theorem specClockOk_l (c : Int) (l : List S46) (hl : l.length ≤ 9223372036854775807) : ∀ d n : Nat, n + d = l.length → Ev (fun k => spec_ClockOk.l0 k n c l) (bP (cFrom c l n))
  | 0, n, hd => by
    refine Ev.step (fun _ => rfl) ?_
    simp only [spec_ClockOk.l0, if_neg (show ¬ (n : Int) < (l.length : Int) by omega)]
    rw [bP_pos (show cFrom c l n from fun i hi hl => by omega)]
    exact Ev.now _
  | d + 1, n, hd => by
    have ih := specClockOk_l c l hl d (n + 1) (by omega)
    refine Ev.step (fun _ => rfl) ?_
    simp only [spec_ClockOk.l0, if_pos (show (n : Int) < (l.length : Int) by omega), if_pos (show (0 : Int) ≤ (n : Int) by omega), w64n (show n < l.length by omega) hl, rdT_n, l1In_eq, Option.bind_some, w64 (show -9223372036854775808 ≤ (n : Int) - 1 by omega) (show (n : Int) - 1 ≤ 9223372036854775807 by omega)]
    rw [bP_congr (cFrom_step c l n (by omega))]
    by_cases h1 : (l.getD n z46).f0 ≤ c
    · simp only [if_pos h1]
      rw [bP_neg (fun h => by have := h.1.1.1; omega)]
      exact Ev.now _
    · simp only [if_neg h1]
      by_cases h2 : (l.getD n z46).f0 > 1000000000
      · simp only [if_pos h2]
        rw [bP_neg (fun h => by have := h.1.1.2; omega)]
        exact Ev.now _
      · simp only [if_neg h2]
        by_cases h3 : 0 ≤ (l.getD n z46).f1 ∧ (l.getD n z46).f1 ≤ 23
        · simp only [bP_pos h3, if_true]
          by_cases h4 : 0 < n
          · simp only [if_pos (show (n : Int) > 0 by omega), if_pos (show (0 : Int) ≤ (n : Int) - 1 by omega), if_pos (show (n : Int) - 1 < (l.length : Int) by omega), rdT_p l n h4]
            by_cases h5 : (l.getD (n - 1) z46).f0 > (l.getD n z46).f0
            · simp only [if_pos h5]
              rw [bP_neg (fun h => by have := h.1.2.2 h4; omega)]
              exact Ev.now _
            · simp only [if_neg h5]
              exact Ev_eq ih (bP_congr ⟨fun h => ⟨⟨⟨by omega, by omega⟩, h3, fun _ => by omega⟩, h⟩, fun h => h.2⟩)
          · simp only [if_neg (show ¬ (n : Int) > 0 by omega)]
            exact Ev_eq ih (bP_congr ⟨fun h => ⟨⟨⟨by omega, by omega⟩, h3, fun h' => absurd h' h4⟩, h⟩, fun h => h.2⟩)
        · simp only [bP_neg h3, if_neg (show ¬ (false = true) by decide)]
          rw [bP_neg (fun h => h3 h.1.2.1)]
          exact Ev.now _
theorem specClockOk_ev (c : Int) (l : List S46) (hl : l.length ≤ 9223372036854775807) : Ev (fun k => spec_ClockOk.f k c l) (bP (clockOk c l)) := by
  simp only [spec_ClockOk.f, l1In_eq, Option.bind_some]
  by_cases h1 : 0 ≤ c ∧ c ≤ 1000000000
  · simp only [bP_pos h1, if_true]
    refine Ev.step (fun _ => rfl) ?_
    by_cases h2 : (l.length : Int) > 40
    · simp only [spec_ClockOk.j0, decide_eq_true h2, if_true]
      rw [bP_neg (fun h => by have := h.2.1; omega)]
      exact Ev.now _
    · simp only [spec_ClockOk.j0, decide_eq_false h2, if_neg (show ¬ (false = true) by decide)]
      exact Ev_eq (specClockOk_l c l hl l.length 0 (by omega)) (bP_congr ⟨fun h => ⟨h1, by omega, h⟩, fun h => h.2.2⟩)
  · simp only [bP_neg h1, if_neg (show ¬ (false = true) by decide)]
    refine Ev.step (fun _ => rfl) ?_
    simp only [spec_ClockOk.j0, if_true]
    rw [bP_neg (fun h => h1 h.1)]
    exact Ev.now _
theorem implClockOk_l (c : Int) (l : List S46) (hl : l.length ≤ 9223372036854775807) : ∀ d n : Nat, n + d = l.length → Ev (fun k => impl_ClockOk.l0 k l (l.length : Int) n c l) (bP ((0 ≤ c ∧ c ≤ 1000000000) ∧ l.length ≤ 40 ∧ cFrom c l n))
  | 0, n, hd => by
    refine Ev.step (fun _ => rfl) ?_
    simp only [impl_ClockOk.l0, if_neg (show ¬ (n : Int) < (l.length : Int) by omega), within_eq, Option.bind_some]
    by_cases h1 : 0 ≤ c ∧ c ≤ 1000000000
    · simp only [bP_pos h1, if_true]
      refine Ev_eq (Ev.now _) ?_
      rw [bP_dec]
      exact bP_congr ⟨fun h => ⟨h1, by omega, fun i hi hl => by omega⟩, fun h => by have := h.2.1; omega⟩
    · simp only [bP_neg h1, if_neg (show ¬ (false = true) by decide)]
      rw [bP_neg (fun h => h1 h.1)]
      exact Ev.now _
  | d + 1, n, hd => by
    have ih := implClockOk_l c l hl d (n + 1) (by omega)
    refine Ev.step (fun _ => rfl) ?_
    simp only [impl_ClockOk.l0, if_pos (show (n : Int) < (l.length : Int) by omega), if_pos (show (0 : Int) ≤ (n : Int) by omega), w64n (show n < l.length by omega) hl, rdT_n, within_eq, Option.bind_some, w64 (show -9223372036854775808 ≤ (n : Int) - 1 by omega) (show (n : Int) - 1 ≤ 9223372036854775807 by omega)]
    rw [bP_congr (and_congr_right fun _ => and_congr_right fun _ => cFrom_step c l n (by omega))]
    by_cases h1 : (l.getD n z46).f0 ≤ c
    · simp only [if_pos h1]
      rw [bP_neg (fun h => by have := h.2.2.1.1.1; omega)]
      exact Ev.now _
    · simp only [if_neg h1]
      by_cases h2 : (l.getD n z46).f0 > 1000000000
      · simp only [if_pos h2]
        rw [bP_neg (fun h => by have := h.2.2.1.1.2; omega)]
        exact Ev.now _
      · simp only [if_neg h2]
        by_cases h3 : 0 ≤ (l.getD n z46).f1 ∧ (l.getD n z46).f1 ≤ 23
        · simp only [bP_pos h3, if_true]
          by_cases h4 : 0 < n
          · simp only [if_pos (show (n : Int) > 0 by omega), if_pos (show (0 : Int) ≤ (n : Int) - 1 by omega), if_pos (show (n : Int) - 1 < (l.length : Int) by omega), rdT_p l n h4]
            by_cases h5 : (l.getD (n - 1) z46).f0 > (l.getD n z46).f0
            · simp only [if_pos h5]
              rw [bP_neg (fun h => by have := h.2.2.1.2.2 h4; omega)]
              exact Ev.now _
            · simp only [if_neg h5]
              exact Ev_eq ih (bP_congr ⟨fun h => ⟨h.1, h.2.1, ⟨⟨by omega, by omega⟩, h3, fun _ => by omega⟩, h.2.2⟩, fun h => ⟨h.1, h.2.1, h.2.2.2⟩⟩)
          · simp only [if_neg (show ¬ (n : Int) > 0 by omega)]
            exact Ev_eq ih (bP_congr ⟨fun h => ⟨h.1, h.2.1, ⟨⟨by omega, by omega⟩, h3, fun h' => absurd h' h4⟩, h.2.2⟩, fun h => ⟨h.1, h.2.1, h.2.2.2⟩⟩)
        · simp only [bP_neg h3, if_neg (show ¬ (false = true) by decide)]
          rw [bP_neg (fun h => h3 h.2.2.1.2.1)]
          exact Ev.now _
theorem implClockOk_ev (c : Int) (l : List S46) (hl : l.length ≤ 9223372036854775807) : Ev (fun k => impl_ClockOk.f k c l) (bP (clockOk c l)) := by
  simp only [impl_ClockOk.f]
  exact implClockOk_l c l hl l.length 0 (by omega)
def upT : Int → Nat → List S46
  | _, 0 => []
  | v, n + 1 => ⟨v, v + 1⟩ :: upT (v + 2) n
theorem upT_length : ∀ n v, (upT v n).length = n
  | 0, _ => rfl
  | n + 1, v => by simp [upT, upT_length n]
theorem rdM_nat (l : List S46) (n : Nat) : rd_T46 l (n : Int) = l.getD n z46 := by simp [rd_T46]
theorem markTimerS_l (m : Nat) (hl : m ≤ 9223372036854775807) : ∀ d n : Nat, n + d = m → ∀ (out : List S46) (v : Int), out.length = m → -9223372036854775808 ≤ v → v + 2 * d ≤ 9223372036854775806 → Ev (fun k => laws_markTimerS.l0 k out v n) (v + 2 * d, out.take n ++ upT v d)
  | 0, n, hd, out, v, ho, h0, h1 => by
    refine Ev.step (fun _ => rfl) ?_
    simp only [laws_markTimerS.l0, if_neg (show ¬ (n : Int) < (out.length : Int) by omega)]
    refine Ev_eq (Ev.now _) ?_
    rw [List.take_of_length_le (by omega)]
    simp [upT]
  | d + 1, n, hd, out, v, ho, h0, h1 => by
    refine Ev.step (fun _ => rfl) ?_
    simp only [laws_markTimerS.l0, if_pos (show (n : Int) < (out.length : Int) by omega), if_pos (show (0 : Int) ≤ (n : Int) by omega), w64n (show n < m by omega) hl, Int.toNat_natCast, Option.bind_some, w64 (show -9223372036854775808 ≤ v + 1 by omega) (show v + 1 ≤ 9223372036854775807 by omega), w64 (show -9223372036854775808 ≤ v + 1 + 1 by omega) (show v + 1 + 1 ≤ 9223372036854775807 by omega), List.set_set]
    have e1 : rd_T46 (out.set n ⟨v, (rd_T46 out (n : Int)).f1⟩) (n : Int) = ⟨v, (rd_T46 out (n : Int)).f1⟩ := by
      rw [rdM_nat]
      simp [List.getD_eq_getElem?_getD, List.getElem?_set_self (show n < out.length by omega)]
    rw [e1]
    refine Ev_eq (markTimerS_l m hl d (n + 1) (by omega) (out.set n ⟨v, v + 1⟩) (v + 1 + 1) (by simp [ho]) (by omega) (by omega)) ?_
    rw [take_cons z46 _ n (by simp; omega), List.take_set_of_le (Nat.le_refl n), List.append_assoc]
    simp only [upT, Prod.mk.injEq]
    refine ⟨by omega, ?_⟩
    congr 1
    simp [List.getD_eq_getElem?_getD, List.getElem?_set_self (show n < out.length by omega), Int.add_assoc]
theorem markTimerS_ev (l : List S46) (v : Int) (h0 : -9223372036854775808 ≤ v) (h1 : v + 2 * l.length ≤ 9223372036854775806) (hl : l.length ≤ 9223372036854775807) : Ev (fun k => laws_markTimerS.f k l v) (v + 2 * l.length, upT v l.length) := by
  simp only [laws_markTimerS.f]
  simpa using markTimerS_l l.length hl l.length 0 (by omega) l v rfl h0 h1
theorem heldTimerS_l (l : List S46) (hl : l.length ≤ 9223372036854775807) : ∀ d n : Nat, n + d = l.length → ∀ (v : Int), -9223372036854775808 ≤ v → v + 2 * d ≤ 9223372036854775806 → l.drop n = upT v d → Ev (fun k => laws_heldTimerS.l0 k l v n) (v + 2 * d)
  | 0, n, hd, v, h0, h1, he => by
    refine Ev.step (fun _ => rfl) ?_
    simp only [laws_heldTimerS.l0, if_neg (show ¬ (n : Int) < (l.length : Int) by omega)]
    refine Ev_eq (Ev.now _) (by omega)
  | d + 1, n, hd, v, h0, h1, he => by
    rw [drop_cons z46 l n (by omega)] at he
    simp only [upT, List.cons.injEq] at he
    refine Ev.step (fun _ => rfl) ?_
    simp only [laws_heldTimerS.l0, if_pos (show (n : Int) < (l.length : Int) by omega), if_pos (show (0 : Int) ≤ (n : Int) by omega), w64n (show n < l.length by omega) hl, rdM_nat, he.1, if_true, w64 (show -9223372036854775808 ≤ v + 1 by omega) (show v + 1 ≤ 9223372036854775807 by omega), w64 (show -9223372036854775808 ≤ v + 1 + 1 by omega) (show v + 1 + 1 ≤ 9223372036854775807 by omega)]
    exact Ev_eq (heldTimerS_l l hl d (n + 1) (by omega) (v + 1 + 1) (by omega) (by omega) (by rw [he.2, Int.add_assoc]; rfl)) (by omega)
theorem heldTimerS_ev (n : Nat) (v : Int) (h0 : -9223372036854775808 ≤ v) (h1 : v + 2 * n ≤ 9223372036854775806) (hl : n ≤ 9223372036854775807) : Ev (fun k => laws_heldTimerS.f k (upT v n) v) (v + 2 * n) := by
  simp only [laws_heldTimerS.f]
  exact heldTimerS_l (upT v n) (by rw [upT_length]; exact hl) n 0 (by rw [upT_length]; omega) v h0 h1 rfl
theorem markClock_ev (c : Int) (l : List S46) (v : Int) (h0 : -9223372036854775808 ≤ v) (h1 : v + 2 * l.length ≤ 9223372036854775806) (hl : l.length ≤ 9223372036854775807) : Ev (fun k => laws_markClock.f k c l v) (v + 2 * l.length, upT v l.length) := by
  simp only [laws_markClock.f]
  exact Ev.bind (markTimerS_ev l v h0 h1 hl) (Ev.now _)
theorem heldClock_ev (c : Int) (n : Nat) (v : Int) (h0 : 0 ≤ v) (h1 : v + 2 * n ≤ 9223372036854775806) (hl : n ≤ 9223372036854775807) : Ev (fun k => laws_heldClock.f k c (upT v n) v) (v + 2 * n) := by
  simp only [laws_heldClock.f]
  refine Ev.bind (heldTimerS_ev n v (by omega) h1 hl) ?_
  exact Ev_ifneg (by omega) (Ev.now _)
theorem l4Copy_eq (c : Int) (l : List S46) (hl : l.length < 8796093022208) : spec_l4Copy.f c l = some (c, l) := by
  simp only [spec_l4Copy.f, Option.bind_some, List.length_nil, Nat.zero_add, if_pos hl, List.nil_append]
theorem copyClock_eq (c : Int) (l : List S46) (hl : l.length < 8796093022208) : impl_copyClock.f c l = some (c, l) := by
  simp only [impl_copyClock.f, impl_Timer_52.f, Option.bind_some, List.length_nil, Nat.zero_add, if_pos hl, List.nil_append]
theorem rdS_nat (l : List S46) (n : Nat) : rd_T46 l (n : Int) = l.getD n z46 := by simp [rd_T46]
def posT (a : Int) : List S46 → Int → Int
  | [], _ => -1
  | x :: xs, i => if x.f1 = a then i else posT a xs (i + 1)
def keepT (a : Int) (l : List S46) : List S46 := l.filter fun x => decide (x.f1 ≠ a)
theorem keepT_pos {a : Int} {x : S46} (h : ¬ x.f1 = a) (xs : List S46) : keepT a (x :: xs) = x :: keepT a xs := List.filter_cons_of_pos (by simpa using h)
theorem keepT_neg {a : Int} {x : S46} (h : x.f1 = a) (xs : List S46) : keepT a (x :: xs) = keepT a xs := List.filter_cons_of_neg (by rw [h]; simp)
theorem keepT_len (a : Int) (l : List S46) : (keepT a l).length ≤ l.length := List.length_filter_le _ _
theorem posT_split (a : Int) : ∀ (l : List S46) (i : Int), (∃ x, x ∈ l ∧ x.f1 = a) → ∃ n : Nat, posT a l i = i + n ∧ n < l.length ∧ keepT a l = l.take n ++ keepT a (l.drop (n + 1))
  | [], _, h => by obtain ⟨x, h, _⟩ := h; simp at h
  | x :: xs, i, h => by
    by_cases hx : x.f1 = a
    · refine ⟨0, ?_, by simp, ?_⟩
      · simp only [posT]; rw [if_pos hx]; omega
      · rw [keepT_neg hx]
        simp
    · have h' : ∃ x, x ∈ xs ∧ x.f1 = a := by
        obtain ⟨y, hy, e⟩ := h
        rcases List.mem_cons.1 hy with hy | hy
        · subst hy; exact absurd e hx
        · exact ⟨y, hy, e⟩
      obtain ⟨n, h1, h2, h3⟩ := posT_split a xs (i + 1) h'
      refine ⟨n + 1, ?_, by simp; omega, ?_⟩
      · simp only [posT]; rw [if_neg hx, h1]; omega
      · rw [keepT_pos hx, h3]
        simp
theorem posT_none (a : Int) : ∀ (l : List S46) (i : Int), (¬ ∃ x, x ∈ l ∧ x.f1 = a) → posT a l i = -1 ∧ keepT a l = l
  | [], _, _ => ⟨rfl, rfl⟩
  | x :: xs, i, h => by
    have hx : ¬ x.f1 = a := fun e => h ⟨x, List.mem_cons_self, e⟩
    have ih := posT_none a xs (i + 1) (fun ⟨y, hy, e⟩ => h ⟨y, List.mem_cons_of_mem _ hy, e⟩)
    refine ⟨?_, by rw [keepT_pos hx, ih.2]⟩
    simp only [posT]
    rw [if_neg hx, ih.1]
theorem IFst_l (l : List S46) (a : Int) (hl : l.length ≤ 9223372036854775807) : ∀ d n : Nat, n + d = l.length → Ev (fun k => slices_IndexFunc_st.l0 k l a (l.length : Int) n) (posT a (l.drop n) n)
  | 0, n, hd => by
    refine Ev.step (fun _ => rfl) ?_
    simp only [slices_IndexFunc_st.l0, if_neg (show ¬ (n : Int) < (l.length : Int) by omega)]
    rw [List.drop_eq_nil_of_le (by omega)]
    exact Ev.now _
  | d + 1, n, hd => by
    refine Ev.step (fun _ => rfl) ?_
    simp only [slices_IndexFunc_st.l0, if_pos (show (n : Int) < (l.length : Int) by omega), if_pos (show (0 : Int) ≤ (n : Int) by omega), w64n (show n < l.length by omega) hl, rdS_nat, impl_StopTimer_1.f, Option.bind_some, decide_eq_true_eq]
    rw [drop_cons z46 l n (by omega)]
    by_cases h : (l.getD n z46).f1 = a
    · simp only [if_pos h]
      refine Ev_eq (Ev.now _) ?_
      simp only [posT]
      rw [if_pos h]
    · simp only [if_neg h]
      refine Ev_eq (IFst_l l a hl d (n + 1) (by omega)) ?_
      simp only [posT]
      rw [if_neg h]
      rw [show ((n + 1 : Nat) : Int) = (n : Int) + 1 by omega]
theorem IFst_ev (l : List S46) (a : Int) (hl : l.length ≤ 9223372036854775807) : Ev (fun k => slices_IndexFunc_st.f k l a) (posT a l 0) := by
  simp only [slices_IndexFunc_st.f]
  exact IFst_l l a hl l.length 0 (by omega)
theorem DFst_l (a : Int) : ∀ (d n : Nat) (l : List S46), n + d = l.length → l.length ≤ 9223372036854775807 → ∀ i : Nat, i < n → Ev (fun k => slices_DeleteFunc_st.l0 k l a i n) (l.take i ++ keepT a (l.drop n))
  | 0, n, l, hd, hl, i, hi => by
    refine Ev.step (fun _ => rfl) ?_
    simp only [slices_DeleteFunc_st.l0, if_neg (show ¬ (n : Int) < (l.length : Int) by omega), if_pos (show (0 : Int) ≤ (i : Int) by omega), if_pos (show (i : Int) < (l.length : Int) by omega), Int.toNat_natCast]
    rw [List.drop_eq_nil_of_le (by omega)]
    simp only [keepT, List.filter_nil, List.append_nil]
    exact Ev.now _
  | d + 1, n, l, hd, hl, i, hi => by
    refine Ev.step (fun _ => rfl) ?_
    simp only [slices_DeleteFunc_st.l0, if_pos (show (n : Int) < (l.length : Int) by omega), if_pos (show (0 : Int) ≤ (n : Int) by omega), if_pos (show (0 : Int) ≤ (i : Int) by omega), if_pos (show (i : Int) < (l.length : Int) by omega), w64n (show n < l.length by omega) hl, w64n (show i < l.length by omega) hl, rdS_nat, impl_StopTimer_1.f, Option.bind_some, decide_eq_true_eq, Int.toNat_natCast]
    rw [drop_cons z46 l n (by omega)]
    by_cases h : (l.getD n z46).f1 = a
    · simp only [if_pos h]
      rw [keepT_neg h]
      exact DFst_l a d (n + 1) l (by omega) hl i (by omega)
    · simp only [if_neg h]
      rw [keepT_pos h]
      have ih := DFst_l a d (n + 1) (l.set i (l.getD n z46)) (by simp; omega) (by simpa using hl) (i + 1) (by omega)
      refine Ev_eq ih ?_
      rw [take_cons z46 _ i (by simp; omega), List.take_set_of_le (Nat.le_refl i), List.drop_set_of_lt (by omega), List.append_assoc]
      congr 1
      simp [List.getD_eq_getElem?_getD, List.getElem?_set_self (show i < l.length by omega)]
theorem DFst_ev (l : List S46) (a : Int) (hl : l.length < 8796093022208) : Ev (fun k => slices_DeleteFunc_st.f k l a) (keepT a l) := by
  simp only [slices_DeleteFunc_st.f]
  refine Ev.bind (IFst_ev l a (by omega)) ?_
  by_cases h : ∃ x, x ∈ l ∧ x.f1 = a
  · obtain ⟨n, h1, h2, h3⟩ := posT_split a l 0 h
    rw [h1, h3]
    simp only [if_neg (show ¬ (0 : Int) + (n : Int) = -1 by omega), Int.zero_add]
    rw [w64n h2 (by omega)]
    exact DFst_l a (l.length - (n + 1)) (n + 1) l (by omega) (by omega) n (by omega)
  · rw [(posT_none a l 0 h).1, (posT_none a l 0 h).2]
    simp only [if_true]
    exact Ev.now _
theorem implStop_ev (c : Int) (l : List S46) (a : Int) (hl : l.length ≤ 1048576) : Ev (fun k => impl_StopTimer.f k c l a) (if bP (clockOk c l) = true then (c, keepT a l, (l.length : Int) - (keepT a l).length) else (c, l, 0)) := by
  simp only [impl_StopTimer.f, copyClock_eq c l (by omega), Option.bind_some]
  refine Ev.bind (implClockOk_ev c l (by omega)) ?_
  by_cases h : clockOk c l
  · simp only [bP_pos h, if_true]
    refine Ev.bind (DFst_ev l a (by omega)) ?_
    have := keepT_len a l
    simp only [w64 (show -9223372036854775808 ≤ (l.length : Int) - ((keepT a l).length : Int) by omega) (show (l.length : Int) - ((keepT a l).length : Int) ≤ 9223372036854775807 by omega)]
    exact Ev.now _
  · simp only [bP_neg h, if_neg (show ¬ (false = true) by decide)]
    exact Ev.now _
theorem specStop_l (c : Int) (l : List S46) (a : Int) (hl : l.length ≤ 1048577) : ∀ d n : Nat, n + d = l.length → ∀ acc : List S46, acc.length + d ≤ 4000000 → Ev (fun k => spec_StopTimer.l0 k a n c l c acc) (c, acc ++ keepT a (l.drop n), (l.length : Int) - (acc ++ keepT a (l.drop n)).length)
  | 0, n, hd, acc, ha => by
    refine Ev.step (fun _ => rfl) ?_
    have e : keepT a (l.drop n) = [] := by rw [List.drop_eq_nil_of_le (by omega)]; rfl
    rw [e, List.append_nil]
    simp only [spec_StopTimer.l0, if_neg (show ¬ (n : Int) < (l.length : Int) by omega), w64 (show -9223372036854775808 ≤ (l.length : Int) - (acc.length : Int) by omega) (show (l.length : Int) - (acc.length : Int) ≤ 9223372036854775807 by omega)]
    exact Ev.now _
  | d + 1, n, hd, acc, ha => by
    refine Ev.step (fun _ => rfl) ?_
    simp only [spec_StopTimer.l0, if_pos (show (n : Int) < (l.length : Int) by omega), if_pos (show (0 : Int) ≤ (n : Int) by omega), w64n (show n < l.length by omega) (show l.length ≤ 9223372036854775807 by omega), rdS_nat, if_pos (show acc.length < 8796093022208 by omega)]
    rw [drop_cons z46 l n (by omega)]
    by_cases h : (l.getD n z46).f1 = a
    · simp only [if_pos h]
      rw [keepT_neg h]
      exact specStop_l c l a hl d (n + 1) (by omega) acc (by omega)
    · simp only [if_neg h]
      rw [keepT_pos h]
      have ih := specStop_l c l a hl d (n + 1) (by omega) (acc ++ [l.getD n z46]) (by simp; omega)
      rw [List.append_assoc] at ih
      exact ih
theorem specStop_ev (c : Int) (l : List S46) (a : Int) (hl : l.length ≤ 1048576) : Ev (fun k => spec_StopTimer.f k c l a) (if bP (clockOk c l) = true then (c, keepT a l, (l.length : Int) - (keepT a l).length) else (c, l, 0)) := by
  simp only [spec_StopTimer.f]
  refine Ev.bind (specClockOk_ev c l (by omega)) ?_
  by_cases h : clockOk c l
  · simp only [bP_pos h, if_true]
    have := specStop_l c l a (by omega) l.length 0 (by omega) [] (by simp; omega)
    simpa using this
  · simp only [bP_neg h, if_neg (show ¬ (false = true) by decide), l4Copy_eq c l (by omega), Option.bind_some]
    exact Ev.now _
theorem both_StopTimer (c : Int) (l : List S46) (a : Int) (hl : l.length ≤ 1048576) : ∃ r_ : Int × (List S46) × Int, Ev (fun k => spec_StopTimer.f k c l a) r_ ∧ Ev (fun k => impl_StopTimer.f k c l a) r_ ∧ r_.2.1.length ≤ 1048577 := by
  refine ⟨_, specStop_ev c l a hl, implStop_ev c l a hl, ?_⟩
  have := keepT_len a l
  split
  · show (keepT a l).length ≤ _; omega
  · show l.length ≤ _; omega
end Go.Proofs.Ytfgjfheiekhmlaa.Q
