/- Plain laws of what the printed functions compute, the program's and the reference's, for every number and list; conditions: those of each theorem. -/
import Derived.Test.YtfgjfheiekhmlaaZx2
import Derived.Test.YtfgjfheiekhmlaaZx3
import Derived.Test.YtfgjfheiekhmlaaZx4
import Derived.Test.YtfgjfheiekhmlaaZx5
import Derived.Test.YtfgjfheiekhmlaaZx7
import Derived.Test.YtfgjfheiekhmlaaZx8
import Derived.Test.YtfgjfheiekhmlaaZx10
import Derived.Test.YtfgjfheiekhmlaaZx12
import Derived.Test.YtfgjfheiekhmlaaZx13
import Derived.Test.YtfgjfheiekhmlaaZx15
import Derived.Test.YtfgjfheiekhmlaaZx29
namespace Go.Proofs.Ytfgjfheiekhmlaa.Q
open Go.RowKit Go.Proofs.Ytfgjfheiekhmlaa.Z Go.Proofs.YtfgjfheiekhmlaaW.PrintWords Go.Proofs.YtfgjfheiekhmlaaW.PrintLast Go.Proofs.YtfgjfheiekhmlaaW.PrintMore
set_option linter.unusedVariables false
set_option linter.unusedSimpArgs false
theorem w64 {x : Int} (h0 : -9223372036854775808 ≤ x) (h1 : x ≤ 9223372036854775807) : wrap64 x = x := by unfold wrap64; omega
theorem w64n {n m : Nat} (h : n < m) (hm : m ≤ 9223372036854775807) : wrap64 ((n : Int) + 1) = ((n + 1 : Nat) : Int) := by rw [w64 (by omega) (by omega)]; omega
theorem rd_nat (l : List Int) (n : Nat) : rd l (n : Int) = l.getD n 0 := by simp [rd]
theorem rdOf_nat {α : Type} (d : α) (l : List α) (n : Nat) : rdOf d l (n : Int) = l.getD n d := by simp [rdOf]
theorem drop_cons {α : Type} (d : α) (l : List α) (n : Nat) (h : n < l.length) : l.drop n = l.getD n d :: l.drop (n + 1) := by
  rw [List.drop_eq_getElem_cons h, List.getD_eq_getElem?_getD, List.getElem?_eq_getElem h]; rfl
theorem take_cons {α : Type} (d : α) (l : List α) (n : Nat) (h : n < l.length) : l.take (n + 1) = l.take n ++ [l.getD n d] := by
  rw [List.take_succ_eq_append_getElem h, List.getD_eq_getElem?_getD, List.getElem?_eq_getElem h]; rfl
noncomputable def bP (p : Prop) : Bool := @decide p (Classical.propDecidable p)
theorem bP_iff {p : Prop} : bP p = true ↔ p := by simp [bP]
theorem bP_pos {p : Prop} (h : p) : bP p = true := bP_iff.2 h
theorem bP_neg {p : Prop} (h : ¬ p) : bP p = false := by
  cases hb : bP p
  · rfl
  · exact absurd (bP_iff.1 hb) h
theorem bP_congr {p q : Prop} (h : p ↔ q) : bP p = bP q := by rw [propext h]
theorem bP_dec (p : Prop) [Decidable p] : decide p = bP p := by
  by_cases h : p
  · rw [bP_pos h, decide_eq_true h]
  · rw [bP_neg h, decide_eq_false h]
theorem Ev_eq {α : Type} {g : Nat → Option α} {r s : α} (h : Ev g r) (e : r = s) : Ev g s := e ▸ h
theorem Ev_ifpos {α : Type} {c : Prop} [Decidable c] {g f : Nat → Option α} {r : α} (h : c) (k : Ev g r) : Ev (fun n => if c then g n else f n) r := by
  simpa only [if_pos h] using k
theorem Ev_ifneg {α : Type} {c : Prop} [Decidable c] {g f : Nat → Option α} {r : α} (h : ¬ c) (k : Ev f r) : Ev (fun n => if c then g n else f n) r := by
  simpa only [if_neg h] using k
theorem Ev_some {α β : Type} {g : Option α} {f : Nat → α → Option β} {a : α} {r : β} (h : g = some a) (k : Ev (fun n => f n a) r) : Ev (fun n => g.bind (f n)) r := by
  simpa only [h, Option.bind_some] using k
theorem Ev_ofk {α : Type} {r : α} {g : Option α} (h : g = some r) : Ev (fun _ => g) r := ⟨0, fun _ _ => h⟩
def upFrom : Int → Nat → List Int
  | _, 0 => []
  | v, n + 1 => v :: upFrom (v + 1) n
theorem upFrom_length : ∀ n v, (upFrom v n).length = n
  | 0, _ => rfl
  | n + 1, v => by simp [upFrom, upFrom_length n]
def pos (a : Int) : List Int → Int → Int
  | [], _ => -1
  | x :: xs, i => if x = a then i else pos a xs (i + 1)
theorem pos_spec (a : Int) : ∀ (l : List Int) (i : Int), 0 ≤ i → (a ∈ l → i ≤ pos a l i ∧ pos a l i < i + l.length) ∧ (a ∉ l → pos a l i = -1)
  | [], i, _ => by simp [pos]
  | x :: xs, i, hi => by
    have ih := pos_spec a xs (i + 1) (by omega)
    unfold pos
    by_cases hx : x = a
    · rw [if_pos hx]
      refine ⟨fun _ => ⟨Int.le_refl _, by simp only [List.length_cons]; omega⟩, fun h => absurd (by rw [hx]; exact List.mem_cons_self) h⟩
    · rw [if_neg hx]
      refine ⟨fun h => ?_, fun h => ih.2 (fun h' => h (List.mem_cons_of_mem _ h'))⟩
      have h' : a ∈ xs := by
        rcases List.mem_cons.1 h with h | h
        · exact absurd h.symm hx
        · exact h
      have := ih.1 h'
      simp only [List.length_cons]
      omega
theorem pos_mem (a : Int) (l : List Int) : (0 ≤ pos a l 0) ↔ a ∈ l := by
  have h := pos_spec a l 0 (by omega)
  constructor
  · intro h0
    by_cases hm : a ∈ l
    · exact hm
    · have := h.2 hm; omega
  · intro hm
    exact (h.1 hm).1
theorem l1In_eq (a b c : Int) : spec_l1In.f a b c = some (bP (b ≤ a ∧ a ≤ c)) := by
  simp only [spec_l1In.f]
  by_cases h : a ≥ b
  · rw [if_pos h, bP_dec, bP_congr (show (a ≤ c) ↔ (b ≤ a ∧ a ≤ c) by omega)]
  · rw [if_neg h, bP_neg (by omega)]
theorem within_eq (a b c : Int) : impl_within.f a b c = some (bP (b ≤ a ∧ a ≤ c)) := by
  simp only [impl_within.f]
  by_cases h : a ≥ b
  · rw [if_pos h, bP_dec, bP_congr (show (a ≤ c) ↔ (b ≤ a ∧ a ≤ c) by omega)]
  · rw [if_neg h, bP_neg (by omega)]
def toT (l : List S68) : List S46 := l.map fun x => ⟨x.f0, x.f1⟩
theorem toT_length (l : List S68) : (toT l).length = l.length := by simp [toT]
theorem rdL_nat (l : List S68) (n : Nat) : rd_T68 l (n : Int) = l.getD n z68 := by simp [rd_T68]
theorem toTimerS_l (l : List S68) (hl : l.length ≤ 9223372036854775807) : ∀ d n : Nat, n + d = l.length → ∀ out : List S46, out.length = l.length → Ev (fun k => laws_toTimerS.l0 k l out n) (out.take n ++ (toT l).drop n)
  | 0, n, hd, out, ho => by
    refine Ev.step (fun _ => rfl) ?_
    simp only [laws_toTimerS.l0, if_neg (show ¬ (n : Int) < (l.length : Int) by omega)]
    rw [List.drop_eq_nil_of_le (by rw [toT_length]; omega), List.append_nil, List.take_of_length_le (by omega)]
    exact Ev.now _
  | d + 1, n, hd, out, ho => by
    refine Ev.step (fun _ => rfl) ?_
    simp only [laws_toTimerS.l0, laws_toTimer.f, Option.bind_some, if_pos (show (n : Int) < (l.length : Int) by omega), if_pos (show (0 : Int) ≤ (n : Int) by omega), if_pos (show (n : Int) < (out.length : Int) by omega), w64n (show n < l.length by omega) hl, Int.toNat_natCast, rdL_nat]
    have ih := toTimerS_l l hl d (n + 1) (by omega) (out.set n ⟨(l.getD n z68).f0, (l.getD n z68).f1⟩) (by simp [ho])
    refine Ev_eq ih ?_
    rw [take_cons z46 _ n (by simp; omega), List.take_set_of_le (Nat.le_refl n), drop_cons z46 (toT l) n (by rw [toT_length]; omega), List.append_assoc]
    congr 2
    simp [toT, List.getD_eq_getElem?_getD, List.getElem?_set_self (show n < out.length by omega), List.getElem?_eq_getElem (show n < l.length by omega)]
theorem toTimerS_ev (l : List S68) (hl : l.length ≤ 17592186044416) : Ev (fun k => laws_toTimerS.f k l) (toT l) := by
  simp only [laws_toTimerS.f, if_pos (show (0 : Int) ≤ (l.length : Int) by omega), Int.toNat_natCast, if_pos hl]
  have h := toTimerS_l l (by omega) l.length 0 (by omega) (List.replicate l.length z46) (by simp)
  simpa using h
theorem eqTimerS_l (a : List S46) (hl : a.length ≤ 9223372036854775807) : ∀ d n : Nat, n + d = a.length → Ev (fun k => laws_eqTimerS.l0 k a a n) true
  | 0, n, hd => by
    refine Ev.step (fun _ => rfl) ?_
    simp only [laws_eqTimerS.l0, if_neg (show ¬ (n : Int) < (a.length : Int) by omega)]
    exact Ev.now _
  | d + 1, n, hd => by
    refine Ev.step (fun _ => rfl) ?_
    simp only [laws_eqTimerS.l0, laws_eqTimer.f, if_true, Option.bind_some, if_pos (show (n : Int) < (a.length : Int) by omega), if_pos (show (0 : Int) ≤ (n : Int) by omega), w64n (show n < a.length by omega) hl]
    exact eqTimerS_l a hl d (n + 1) (by omega)
theorem eqTimerS_self (a : List S46) (hl : a.length ≤ 9223372036854775807) : Ev (fun k => laws_eqTimerS.f k a a) true := by
  simp only [laws_eqTimerS.f, if_true]
  exact eqTimerS_l a hl a.length 0 (by omega)
theorem toClock_ev (c : Int) (l : List S68) (hl : l.length ≤ 17592186044416) : Ev (fun k => laws_toClock.f k c l) (c, toT l) := by
  simp only [laws_toClock.f]
  repeat (first
    | (dsimp only)
    | (with_reducible exact Ev.now _)
    | (with_reducible refine Ev.bind (toTimerS_ev _ (by omega)) ?_)
    | (refine Ev_ifpos (by first | rfl | omega | (simp; omega)) ?_)
    | (refine Ev_ifneg (by first | omega | decide | (simp; omega)) ?_)
    | (refine Ev_ifneg (by simp only [bne_self_eq_false]; decide) ?_)
    | (refine Ev_ifpos (by simp) ?_)
    | (refine Ev_ifneg (by simp) ?_))
theorem eqClock_self (c : Int) (l : List S46) (hl : l.length ≤ 9223372036854775807) : Ev (fun k => laws_eqClock.f k c l c l) true := by
  simp only [laws_eqClock.f]
  repeat (first
    | (dsimp only)
    | (with_reducible exact Ev.now _)
    | (with_reducible refine Ev.bind (eqTimerS_self _ (by omega)) ?_)
    | (refine Ev_ifpos (by first | rfl | omega | (simp; omega)) ?_)
    | (refine Ev_ifneg (by first | omega | decide | (simp; omega)) ?_)
    | (refine Ev_ifneg (by simp only [bne_self_eq_false]; decide) ?_)
    | (refine Ev_ifpos (by simp) ?_)
    | (refine Ev_ifneg (by simp) ?_))
theorem szClock_cases (c : Int) (l : List S68) (hl : l.length ≤ 9223372036854775807) : ∃ v, laws_szClock.f c l 1048576 = some v ∧ (v < 0 ∨ (0 ≤ v ∧ (l.length : Int) ≤ 1048576)) := by
  simp only [laws_szClock.f, laws_szTimerS.f, w64 (show -9223372036854775808 ≤ (1048576 : Int) - (l.length : Int) by omega) (show (1048576 : Int) - (l.length : Int) ≤ 9223372036854775807 by omega)]
  by_cases h : (1048576 : Int) - l.length < 0
  · exact ⟨-1, by simp [h], .inl (by omega)⟩
  · exact ⟨1048576 - l.length, by simp [h], .inr ⟨by omega, by omega⟩⟩
def cFrom (c : Int) (l : List S46) (n : Nat) : Prop := ∀ i : Nat, n ≤ i → i < l.length → (c < (l.getD i z46).f0 ∧ (l.getD i z46).f0 ≤ 1000000000) ∧ (0 ≤ (l.getD i z46).f1 ∧ (l.getD i z46).f1 ≤ 23) ∧ (0 < i → (l.getD (i - 1) z46).f0 ≤ (l.getD i z46).f0)
def clockOk (c : Int) (l : List S46) : Prop := (0 ≤ c ∧ c ≤ 1000000000) ∧ l.length ≤ 40 ∧ cFrom c l 0
theorem cFrom_step (c : Int) (l : List S46) (n : Nat) (h : n < l.length) : cFrom c l n ↔ ((c < (l.getD n z46).f0 ∧ (l.getD n z46).f0 ≤ 1000000000) ∧ (0 ≤ (l.getD n z46).f1 ∧ (l.getD n z46).f1 ≤ 23) ∧ (0 < n → (l.getD (n - 1) z46).f0 ≤ (l.getD n z46).f0)) ∧ cFrom c l (n + 1) := by
  constructor
  · intro hf
    exact ⟨hf n (Nat.le_refl _) h, fun i hi => hf i (by omega)⟩
  · rintro ⟨h0, hf⟩ i hi hl
    rcases Nat.eq_or_lt_of_le hi with rfl | hlt
    · exact h0
    · exact hf i hlt hl
theorem rdT_n (l : List S46) (n : Nat) : rd_T46 l (n : Int) = l.getD n z46 := by simp [rd_T46]
theorem rdT_p (l : List S46) (n : Nat) (h : 0 < n) : rd_T46 l ((n : Int) - 1) = l.getD (n - 1) z46 := by
  rw [show (n : Int) - 1 = ((n - 1 : Nat) : Int) by omega, rdT_n]
theorem specClockOk_l (c : Int) (l : List S46) (hl : l.length ≤ 9223372036854775807) : ∀ d n : Nat, n + d = l.length → Ev (fun k => spec_ClockOk.l0 k n c l) (bP (cFrom c l n))
  | 0, n, hd => by
    refine Ev.step (fun _ => rfl) ?_
    simp only [spec_ClockOk.l0, if_neg (show ¬ (n : Int) < (l.length : Int) by omega)]
    rw [bP_pos (show cFrom c l n from fun i hi hl => by omega)]
    exact Ev.now _
  | d + 1, n, hd => by
    have ih := specClockOk_l c l hl d (n + 1) (by omega)
    refine Ev.step (fun _ => rfl) ?_
    simp only [spec_ClockOk.l0, if_pos (show (n : Int) < (l.length : Int) by omega), if_pos (show (0 : Int) ≤ (n : Int) by omega), w64n (show n < l.length by omega) hl, rdT_n, l1In_eq, Option.bind_some, w64 (show -9223372036854775808 ≤ (n : Int) - 1 by omega) (show (n : Int) - 1 ≤ 9223372036854775807 by omega)]
    rw [bP_congr (cFrom_step c l n (by omega))]
    by_cases h1 : (l.getD n z46).f0 ≤ c
    · simp only [if_pos h1]
      rw [bP_neg (fun h => by have := h.1.1.1; omega)]
      exact Ev.now _
    · simp only [if_neg h1]
      by_cases h2 : (l.getD n z46).f0 > 1000000000
      · simp only [if_pos h2]
        rw [bP_neg (fun h => by have := h.1.1.2; omega)]
        exact Ev.now _
      · simp only [if_neg h2]
        by_cases h3 : 0 ≤ (l.getD n z46).f1 ∧ (l.getD n z46).f1 ≤ 23
        · simp only [bP_pos h3, if_true]
          by_cases h4 : 0 < n
          · simp only [if_pos (show (n : Int) > 0 by omega), if_pos (show (0 : Int) ≤ (n : Int) - 1 by omega), if_pos (show (n : Int) - 1 < (l.length : Int) by omega), rdT_p l n h4]
            by_cases h5 : (l.getD (n - 1) z46).f0 > (l.getD n z46).f0
            · simp only [if_pos h5]
              rw [bP_neg (fun h => by have := h.1.2.2 h4; omega)]
              exact Ev.now _
            · simp only [if_neg h5]
              exact Ev_eq ih (bP_congr ⟨fun h => ⟨⟨⟨by omega, by omega⟩, h3, fun _ => by omega⟩, h⟩, fun h => h.2⟩)
          · simp only [if_neg (show ¬ (n : Int) > 0 by omega)]
            exact Ev_eq ih (bP_congr ⟨fun h => ⟨⟨⟨by omega, by omega⟩, h3, fun h' => absurd h' h4⟩, h⟩, fun h => h.2⟩)
        · simp only [bP_neg h3, if_neg (show ¬ (false = true) by decide)]
          rw [bP_neg (fun h => h3 h.1.2.1)]
          exact Ev.now _
theorem specClockOk_ev (c : Int) (l : List S46) (hl : l.length ≤ 9223372036854775807) : Ev (fun k => spec_ClockOk.f k c l) (bP (clockOk c l)) := by
  simp only [spec_ClockOk.f, l1In_eq, Option.bind_some]
  by_cases h1 : 0 ≤ c ∧ c ≤ 1000000000
  · simp only [bP_pos h1, if_true]
    refine Ev.step (fun _ => rfl) ?_
    by_cases h2 : (l.length : Int) > 40
    · simp only [spec_ClockOk.j0, decide_eq_true h2, if_true]
      rw [bP_neg (fun h => by have := h.2.1; omega)]
      exact Ev.now _
    · simp only [spec_ClockOk.j0, decide_eq_false h2, if_neg (show ¬ (false = true) by decide)]
      exact Ev_eq (specClockOk_l c l hl l.length 0 (by omega)) (bP_congr ⟨fun h => ⟨h1, by omega, h⟩, fun h => h.2.2⟩)
  · simp only [bP_neg h1, if_neg (show ¬ (false = true) by decide)]
    refine Ev.step (fun _ => rfl) ?_
    simp only [spec_ClockOk.j0, if_true]
    rw [bP_neg (fun h => h1 h.1)]
    exact Ev.now _
theorem implClockOk_l (c : Int) (l : List S46) (hl : l.length ≤ 9223372036854775807) : ∀ d n : Nat, n + d = l.length → Ev (fun k => impl_ClockOk.l0 k l (l.length : Int) n c l) (bP ((0 ≤ c ∧ c ≤ 1000000000) ∧ l.length ≤ 40 ∧ cFrom c l n))
  | 0, n, hd => by
    refine Ev.step (fun _ => rfl) ?_
    simp only [impl_ClockOk.l0, if_neg (show ¬ (n : Int) < (l.length : Int) by omega), within_eq, Option.bind_some]
    by_cases h1 : 0 ≤ c ∧ c ≤ 1000000000
    · simp only [bP_pos h1, if_true]
      refine Ev_eq (Ev.now _) ?_
      rw [bP_dec]
      exact bP_congr ⟨fun h => ⟨h1, by omega, fun i hi hl => by omega⟩, fun h => by have := h.2.1; omega⟩
    · simp only [bP_neg h1, if_neg (show ¬ (false = true) by decide)]
      rw [bP_neg (fun h => h1 h.1)]
      exact Ev.now _
  | d + 1, n, hd => by
    have ih := implClockOk_l c l hl d (n + 1) (by omega)
    refine Ev.step (fun _ => rfl) ?_
    simp only [impl_ClockOk.l0, if_pos (show (n : Int) < (l.length : Int) by omega), if_pos (show (0 : Int) ≤ (n : Int) by omega), w64n (show n < l.length by omega) hl, rdT_n, within_eq, Option.bind_some, w64 (show -9223372036854775808 ≤ (n : Int) - 1 by omega) (show (n : Int) - 1 ≤ 9223372036854775807 by omega)]
    rw [bP_congr (and_congr_right fun _ => and_congr_right fun _ => cFrom_step c l n (by omega))]
    by_cases h1 : (l.getD n z46).f0 ≤ c
    · simp only [if_pos h1]
      rw [bP_neg (fun h => by have := h.2.2.1.1.1; omega)]
      exact Ev.now _
    · simp only [if_neg h1]
      by_cases h2 : (l.getD n z46).f0 > 1000000000
      · simp only [if_pos h2]
        rw [bP_neg (fun h => by have := h.2.2.1.1.2; omega)]
        exact Ev.now _
      · simp only [if_neg h2]
        by_cases h3 : 0 ≤ (l.getD n z46).f1 ∧ (l.getD n z46).f1 ≤ 23
        · simp only [bP_pos h3, if_true]
          by_cases h4 : 0 < n
          · simp only [if_pos (show (n : Int) > 0 by omega), if_pos (show (0 : Int) ≤ (n : Int) - 1 by omega), if_pos (show (n : Int) - 1 < (l.length : Int) by omega), rdT_p l n h4]
            by_cases h5 : (l.getD (n - 1) z46).f0 > (l.getD n z46).f0
            · simp only [if_pos h5]
              rw [bP_neg (fun h => by have := h.2.2.1.2.2 h4; omega)]
              exact Ev.now _
            · simp only [if_neg h5]
              exact Ev_eq ih (bP_congr ⟨fun h => ⟨h.1, h.2.1, ⟨⟨by omega, by omega⟩, h3, fun _ => by omega⟩, h.2.2⟩, fun h => ⟨h.1, h.2.1, h.2.2.2⟩⟩)
          · simp only [if_neg (show ¬ (n : Int) > 0 by omega)]
            exact Ev_eq ih (bP_congr ⟨fun h => ⟨h.1, h.2.1, ⟨⟨by omega, by omega⟩, h3, fun h' => absurd h' h4⟩, h.2.2⟩, fun h => ⟨h.1, h.2.1, h.2.2.2⟩⟩)
        · simp only [bP_neg h3, if_neg (show ¬ (false = true) by decide)]
          rw [bP_neg (fun h => h3 h.2.2.1.2.1)]
          exact Ev.now _
theorem implClockOk_ev (c : Int) (l : List S46) (hl : l.length ≤ 9223372036854775807) : Ev (fun k => impl_ClockOk.f k c l) (bP (clockOk c l)) := by
  simp only [impl_ClockOk.f]
  exact implClockOk_l c l hl l.length 0 (by omega)
def upT : Int → Nat → List S46
  | _, 0 => []
  | v, n + 1 => ⟨v, v + 1⟩ :: upT (v + 2) n
theorem upT_length : ∀ n v, (upT v n).length = n
  | 0, _ => rfl
  | n + 1, v => by simp [upT, upT_length n]
theorem rdM_nat (l : List S46) (n : Nat) : rd_T46 l (n : Int) = l.getD n z46 := by simp [rd_T46]
theorem markTimerS_l (m : Nat) (hl : m ≤ 9223372036854775807) : ∀ d n : Nat, n + d = m → ∀ (out : List S46) (v : Int), out.length = m → -9223372036854775808 ≤ v → v + 2 * d ≤ 9223372036854775806 → Ev (fun k => laws_markTimerS.l0 k out v n) (v + 2 * d, out.take n ++ upT v d)
  | 0, n, hd, out, v, ho, h0, h1 => by
    refine Ev.step (fun _ => rfl) ?_
    simp only [laws_markTimerS.l0, if_neg (show ¬ (n : Int) < (out.length : Int) by omega)]
    refine Ev_eq (Ev.now _) ?_
    rw [List.take_of_length_le (by omega)]
    simp [upT]
  | d + 1, n, hd, out, v, ho, h0, h1 => by
    refine Ev.step (fun _ => rfl) ?_
    simp only [laws_markTimerS.l0, if_pos (show (n : Int) < (out.length : Int) by omega), if_pos (show (0 : Int) ≤ (n : Int) by omega), w64n (show n < m by omega) hl, Int.toNat_natCast, Option.bind_some, w64 (show -9223372036854775808 ≤ v + 1 by omega) (show v + 1 ≤ 9223372036854775807 by omega), w64 (show -9223372036854775808 ≤ v + 1 + 1 by omega) (show v + 1 + 1 ≤ 9223372036854775807 by omega), List.set_set]
    have e1 : rd_T46 (out.set n ⟨v, (rd_T46 out (n : Int)).f1⟩) (n : Int) = ⟨v, (rd_T46 out (n : Int)).f1⟩ := by
      rw [rdM_nat]
      simp [List.getD_eq_getElem?_getD, List.getElem?_set_self (show n < out.length by omega)]
    rw [e1]
    refine Ev_eq (markTimerS_l m hl d (n + 1) (by omega) (out.set n ⟨v, v + 1⟩) (v + 1 + 1) (by simp [ho]) (by omega) (by omega)) ?_
    rw [take_cons z46 _ n (by simp; omega), List.take_set_of_le (Nat.le_refl n), List.append_assoc]
    simp only [upT, Prod.mk.injEq]
    refine ⟨by omega, ?_⟩
    congr 1
    simp [List.getD_eq_getElem?_getD, List.getElem?_set_self (show n < out.length by omega), Int.add_assoc]
theorem markTimerS_ev (l : List S46) (v : Int) (h0 : -9223372036854775808 ≤ v) (h1 : v + 2 * l.length ≤ 9223372036854775806) (hl : l.length ≤ 9223372036854775807) : Ev (fun k => laws_markTimerS.f k l v) (v + 2 * l.length, upT v l.length) := by
  simp only [laws_markTimerS.f]
  simpa using markTimerS_l l.length hl l.length 0 (by omega) l v rfl h0 h1
theorem heldTimerS_l (l : List S46) (hl : l.length ≤ 9223372036854775807) : ∀ d n : Nat, n + d = l.length → ∀ (v : Int), -9223372036854775808 ≤ v → v + 2 * d ≤ 9223372036854775806 → l.drop n = upT v d → Ev (fun k => laws_heldTimerS.l0 k l v n) (v + 2 * d)
  | 0, n, hd, v, h0, h1, he => by
    refine Ev.step (fun _ => rfl) ?_
    simp only [laws_heldTimerS.l0, if_neg (show ¬ (n : Int) < (l.length : Int) by omega)]
    refine Ev_eq (Ev.now _) (by omega)
  | d + 1, n, hd, v, h0, h1, he => by
    rw [drop_cons z46 l n (by omega)] at he
    simp only [upT, List.cons.injEq] at he
    refine Ev.step (fun _ => rfl) ?_
    simp only [laws_heldTimerS.l0, if_pos (show (n : Int) < (l.length : Int) by omega), if_pos (show (0 : Int) ≤ (n : Int) by omega), w64n (show n < l.length by omega) hl, rdM_nat, he.1, if_true, w64 (show -9223372036854775808 ≤ v + 1 by omega) (show v + 1 ≤ 9223372036854775807 by omega), w64 (show -9223372036854775808 ≤ v + 1 + 1 by omega) (show v + 1 + 1 ≤ 9223372036854775807 by omega)]
    exact Ev_eq (heldTimerS_l l hl d (n + 1) (by omega) (v + 1 + 1) (by omega) (by omega) (by rw [he.2, Int.add_assoc]; rfl)) (by omega)
theorem heldTimerS_ev (n : Nat) (v : Int) (h0 : -9223372036854775808 ≤ v) (h1 : v + 2 * n ≤ 9223372036854775806) (hl : n ≤ 9223372036854775807) : Ev (fun k => laws_heldTimerS.f k (upT v n) v) (v + 2 * n) := by
  simp only [laws_heldTimerS.f]
  exact heldTimerS_l (upT v n) (by rw [upT_length]; exact hl) n 0 (by rw [upT_length]; omega) v h0 h1 rfl
theorem markClock_ev (c : Int) (l : List S46) (v : Int) (h0 : -9223372036854775808 ≤ v) (h1 : v + 2 * l.length ≤ 9223372036854775806) (hl : l.length ≤ 9223372036854775807) : Ev (fun k => laws_markClock.f k c l v) (v + 2 * l.length, upT v l.length) := by
  simp only [laws_markClock.f]
  exact Ev.bind (markTimerS_ev l v h0 h1 hl) (Ev.now _)
theorem heldClock_ev (c : Int) (n : Nat) (v : Int) (h0 : 0 ≤ v) (h1 : v + 2 * n ≤ 9223372036854775806) (hl : n ≤ 9223372036854775807) : Ev (fun k => laws_heldClock.f k c (upT v n) v) (v + 2 * n) := by
  simp only [laws_heldClock.f]
  refine Ev.bind (heldTimerS_ev n v (by omega) h1 hl) ?_
  exact Ev_ifneg (by omega) (Ev.now _)
theorem l4Copy_eq (c : Int) (l : List S46) (hl : l.length < 8796093022208) : spec_l4Copy.f c l = some (c, l) := by
  simp only [spec_l4Copy.f, Option.bind_some, List.length_nil, Nat.zero_add, if_pos hl, List.nil_append]
theorem copyClock_eq (c : Int) (l : List S46) (hl : l.length < 8796093022208) : impl_copyClock.f c l = some (c, l) := by
  simp only [impl_copyClock.f, impl_Timer_52.f, Option.bind_some, List.length_nil, Nat.zero_add, if_pos hl, List.nil_append]
def insT (t w : Int) : List S46 → List S46
  | [] => [⟨t, w⟩]
  | x :: xs => if x.f0 > t then ⟨t, w⟩ :: x :: xs else x :: insT t w xs
theorem insT_length (t w : Int) : ∀ l, (insT t w l).length = l.length + 1
  | [] => rfl
  | x :: xs => by
    simp only [insT]
    split
    · simp
    · simp [insT_length t w xs]
theorem specSet_l (c c' t w : Int) (l : List S46) (hl : l.length ≤ 1048577) : ∀ d n : Nat, n + d = l.length → ∀ (b : Bool) (acc : List S46), acc.length + 2 * d ≤ 4000000 → Ev (fun k => spec_SetTimer.l0 k b n c l c' acc t w) (c', acc ++ (if b = true then l.drop n else insT t w (l.drop n)), 0)
  | 0, n, hd, b, acc, h0 => by
    refine Ev.step (fun _ => rfl) ?_
    simp only [spec_SetTimer.l0, if_neg (show ¬ (n : Int) < (l.length : Int) by omega)]
    rw [List.drop_eq_nil_of_le (show l.length ≤ n by omega)]
    cases b
    · simp only [if_neg (show ¬ (false = true) by decide), if_pos (show acc.length < 8796093022208 by omega), insT]
      exact Ev.now _
    · simp only [if_true, List.append_nil]
      exact Ev.now _
  | d + 1, n, hd, b, acc, h0 => by
    refine Ev.step (fun _ => rfl) ?_
    simp only [spec_SetTimer.l0, if_pos (show (n : Int) < (l.length : Int) by omega), if_pos (show (0 : Int) ≤ (n : Int) by omega), w64n (show n < l.length by omega) (show l.length ≤ 9223372036854775807 by omega), rdT_n, if_pos (show acc.length < 8796093022208 by omega), Option.bind_some]
    rw [drop_cons z46 l n (by omega)]
    by_cases hc : (l.getD n z46).f0 > t
    · simp only [if_pos hc]
      cases b
      · simp only [if_neg (show ¬ (false = true) by decide), if_pos (show (acc ++ [(⟨t, w⟩ : S46)]).length < 8796093022208 by simp; omega), insT, if_pos hc]
        refine Ev_eq (specSet_l c c' t w l hl d (n + 1) (by omega) true _ (by simp; omega)) ?_
        simp
      · simp only [if_true]
        refine Ev_eq (specSet_l c c' t w l hl d (n + 1) (by omega) true _ (by simp; omega)) ?_
        simp
    · simp only [if_neg hc]
      refine Ev_eq (specSet_l c c' t w l hl d (n + 1) (by omega) b _ (by simp; omega)) ?_
      cases b
      · simp only [if_neg (show ¬ (false = true) by decide), insT, if_neg hc]
        simp
      · simp
theorem SetTimer_ex (c : Int) (l : List S46) (a w : Int) (hl : l.length ≤ 40) : ∃ c' l' e, Ev (fun k => spec_SetTimer.f k c l a w) (c', l', e) ∧ l'.length ≤ 40 := by
  have key : ∀ b : Bool, ∃ c' l' e, Ev (fun k => spec_SetTimer.j0 k a w b c l c l) (c', l', e) ∧ l'.length ≤ 40 := by
    intro b
    cases b
    · by_cases h : (l.length : Int) ≥ 40
      · refine ⟨c, l, 2, Ev.step (fun _ => rfl) ?_, hl⟩
        simp only [spec_SetTimer.j0, if_neg (show ¬ (false = true) by decide), if_pos h]
        exact Ev.now _
      · refine ⟨c, insT (wrap64 (c + a)) w l, 0, Ev.step (fun _ => rfl) ?_, by rw [insT_length]; omega⟩
        simp only [spec_SetTimer.j0, if_neg (show ¬ (false = true) by decide), if_neg h]
        have hh := specSet_l c c (wrap64 (c + a)) w l (by omega) l.length 0 (by omega) false [] (by simp; omega)
        simpa using hh
    · refine ⟨c, l, 1, Ev.step (fun _ => rfl) ?_, hl⟩
      simp only [spec_SetTimer.j0, if_true]
      exact Ev.now _
  simp only [spec_SetTimer.f, l4Copy_eq c l (show l.length < 8796093022208 by omega), Option.bind_some]
  by_cases h1 : clockOk c l
  · by_cases h2 : a < 1
    · obtain ⟨c', l', e, h, hb⟩ := key true
      refine ⟨c', l', e, Ev.bind (specClockOk_ev c l (by omega)) ?_, hb⟩
      simp only [bP_pos h1, if_true, if_pos h2]
      exact h
    · by_cases h3 : 0 ≤ w ∧ w ≤ 23
      · obtain ⟨c', l', e, h, hb⟩ := key (decide (a > wrap64 (1000000000 - c)))
        refine ⟨c', l', e, Ev.bind (specClockOk_ev c l (by omega)) ?_, hb⟩
        simp only [bP_pos h1, if_true, if_neg h2, l1In_eq, Option.bind_some, bP_pos h3]
        exact h
      · obtain ⟨c', l', e, h, hb⟩ := key true
        refine ⟨c', l', e, Ev.bind (specClockOk_ev c l (by omega)) ?_, hb⟩
        simp only [bP_pos h1, if_true, if_neg h2, l1In_eq, Option.bind_some, bP_neg h3, if_neg (show ¬ (false = true) by decide)]
        exact h
  · obtain ⟨c', l', e, h, hb⟩ := key true
    refine ⟨c', l', e, Ev.bind (specClockOk_ev c l (by omega)) ?_, hb⟩
    simp only [bP_neg h1, if_neg (show ¬ (false = true) by decide)]
    exact h
theorem rdG_nat (l : List S46) (n : Nat) : rd_T46 l (n : Int) = l.getD n z46 := by simp [rd_T46]
def posG (t : Int) : List S46 → Int → Int
  | [], _ => -1
  | x :: xs, i => if x.f0 > t then i else posG t xs (i + 1)
theorem posG_split (t w : Int) : ∀ (l : List S46) (i : Int), (posG t l i = -1 ∧ insT t w l = l ++ [⟨t, w⟩]) ∨ ∃ n : Nat, posG t l i = i + n ∧ n < l.length ∧ insT t w l = l.take n ++ (⟨t, w⟩ :: l.drop n)
  | [], i => .inl ⟨rfl, rfl⟩
  | x :: xs, i => by
    by_cases h : x.f0 > t
    · refine .inr ⟨0, ?_, by simp, ?_⟩
      · simp only [posG]; rw [if_pos h]; omega
      · simp only [insT]; rw [if_pos h]; rfl
    · rcases posG_split t w xs (i + 1) with ⟨h1, h2⟩ | ⟨n, h1, h2, h3⟩
      · refine .inl ⟨?_, ?_⟩
        · simp only [posG]; rw [if_neg h, h1]
        · simp only [insT]; rw [if_neg h, h2]; rfl
      · refine .inr ⟨n + 1, ?_, by simp; omega, ?_⟩
        · simp only [posG]; rw [if_neg h, h1]; omega
        · simp only [insT]; rw [if_neg h, h3]; simp
theorem IFse_l (l : List S46) (t : Int) (hl : l.length ≤ 9223372036854775807) : ∀ d n : Nat, n + d = l.length → Ev (fun k => slices_IndexFunc_se.l0 k l t (l.length : Int) n) (posG t (l.drop n) n)
  | 0, n, hd => by
    refine Ev.step (fun _ => rfl) ?_
    simp only [slices_IndexFunc_se.l0, if_neg (show ¬ (n : Int) < (l.length : Int) by omega)]
    rw [List.drop_eq_nil_of_le (by omega)]
    exact Ev.now _
  | d + 1, n, hd => by
    refine Ev.step (fun _ => rfl) ?_
    simp only [slices_IndexFunc_se.l0, if_pos (show (n : Int) < (l.length : Int) by omega), if_pos (show (0 : Int) ≤ (n : Int) by omega), w64n (show n < l.length by omega) hl, rdG_nat, impl_SetTimer_1.f, Option.bind_some, decide_eq_true_eq]
    rw [drop_cons z46 l n (by omega)]
    by_cases h : (l.getD n z46).f0 > t
    · simp only [if_pos h]
      refine Ev_eq (Ev.now _) ?_
      simp only [posG]
      rw [if_pos h]
    · simp only [if_neg h]
      refine Ev_eq (IFse_l l t hl d (n + 1) (by omega)) ?_
      simp only [posG]
      rw [if_neg h]
      rw [show ((n + 1 : Nat) : Int) = (n : Int) + 1 by omega]
theorem IFse_ev (l : List S46) (t : Int) (hl : l.length ≤ 9223372036854775807) : Ev (fun k => slices_IndexFunc_se.f k l t) (posG t l 0) := by
  simp only [slices_IndexFunc_se.f]
  exact IFse_l l t hl l.length 0 (by omega)
theorem insert_eq (l : List S46) (n : Nat) (x : S46) (hn : n ≤ l.length) (hl : l.length ≤ 1048577) : impl_Timer_49.f l (n : Int) [x] = some (l.take n ++ (x :: l.drop n)) := by
  simp only [impl_Timer_49.f, if_pos (show (0 : Int) ≤ (n : Int) by omega), if_pos (show (n : Int) ≤ (l.length : Int) by omega), List.length_cons, List.length_nil, Nat.zero_add, if_true, if_pos (show l.length + 1 < 4398046511104 by omega), Int.toNat_natCast]
  rfl
def setOk (c : Int) (l : List S46) (a w : Int) : Prop := clockOk c l ∧ 1 ≤ a ∧ (0 ≤ w ∧ w ≤ 23) ∧ a ≤ 1000000000 - c
noncomputable def setR (c : Int) (l : List S46) (a w : Int) : Int × List S46 × Int := if bP (setOk c l a w) = true then (if l.length = 40 then (c, l, 2) else (c, insT (c + a) w l, 0)) else (c, l, 1)
theorem setR_no {c : Int} {l : List S46} {a w : Int} (h : ¬ setOk c l a w) : setR c l a w = (c, l, 1) := by unfold setR; rw [if_neg (by rw [bP_neg h]; decide)]
theorem setR_full {c : Int} {l : List S46} {a w : Int} (h : setOk c l a w) (h2 : l.length = 40) : setR c l a w = (c, l, 2) := by unfold setR; rw [if_pos (bP_pos h), if_pos h2]
theorem setR_done {c : Int} {l : List S46} {a w : Int} (h : setOk c l a w) (h2 : ¬ l.length = 40) : setR c l a w = (c, insT (c + a) w l, 0) := by unfold setR; rw [if_pos (bP_pos h), if_neg h2]
theorem implSet_ev (c : Int) (l : List S46) (a w : Int) (hl : l.length ≤ 1048576) : Ev (fun k => impl_SetTimer.f k c l a w) (setR c l a w) := by
  have jt : ¬ setOk c l a w → Ev (fun k => impl_SetTimer.j0 k a w true c l c l) (setR c l a w) := by
    intro h
    rw [setR_no h]
    refine Ev.step (fun _ => rfl) ?_
    simp only [impl_SetTimer.j0, if_true]
    exact Ev.now _
  simp only [impl_SetTimer.f, copyClock_eq c l (by omega), Option.bind_some]
  refine Ev.bind (implClockOk_ev c l (by omega)) ?_
  by_cases h1 : clockOk c l
  · simp only [bP_pos h1, if_true]
    by_cases h2 : a < 1
    · simp only [if_pos h2]
      exact jt (fun h => by have := h.2.1; omega)
    · simp only [if_neg h2, within_eq, Option.bind_some]
      by_cases h3 : 0 ≤ w ∧ w ≤ 23
      · simp only [bP_pos h3, if_true]
        have hc := h1.1
        have hl2 := h1.2.1
        rw [w64 (show -9223372036854775808 ≤ 1000000000 - c by omega) (show 1000000000 - c ≤ 9223372036854775807 by omega)]
        by_cases h4 : a > 1000000000 - c
        · rw [decide_eq_true h4]
          exact jt (fun h => by have := h.2.2.2; omega)
        · rw [decide_eq_false h4]
          have hok : setOk c l a w := ⟨h1, by omega, h3, by omega⟩
          refine Ev.step (fun _ => rfl) ?_
          simp only [impl_SetTimer.j0, if_neg (show ¬ (false = true) by decide), w64 (show -9223372036854775808 ≤ c + a by omega) (show c + a ≤ 9223372036854775807 by omega)]
          by_cases h5 : l.length = 40
          · simp only [if_pos (show (l.length : Int) = 40 by omega)]
            rw [setR_full hok h5]
            exact Ev.now _
          · simp only [if_neg (show ¬ (l.length : Int) = 40 by omega)]
            rw [setR_done hok h5]
            refine Ev.bind (IFse_ev l (c + a) (by omega)) ?_
            rcases posG_split (c + a) w l 0 with ⟨q1, q2⟩ | ⟨n, q1, q2, q3⟩
            · rw [q1, q2]
              simp only [if_pos (show (-1 : Int) < 0 by decide)]
              rw [insert_eq l l.length _ (Nat.le_refl _) (by omega), List.take_length, List.drop_length]
              exact Ev.now _
            · rw [q1, q3]
              simp only [if_neg (show ¬ (0 : Int) + (n : Int) < 0 by omega), Int.zero_add]
              rw [insert_eq l n _ (by omega) (by omega)]
              exact Ev.now _
      · simp only [bP_neg h3, if_neg (show ¬ (false = true) by decide)]
        exact jt (fun h => h3 h.2.2.1)
  · simp only [bP_neg h1, if_neg (show ¬ (false = true) by decide)]
    exact jt (fun h => h1 h.1)
theorem specSet_ev (c : Int) (l : List S46) (a w : Int) (hl : l.length ≤ 1048576) : Ev (fun k => spec_SetTimer.f k c l a w) (setR c l a w) := by
  have jt : ¬ setOk c l a w → Ev (fun k => spec_SetTimer.j0 k a w true c l c l) (setR c l a w) := by
    intro h
    rw [setR_no h]
    refine Ev.step (fun _ => rfl) ?_
    simp only [spec_SetTimer.j0, if_true]
    exact Ev.now _
  simp only [spec_SetTimer.f, l4Copy_eq c l (by omega), Option.bind_some]
  refine Ev.bind (specClockOk_ev c l (by omega)) ?_
  by_cases h1 : clockOk c l
  · simp only [bP_pos h1, if_true]
    by_cases h2 : a < 1
    · simp only [if_pos h2]
      exact jt (fun h => by have := h.2.1; omega)
    · simp only [if_neg h2, l1In_eq, Option.bind_some]
      by_cases h3 : 0 ≤ w ∧ w ≤ 23
      · simp only [bP_pos h3, if_true]
        have hc := h1.1
        have hl2 := h1.2.1
        rw [w64 (show -9223372036854775808 ≤ 1000000000 - c by omega) (show 1000000000 - c ≤ 9223372036854775807 by omega)]
        by_cases h4 : a > 1000000000 - c
        · rw [decide_eq_true h4]
          exact jt (fun h => by have := h.2.2.2; omega)
        · rw [decide_eq_false h4]
          have hok : setOk c l a w := ⟨h1, by omega, h3, by omega⟩
          refine Ev.step (fun _ => rfl) ?_
          simp only [spec_SetTimer.j0, if_neg (show ¬ (false = true) by decide), w64 (show -9223372036854775808 ≤ c + a by omega) (show c + a ≤ 9223372036854775807 by omega)]
          by_cases h5 : l.length = 40
          · simp only [if_pos (show (l.length : Int) ≥ 40 by omega)]
            rw [setR_full hok h5]
            exact Ev.now _
          · simp only [if_neg (show ¬ (l.length : Int) ≥ 40 by omega)]
            rw [setR_done hok h5]
            have hh := specSet_l c c (c + a) w l (by omega) l.length 0 (by omega) false [] (by simp; omega)
            simpa using hh
      · simp only [bP_neg h3, if_neg (show ¬ (false = true) by decide)]
        exact jt (fun h => h3 h.2.2.1)
  · simp only [bP_neg h1, if_neg (show ¬ (false = true) by decide)]
    exact jt (fun h => h1 h.1)
theorem both_SetTimer (c : Int) (l : List S46) (a w : Int) (hl : l.length ≤ 1048576) : ∃ r_ : Int × (List S46) × Int, Ev (fun k => spec_SetTimer.f k c l a w) r_ ∧ Ev (fun k => impl_SetTimer.f k c l a w) r_ ∧ r_.2.1.length ≤ 1048577 := by
  refine ⟨_, specSet_ev c l a w hl, implSet_ev c l a w hl, ?_⟩
  unfold setR
  split
  · split
    · show l.length ≤ _; omega
    · show (insT (c + a) w l).length ≤ _; rw [insT_length]; omega
  · show l.length ≤ _; omega
end Go.Proofs.Ytfgjfheiekhmlaa.Q
