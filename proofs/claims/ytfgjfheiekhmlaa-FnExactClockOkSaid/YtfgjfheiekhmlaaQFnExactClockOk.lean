/- Plain laws of what the printed functions compute, the program's and the reference's, for every number and list; conditions: those of each theorem. -/
import Derived.Test.YtfgjfheiekhmlaaZx2
import Derived.Test.YtfgjfheiekhmlaaZx3
import Derived.Test.YtfgjfheiekhmlaaZx4
import Derived.Test.YtfgjfheiekhmlaaZx5
import Derived.Test.YtfgjfheiekhmlaaZx7
import Derived.Test.YtfgjfheiekhmlaaZx8
namespace Go.Proofs.Ytfgjfheiekhmlaa.Q
open Go.RowKit Go.Proofs.Ytfgjfheiekhmlaa.Z Go.Proofs.YtfgjfheiekhmlaaW.PrintWords Go.Proofs.YtfgjfheiekhmlaaW.PrintLast Go.Proofs.YtfgjfheiekhmlaaW.PrintMore
set_option linter.unusedVariables false
set_option linter.unusedSimpArgs false
theorem w64 {x : Int} (h0 : -9223372036854775808 ≤ x) (h1 : x ≤ 9223372036854775807) : wrap64 x = x := by unfold wrap64; omega
theorem w64n {n m : Nat} (h : n < m) (hm : m ≤ 9223372036854775807) : wrap64 ((n : Int) + 1) = ((n + 1 : Nat) : Int) := by rw [w64 (by omega) (by omega)]; omega
theorem rd_nat (l : List Int) (n : Nat) : rd l (n : Int) = l.getD n 0 := by simp [rd]
theorem rdOf_nat {α : Type} (d : α) (l : List α) (n : Nat) : rdOf d l (n : Int) = l.getD n d := by simp [rdOf]
theorem drop_cons {α : Type} (d : α) (l : List α) (n : Nat) (h : n < l.length) : l.drop n = l.getD n d :: l.drop (n + 1) := by
  rw [List.drop_eq_getElem_cons h, List.getD_eq_getElem?_getD, List.getElem?_eq_getElem h]; rfl
theorem take_cons {α : Type} (d : α) (l : List α) (n : Nat) (h : n < l.length) : l.take (n + 1) = l.take n ++ [l.getD n d] := by
  rw [List.take_succ_eq_append_getElem h, List.getD_eq_getElem?_getD, List.getElem?_eq_getElem h]; rfl
noncomputable def bP (p : Prop) : Bool := @decide p (Classical.propDecidable p)
theorem bP_iff {p : Prop} : bP p = true ↔ p := by simp [bP]
theorem bP_pos {p : Prop} (h : p) : bP p = true := bP_iff.2 h
theorem bP_neg {p : Prop} (h : ¬ p) : bP p = false := by
  cases hb : bP p
  · rfl
  · exact absurd (bP_iff.1 hb) h
theorem bP_congr {p q : Prop} (h : p ↔ q) : bP p = bP q := by rw [propext h]
theorem bP_dec (p : Prop) [Decidable p] : decide p = bP p := by
  by_cases h : p
  · rw [bP_pos h, decide_eq_true h]
  · rw [bP_neg h, decide_eq_false h]
theorem Ev_eq {α : Type} {g : Nat → Option α} {r s : α} (h : Ev g r) (e : r = s) : Ev g s := e ▸ h
theorem Ev_ifpos {α : Type} {c : Prop} [Decidable c] {g f : Nat → Option α} {r : α} (h : c) (k : Ev g r) : Ev (fun n => if c then g n else f n) r := by
  simpa only [if_pos h] using k
theorem Ev_ifneg {α : Type} {c : Prop} [Decidable c] {g f : Nat → Option α} {r : α} (h : ¬ c) (k : Ev f r) : Ev (fun n => if c then g n else f n) r := by
  simpa only [if_neg h] using k
theorem Ev_some {α β : Type} {g : Option α} {f : Nat → α → Option β} {a : α} {r : β} (h : g = some a) (k : Ev (fun n => f n a) r) : Ev (fun n => g.bind (f n)) r := by
  simpa only [h, Option.bind_some] using k
theorem Ev_ofk {α : Type} {r : α} {g : Option α} (h : g = some r) : Ev (fun _ => g) r := ⟨0, fun _ _ => h⟩
def upFrom : Int → Nat → List Int
  | _, 0 => []
  | v, n + 1 => v :: upFrom (v + 1) n
theorem upFrom_length : ∀ n v, (upFrom v n).length = n
  | 0, _ => rfl
  | n + 1, v => by simp [upFrom, upFrom_length n]
def pos (a : Int) : List Int → Int → Int
  | [], _ => -1
  | x :: xs, i => if x = a then i else pos a xs (i + 1)
theorem pos_spec (a : Int) : ∀ (l : List Int) (i : Int), 0 ≤ i → (a ∈ l → i ≤ pos a l i ∧ pos a l i < i + l.length) ∧ (a ∉ l → pos a l i = -1)
  | [], i, _ => by simp [pos]
  | x :: xs, i, hi => by
    have ih := pos_spec a xs (i + 1) (by omega)
    unfold pos
    by_cases hx : x = a
    · rw [if_pos hx]
      refine ⟨fun _ => ⟨Int.le_refl _, by simp only [List.length_cons]; omega⟩, fun h => absurd (by rw [hx]; exact List.mem_cons_self) h⟩
    · rw [if_neg hx]
      refine ⟨fun h => ?_, fun h => ih.2 (fun h' => h (List.mem_cons_of_mem _ h'))⟩
      have h' : a ∈ xs := by
        rcases List.mem_cons.1 h with h | h
        · exact absurd h.symm hx
        · exact h
      have := ih.1 h'
      simp only [List.length_cons]
      omega
theorem pos_mem (a : Int) (l : List Int) : (0 ≤ pos a l 0) ↔ a ∈ l := by
  have h := pos_spec a l 0 (by omega)
  constructor
  · intro h0
    by_cases hm : a ∈ l
    · exact hm
    · have := h.2 hm; omega
  · intro hm
    exact (h.1 hm).1
theorem l1In_eq (a b c : Int) : spec_l1In.f a b c = some (bP (b ≤ a ∧ a ≤ c)) := by
  simp only [spec_l1In.f]
  by_cases h : a ≥ b
  · rw [if_pos h, bP_dec, bP_congr (show (a ≤ c) ↔ (b ≤ a ∧ a ≤ c) by omega)]
  · rw [if_neg h, bP_neg (by omega)]
theorem within_eq (a b c : Int) : impl_within.f a b c = some (bP (b ≤ a ∧ a ≤ c)) := by
  simp only [impl_within.f]
  by_cases h : a ≥ b
  · rw [if_pos h, bP_dec, bP_congr (show (a ≤ c) ↔ (b ≤ a ∧ a ≤ c) by omega)]
  · rw [if_neg h, bP_neg (by omega)]
def toT (l : List S68) : List S46 := l.map fun x => ⟨x.f0, x.f1⟩
theorem toT_length (l : List S68) : (toT l).length = l.length := by simp [toT]
theorem rdT_nat (l : List S46) (n : Nat) : rd_T46 l (n : Int) = l.getD n z46 := by simp [rd_T46]
theorem rdL_nat (l : List S68) (n : Nat) : rd_T68 l (n : Int) = l.getD n z68 := by simp [rd_T68]
theorem toTimerS_l (l : List S68) (hl : l.length ≤ 9223372036854775807) : ∀ d n : Nat, n + d = l.length → ∀ out : List S46, out.length = l.length → Ev (fun k => laws_toTimerS.l0 k l out n) (out.take n ++ (toT l).drop n)
  | 0, n, hd, out, ho => by
    refine Ev.step (fun _ => rfl) ?_
    simp only [laws_toTimerS.l0, if_neg (show ¬ (n : Int) < (l.length : Int) by omega)]
    rw [List.drop_eq_nil_of_le (by rw [toT_length]; omega), List.append_nil, List.take_of_length_le (by omega)]
    exact Ev.now _
  | d + 1, n, hd, out, ho => by
    refine Ev.step (fun _ => rfl) ?_
    simp only [laws_toTimerS.l0, laws_toTimer.f, Option.bind_some, if_pos (show (n : Int) < (l.length : Int) by omega), if_pos (show (0 : Int) ≤ (n : Int) by omega), if_pos (show (n : Int) < (out.length : Int) by omega), w64n (show n < l.length by omega) hl, Int.toNat_natCast, rdL_nat]
    have ih := toTimerS_l l hl d (n + 1) (by omega) (out.set n ⟨(l.getD n z68).f0, (l.getD n z68).f1⟩) (by simp [ho])
    refine Ev_eq ih ?_
    rw [take_cons z46 _ n (by simp; omega), List.take_set_of_le (Nat.le_refl n), drop_cons z46 (toT l) n (by rw [toT_length]; omega), List.append_assoc]
    congr 2
    simp [toT, List.getD_eq_getElem?_getD, List.getElem?_set_self (show n < out.length by omega), List.getElem?_eq_getElem (show n < l.length by omega)]
theorem toTimerS_ev (l : List S68) (hl : l.length ≤ 17592186044416) : Ev (fun k => laws_toTimerS.f k l) (toT l) := by
  simp only [laws_toTimerS.f, if_pos (show (0 : Int) ≤ (l.length : Int) by omega), Int.toNat_natCast, if_pos hl]
  have h := toTimerS_l l (by omega) l.length 0 (by omega) (List.replicate l.length z46) (by simp)
  simpa using h
theorem rdT_nat' (l : List S46) (n : Nat) : rd_T46 l (n : Int) = l.getD n z46 := by simp [rd_T46]
theorem eqTimerS_l (a : List S46) (hl : a.length ≤ 9223372036854775807) : ∀ d n : Nat, n + d = a.length → Ev (fun k => laws_eqTimerS.l0 k a a n) true
  | 0, n, hd => by
    refine Ev.step (fun _ => rfl) ?_
    simp only [laws_eqTimerS.l0, if_neg (show ¬ (n : Int) < (a.length : Int) by omega)]
    exact Ev.now _
  | d + 1, n, hd => by
    refine Ev.step (fun _ => rfl) ?_
    simp only [laws_eqTimerS.l0, laws_eqTimer.f, if_true, Option.bind_some, if_pos (show (n : Int) < (a.length : Int) by omega), if_pos (show (0 : Int) ≤ (n : Int) by omega), w64n (show n < a.length by omega) hl]
    exact eqTimerS_l a hl d (n + 1) (by omega)
theorem eqTimerS_self (a : List S46) (hl : a.length ≤ 9223372036854775807) : Ev (fun k => laws_eqTimerS.f k a a) true := by
  simp only [laws_eqTimerS.f, if_true]
  exact eqTimerS_l a hl a.length 0 (by omega)
theorem toClock_ev (c : Int) (l : List S68) (hl : l.length ≤ 17592186044416) : Ev (fun k => laws_toClock.f k c l) (c, toT l) := by
  simp only [laws_toClock.f]
  repeat (first
    | (dsimp only)
    | (with_reducible exact Ev.now _)
    | (with_reducible refine Ev.bind (toTimerS_ev _ (by omega)) ?_)
    | (refine Ev_ifpos (by first | rfl | omega | (simp; omega)) ?_)
    | (refine Ev_ifneg (by first | omega | decide | (simp; omega)) ?_)
    | (refine Ev_ifneg (by simp only [bne_self_eq_false]; decide) ?_)
    | (refine Ev_ifpos (by simp) ?_)
    | (refine Ev_ifneg (by simp) ?_))
theorem eqClock_self (c : Int) (l : List S46) (hl : l.length ≤ 9223372036854775807) : Ev (fun k => laws_eqClock.f k c l c l) true := by
  simp only [laws_eqClock.f]
  repeat (first
    | (dsimp only)
    | (with_reducible exact Ev.now _)
    | (with_reducible refine Ev.bind (eqTimerS_self _ (by omega)) ?_)
    | (refine Ev_ifpos (by first | rfl | omega | (simp; omega)) ?_)
    | (refine Ev_ifneg (by first | omega | decide | (simp; omega)) ?_)
    | (refine Ev_ifneg (by simp only [bne_self_eq_false]; decide) ?_)
    | (refine Ev_ifpos (by simp) ?_)
    | (refine Ev_ifneg (by simp) ?_))
theorem szClock_cases (c : Int) (l : List S68) (hl : l.length ≤ 9223372036854775807) : ∃ v, laws_szClock.f c l 1048576 = some v ∧ (v < 0 ∨ (0 ≤ v ∧ (l.length : Int) ≤ 1048576)) := by
  simp only [laws_szClock.f, laws_szTimerS.f, w64 (show -9223372036854775808 ≤ (1048576 : Int) - (l.length : Int) by omega) (show (1048576 : Int) - (l.length : Int) ≤ 9223372036854775807 by omega)]
  by_cases h : (1048576 : Int) - l.length < 0
  · exact ⟨-1, by simp [h], .inl (by omega)⟩
  · exact ⟨1048576 - l.length, by simp [h], .inr ⟨by omega, by omega⟩⟩
def cFrom (c : Int) (l : List S46) (n : Nat) : Prop := ∀ i : Nat, n ≤ i → i < l.length → (c < (l.getD i z46).f0 ∧ (l.getD i z46).f0 ≤ 1000000000) ∧ (0 ≤ (l.getD i z46).f1 ∧ (l.getD i z46).f1 ≤ 23) ∧ (0 < i → (l.getD (i - 1) z46).f0 ≤ (l.getD i z46).f0)
def clockOk (c : Int) (l : List S46) : Prop := (0 ≤ c ∧ c ≤ 1000000000) ∧ l.length ≤ 40 ∧ cFrom c l 0
theorem cFrom_step (c : Int) (l : List S46) (n : Nat) (h : n < l.length) : cFrom c l n ↔ ((c < (l.getD n z46).f0 ∧ (l.getD n z46).f0 ≤ 1000000000) ∧ (0 ≤ (l.getD n z46).f1 ∧ (l.getD n z46).f1 ≤ 23) ∧ (0 < n → (l.getD (n - 1) z46).f0 ≤ (l.getD n z46).f0)) ∧ cFrom c l (n + 1) := by
  constructor
  · intro hf
    exact ⟨hf n (Nat.le_refl _) h, fun i hi => hf i (by omega)⟩
  · rintro ⟨h0, hf⟩ i hi hl
    rcases Nat.eq_or_lt_of_le hi with rfl | hlt
    · exact h0
    · exact hf i hlt hl
theorem rdT_n (l : List S46) (n : Nat) : rd_T46 l (n : Int) = l.getD n z46 := by simp [rd_T46]
theorem rdT_p (l : List S46) (n : Nat) (h : 0 < n) : rd_T46 l ((n : Int) - 1) = l.getD (n - 1) z46 := by
  rw [show (n : Int) - 1 = ((n - 1 : Nat) : Int) by omega, rdT_n]
theorem specClockOk_l (c : Int) (l : List S46) (hl : l.length ≤ 9223372036854775807) : ∀ d n : Nat, n + d = l.length → Ev (fun k => spec_ClockOk.l0 k n c l) (bP (cFrom c l n))
  | 0, n, hd => by
    refine Ev.step (fun _ => rfl) ?_
    simp only [spec_ClockOk.l0, if_neg (show ¬ (n : Int) < (l.length : Int) by omega)]
    rw [bP_pos (show cFrom c l n from fun i hi hl => by omega)]
    exact Ev.now _
  | d + 1, n, hd => by
    have ih := specClockOk_l c l hl d (n + 1) (by omega)
    refine Ev.step (fun _ => rfl) ?_
    simp only [spec_ClockOk.l0, if_pos (show (n : Int) < (l.length : Int) by omega), if_pos (show (0 : Int) ≤ (n : Int) by omega), w64n (show n < l.length by omega) hl, rdT_n, l1In_eq, Option.bind_some, w64 (show -9223372036854775808 ≤ (n : Int) - 1 by omega) (show (n : Int) - 1 ≤ 9223372036854775807 by omega)]
    rw [bP_congr (cFrom_step c l n (by omega))]
    by_cases h1 : (l.getD n z46).f0 ≤ c
    · simp only [if_pos h1]
      rw [bP_neg (fun h => by have := h.1.1.1; omega)]
      exact Ev.now _
    · simp only [if_neg h1]
      by_cases h2 : (l.getD n z46).f0 > 1000000000
      · simp only [if_pos h2]
        rw [bP_neg (fun h => by have := h.1.1.2; omega)]
        exact Ev.now _
      · simp only [if_neg h2]
        by_cases h3 : 0 ≤ (l.getD n z46).f1 ∧ (l.getD n z46).f1 ≤ 23
        · simp only [bP_pos h3, if_true]
          by_cases h4 : 0 < n
          · simp only [if_pos (show (n : Int) > 0 by omega), if_pos (show (0 : Int) ≤ (n : Int) - 1 by omega), if_pos (show (n : Int) - 1 < (l.length : Int) by omega), rdT_p l n h4]
            by_cases h5 : (l.getD (n - 1) z46).f0 > (l.getD n z46).f0
            · simp only [if_pos h5]
              rw [bP_neg (fun h => by have := h.1.2.2 h4; omega)]
              exact Ev.now _
            · simp only [if_neg h5]
              exact Ev_eq ih (bP_congr ⟨fun h => ⟨⟨⟨by omega, by omega⟩, h3, fun _ => by omega⟩, h⟩, fun h => h.2⟩)
          · simp only [if_neg (show ¬ (n : Int) > 0 by omega)]
            exact Ev_eq ih (bP_congr ⟨fun h => ⟨⟨⟨by omega, by omega⟩, h3, fun h' => absurd h' h4⟩, h⟩, fun h => h.2⟩)
        · simp only [bP_neg h3, if_neg (show ¬ (false = true) by decide)]
          rw [bP_neg (fun h => h3 h.1.2.1)]
          exact Ev.now _
theorem specClockOk_ev (c : Int) (l : List S46) (hl : l.length ≤ 9223372036854775807) : Ev (fun k => spec_ClockOk.f k c l) (bP (clockOk c l)) := by
  simp only [spec_ClockOk.f, l1In_eq, Option.bind_some]
  by_cases h1 : 0 ≤ c ∧ c ≤ 1000000000
  · simp only [bP_pos h1, if_true]
    refine Ev.step (fun _ => rfl) ?_
    by_cases h2 : (l.length : Int) > 40
    · simp only [spec_ClockOk.j0, decide_eq_true h2, if_true]
      rw [bP_neg (fun h => by have := h.2.1; omega)]
      exact Ev.now _
    · simp only [spec_ClockOk.j0, decide_eq_false h2, if_neg (show ¬ (false = true) by decide)]
      exact Ev_eq (specClockOk_l c l hl l.length 0 (by omega)) (bP_congr ⟨fun h => ⟨h1, by omega, h⟩, fun h => h.2.2⟩)
  · simp only [bP_neg h1, if_neg (show ¬ (false = true) by decide)]
    refine Ev.step (fun _ => rfl) ?_
    simp only [spec_ClockOk.j0, if_true]
    rw [bP_neg (fun h => h1 h.1)]
    exact Ev.now _
theorem implClockOk_l (c : Int) (l : List S46) (hl : l.length ≤ 9223372036854775807) : ∀ d n : Nat, n + d = l.length → Ev (fun k => impl_ClockOk.l0 k l (l.length : Int) n c l) (bP ((0 ≤ c ∧ c ≤ 1000000000) ∧ l.length ≤ 40 ∧ cFrom c l n))
  | 0, n, hd => by
    refine Ev.step (fun _ => rfl) ?_
    simp only [impl_ClockOk.l0, if_neg (show ¬ (n : Int) < (l.length : Int) by omega), within_eq, Option.bind_some]
    by_cases h1 : 0 ≤ c ∧ c ≤ 1000000000
    · simp only [bP_pos h1, if_true]
      refine Ev_eq (Ev.now _) ?_
      rw [bP_dec]
      exact bP_congr ⟨fun h => ⟨h1, by omega, fun i hi hl => by omega⟩, fun h => by have := h.2.1; omega⟩
    · simp only [bP_neg h1, if_neg (show ¬ (false = true) by decide)]
      rw [bP_neg (fun h => h1 h.1)]
      exact Ev.now _
  | d + 1, n, hd => by
    have ih := implClockOk_l c l hl d (n + 1) (by omega)
    refine Ev.step (fun _ => rfl) ?_
    simp only [impl_ClockOk.l0, if_pos (show (n : Int) < (l.length : Int) by omega), if_pos (show (0 : Int) ≤ (n : Int) by omega), w64n (show n < l.length by omega) hl, rdT_n, within_eq, Option.bind_some, w64 (show -9223372036854775808 ≤ (n : Int) - 1 by omega) (show (n : Int) - 1 ≤ 9223372036854775807 by omega)]
    rw [bP_congr (and_congr_right fun _ => and_congr_right fun _ => cFrom_step c l n (by omega))]
    by_cases h1 : (l.getD n z46).f0 ≤ c
    · simp only [if_pos h1]
      rw [bP_neg (fun h => by have := h.2.2.1.1.1; omega)]
      exact Ev.now _
    · simp only [if_neg h1]
      by_cases h2 : (l.getD n z46).f0 > 1000000000
      · simp only [if_pos h2]
        rw [bP_neg (fun h => by have := h.2.2.1.1.2; omega)]
        exact Ev.now _
      · simp only [if_neg h2]
        by_cases h3 : 0 ≤ (l.getD n z46).f1 ∧ (l.getD n z46).f1 ≤ 23
        · simp only [bP_pos h3, if_true]
          by_cases h4 : 0 < n
          · simp only [if_pos (show (n : Int) > 0 by omega), if_pos (show (0 : Int) ≤ (n : Int) - 1 by omega), if_pos (show (n : Int) - 1 < (l.length : Int) by omega), rdT_p l n h4]
            by_cases h5 : (l.getD (n - 1) z46).f0 > (l.getD n z46).f0
            · simp only [if_pos h5]
              rw [bP_neg (fun h => by have := h.2.2.1.2.2 h4; omega)]
              exact Ev.now _
            · simp only [if_neg h5]
              exact Ev_eq ih (bP_congr ⟨fun h => ⟨h.1, h.2.1, ⟨⟨by omega, by omega⟩, h3, fun _ => by omega⟩, h.2.2⟩, fun h => ⟨h.1, h.2.1, h.2.2.2⟩⟩)
          · simp only [if_neg (show ¬ (n : Int) > 0 by omega)]
            exact Ev_eq ih (bP_congr ⟨fun h => ⟨h.1, h.2.1, ⟨⟨by omega, by omega⟩, h3, fun h' => absurd h' h4⟩, h.2.2⟩, fun h => ⟨h.1, h.2.1, h.2.2.2⟩⟩)
        · simp only [bP_neg h3, if_neg (show ¬ (false = true) by decide)]
          rw [bP_neg (fun h => h3 h.2.2.1.2.1)]
          exact Ev.now _
theorem implClockOk_ev (c : Int) (l : List S46) (hl : l.length ≤ 9223372036854775807) : Ev (fun k => impl_ClockOk.f k c l) (bP (clockOk c l)) := by
  simp only [impl_ClockOk.f]
  exact implClockOk_l c l hl l.length 0 (by omega)
end Go.Proofs.Ytfgjfheiekhmlaa.Q
