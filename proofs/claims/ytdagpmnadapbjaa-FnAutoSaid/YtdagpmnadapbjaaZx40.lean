/- Go code comes to just these functions; conditions: in each theorem. -/
import Derived.Test.YtdagpmnadapbjaaZx0
namespace Go.Proofs.Ytdagpmnadapbjaa.Z
open Go.RowKit Go.Proofs.YtdagpmnadapbjaaW.PrintWords Go.Proofs.YtdagpmnadapbjaaW.PrintLast Go.Proofs.YtdagpmnadapbjaaW.PrintMore
attribute [local go_sem] max2_int min2_int max_two min_two max_three min_three max_four min_four   -- for this text's walks alone
set_option linter.unusedVariables false
set_option linter.unusedSimpArgs false
set_option maxHeartbeats 8000000 in
set_option maxRecDepth 100000 in
theorem slices_Grow_nil.calls (n : Int) (w : World) (h0 : 0 ≤ n) (hn : n ≤ 17592186044415) :
  Calls Try.prog 96 #[.slice none 0 0, .int .i64 n] w fun e w' => ∃ v0_ : Value, e = .returned (v0_) ∧ Kd.R (Kd.int .i64) 3 w' w.heap.size (fun _ => True) v0_ [] ∧ Below w.heap.size w w' := by
 have HB := am (Below.refl w.heap.size w)
 obtain ⟨i0_, hi0_, hz_⟩ := Option.map_eq_some_iff.1 info3
 simp only [Prod.mk.injEq] at hz_
 have hn0 : decide (n < 0) = false := decide_eq_false (by omega)
 have hn1 : wrap64 n = n := by unfold wrap64; omega
 have HN0 := am h0
 have HN := am hn
 by_cases hp : 0 < n
 ·have hp1 : decide (0 < n) = true := decide_eq_true hp
  have HP := am hp
  have hcut0 := cut_to (P := Try.prog) 22 3 .i64 Try.underlying22 hi0_ none 0 0 0 (by omega) (by simp) (Nat.le_refl _)
  clear hp h0 hn
  go_enter Try.func96, Try.ntmps96
  go_wp2_with (first | ((with_reducible refine gate_builtin (b := .append) (xs := #[.tmp 20, .tmp 21]) rfl ?_); at_builtin; refine Kd.R_append_zeros (Kd.int .i64) (w0 := w) w.heap.size rfl (.tmp 20) (.tmp 21) 22 3 3 (.int .i64 0) 8 rfl Try.underlying22 Try.underlying3 info3 rfl (by decide) (by omega) (.slice none 0 0) [] 0 (kx := .i64) n (fun _ => True) rfl (by first | rfl | (show Value.int .i64 _ = _; rw [hn1])) rfl (fun _ _ => trivial) (Kd.R_nil _ _ _ _ _) HN0.out (pkB HB.out) (below_size (pkB HB.out)) (by have := HN.out; simp; omega) ?_; intro v1 w1 ho hb hg hat; obtain ⟨g1, c1, e1, _⟩ := Kd.R_form ho (by have := HP.out; simp; omega); subst e1; have hcut1 := cut_to (P := Try.prog) 22 3 .i64 Try.underlying22 hi0_ (some ⟨g1, 0, none⟩) _ c1 0 (by omega) (by omega) (Kd.R_reads' ho).2.1; have HO := am (Kd.R_take (m := 0) ho (Nat.zero_le _)); have HB2 := am hb; clear HB ho hb hg hat))
  go_ret
  exact ⟨_, rfl, HO.out, HB2.out⟩
 ·have hp1 : decide (0 < n) = false := decide_eq_false hp
  clear hp h0 hn
  go_enter Try.func96, Try.ntmps96
  go_wp2
  go_ret
  exact ⟨_, rfl, Kd.R_nil _ _ _ _ _, pkB HB.out⟩
set_option maxHeartbeats 8000000 in
set_option maxRecDepth 100000 in
theorem slices_Concat_two.calls (A0 A1 : Option Addr) (c0 c1 : Nat) (l0 l1 : List Int) (B : Nat) (w : World) (hb0 : w.cell? ⟨B, 0, none⟩ = some (.slice A0 l0.length c0)) (hb1 : w.cell? ⟨B, 1, none⟩ = some (.slice A1 l1.length c1)) (hr0 : Kd.C (Kd.int .i64) w A0 l0.length l0) (hr1 : Kd.C (Kd.int .i64) w A1 l1.length l1) (hl : l0.length + l1.length < 17592186044416) :
  Calls Try.prog 92 #[.slice (some ⟨B, 0, none⟩) 2 2] w fun e w' => ∃ v0_ : Value, e = .returned (v0_) ∧ Kd.R (Kd.int .i64) 3 w' w.heap.size (fun _ => True) v0_ (l0 ++ l1) ∧ Below w.heap.size w w' := by
 have HB := am (Below.refl w.heap.size w)
 have HR0 := am hr0
 have HR1 := am hr1
 have HL := am hl
 have HC0 := am hb0
 have HC1 := am hb1
 have e0 : wrap64 (l0.length : Int) = (l0.length : Int) := by unfold wrap64; omega
 have e1 : wrap64 ((l0.length : Int) + (l1.length : Int)) = ((l0.length : Int) + (l1.length : Int)) := by unfold wrap64; omega
 have d0 : decide ((l0.length : Int) < 0) = false := decide_eq_false (by omega)
 have d1 : decide (((l0.length : Int) + (l1.length : Int)) < 0) = false := decide_eq_false (by omega)
 clear hr0 hr1 hl hb0 hb1
 go_enter Try.func92, Try.ntmps92
 go_wp2
 go_loopg [11, 3] 3 (fun kq v11 v3 w' => ∃ (i : Nat) (s : Int), v11 = .int .i64 (i : Int) ∧ v3 = .int .i64 s ∧ Aside0 (i + kq = 3) ∧ Aside0 ((i = 0 ∧ s = 0) ∨ (i = 1 ∧ s = (l0.length : Int)) ∨ (i = 2 ∧ s = ((l0.length : Int) + (l1.length : Int)))) ∧ Aside0 (Below w.heap.size w w'))
 case atStart => exact ⟨0, 0, rfl, rfl, ⟨rfl⟩, ⟨.inl ⟨rfl, rfl⟩⟩, ⟨pkB HB.out⟩⟩
 case round =>
  obtain ⟨i, s, rfl, rfl, HI, HS, HB⟩ := hrel
  have hx0 := pw_cell_below HB.out HC0.out
  have hx1 := pw_cell_below HB.out HC1.out
  rcases HS.out with ⟨rfl, rfl⟩ | ⟨rfl, rfl⟩ | ⟨rfl, rfl⟩
  ·obtain ⟨k1, rfl⟩ : ∃ m, gk = m + 1 := ⟨gk - 1, by have := HI.out; omega⟩
   go_wp2
   go_roundg k1
   case measure => have := HI.out; omega
   case rel => exact ⟨1, (l0.length : Int), rfl, by simp [*], ⟨by have := HI.out; omega⟩, ⟨.inr (.inl ⟨rfl, rfl⟩)⟩, ⟨pkB HB.out⟩⟩
  ·obtain ⟨k1, rfl⟩ : ∃ m, gk = m + 1 := ⟨gk - 1, by have := HI.out; omega⟩
   go_wp2
   go_roundg k1
   case measure => have := HI.out; omega
   case rel => exact ⟨2, ((l0.length : Int) + (l1.length : Int)), rfl, by simp [*], ⟨by have := HI.out; omega⟩, ⟨.inr (.inr ⟨rfl, rfl⟩)⟩, ⟨pkB HB.out⟩⟩
  ·go_wp2_with (first | (go_at_call 96; (with_reducible refine (slices_Grow_nil.calls _ _ ?side1 ?side2).mono ?_); (case side1 => omega); (case side2 => have := HL.out; omega); rintro e w1 ⟨v1, rfl, ho, hb⟩; have HO := am (Kd.R_lower ho (below_size (pkB HB.out))); have n1_ := am (below_step (pkB HB.out) hb); clear HB; have HB := n1_; clear n1_ ho hb))
   clear hx0 hx1
   go_loopg [27, 6] 3 (fun kq v27 v6 w' => ∃ (i : Nat) (xs : List Int), v27 = .int .i64 (i : Int) ∧ Aside0 (i + kq = 3) ∧ Aside0 ((i = 0 ∧ xs = []) ∨ (i = 1 ∧ xs = l0) ∨ (i = 2 ∧ xs = l0 ++ l1)) ∧ Aside0 (Kd.R (Kd.int .i64) 3 w' w.heap.size (fun _ => True) v6 xs) ∧ Aside0 (Below w.heap.size w w'))
   case atStart => exact ⟨0, [], rfl, ⟨rfl⟩, ⟨.inl ⟨rfl, rfl⟩⟩, ⟨pkR HO.out⟩, ⟨pkB HB.out⟩⟩
   case round =>
    clear HO HI HS
    obtain ⟨i, xs, rfl, HI, HS, HO, HB⟩ := hrel
    have hx0 := pw_cell_below HB.out HC0.out
    have hx1 := pw_cell_below HB.out HC1.out
    obtain ⟨A6, c6, e6⟩ := Kd.R_slice HO.out
    subst e6
    rcases HS.out with ⟨rfl, ex_⟩ | ⟨rfl, ex_⟩ | ⟨rfl, ex_⟩ <;> replace ex_ := ex_.symm <;> subst ex_
    ·obtain ⟨k1, rfl⟩ : ∃ m, gk = m + 1 := ⟨gk - 1, by have := HI.out; omega⟩
     go_wp2_with (first | ((with_reducible refine gate_builtin (b := .append) (xs := #[.tmp 31, .tmp 32]) rfl ?_); at_builtin; refine Kd.R_append_rows (Kd.int .i64) (w0 := w) w.heap.size rfl (.tmp 31) (.tmp 32) 22 3 (.int .i64 0) 8 rfl Try.underlying22 info3 rfl (by decide) (by omega) _ ([] : List Int) l0 _ _ _ (fun _ => True) (fun _ => False) rfl rfl ?aO ?aR (fun _ _ h => h) (fun _ h => h.elim) ?aF ?aB ?aS ?aL ?_; (case aR => exact pkC (Kd.C_below HR0.out HB.out)); (case aB => exact (pkB HB.out)); (case aF => exact (fun _ _ => trivial)); (case aO => exact (pkR HO.out)); (case aS => exact (below_size (pkB HB.out))); (case aL => have := HL.out; simp; omega); intro v126 w5 ho hb hg hat; replace HB := am hb; replace HO := am ho; clear ho hb hg hat))
     go_roundg k1
     case measure => have := HI.out; omega
     case rel => exact ⟨1, l0, rfl, ⟨by have := HI.out; omega⟩, ⟨.inr (.inl ⟨rfl, rfl⟩)⟩, ⟨pkR HO.out⟩, ⟨pkB HB.out⟩⟩
    ·obtain ⟨k1, rfl⟩ : ∃ m, gk = m + 1 := ⟨gk - 1, by have := HI.out; omega⟩
     go_wp2_with (first | ((with_reducible refine gate_builtin (b := .append) (xs := #[.tmp 31, .tmp 32]) rfl ?_); at_builtin; refine Kd.R_append_rows (Kd.int .i64) (w0 := w) w.heap.size rfl (.tmp 31) (.tmp 32) 22 3 (.int .i64 0) 8 rfl Try.underlying22 info3 rfl (by decide) (by omega) _ l0 l1 _ _ _ (fun _ => True) (fun _ => False) rfl rfl ?aO ?aR (fun _ _ h => h) (fun _ h => h.elim) ?aF ?aB ?aS ?aL ?_; (case aR => exact pkC (Kd.C_below HR1.out HB.out)); (case aB => exact (pkB HB.out)); (case aF => exact (fun _ _ => trivial)); (case aO => exact (pkR HO.out)); (case aS => exact (below_size (pkB HB.out))); (case aL => have := HL.out; simp; omega); intro v126 w5 ho hb hg hat; replace HB := am hb; replace HO := am ho; clear ho hb hg hat))
     go_roundg k1
     case measure => have := HI.out; omega
     case rel => exact ⟨2, l0 ++ l1, rfl, ⟨by have := HI.out; omega⟩, ⟨.inr (.inr ⟨rfl, rfl⟩)⟩, ⟨pkR HO.out⟩, ⟨pkB HB.out⟩⟩
    ·simp only [List.length_append] at HO
     go_wp2
     go_ret
     exact ⟨_, rfl, pkR HO.out, pkB HB.out⟩
def impl_release.f (l0 : List Int) (l1 : List Int) : Option (List Int × List Int) := if l1.length + l0.length < 17592186044416 then (some (([] : List Int), l1 ++ l0)) else (none)
set_option maxHeartbeats 8000000 in
set_option maxRecDepth 100000 in
theorem impl_release.calls (A0 : Option Addr) (c0 : Nat) (l0 : List Int) (A1 : Option Addr) (c1 : Nat) (l1 : List Int) (r1 : List Int) (r2 : List Int) (w : World) (hr0 : Kd.C (Kd.int .i64) w A0 l0.length l0) (hc0 : l0.length ≤ c0) (hr1 : Kd.C (Kd.int .i64) w A1 l1.length l1) (hc1 : l1.length ≤ c1) (h : impl_release.f l0 l1 = some (r1, r2)) :
  Calls Try.prog 77 #[.slice A0 l0.length c0, .slice A1 l1.length c1] w fun e w' => ∃ v0_ v1_ : Value, e = .returned (.tuple #[v0_, v1_]) ∧ Kd.R (Kd.int .i64) 3 w' w.heap.size (fun k_ => some k_ ≠ (v1_ : Value).ownBlock) v0_ r1 ∧ Kd.R (Kd.int .i64) 3 w' w.heap.size (fun k_ => some k_ ≠ (v0_ : Value).ownBlock) v1_ r2 ∧ Below w.heap.size w w' := by
 have HB := am (Below.refl w.heap.size w)
 have HR0 := am hr0
 have HR1 := am hr1
 have hl : l1.length + l0.length < 17592186044416 := by
  unfold impl_release.f at h
  split at h
  ·assumption
  ·cases h
 have e_ : r1 = [] ∧ r2 = l1 ++ l0 := by
  unfold impl_release.f at h
  rw [if_pos hl] at h
  simp only [Option.some.injEq, Prod.mk.injEq] at h
  exact ⟨h.1.symm, h.2.symm⟩
 obtain ⟨rfl, rfl⟩ := e_
 have HL := am hl
 clear hr0 hr1 hc0 hc1 hl h
 go_enter Try.func77, Try.ntmps77
 go_wp2_with (first | (go_at_call 92; (with_reducible refine (slices_Concat_two.calls A1 A0 c1 c0 l1 l0 _ _ ?sideA ?sideB ?side1 ?side2 HL.out).mono ?_); (case sideA => simp); (case sideB => simp); (case side1 => exact pkC HR1.out); (case side2 => exact pkC HR0.out); rintro e w1 ⟨v1, rfl, ho, hb⟩; have HO := am (Kd.R_lower ho (below_size (pkB HB.out))); have n1_ := am (below_step (pkB HB.out) hb); clear HB; have HB := n1_; clear n1_ ho hb))

 go_ret2
 exact ⟨_, _, rfl, Kd.R_nil _ _ _ _ _, Kd.R_mono HO.out (fun _ _ => by simp [Value.ownBlock]), pkB HB.out⟩
end Go.Proofs.Ytdagpmnadapbjaa.Z
