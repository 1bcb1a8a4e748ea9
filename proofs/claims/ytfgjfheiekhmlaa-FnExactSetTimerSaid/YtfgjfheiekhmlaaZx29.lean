/- The Go functions impl_SetTimer_1, slices_IndexFunc_se, impl_SetTimer as Lean functions, each with a proof that its code comes to just these answers; conditions: those of each theorem. -/
import Derived.Test.YtfgjfheiekhmlaaZx0
import Derived.Test.YtfgjfheiekhmlaaZx4
import Derived.Test.YtfgjfheiekhmlaaZx5
import Derived.Test.YtfgjfheiekhmlaaZx10
import Derived.Test.YtfgjfheiekhmlaaZx28
namespace Go.Proofs.Ytfgjfheiekhmlaa.Z
open Go.RowKit Go.Proofs.YtfgjfheiekhmlaaW.PrintWords Go.Proofs.YtfgjfheiekhmlaaW.PrintLast Go.Proofs.YtfgjfheiekhmlaaW.PrintMore
attribute [local go_sem] max2_int min2_int max_two min_two max_three min_three max_four min_four   -- for this text's walks alone
set_option linter.unusedVariables false
set_option linter.unusedSimpArgs false
def impl_SetTimer_1.f (a0_0 : Int) (a0_1 : Int) (a1 : Int) : Option (Bool) := some (decide (a0_0 > a1))
set_option maxHeartbeats 8000000 in
set_option maxRecDepth 100000 in
theorem impl_SetTimer_1.calls (a0_0 : Int) (a0_1 : Int) (a1 : Int) (r : Bool) (B : Nat) (w : World) (hBc : w.cell? ⟨B, 0, none⟩ = some (.int .i64 a1)) (h : impl_SetTimer_1.f a0_0 a0_1 a1 = some r) :
  Calls Try.prog 48 #[.agg #[.int .i64 a0_0, .int .i64 a0_1], .pointer (some ⟨B, 0, none⟩)] w fun e w' => e = .returned (.bool r) ∧ Below w.heap.size w w' := by
 have hu46 := Try.underlying46
 obtain rfl := Option.some.inj h
 clear h
 have HB := am (Below.refl w.heap.size w)
 have hc1 := fun (o : Obj) => Lib.cell?_alloc_some o hBc
 by_cases hq : a0_0 > a1
 ·have hq0 : decide (a1 < a0_0) = true := by simpa using hq
  rw [decide_eq_true hq]
  clear hq
  go_enter Try.func48, Try.ntmps48
  go_wp2
  go_ret
  exact ⟨rfl, pkB HB.out⟩
 ·have hq0 : decide (a1 < a0_0) = false := by simpa using hq
  rw [decide_eq_false hq]
  clear hq
  go_enter Try.func48, Try.ntmps48
  go_wp2
  go_ret
  exact ⟨rfl, pkB HB.out⟩
def slices_IndexFunc_se.l0 : Nat → List (S46) → Int → Int → Int → Option (Int)
 | 0, _, _, _, _ => none
 | k + 1, x0, x1, x7, x8 => if x8 < x7 then (if 0 ≤ x8 then (if x8 < (x0.length : Int) then ((impl_SetTimer_1.f ((rd_T46 x0 x8).f0) ((rd_T46 x0 x8).f1) x1).bind fun t591 => (if t591 = true then (some x8) else (slices_IndexFunc_se.l0 k x0 x1 x7 (wrap64 (x8 + 1))))) else (none)) else (none)) else (some (-1))
def slices_IndexFunc_se.f (k : Nat) (l0 : List (S46)) (a1 : Int) : Option (Int) := slices_IndexFunc_se.l0 k l0 a1 (l0.length : Int) 0
theorem slices_IndexFunc_se.mono_l : ∀ k, (∀ y0 y1 y2 y3, LeO (slices_IndexFunc_se.l0 k y0 y1 y2 y3) (slices_IndexFunc_se.l0 (k + 1) y0 y1 y2 y3))
 | 0 => fun _ _ _ _ r h => by simp [slices_IndexFunc_se.l0] at h
 | k + 1 => by
  have ih0 := slices_IndexFunc_se.mono_l k
  ·intro y0 y1 y2 y3
   unfold slices_IndexFunc_se.l0
   repeat' first
   | (with_reducible exact ih0 _ _ _ _)
   | (with_reducible exact LeO.refl _)
   | (with_reducible exact LeO.none _)
   | (with_reducible refine LeO.ite ?_ ?_)
   | (with_reducible refine LeO.bind ?_ (fun _ => ?_))
theorem slices_IndexFunc_se.mono : ∀ a0 a1 k, LeO (slices_IndexFunc_se.f k a0 a1) (slices_IndexFunc_se.f (k + 1) a0 a1) := by
 intro a0 a1 k
 have ih0 := slices_IndexFunc_se.mono_l k
 unfold slices_IndexFunc_se.f
 repeat' first
   | (with_reducible exact ih0 _ _ _ _)
   | (with_reducible exact LeO.refl _)
   | (with_reducible exact LeO.none _)
   | (with_reducible refine LeO.ite ?_ ?_)
   | (with_reducible refine LeO.bind ?_ (fun _ => ?_))
set_option maxHeartbeats 8000000 in
set_option maxRecDepth 100000 in
theorem slices_IndexFunc_se.calls (k : Nat) (A0 : Option Addr) (c0 : Nat) (l0 : List (S46)) (a1 : Int) (r : Int) (w : World) (hr0 : Kd.C k46 w A0 l0.length l0) (hc0 : l0.length ≤ c0) (B : Nat) (hBc : w.cell? ⟨B, 0, none⟩ = some (.int .i64 a1)) (h : slices_IndexFunc_se.f k l0 a1 = some r) :
  Calls Try.prog 47 #[.slice A0 l0.length c0, .func (.func 48) #[] #[.pointer (some ⟨B, 0, none⟩)]] w fun e w' => e = .returned (.int .i64 r) ∧ Below w.heap.size w w' := by
 have hu46 := Try.underlying46
 have HBc := am hBc
 clear hBc
 have HR0 := am hr0
 have HC0 := am hc0
 clear hr0 hc0
 have HB := am (Below.refl w.heap.size w)
 have H : (slices_IndexFunc_se.l0 k l0 a1 (l0.length : Int) 0) = some r := h
 clear h
 have H' := am H
 clear H
 go_enter Try.func47, Try.ntmps47
 go_wp2
 go_loopg [8] k (fun kq v8 w' => ∃ (x8_1 : Int), v8 = .int .i64 x8_1 ∧ Aside0 (slices_IndexFunc_se.l0 kq l0 a1 (l0.length : Int) x8_1 = some r) ∧ Aside0 (kq ≤ k) ∧ Aside0 (Below w.heap.size w w'))
 case atStart => exact ⟨(0), rfx, H', ⟨Nat.le_refl _⟩, ⟨pkB HB.out⟩⟩
 case round =>
  clear H'
  try clear p2
  obtain ⟨x8_1, rfl, HA, HK1, HB⟩ := hrel
  cases gk with
  | zero => exact absurd HA.out (by simp [slices_IndexFunc_se.l0])
  | succ k1 =>
   have H := HA.out
   clear HA
   simp only [slices_IndexFunc_se.l0] at H
   by_cases c3 : x8_1 < (l0.length : Int)
   ·rw [if_pos c3] at H
    have c3b0 : decide (x8_1 < (l0.length : Int)) = true := decide_eq_true c3
    clear c3
    by_cases c4 : 0 ≤ x8_1
    ·rw [if_pos c4] at H
     have c4b0 : decide (0 ≤ x8_1) = true := decide_eq_true c4
     clear c4
     by_cases c5 : x8_1 < (l0.length : Int)
     ·rw [if_pos c5] at H
      have c5b0 : decide (x8_1 < (l0.length : Int)) = true := decide_eq_true c5
      clear c5
      replace H := Option.bind_eq_some_iff.mp H
      obtain ⟨t591, A60, H⟩ := H
      replace H : (if t591 = true then (some x8_1) else (slices_IndexFunc_se.l0 k1 l0 a1 (l0.length : Int) (wrap64 (x8_1 + 1)))) = some r := H
      have A6 := am A60
      clear A60
      by_cases c7 : t591 = true
      ·subst c7
       replace H : (some x8_1) = some r := by rw [if_pos rfl] at H; exact H
       obtain rfl := Option.some.inj H
       have p590 : 0 ≤ (x8_1 : Int) := ofd
       have q590 : x8_1 < (l0.length : Int) := ofd
       obtain ⟨ad590, e590, hx590_0, hx590_1⟩ := at_T46 HR0.out x8_1 p590 q590
       cases e590
       replace hx590_0 := (HB.out.cell (World.block_lt_of_cell? w _ hx590_0)).trans hx590_0
       replace hx590_1 := (HB.out.cell (World.block_lt_of_cell? w _ hx590_1)).trans hx590_1
       replace p590 := eq_true p590
       replace q590 := eq_true q590
       go_wp2_with (first | (go_at_call 48; (with_reducible refine (impl_SetTimer_1.calls ((rd_T46 l0 x8_1).f0) ((rd_T46 l0 x8_1).f1) a1 true B _ (by first | exact HBc.out | exact cell_dr HBc.out | exact pw_cell_below (pkB HB.out) HBc.out) A6.out).mono ?_); rintro e w8 ⟨rfl, hb⟩; replace HB := am (below_step (pkB HB.out) hb); (try clear hb)))
       go_ret
       exact ⟨rfe, pkB HB.out⟩
      ·replace c7 := Bool.eq_false_iff.mpr c7
       subst c7
       replace H : (slices_IndexFunc_se.l0 k1 l0 a1 (l0.length : Int) (wrap64 (x8_1 + 1))) = some r := by rw [if_neg (show ¬ (false = true) by decide)] at H; exact H
       have H' := am H
       clear H
       have p590 : 0 ≤ (x8_1 : Int) := ofd
       have q590 : x8_1 < (l0.length : Int) := ofd
       obtain ⟨ad590, e590, hx590_0, hx590_1⟩ := at_T46 HR0.out x8_1 p590 q590
       cases e590
       replace hx590_0 := (HB.out.cell (World.block_lt_of_cell? w _ hx590_0)).trans hx590_0
       replace hx590_1 := (HB.out.cell (World.block_lt_of_cell? w _ hx590_1)).trans hx590_1
       replace p590 := eq_true p590
       replace q590 := eq_true q590
       go_wp2_with (first | (go_at_call 48; (with_reducible refine (impl_SetTimer_1.calls ((rd_T46 l0 x8_1).f0) ((rd_T46 l0 x8_1).f1) a1 false B _ (by first | exact HBc.out | exact cell_dr HBc.out | exact pw_cell_below (pkB HB.out) HBc.out) A6.out).mono ?_); rintro e w9 ⟨rfl, hb⟩; replace HB := am (below_step (pkB HB.out) hb); (try clear hb)))
       go_roundg k1
       case measure => have := HK1.out; omega
       case rel => exact ⟨(wrap64 (x8_1 + 1)), rfx, H', ⟨by have := HK1.out; omega⟩, ⟨pkB HB.out⟩⟩
     ·rw [if_neg c5] at H
      exact absurd H (by simp)
    ·rw [if_neg c4] at H
     exact absurd H (by simp)
   ·rw [if_neg c3] at H
    have c3b0 : decide (x8_1 < (l0.length : Int)) = false := decide_eq_false c3
    clear c3
    obtain rfl := Option.some.inj H
    go_wp2
    go_ret
    exact ⟨rfe, pkB HB.out⟩
def impl_SetTimer.j0 : Nat → Int → Int → Bool → Int → List (S46) → Int → List (S46) → Option (Int × (List (S46)) × Int)
 | 0, _, _, _, _, _, _, _ => none
 | k + 1, x1, x2, x13, x593000, x593001, x599000, x599001 => if x13 = true then (some (x599000, x599001, 1)) else (if (x593001.length : Int) = 40 then (some (x599000, x599001, 2)) else ((slices_IndexFunc_se.f k x593001 (wrap64 (x593000 + x1))).bind fun t601 => (if t601 < 0 then ((impl_Timer_49.f x599001 (x593001.length : Int) (([(⟨wrap64 (x593000 + x1), x2⟩ : S46)] : List (S46)))).bind fun t605 => (some (x599000, t605, 0))) else ((impl_Timer_49.f x599001 t601 (([(⟨wrap64 (x593000 + x1), x2⟩ : S46)] : List (S46)))).bind fun t611 => (some (x599000, t611, 0))))))
def impl_SetTimer.f (k : Nat) (a0_0 : Int) (l0_1 : List (S46)) (a1 : Int) (a2 : Int) : Option (Int × (List (S46)) × Int) := (impl_copyClock.f a0_0 l0_1).bind fun bt594 => ((impl_ClockOk.f k a0_0 l0_1).bind fun t599 => (if t599 = true then (if a1 < 1 then (impl_SetTimer.j0 k a1 a2 true a0_0 l0_1 bt594.1 bt594.2) else ((impl_within.f a2 0 23).bind fun t600 => (if t600 = true then (impl_SetTimer.j0 k a1 a2 (decide (a1 > (wrap64 (1000000000 - a0_0)))) a0_0 l0_1 bt594.1 bt594.2) else (impl_SetTimer.j0 k a1 a2 true a0_0 l0_1 bt594.1 bt594.2)))) else (impl_SetTimer.j0 k a1 a2 true a0_0 l0_1 bt594.1 bt594.2)))
theorem impl_SetTimer.mono_l : ∀ k, (∀ y0 y1 y2 y3 y4 y5 y6, LeO (impl_SetTimer.j0 k y0 y1 y2 y3 y4 y5 y6) (impl_SetTimer.j0 (k + 1) y0 y1 y2 y3 y4 y5 y6))
 | 0 => fun _ _ _ _ _ _ _ r h => by simp [impl_SetTimer.j0] at h
 | k + 1 => by
  have ih0 := impl_SetTimer.mono_l k
  ·intro y0 y1 y2 y3 y4 y5 y6
   unfold impl_SetTimer.j0
   repeat' first
   | (with_reducible exact ih0 _ _ _ _ _ _ _)
   | (with_reducible exact impl_ClockOk.mono _ _ _)
   | (with_reducible exact slices_IndexFunc_se.mono _ _ _)
   | (with_reducible exact LeO.refl _)
   | (with_reducible exact LeO.none _)
   | (with_reducible refine LeO.ite ?_ ?_)
   | (with_reducible refine LeO.bind ?_ (fun _ => ?_))
theorem impl_SetTimer.mono : ∀ a0 a1 a2 a3 k, LeO (impl_SetTimer.f k a0 a1 a2 a3) (impl_SetTimer.f (k + 1) a0 a1 a2 a3) := by
 intro a0 a1 a2 a3 k
 have ih0 := impl_SetTimer.mono_l k
 unfold impl_SetTimer.f
 repeat' first
   | (with_reducible exact ih0 _ _ _ _ _ _ _)
   | (with_reducible exact impl_ClockOk.mono _ _ _)
   | (with_reducible exact slices_IndexFunc_se.mono _ _ _)
   | (with_reducible exact LeO.refl _)
   | (with_reducible exact LeO.none _)
   | (with_reducible refine LeO.ite ?_ ?_)
   | (with_reducible refine LeO.bind ?_ (fun _ => ?_))
set_option maxHeartbeats 8000000 in
set_option maxRecDepth 100000 in
theorem impl_SetTimer.calls (k : Nat) (a0_0 : Int) (A0_1 : Option Addr) (c0_1 : Nat) (l0_1 : List (S46)) (a1 : Int) (a2 : Int) (r1 : Int) (r2 : List (S46)) (r3 : Int) (w : World) (hr0_1 : Kd.C k46 w A0_1 l0_1.length l0_1) (hc0_1 : l0_1.length ≤ c0_1) (h : impl_SetTimer.f k a0_0 l0_1 a1 a2 = some (r1, r2, r3)) :
  Calls Try.prog 29 #[.agg #[.int .i64 a0_0, .slice A0_1 l0_1.length c0_1], .int .i64 a1, .int .i64 a2] w fun e w' => ∃ v1_ : Value, e = .returned (.tuple #[.agg #[.int .i64 r1, v1_], .int .i64 r3]) ∧ Kd.R k46 46 w' w.heap.size (fun _ => True) v1_ r2 ∧ Below w.heap.size w w' := by
 have hu29 := Try.underlying29
 have hu46 := Try.underlying46
 have HR0_1 := am hr0_1
 have HC0_1 := am hc0_1
 clear hr0_1 hc0_1
 have HB := am (Below.refl w.heap.size w)
 have H : ((impl_copyClock.f a0_0 l0_1).bind fun bt594 => ((impl_ClockOk.f k a0_0 l0_1).bind fun t599 => (if t599 = true then (if a1 < 1 then (impl_SetTimer.j0 k a1 a2 true a0_0 l0_1 bt594.1 bt594.2) else ((impl_within.f a2 0 23).bind fun t600 => (if t600 = true then (impl_SetTimer.j0 k a1 a2 (decide (a1 > (wrap64 (1000000000 - a0_0)))) a0_0 l0_1 bt594.1 bt594.2) else (impl_SetTimer.j0 k a1 a2 true a0_0 l0_1 bt594.1 bt594.2)))) else (impl_SetTimer.j0 k a1 a2 true a0_0 l0_1 bt594.1 bt594.2)))) = some (r1, r2, r3) := h
 clear h
 replace H := Option.bind_eq_some_iff.mp H
 obtain ⟨⟨t594, t595⟩, A40, H⟩ := H
 replace H : ((impl_ClockOk.f k a0_0 l0_1).bind fun t599 => (if t599 = true then (if a1 < 1 then (impl_SetTimer.j0 k a1 a2 true a0_0 l0_1 t594 t595) else ((impl_within.f a2 0 23).bind fun t600 => (if t600 = true then (impl_SetTimer.j0 k a1 a2 (decide (a1 > (wrap64 (1000000000 - a0_0)))) a0_0 l0_1 t594 t595) else (impl_SetTimer.j0 k a1 a2 true a0_0 l0_1 t594 t595)))) else (impl_SetTimer.j0 k a1 a2 true a0_0 l0_1 t594 t595))) = some (r1, r2, r3) := H
 have A4 := am A40
 clear A40
 have HC5 := am H
 clear H
 go_enter Try.func29, Try.ntmps29
 go_upto_region 2 with (first | ((with_reducible refine gate_dst (N := 3) rfl ?_); refine box_event ?hg (N := 3) ?hd (cs := #[.int .i64 a0_0, .slice A0_1 l0_1.length c0_1]) (t := 29) ?hr ?_; (case hd => rfl); (case hg => rfl); (case hr => first | (go_simp; done) | (go_simp; rfl)); intro gb592 hg w6 hbox hb; have BK592 := am (hbox); have GW592 := am ((by rw [hg]; exact (below_size (pkB HB.out)) : w.heap.size ≤ gb592)); have GE592 := am ((by rw [hg]; exact (below_size (pkB HB.out)) : w.heap.size ≤ gb592)); replace HB := am (below_step (pkB HB.out) hb); clear hb hbox hg) | ((with_reducible refine gate_dst (N := 6) rfl ?_); refine box_event ?hg (N := 6) ?hd (cs := #[.int .i64 0, .slice none 0 0]) (t := 29) ?hr ?_; (case hd => rfl); (case hg => rfl); (case hr => first | (go_simp; done) | (go_simp; rfl)); intro gb593 hg w7 hbox hb; have BK593 := am (hbox); have GW593 := am ((by rw [hg]; exact (below_size (pkW HB.out)) : w.heap.size ≤ gb593)); have GE593 := am ((by rw [hg]; exact (below_size (pkW HB.out)) : w.heap.size ≤ gb593)); replace HB := am (below_step (pkW HB.out) hb); have NB592_593 := am ((by rw [hg]; exact Nat.ne_of_lt (blk_lt (g := gb592) (o := .cells #[.int .i64 a0_0, .slice A0_1 l0_1.length c0_1] 29 (0, 0)) (pkK BK592.out)) : gb592 ≠ gb593)); have NB593_592 := am ((by rw [hg]; exact Nat.ne_of_gt (blk_lt (g := gb592) (o := .cells #[.int .i64 a0_0, .slice A0_1 l0_1.length c0_1] 29 (0, 0)) (pkK BK592.out)) : gb593 ≠ gb592)); replace BK592 := am (blk_below (pkK BK592.out) hb); clear hb hbox hg; have hnb8 := NB592_593.out; have hnc8 := NB593_592.out; obtain ⟨hcz9_0, hcz9_1, hfz9_0, hfz9_1⟩ := bk2 BK592.out) | ((with_reducible refine gate_callee (f := 38) rfl ?_); refine goesL_ (some 12) rfl rfl Try.func38 (by kernel_rfl) rfl #[.agg #[.int .i64 a0_0, .slice A0_1 l0_1.length c0_1]] rfl mpx ?_; (with_reducible refine (impl_copyClock.calls a0_0 _ _ l0_1 t594 t595 _ ?side1 ?side2 A4.out).mono ?_); (case side1 => exact pkC (Kd.C_below HR0_1.out HB.out)); (case side2 => exact HC0_1.out); rintro e w10 ⟨v596, rfl, ho0, hb⟩; refine ⟨_, rfl, ?_⟩; have HO597 := am (Kd.R_lower ho0 (below_size (pkW HB.out))); replace BK592 := am (blk_below (pkK BK592.out) hb); replace BK593 := am (blk_below (pkK BK593.out) hb); replace HB := am (below_step (pkW HB.out) hb); (try clear hb ho0)) | ((with_reducible refine gate_dst (N := 8) rfl ?_); refine box_event ?hg (N := 8) ?hd (cs := #[.int .i64 0, .slice none 0 0]) (t := 29) ?hr ?_; (case hd => rfl); (case hg => rfl); (case hr => first | (go_simp; done) | (go_simp; rfl)); intro gb598 hg w11 hbox hb; replace HO597 := am (Kd.R_below (pkR HO597.out) hb); have BK598 := am (hbox); have GW598 := am ((by rw [hg]; exact (below_size (pkW HB.out)) : w.heap.size ≤ gb598)); have GE598 := am ((by rw [hg]; exact (below_size (pkW HB.out)) : w.heap.size ≤ gb598)); replace HB := am (below_step (pkW HB.out) hb); have NB592_598 := am ((by rw [hg]; exact Nat.ne_of_lt (blk_lt (g := gb592) (o := .cells #[.int .i64 a0_0, .slice A0_1 l0_1.length c0_1] 29 (0, 0)) (pkK BK592.out)) : gb592 ≠ gb598)); have NB598_592 := am ((by rw [hg]; exact Nat.ne_of_gt (blk_lt (g := gb592) (o := .cells #[.int .i64 a0_0, .slice A0_1 l0_1.length c0_1] 29 (0, 0)) (pkK BK592.out)) : gb598 ≠ gb592)); replace BK592 := am (blk_below (pkK BK592.out) hb); have NB593_598 := am ((by rw [hg]; exact Nat.ne_of_lt (blk_lt (g := gb593) (o := .cells #[.int .i64 0, .slice none 0 0] 29 (0, 0)) (pkK BK593.out)) : gb593 ≠ gb598)); have NB598_593 := am ((by rw [hg]; exact Nat.ne_of_gt (blk_lt (g := gb593) (o := .cells #[.int .i64 0, .slice none 0 0] 29 (0, 0)) (pkK BK593.out)) : gb598 ≠ gb593)); replace BK593 := am (blk_below (pkK BK593.out) hb); clear hb hbox hg; have hnb12 := NB598_592.out; have hnc12 := NB592_598.out; have hnb13 := NB598_593.out; have hnc13 := NB593_598.out; obtain ⟨hcz14_0, hcz14_1, hfz14_0, hfz14_1⟩ := bk2 BK598.out; obtain ⟨Ao15, co15, eo15⟩ := Kd.R_slice HO597.out; subst eo15))
 (try simp only [Act.put, List.setIfInBounds_toArray, List.set_cons_zero, List.set_cons_succ])
 go_cut [13] (fun v13 wc => ∃ (kq : Nat) (x13_4 : Bool), v13 = .bool x13_4 ∧ Aside0 (impl_SetTimer.j0 kq a1 a2 x13_4 a0_0 l0_1 t594 t595 = some (r1, r2, r3)) ∧ Aside0 (kq ≤ k) ∧ Aside0 (Kd.R k46 46 wc w.heap.size (fun _ => True) (.slice Ao15 t595.length co15) t595) ∧ Aside0 (wc.heap[gb592]? = some (.cells #[.int .i64 a0_0, (.slice A0_1 l0_1.length c0_1)] 29 (0, 0))) ∧ Aside0 (wc.heap[gb593]? = some (.cells #[.int .i64 0, (.slice none 0 0)] 29 (0, 0))) ∧ Aside0 (wc.heap[gb598]? = some (.cells #[.int .i64 t594, (.slice Ao15 t595.length co15)] 29 (0, 0))) ∧ Aside0 (Below w.heap.size w wc))
 case first =>
  have H := HC5.out
  clear HC5
  replace H := Option.bind_eq_some_iff.mp H
  obtain ⟨t599, A160, H⟩ := H
  replace H : (if t599 = true then (if a1 < 1 then (impl_SetTimer.j0 k a1 a2 true a0_0 l0_1 t594 t595) else ((impl_within.f a2 0 23).bind fun t600 => (if t600 = true then (impl_SetTimer.j0 k a1 a2 (decide (a1 > (wrap64 (1000000000 - a0_0)))) a0_0 l0_1 t594 t595) else (impl_SetTimer.j0 k a1 a2 true a0_0 l0_1 t594 t595)))) else (impl_SetTimer.j0 k a1 a2 true a0_0 l0_1 t594 t595)) = some (r1, r2, r3) := H
  have A16 := am A160
  clear A160
  by_cases c17 : t599 = true
  ·subst c17
   replace H : (if a1 < 1 then (impl_SetTimer.j0 k a1 a2 true a0_0 l0_1 t594 t595) else ((impl_within.f a2 0 23).bind fun t600 => (if t600 = true then (impl_SetTimer.j0 k a1 a2 (decide (a1 > (wrap64 (1000000000 - a0_0)))) a0_0 l0_1 t594 t595) else (impl_SetTimer.j0 k a1 a2 true a0_0 l0_1 t594 t595)))) = some (r1, r2, r3) := by rw [if_pos rfl] at H; exact H
   by_cases c18 : a1 < 1
   ·rw [if_pos c18] at H
    have c18b0 : decide (a1 < 1) = true := decide_eq_true c18
    clear c18
    (first | rw [c18b0] | (simp only [i64_w, i32_w]; rw [c18b0]) | skip)
    have H' := am H
    clear H
    have hnb19 := NB592_593.out
    have hnc19 := NB593_592.out
    have hnb20 := NB592_598.out
    have hnc20 := NB598_592.out
    obtain ⟨hcz21_0, hcz21_1, hfz21_0, hfz21_1⟩ := bk2 BK592.out
    go_wp2_with (first | ((with_reducible refine gate_callee (f := 12) rfl ?_); refine goesL_ (some 15) rfl rfl Try.func12 (by kernel_rfl) rfl #[.agg #[.int .i64 a0_0, .slice A0_1 l0_1.length c0_1]] rfl mpx ?_; (with_reducible refine (impl_ClockOk.calls k a0_0 _ _ l0_1 true _ ?side1 ?side2 A16.out).mono ?_); (case side1 => exact Kd.C_below HR0_1.out (pkW HB.out)); (case side2 => exact HC0_1.out); rintro e w22 ⟨rfl, hb⟩; refine ⟨_, rfl, ?_⟩; replace HO597 := am (Kd.R_below (by (with_reducible repeat (first | apply Kd.R_alloc | apply Kd.R_drewN | apply Kd.R_drew)); exact (Kd.R_mono (Kd.R_far (p := ⟨gb598, 1, none⟩) (Kd.R_far (p := ⟨gb598, 0, none⟩) (Kd.R_types HO597.out BK598.out (by decide)) (fun _ hk => hk.2) (.int .i64 t594)) (fun _ hk => hk.2) (.slice Ao15 t595.length co15)) (fun _ h_ => h_.1))) hb); replace BK592 := am (blk_below (g := gb592) (o := .cells #[.int .i64 a0_0, .slice A0_1 l0_1.length c0_1] 29 (0, 0)) (by (with_reducible repeat (first | refine blk_drewN ?_ _ | refine blk_drew ?_ | refine blk_alloc ?_ _)); refine blk_far ?_ NB592_598.out _; (with_reducible repeat (first | refine blk_drewN ?_ _ | refine blk_drew ?_ | refine blk_alloc ?_ _)); refine blk_far ?_ NB592_598.out _; exact pkK BK592.out) hb); replace BK593 := am (blk_below (g := gb593) (o := .cells #[.int .i64 0, .slice none 0 0] 29 (0, 0)) (by (with_reducible repeat (first | refine blk_drewN ?_ _ | refine blk_drew ?_ | refine blk_alloc ?_ _)); refine blk_far ?_ NB593_598.out _; (with_reducible repeat (first | refine blk_drewN ?_ _ | refine blk_drew ?_ | refine blk_alloc ?_ _)); refine blk_far ?_ NB593_598.out _; exact pkK BK593.out) hb); replace BK598 := am (blk_below (g := gb598) (o := .cells #[.int .i64 t594, .slice Ao15 t595.length co15] 29 (0, 0)) (by (with_reducible repeat (first | refine blk_drewN ?_ _ | refine blk_drew ?_ | refine blk_alloc ?_ _)); refine blk_put (cs := #[.int .i64 t594, .slice none 0 0]) ?_ 1 _ rfl; (with_reducible repeat (first | refine blk_drewN ?_ _ | refine blk_drew ?_ | refine blk_alloc ?_ _)); refine blk_put (cs := #[.int .i64 0, .slice none 0 0]) ?_ 0 _ rfl; exact pkK BK598.out) hb); replace HB := am (below_step (pkW HB.out) hb); (try clear hb)))
    go_meet
    case rel => exact ⟨_, (true), rfx, H', ⟨by first | omega | exact Nat.le_refl _⟩, ⟨pkR HO597.out⟩, ⟨pkK BK592.out⟩, ⟨pkK BK593.out⟩, ⟨pkK BK598.out⟩, ⟨pkW HB.out⟩⟩
   ·rw [if_neg c18] at H
    have c18b0 : decide (a1 < 1) = false := decide_eq_false c18
    clear c18
    (first | rw [c18b0] | (simp only [i64_w, i32_w]; rw [c18b0]) | skip)
    replace H := Option.bind_eq_some_iff.mp H
    obtain ⟨t600, A230, H⟩ := H
    replace H : (if t600 = true then (impl_SetTimer.j0 k a1 a2 (decide (a1 > (wrap64 (1000000000 - a0_0)))) a0_0 l0_1 t594 t595) else (impl_SetTimer.j0 k a1 a2 true a0_0 l0_1 t594 t595)) = some (r1, r2, r3) := H
    have A23 := am A230
    clear A230
    by_cases c24 : t600 = true
    ·subst c24
     replace H : (impl_SetTimer.j0 k a1 a2 (decide (a1 > (wrap64 (1000000000 - a0_0)))) a0_0 l0_1 t594 t595) = some (r1, r2, r3) := by rw [if_pos rfl] at H; exact H
     have H' := am H
     clear H
     have hnb25 := NB592_593.out
     have hnc25 := NB593_592.out
     have hnb26 := NB592_598.out
     have hnc26 := NB598_592.out
     obtain ⟨hcz27_0, hcz27_1, hfz27_0, hfz27_1⟩ := bk2 BK592.out
     go_wp2_with (first | ((with_reducible refine gate_callee (f := 12) rfl ?_); refine goesL_ (some 15) rfl rfl Try.func12 (by kernel_rfl) rfl #[.agg #[.int .i64 a0_0, .slice A0_1 l0_1.length c0_1]] rfl mpx ?_; (with_reducible refine (impl_ClockOk.calls k a0_0 _ _ l0_1 true _ ?side1 ?side2 A16.out).mono ?_); (case side1 => exact Kd.C_below HR0_1.out (pkW HB.out)); (case side2 => exact HC0_1.out); rintro e w28 ⟨rfl, hb⟩; refine ⟨_, rfl, ?_⟩; replace HO597 := am (Kd.R_below (by (with_reducible repeat (first | apply Kd.R_alloc | apply Kd.R_drewN | apply Kd.R_drew)); exact (Kd.R_mono (Kd.R_far (p := ⟨gb598, 1, none⟩) (Kd.R_far (p := ⟨gb598, 0, none⟩) (Kd.R_types HO597.out BK598.out (by decide)) (fun _ hk => hk.2) (.int .i64 t594)) (fun _ hk => hk.2) (.slice Ao15 t595.length co15)) (fun _ h_ => h_.1))) hb); replace BK592 := am (blk_below (g := gb592) (o := .cells #[.int .i64 a0_0, .slice A0_1 l0_1.length c0_1] 29 (0, 0)) (by (with_reducible repeat (first | refine blk_drewN ?_ _ | refine blk_drew ?_ | refine blk_alloc ?_ _)); refine blk_far ?_ NB592_598.out _; (with_reducible repeat (first | refine blk_drewN ?_ _ | refine blk_drew ?_ | refine blk_alloc ?_ _)); refine blk_far ?_ NB592_598.out _; exact pkK BK592.out) hb); replace BK593 := am (blk_below (g := gb593) (o := .cells #[.int .i64 0, .slice none 0 0] 29 (0, 0)) (by (with_reducible repeat (first | refine blk_drewN ?_ _ | refine blk_drew ?_ | refine blk_alloc ?_ _)); refine blk_far ?_ NB593_598.out _; (with_reducible repeat (first | refine blk_drewN ?_ _ | refine blk_drew ?_ | refine blk_alloc ?_ _)); refine blk_far ?_ NB593_598.out _; exact pkK BK593.out) hb); replace BK598 := am (blk_below (g := gb598) (o := .cells #[.int .i64 t594, .slice Ao15 t595.length co15] 29 (0, 0)) (by (with_reducible repeat (first | refine blk_drewN ?_ _ | refine blk_drew ?_ | refine blk_alloc ?_ _)); refine blk_put (cs := #[.int .i64 t594, .slice none 0 0]) ?_ 1 _ rfl; (with_reducible repeat (first | refine blk_drewN ?_ _ | refine blk_drew ?_ | refine blk_alloc ?_ _)); refine blk_put (cs := #[.int .i64 0, .slice none 0 0]) ?_ 0 _ rfl; exact pkK BK598.out) hb); replace HB := am (below_step (pkW HB.out) hb); (try clear hb)) | (go_at_call 35; (with_reducible refine (impl_within.calls a2 0 23 true _ A23.out).mono ?_); rintro e w' ⟨rfl, ⟨nd, rfl⟩⟩; obtain ⟨hcz29_0, hcz29_1, hfz29_0, hfz29_1⟩ := bk2 BK592.out))
     go_meet
     case rel => exact ⟨_, (decide (a1 > (wrap64 (1000000000 - a0_0)))), rfx, H', ⟨by first | omega | exact Nat.le_refl _⟩, ⟨pkR HO597.out⟩, ⟨pkK BK592.out⟩, ⟨pkK BK593.out⟩, ⟨pkK BK598.out⟩, ⟨pkW HB.out⟩⟩
    ·replace c24 := Bool.eq_false_iff.mpr c24
     subst c24
     replace H : (impl_SetTimer.j0 k a1 a2 true a0_0 l0_1 t594 t595) = some (r1, r2, r3) := by rw [if_neg (show ¬ (false = true) by decide)] at H; exact H
     have H' := am H
     clear H
     have hnb30 := NB592_593.out
     have hnc30 := NB593_592.out
     have hnb31 := NB592_598.out
     have hnc31 := NB598_592.out
     obtain ⟨hcz32_0, hcz32_1, hfz32_0, hfz32_1⟩ := bk2 BK592.out
     go_wp2_with (first | ((with_reducible refine gate_callee (f := 12) rfl ?_); refine goesL_ (some 15) rfl rfl Try.func12 (by kernel_rfl) rfl #[.agg #[.int .i64 a0_0, .slice A0_1 l0_1.length c0_1]] rfl mpx ?_; (with_reducible refine (impl_ClockOk.calls k a0_0 _ _ l0_1 true _ ?side1 ?side2 A16.out).mono ?_); (case side1 => exact Kd.C_below HR0_1.out (pkW HB.out)); (case side2 => exact HC0_1.out); rintro e w33 ⟨rfl, hb⟩; refine ⟨_, rfl, ?_⟩; replace HO597 := am (Kd.R_below (by (with_reducible repeat (first | apply Kd.R_alloc | apply Kd.R_drewN | apply Kd.R_drew)); exact (Kd.R_mono (Kd.R_far (p := ⟨gb598, 1, none⟩) (Kd.R_far (p := ⟨gb598, 0, none⟩) (Kd.R_types HO597.out BK598.out (by decide)) (fun _ hk => hk.2) (.int .i64 t594)) (fun _ hk => hk.2) (.slice Ao15 t595.length co15)) (fun _ h_ => h_.1))) hb); replace BK592 := am (blk_below (g := gb592) (o := .cells #[.int .i64 a0_0, .slice A0_1 l0_1.length c0_1] 29 (0, 0)) (by (with_reducible repeat (first | refine blk_drewN ?_ _ | refine blk_drew ?_ | refine blk_alloc ?_ _)); refine blk_far ?_ NB592_598.out _; (with_reducible repeat (first | refine blk_drewN ?_ _ | refine blk_drew ?_ | refine blk_alloc ?_ _)); refine blk_far ?_ NB592_598.out _; exact pkK BK592.out) hb); replace BK593 := am (blk_below (g := gb593) (o := .cells #[.int .i64 0, .slice none 0 0] 29 (0, 0)) (by (with_reducible repeat (first | refine blk_drewN ?_ _ | refine blk_drew ?_ | refine blk_alloc ?_ _)); refine blk_far ?_ NB593_598.out _; (with_reducible repeat (first | refine blk_drewN ?_ _ | refine blk_drew ?_ | refine blk_alloc ?_ _)); refine blk_far ?_ NB593_598.out _; exact pkK BK593.out) hb); replace BK598 := am (blk_below (g := gb598) (o := .cells #[.int .i64 t594, .slice Ao15 t595.length co15] 29 (0, 0)) (by (with_reducible repeat (first | refine blk_drewN ?_ _ | refine blk_drew ?_ | refine blk_alloc ?_ _)); refine blk_put (cs := #[.int .i64 t594, .slice none 0 0]) ?_ 1 _ rfl; (with_reducible repeat (first | refine blk_drewN ?_ _ | refine blk_drew ?_ | refine blk_alloc ?_ _)); refine blk_put (cs := #[.int .i64 0, .slice none 0 0]) ?_ 0 _ rfl; exact pkK BK598.out) hb); replace HB := am (below_step (pkW HB.out) hb); (try clear hb)) | (go_at_call 35; (with_reducible refine (impl_within.calls a2 0 23 false _ A23.out).mono ?_); rintro e w' ⟨rfl, ⟨nd, rfl⟩⟩))
     go_meet
     case rel => exact ⟨_, (true), rfx, H', ⟨by first | omega | exact Nat.le_refl _⟩, ⟨pkR HO597.out⟩, ⟨pkK BK592.out⟩, ⟨pkK BK593.out⟩, ⟨pkK BK598.out⟩, ⟨pkW HB.out⟩⟩
  ·replace c17 := Bool.eq_false_iff.mpr c17
   subst c17
   replace H : (impl_SetTimer.j0 k a1 a2 true a0_0 l0_1 t594 t595) = some (r1, r2, r3) := by rw [if_neg (show ¬ (false = true) by decide)] at H; exact H
   have H' := am H
   clear H
   have hnb34 := NB592_593.out
   have hnc34 := NB593_592.out
   have hnb35 := NB592_598.out
   have hnc35 := NB598_592.out
   obtain ⟨hcz36_0, hcz36_1, hfz36_0, hfz36_1⟩ := bk2 BK592.out
   go_wp2_with (first | ((with_reducible refine gate_callee (f := 12) rfl ?_); refine goesL_ (some 15) rfl rfl Try.func12 (by kernel_rfl) rfl #[.agg #[.int .i64 a0_0, .slice A0_1 l0_1.length c0_1]] rfl mpx ?_; (with_reducible refine (impl_ClockOk.calls k a0_0 _ _ l0_1 false _ ?side1 ?side2 A16.out).mono ?_); (case side1 => exact Kd.C_below HR0_1.out (pkW HB.out)); (case side2 => exact HC0_1.out); rintro e w37 ⟨rfl, hb⟩; refine ⟨_, rfl, ?_⟩; replace HO597 := am (Kd.R_below (by (with_reducible repeat (first | apply Kd.R_alloc | apply Kd.R_drewN | apply Kd.R_drew)); exact (Kd.R_mono (Kd.R_far (p := ⟨gb598, 1, none⟩) (Kd.R_far (p := ⟨gb598, 0, none⟩) (Kd.R_types HO597.out BK598.out (by decide)) (fun _ hk => hk.2) (.int .i64 t594)) (fun _ hk => hk.2) (.slice Ao15 t595.length co15)) (fun _ h_ => h_.1))) hb); replace BK592 := am (blk_below (g := gb592) (o := .cells #[.int .i64 a0_0, .slice A0_1 l0_1.length c0_1] 29 (0, 0)) (by (with_reducible repeat (first | refine blk_drewN ?_ _ | refine blk_drew ?_ | refine blk_alloc ?_ _)); refine blk_far ?_ NB592_598.out _; (with_reducible repeat (first | refine blk_drewN ?_ _ | refine blk_drew ?_ | refine blk_alloc ?_ _)); refine blk_far ?_ NB592_598.out _; exact pkK BK592.out) hb); replace BK593 := am (blk_below (g := gb593) (o := .cells #[.int .i64 0, .slice none 0 0] 29 (0, 0)) (by (with_reducible repeat (first | refine blk_drewN ?_ _ | refine blk_drew ?_ | refine blk_alloc ?_ _)); refine blk_far ?_ NB593_598.out _; (with_reducible repeat (first | refine blk_drewN ?_ _ | refine blk_drew ?_ | refine blk_alloc ?_ _)); refine blk_far ?_ NB593_598.out _; exact pkK BK593.out) hb); replace BK598 := am (blk_below (g := gb598) (o := .cells #[.int .i64 t594, .slice Ao15 t595.length co15] 29 (0, 0)) (by (with_reducible repeat (first | refine blk_drewN ?_ _ | refine blk_drew ?_ | refine blk_alloc ?_ _)); refine blk_put (cs := #[.int .i64 t594, .slice none 0 0]) ?_ 1 _ rfl; (with_reducible repeat (first | refine blk_drewN ?_ _ | refine blk_drew ?_ | refine blk_alloc ?_ _)); refine blk_put (cs := #[.int .i64 0, .slice none 0 0]) ?_ 0 _ rfl; exact pkK BK598.out) hb); replace HB := am (below_step (pkW HB.out) hb); (try clear hb)))
   go_meet
   case rel => exact ⟨_, (true), rfx, H', ⟨by first | omega | exact Nat.le_refl _⟩, ⟨pkR HO597.out⟩, ⟨pkK BK592.out⟩, ⟨pkK BK593.out⟩, ⟨pkK BK598.out⟩, ⟨pkW HB.out⟩⟩
 case rest =>
  clear HC5
  try clear c1
  try clear c2
  try clear p2
  try clear c3
  try clear p6
  try clear c8
  try clear c12
  try clear c13
  try clear c17
  try clear c18
  try clear c18b0
  try clear c19
  try clear c20
  try clear c24
  try clear c25
  try clear c26
  try clear c29
  try clear c30
  try clear c31
  try clear c34
  try clear c35
  try clear hcz14_0
  try clear hcz14_1
  try clear hcz21_0
  try clear hcz21_1
  try clear hcz27_0
  try clear hcz27_1
  try clear hcz29_0
  try clear hcz29_1
  try clear hcz32_0
  try clear hcz32_1
  try clear hcz36_0
  try clear hcz36_1
  try clear hcz9_0
  try clear hcz9_1
  try clear hfz14_0
  try clear hfz14_1
  try clear hfz21_0
  try clear hfz21_1
  try clear hfz27_0
  try clear hfz27_1
  try clear hfz29_0
  try clear hfz29_1
  try clear hfz32_0
  try clear hfz32_1
  try clear hfz36_0
  try clear hfz36_1
  try clear hfz9_0
  try clear hfz9_1
  obtain ⟨kq, x13_4, rfl, HA, HJ4, HO_599001, BK592, BK593, BK598, HB⟩ := hcut
  cases kq with
  | zero => exact absurd HA.out (by simp [impl_SetTimer.j0])
  | succ kj4 =>
   have H := HA.out
   clear HA
   simp only [impl_SetTimer.j0] at H
   by_cases c38 : x13_4 = true
   ·subst c38
    replace H : (some (t594, t595, 1)) = some (r1, r2, r3) := by rw [if_pos rfl] at H; exact H
    simp only [Option.some.injEq, Prod.mk.injEq] at H
    obtain ⟨rfl, rfl, rfl⟩ := H
    have hnb39 := NB598_592.out
    have hnc39 := NB592_598.out
    have hnb40 := NB598_593.out
    have hnc40 := NB593_598.out
    obtain ⟨hcz41_0, hcz41_1, hfz41_0, hfz41_1⟩ := bk2 BK598.out
    have hnb42 := NB593_592.out
    have hnc42 := NB592_593.out
    obtain ⟨hcz43_0, hcz43_1, hfz43_0, hfz43_1⟩ := bk2 BK593.out
    go_wp2
    refine bodyPost_ret (results_ct rfl _ _ gb593 29 #[.int .i64 t594, .slice Ao15 t595.length co15] (0, 0) _ rfl (by (with_reducible repeat (first | refine blk_drewN ?_ _ | refine blk_drew ?_ | refine blk_alloc ?_ _)); refine blk_put (cs := #[.int .i64 t594, .slice none 0 0]) ?_ 1 _ rfl; (with_reducible repeat (first | refine blk_drewN ?_ _ | refine blk_drew ?_ | refine blk_alloc ?_ _)); refine blk_put (cs := #[.int .i64 0, .slice none 0 0]) ?_ 0 _ rfl; exact pkK BK593.out) Try.underlying29 rfl (by kernel_rfl)) rfl ?_
    exact ⟨_, rfe, by (with_reducible repeat (first | apply Kd.R_alloc | apply Kd.R_drewN | apply Kd.R_drew)); exact Kd.R_mono (Kd.R_far (p := ⟨gb593, 1, none⟩) (Kd.R_far (p := ⟨gb593, 0, none⟩) (Kd.R_types HO_599001.out BK593.out (by decide)) (fun _ hk => hk.2) (.int .i64 t594)) (fun _ hk => hk.2) (.slice Ao15 t595.length co15)) (fun _ hk => trivial), pkW HB.out⟩
   ·replace c38 := Bool.eq_false_iff.mpr c38
    subst c38
    replace H : (if (l0_1.length : Int) = 40 then (some (t594, t595, 2)) else ((slices_IndexFunc_se.f kj4 l0_1 (wrap64 (a0_0 + a1))).bind fun t601 => (if t601 < 0 then ((impl_Timer_49.f t595 (l0_1.length : Int) (([(⟨wrap64 (a0_0 + a1), a2⟩ : S46)] : List (S46)))).bind fun t605 => (some (t594, t605, 0))) else ((impl_Timer_49.f t595 t601 (([(⟨wrap64 (a0_0 + a1), a2⟩ : S46)] : List (S46)))).bind fun t611 => (some (t594, t611, 0)))))) = some (r1, r2, r3) := by rw [if_neg (show ¬ (false = true) by decide)] at H; exact H
    by_cases c44 : (l0_1.length : Int) = 40
    ·rw [if_pos c44] at H
     have c44b0 : ((l0_1.length : Int) == 40) = true := beq_iff_eq.mpr c44
     have c44b1 : ((l0_1.length : Int) != 40) = false := bne_eq_false_iff_eq.mpr c44
     clear c44
     simp only [Option.some.injEq, Prod.mk.injEq] at H
     obtain ⟨rfl, rfl, rfl⟩ := H
     have hnb45 := NB592_593.out
     have hnc45 := NB593_592.out
     have hnb46 := NB592_598.out
     have hnc46 := NB598_592.out
     obtain ⟨hcz47_0, hcz47_1, hfz47_0, hfz47_1⟩ := bk2 BK592.out
     have hnb48 := NB598_593.out
     have hnc48 := NB593_598.out
     obtain ⟨hcz49_0, hcz49_1, hfz49_0, hfz49_1⟩ := bk2 BK598.out
     obtain ⟨hcz50_0, hcz50_1, hfz50_0, hfz50_1⟩ := bk2 BK593.out
     go_wp2
     refine bodyPost_ret (results_ct rfl _ _ gb593 29 #[.int .i64 t594, .slice Ao15 t595.length co15] (0, 0) _ rfl (by (with_reducible repeat (first | refine blk_drewN ?_ _ | refine blk_drew ?_ | refine blk_alloc ?_ _)); refine blk_put (cs := #[.int .i64 t594, .slice none 0 0]) ?_ 1 _ rfl; (with_reducible repeat (first | refine blk_drewN ?_ _ | refine blk_drew ?_ | refine blk_alloc ?_ _)); refine blk_put (cs := #[.int .i64 0, .slice none 0 0]) ?_ 0 _ rfl; exact pkK BK593.out) Try.underlying29 rfl (by kernel_rfl)) rfl ?_
     exact ⟨_, rfe, by (with_reducible repeat (first | apply Kd.R_alloc | apply Kd.R_drewN | apply Kd.R_drew)); exact Kd.R_mono (Kd.R_far (p := ⟨gb593, 1, none⟩) (Kd.R_far (p := ⟨gb593, 0, none⟩) (Kd.R_types HO_599001.out BK593.out (by decide)) (fun _ hk => hk.2) (.int .i64 t594)) (fun _ hk => hk.2) (.slice Ao15 t595.length co15)) (fun _ hk => trivial), pkW HB.out⟩
    ·rw [if_neg c44] at H
     have c44b0 : ((l0_1.length : Int) == 40) = false := beq_eq_false_iff_ne.mpr c44
     have c44b1 : ((l0_1.length : Int) != 40) = true := bne_iff_ne.mpr c44
     replace H := Option.bind_eq_some_iff.mp H
     obtain ⟨t601, A510, H⟩ := H
     replace H : (if t601 < 0 then ((impl_Timer_49.f t595 (l0_1.length : Int) (([(⟨wrap64 (a0_0 + a1), a2⟩ : S46)] : List (S46)))).bind fun t605 => (some (t594, t605, 0))) else ((impl_Timer_49.f t595 t601 (([(⟨wrap64 (a0_0 + a1), a2⟩ : S46)] : List (S46)))).bind fun t611 => (some (t594, t611, 0)))) = some (r1, r2, r3) := H
     have A51 := am A510
     clear A510
     by_cases c52 : t601 < 0
     ·rw [if_pos c52] at H
      have c52b0 : decide (t601 < 0) = true := decide_eq_true c52
      clear c52
      obtain ⟨y602, hy602⟩ : ∃ y_ : List (S46), y_ = (([(⟨wrap64 (a0_0 + a1), a2⟩ : S46)] : List (S46))) := ⟨_, rfl⟩
      replace H : ((impl_Timer_49.f t595 (l0_1.length : Int) y602).bind fun t605 => (some (t594, t605, 0))) = some (r1, r2, r3) := by first | (rw [hy602]; with_reducible exact H) | (have H2_ := (Option.bind_some _ _).symm.trans H; rw [hy602]; with_reducible exact H2_) | (have H2_ := (Option.bind_some _ _).symm.trans H; with_reducible exact H2_) | with_reducible exact H | (rw [hy602]; exact H) | exact H
      have Ny602 := am hy602
      clear hy602
      replace H := Option.bind_eq_some_iff.mp H
      obtain ⟨t605, A530, H⟩ := H
      replace H : (some (t594, t605, 0)) = some (r1, r2, r3) := H
      have A53 := am A530
      clear A530
      simp only [Option.some.injEq, Prod.mk.injEq] at H
      obtain ⟨rfl, rfl, rfl⟩ := H
      have hnb54 := NB592_593.out
      have hnc54 := NB593_592.out
      have hnb55 := NB592_598.out
      have hnc55 := NB598_592.out
      obtain ⟨hcz56_0, hcz56_1, hfz56_0, hfz56_1⟩ := bk2 BK592.out
      go_wp2_with (first | ((with_reducible refine gate_dst (N := 9) rfl ?_); refine alloc_store ?hg1 ?hg2 (N := 9) ?hd (c := .int .i64 0) (v := .int .i64 (wrap64 (a0_0 + a1))) (t := 3) ?hr1 ?hr2 ?_; (case hd => rfl); (case hg1 => rfl); (case hg2 => rfl); (case hr1 => first | (go_simp; done) | (go_simp; rfl)); (case hr2 => first | (go_simp; done) | (go_simp; rfl)); intro gbT hg wT hbox hb; have m0_ := am (blk_below (pkK BK592.out) hb); have m1_ := am (blk_below (pkK BK593.out) hb); have m2_ := am (blk_below (pkK BK598.out) hb); have m3_ := am (Kd.R_below (pkR HO_599001.out) hb); have m4_ := am (below_step (pkW HB.out) hb); have BKT := am hbox; clear BK592 BK593 BK598 HO_599001 HB; have BK592 := m0_; have BK593 := m1_; have BK598 := m2_; have HO_599001 := m3_; have HB := m4_; clear m0_ m1_ m2_ m3_ m4_; clear hb hbox hg; have hczT56_0 : wT.cell? ⟨gb592, 0, none⟩ = some (.int .i64 a0_0) := (blk_cell BK592.out 0).trans rfl; have hczT56_1 : wT.cell? ⟨gb592, 1, none⟩ = some (.slice A0_1 l0_1.length c0_1) := (blk_cell BK592.out 1).trans rfl; have hfzT56_0 := blk_frozen BK592.out 0; have hfzT56_1 := blk_frozen BK592.out 1) | ((with_reducible refine gate_callee (f := 47) rfl ?_); refine goesL_ (some 47) rfl rfl Try.func47 (by kernel_rfl) rfl #[.slice A0_1 l0_1.length c0_1, .func (.func 48) #[] #[.pointer (some ⟨gbT, 0, none⟩)]] rfl mpx ?_; (with_reducible refine (slices_IndexFunc_se.calls kj4 _ _ l0_1 (wrap64 (a0_0 + a1)) t601 _ ?side1 ?side2 gbT ?sideT A51.out).mono ?_); (case sideT => exact (blk_cell (pkK BKT.out) 0).trans rfl); (case side1 => exact pkC (Kd.C_below HR0_1.out HB.out)); (case side2 => exact HC0_1.out); rintro e w57 ⟨rfl, hb⟩; refine ⟨_, rfl, ?_⟩; have hcT : w57.cell? ⟨gbT, 0, none⟩ = some (.int .i64 (wrap64 (a0_0 + a1))) := (blk_cell (blk_below (pkK BKT.out) hb) 0).trans rfl; clear BKT; replace HO_599001 := am (Kd.R_below (pkR HO_599001.out) hb); replace BK592 := am (blk_below (pkK BK592.out) hb); replace BK593 := am (blk_below (pkK BK593.out) hb); replace BK598 := am (blk_below (pkK BK598.out) hb); replace HB := am (below_step (pkW HB.out) hb); (try clear hb); obtain ⟨hcz58_0, hcz58_1, hfz58_0, hfz58_1⟩ := bk2 BK592.out; have hnb59 := NB598_593.out; have hnc59 := NB593_598.out; obtain ⟨hcz60_0, hcz60_1, hfz60_0, hfz60_1⟩ := bk2 BK598.out) | ((with_reducible refine gate_dst (N := 59) rfl ?_); refine Kd.R_lit k46 _ 46 ?hg (N := 59) ?hd (xs := ([(⟨wrap64 (a0_0 + a1), a2⟩ : S46)] : List (S46))) (inner := [.int .i64 (wrap64 (a0_0 + a1)), .int .i64 a2]) (ok := fun _ => True) (okp := fun _ => True) ?hr ?hp (fun _ hk => hk) trivial (Below.refl _ _) (Nat.le_refl _) (by simp) ?_; (case hd => rfl); (case hg => rfl); (case hr => first | (go_simp; done) | (go_simp; rfl)); (case hp => exact (Reps.c2 (show Kd.M k46 _ _ _ (⟨wrap64 (a0_0 + a1), a2⟩ : S46) [.int .i64 (wrap64 (a0_0 + a1)), .int .i64 a2] from (k46_mkM _ _ _ (⟨wrap64 (a0_0 + a1), a2⟩ : S46) )) (Reps.none _ _))); intro v603 w61 ho62 hb hg_ hnew_; clear hg_ hnew_; (first | rw [← Ny602.out] at ho62 | (simp only [Int.reduceToNat] at ho62; rw [← Ny602.out] at ho62)); have HO604 := am (Kd.R_lower (Kd.R_new' ho62 (Kd.R_lt (pkR HO_599001.out))) (below_size (pkW HB.out))); replace HO_599001 := am (Kd.R_elder' (pkR HO_599001.out) (Kd.R_base ho62) hb); replace BK592 := am (blk_below (pkK BK592.out) hb); replace BK593 := am (blk_below (pkK BK593.out) hb); replace BK598 := am (blk_below (pkK BK598.out) hb); replace HB := am (below_step (pkW HB.out) hb); clear hb ho62; obtain ⟨Ao63, co63, eo63⟩ := Kd.R_slice HO604.out; subst eo63) | ((with_reducible refine gate_callee (f := 49) rfl ?_); refine goesL_ (some 60) rfl rfl Try.func49 (by kernel_rfl) rfl #[.slice Ao15 t595.length co15, .int .i64 (l0_1.length : Int), .slice Ao63 y602.length co63] rfl mpx ?_; (with_reducible refine (impl_Timer_49.calls (fun k_ => some k_ = (.slice Ao15 t595.length co15 : Value).ownBlock) (.slice Ao15 t595.length co15) t595 (l0_1.length : Int) _ _ y602 t605 w _ ?side1 ?side2 ?side3 A53.out).mono ?_); (case side1 => repeat (first | (with_reducible first | exact HB.out | apply below_alloc | apply pw_below_drewN | apply below_drew1 | refine below_set ?_ GE592.out | refine below_set ?_ GE593.out | refine below_set ?_ GE598.out) | exact HB.out)); (case side2 => exact Kd.R_tight rfl HO_599001.out); (case side3 => exact Kd.R_mono (pkR HO604.out) (fun k_ hk_ hs_ => (hk_.2) hs_)); rintro e w64 ⟨v606, rfl, ho0, hb, hkp⟩; refine ⟨_, rfl, ?_⟩; replace BK592 := am (blk_kept (pkK BK592.out) hkp (fun hs_ => (fun e_ => (Kd.R_ne HO_599001.out BK592.out (by decide)) e_) hs_)); replace BK593 := am (blk_kept (pkK BK593.out) hkp (fun hs_ => (fun e_ => (Kd.R_ne HO_599001.out BK593.out (by decide)) e_) hs_)); replace BK598 := am (blk_kept (pkK BK598.out) hkp (fun hs_ => (fun e_ => (Kd.R_ne HO_599001.out BK598.out (by decide)) e_) hs_)); have HO607 := am (Kd.R_mono (ok' := fun k_ => some k_ ≠ (.slice Ao63 y602.length co63 : Value).ownBlock) ho0 (fun k_ hk_ => Or.elim hk_ (fun hs_ => fun e_ => (((HO604.out).1 k_ e_.symm).2) hs_) (fun hn_ => (Kd.fresh' (Kd.R_lt (pkR HO604.out)) k_ hn_)))); replace HO604 := am (Kd.R_mono (ok' := fun k_ => some k_ ≠ (v606 : Value).ownBlock) (Kd.R_keptB (HO604.out) hkp (fun k_ hk_ hs_ => (hk_.2) hs_)) (fun k_ hk_ => fun e_ => Or.elim (ho0.1 k_ e_.symm) (fun hs_ => hk_.2.1 hs_) (fun hn_ => Nat.not_le.2 hk_.2.2 hn_))); replace HB := am (hb); clear HO_599001; (try clear hb); (try clear hkp); (try clear ho0); obtain ⟨Ao65, co65, eo65⟩ := Kd.R_slice HO607.out; subst eo65; obtain ⟨hcz66_0, hcz66_1, hfz66_0, hfz66_1⟩ := bk2 BK598.out; obtain ⟨hcz67_0, hcz67_1, hfz67_0, hfz67_1⟩ := bk2 BK593.out))
      refine bodyPost_ret (results_ct rfl _ _ gb593 29 #[.int .i64 t594, .slice Ao65 t605.length co65] (0, 0) _ rfl (by (with_reducible repeat (first | refine blk_drewN ?_ _ | refine blk_drew ?_ | refine blk_alloc ?_ _)); refine blk_put (cs := #[.int .i64 t594, .slice none 0 0]) ?_ 1 _ rfl; (with_reducible repeat (first | refine blk_drewN ?_ _ | refine blk_drew ?_ | refine blk_alloc ?_ _)); refine blk_put (cs := #[.int .i64 0, .slice none 0 0]) ?_ 0 _ rfl; (with_reducible repeat (first | refine blk_drewN ?_ _ | refine blk_drew ?_ | refine blk_alloc ?_ _)); refine blk_far ?_ NB593_598.out _; exact pkK BK593.out) Try.underlying29 rfl (by kernel_rfl)) rfl ?_
      exact ⟨_, rfe, by (with_reducible repeat (first | apply Kd.R_alloc | apply Kd.R_drewN | apply Kd.R_drew)); exact Kd.R_mono (Kd.R_far (p := ⟨gb593, 1, none⟩) (Kd.R_far (p := ⟨gb593, 0, none⟩) (Kd.R_far (p := ⟨gb598, 1, none⟩) (Kd.R_types (Kd.R_types HO607.out BK598.out (by decide)) BK593.out (by decide)) (fun _ hk => hk.1.2) (.slice Ao65 t605.length co65)) (fun _ hk => hk.2) (.int .i64 t594)) (fun _ hk => hk.2) (.slice Ao65 t605.length co65)) (fun _ hk => trivial), pkW HB.out⟩
     ·rw [if_neg c52] at H
      have c52b0 : decide (t601 < 0) = false := decide_eq_false c52
      clear c52
      obtain ⟨y608, hy608⟩ : ∃ y_ : List (S46), y_ = (([(⟨wrap64 (a0_0 + a1), a2⟩ : S46)] : List (S46))) := ⟨_, rfl⟩
      replace H : ((impl_Timer_49.f t595 t601 y608).bind fun t611 => (some (t594, t611, 0))) = some (r1, r2, r3) := by first | (rw [hy608]; with_reducible exact H) | (have H2_ := (Option.bind_some _ _).symm.trans H; rw [hy608]; with_reducible exact H2_) | (have H2_ := (Option.bind_some _ _).symm.trans H; with_reducible exact H2_) | with_reducible exact H | (rw [hy608]; exact H) | exact H
      have Ny608 := am hy608
      clear hy608
      replace H := Option.bind_eq_some_iff.mp H
      obtain ⟨t611, A680, H⟩ := H
      replace H : (some (t594, t611, 0)) = some (r1, r2, r3) := H
      have A68 := am A680
      clear A680
      simp only [Option.some.injEq, Prod.mk.injEq] at H
      obtain ⟨rfl, rfl, rfl⟩ := H
      have hnb69 := NB592_593.out
      have hnc69 := NB593_592.out
      have hnb70 := NB592_598.out
      have hnc70 := NB598_592.out
      obtain ⟨hcz71_0, hcz71_1, hfz71_0, hfz71_1⟩ := bk2 BK592.out
      go_wp2_with (first | ((with_reducible refine gate_dst (N := 9) rfl ?_); refine alloc_store ?hg1 ?hg2 (N := 9) ?hd (c := .int .i64 0) (v := .int .i64 (wrap64 (a0_0 + a1))) (t := 3) ?hr1 ?hr2 ?_; (case hd => rfl); (case hg1 => rfl); (case hg2 => rfl); (case hr1 => first | (go_simp; done) | (go_simp; rfl)); (case hr2 => first | (go_simp; done) | (go_simp; rfl)); intro gbT hg wT hbox hb; have m0_ := am (blk_below (pkK BK592.out) hb); have m1_ := am (blk_below (pkK BK593.out) hb); have m2_ := am (blk_below (pkK BK598.out) hb); have m3_ := am (Kd.R_below (pkR HO_599001.out) hb); have m4_ := am (below_step (pkW HB.out) hb); have BKT := am hbox; clear BK592 BK593 BK598 HO_599001 HB; have BK592 := m0_; have BK593 := m1_; have BK598 := m2_; have HO_599001 := m3_; have HB := m4_; clear m0_ m1_ m2_ m3_ m4_; clear hb hbox hg; have hczT71_0 : wT.cell? ⟨gb592, 0, none⟩ = some (.int .i64 a0_0) := (blk_cell BK592.out 0).trans rfl; have hczT71_1 : wT.cell? ⟨gb592, 1, none⟩ = some (.slice A0_1 l0_1.length c0_1) := (blk_cell BK592.out 1).trans rfl; have hfzT71_0 := blk_frozen BK592.out 0; have hfzT71_1 := blk_frozen BK592.out 1) | ((with_reducible refine gate_callee (f := 47) rfl ?_); refine goesL_ (some 47) rfl rfl Try.func47 (by kernel_rfl) rfl #[.slice A0_1 l0_1.length c0_1, .func (.func 48) #[] #[.pointer (some ⟨gbT, 0, none⟩)]] rfl mpx ?_; (with_reducible refine (slices_IndexFunc_se.calls kj4 _ _ l0_1 (wrap64 (a0_0 + a1)) t601 _ ?side1 ?side2 gbT ?sideT A51.out).mono ?_); (case sideT => exact (blk_cell (pkK BKT.out) 0).trans rfl); (case side1 => exact pkC (Kd.C_below HR0_1.out HB.out)); (case side2 => exact HC0_1.out); rintro e w72 ⟨rfl, hb⟩; refine ⟨_, rfl, ?_⟩; have hcT : w72.cell? ⟨gbT, 0, none⟩ = some (.int .i64 (wrap64 (a0_0 + a1))) := (blk_cell (blk_below (pkK BKT.out) hb) 0).trans rfl; clear BKT; replace HO_599001 := am (Kd.R_below (pkR HO_599001.out) hb); replace BK592 := am (blk_below (pkK BK592.out) hb); replace BK593 := am (blk_below (pkK BK593.out) hb); replace BK598 := am (blk_below (pkK BK598.out) hb); replace HB := am (below_step (pkW HB.out) hb); (try clear hb); have hnb73 := NB598_593.out; have hnc73 := NB593_598.out; obtain ⟨hcz74_0, hcz74_1, hfz74_0, hfz74_1⟩ := bk2 BK598.out) | ((with_reducible refine gate_dst (N := 59) rfl ?_); refine Kd.R_lit k46 _ 46 ?hg (N := 59) ?hd (xs := ([(⟨wrap64 (a0_0 + a1), a2⟩ : S46)] : List (S46))) (inner := [.int .i64 (wrap64 (a0_0 + a1)), .int .i64 a2]) (ok := fun _ => True) (okp := fun _ => True) ?hr ?hp (fun _ hk => hk) trivial (Below.refl _ _) (Nat.le_refl _) (by simp) ?_; (case hd => rfl); (case hg => rfl); (case hr => first | (go_simp; done) | (go_simp; rfl)); (case hp => exact (Reps.c2 (show Kd.M k46 _ _ _ (⟨wrap64 (a0_0 + a1), a2⟩ : S46) [.int .i64 (wrap64 (a0_0 + a1)), .int .i64 a2] from (k46_mkM _ _ _ (⟨wrap64 (a0_0 + a1), a2⟩ : S46) )) (Reps.none _ _))); intro v609 w75 ho76 hb hg_ hnew_; clear hg_ hnew_; (first | rw [← Ny608.out] at ho76 | (simp only [Int.reduceToNat] at ho76; rw [← Ny608.out] at ho76)); have HO610 := am (Kd.R_lower (Kd.R_new' ho76 (Kd.R_lt (pkR HO_599001.out))) (below_size (pkW HB.out))); replace HO_599001 := am (Kd.R_elder' (pkR HO_599001.out) (Kd.R_base ho76) hb); replace BK592 := am (blk_below (pkK BK592.out) hb); replace BK593 := am (blk_below (pkK BK593.out) hb); replace BK598 := am (blk_below (pkK BK598.out) hb); replace HB := am (below_step (pkW HB.out) hb); clear hb ho76; obtain ⟨Ao77, co77, eo77⟩ := Kd.R_slice HO610.out; subst eo77) | ((with_reducible refine gate_callee (f := 49) rfl ?_); refine goesL_ (some 60) rfl rfl Try.func49 (by kernel_rfl) rfl #[.slice Ao15 t595.length co15, .int .i64 t601, .slice Ao77 y608.length co77] rfl mpx ?_; (with_reducible refine (impl_Timer_49.calls (fun k_ => some k_ = (.slice Ao15 t595.length co15 : Value).ownBlock) (.slice Ao15 t595.length co15) t595 t601 _ _ y608 t611 w _ ?side1 ?side2 ?side3 A68.out).mono ?_); (case side1 => repeat (first | (with_reducible first | exact HB.out | apply below_alloc | apply pw_below_drewN | apply below_drew1 | refine below_set ?_ GE592.out | refine below_set ?_ GE593.out | refine below_set ?_ GE598.out) | exact HB.out)); (case side2 => exact Kd.R_tight rfl HO_599001.out); (case side3 => exact Kd.R_mono (pkR HO610.out) (fun k_ hk_ hs_ => (hk_.2) hs_)); rintro e w78 ⟨v612, rfl, ho0, hb, hkp⟩; refine ⟨_, rfl, ?_⟩; replace BK592 := am (blk_kept (pkK BK592.out) hkp (fun hs_ => (fun e_ => (Kd.R_ne HO_599001.out BK592.out (by decide)) e_) hs_)); replace BK593 := am (blk_kept (pkK BK593.out) hkp (fun hs_ => (fun e_ => (Kd.R_ne HO_599001.out BK593.out (by decide)) e_) hs_)); replace BK598 := am (blk_kept (pkK BK598.out) hkp (fun hs_ => (fun e_ => (Kd.R_ne HO_599001.out BK598.out (by decide)) e_) hs_)); have HO613 := am (Kd.R_mono (ok' := fun k_ => some k_ ≠ (.slice Ao77 y608.length co77 : Value).ownBlock) ho0 (fun k_ hk_ => Or.elim hk_ (fun hs_ => fun e_ => (((HO610.out).1 k_ e_.symm).2) hs_) (fun hn_ => (Kd.fresh' (Kd.R_lt (pkR HO610.out)) k_ hn_)))); replace HO610 := am (Kd.R_mono (ok' := fun k_ => some k_ ≠ (v612 : Value).ownBlock) (Kd.R_keptB (HO610.out) hkp (fun k_ hk_ hs_ => (hk_.2) hs_)) (fun k_ hk_ => fun e_ => Or.elim (ho0.1 k_ e_.symm) (fun hs_ => hk_.2.1 hs_) (fun hn_ => Nat.not_le.2 hk_.2.2 hn_))); replace HB := am (hb); clear HO_599001; (try clear hb); (try clear hkp); (try clear ho0); obtain ⟨Ao79, co79, eo79⟩ := Kd.R_slice HO613.out; subst eo79; obtain ⟨hcz80_0, hcz80_1, hfz80_0, hfz80_1⟩ := bk2 BK598.out; obtain ⟨hcz81_0, hcz81_1, hfz81_0, hfz81_1⟩ := bk2 BK593.out))
      refine bodyPost_ret (results_ct rfl _ _ gb593 29 #[.int .i64 t594, .slice Ao79 t611.length co79] (0, 0) _ rfl (by (with_reducible repeat (first | refine blk_drewN ?_ _ | refine blk_drew ?_ | refine blk_alloc ?_ _)); refine blk_put (cs := #[.int .i64 t594, .slice none 0 0]) ?_ 1 _ rfl; (with_reducible repeat (first | refine blk_drewN ?_ _ | refine blk_drew ?_ | refine blk_alloc ?_ _)); refine blk_put (cs := #[.int .i64 0, .slice none 0 0]) ?_ 0 _ rfl; (with_reducible repeat (first | refine blk_drewN ?_ _ | refine blk_drew ?_ | refine blk_alloc ?_ _)); refine blk_far ?_ NB593_598.out _; exact pkK BK593.out) Try.underlying29 rfl (by kernel_rfl)) rfl ?_
      exact ⟨_, rfe, by (with_reducible repeat (first | apply Kd.R_alloc | apply Kd.R_drewN | apply Kd.R_drew)); exact Kd.R_mono (Kd.R_far (p := ⟨gb593, 1, none⟩) (Kd.R_far (p := ⟨gb593, 0, none⟩) (Kd.R_far (p := ⟨gb598, 1, none⟩) (Kd.R_types (Kd.R_types HO613.out BK598.out (by decide)) BK593.out (by decide)) (fun _ hk => hk.1.2) (.slice Ao79 t611.length co79)) (fun _ hk => hk.2) (.int .i64 t594)) (fun _ hk => hk.2) (.slice Ao79 t611.length co79)) (fun _ hk => trivial), pkW HB.out⟩
end Go.Proofs.Ytfgjfheiekhmlaa.Z
