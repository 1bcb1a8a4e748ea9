/- The Go functions impl_grantAt_1, slices_IndexFunc_ga, impl_grantAt as Lean functions, each with a proof that its code comes to just these answers; conditions: those of each theorem. -/
import Derived.Test.YtdagpmnadapbjaaZx0
namespace Go.Proofs.Ytdagpmnadapbjaa.Z
open Go.RowKit Go.Proofs.YtdagpmnadapbjaaW.PrintWords Go.Proofs.YtdagpmnadapbjaaW.PrintLast Go.Proofs.YtdagpmnadapbjaaW.PrintMore
attribute [local go_sem] max2_int min2_int max_two min_two max_three min_three max_four min_four   -- for this text's walks alone
set_option linter.unusedVariables false
set_option linter.unusedSimpArgs false
def impl_grantAt_1.f (a0_0 : Int) (a0_1 : Bool) (a1 : Int) : Option (Bool) := some (decide (a0_0 = a1))
set_option maxHeartbeats 8000000 in
set_option maxRecDepth 100000 in
theorem impl_grantAt_1.calls (a0_0 : Int) (a0_1 : Bool) (a1 : Int) (r : Bool) (B : Nat) (w : World) (hBc : w.cell? ⟨B, 0, none⟩ = some (.int .i64 a1)) (h : impl_grantAt_1.f a0_0 a0_1 a1 = some r) :
  Calls Try.prog 94 #[.agg #[.int .i64 a0_0, .bool a0_1], .pointer (some ⟨B, 0, none⟩)] w fun e w' => e = .returned (.bool r) ∧ Below w.heap.size w w' := by
 have hu67 := Try.underlying67
 obtain rfl := Option.some.inj h
 clear h
 have HB := am (Below.refl w.heap.size w)
 have hc1 := fun (o : Obj) => Lib.cell?_alloc_some o hBc
 by_cases hq : a0_0 = a1
 ·have hq0 : (a0_0 == a1) = true := by simpa using hq
  rw [decide_eq_true hq]
  clear hq
  go_enter Try.func94, Try.ntmps94
  go_wp2
  go_ret
  exact ⟨rfl, pkB HB.out⟩
 ·have hq0 : (a0_0 == a1) = false := by simpa using hq
  rw [decide_eq_false hq]
  clear hq
  go_enter Try.func94, Try.ntmps94
  go_wp2
  go_ret
  exact ⟨rfl, pkB HB.out⟩
def slices_IndexFunc_ga.l0 : Nat → List (S67) → Int → Int → Int → Option (Int)
 | 0, _, _, _, _ => none
 | k + 1, x0, x1, x7, x8 => if x8 < x7 then (if 0 ≤ x8 then (if x8 < (x0.length : Int) then ((impl_grantAt_1.f ((rd_T67 x0 x8).f0) ((rd_T67 x0 x8).f1) x1).bind fun t1363 => (if t1363 = true then (some x8) else (slices_IndexFunc_ga.l0 k x0 x1 x7 (wrap64 (x8 + 1))))) else (none)) else (none)) else (some (-1))
def slices_IndexFunc_ga.f (k : Nat) (l0 : List (S67)) (a1 : Int) : Option (Int) := slices_IndexFunc_ga.l0 k l0 a1 (l0.length : Int) 0
theorem slices_IndexFunc_ga.mono_l : ∀ k, (∀ y0 y1 y2 y3, LeO (slices_IndexFunc_ga.l0 k y0 y1 y2 y3) (slices_IndexFunc_ga.l0 (k + 1) y0 y1 y2 y3))
 | 0 => fun _ _ _ _ r h => by simp [slices_IndexFunc_ga.l0] at h
 | k + 1 => by
  have ih0 := slices_IndexFunc_ga.mono_l k
  ·intro y0 y1 y2 y3
   unfold slices_IndexFunc_ga.l0
   repeat' first
   | (with_reducible exact ih0 _ _ _ _)
   | (with_reducible exact LeO.refl _)
   | (with_reducible exact LeO.none _)
   | (with_reducible refine LeO.ite ?_ ?_)
   | (with_reducible refine LeO.bind ?_ (fun _ => ?_))
theorem slices_IndexFunc_ga.mono : ∀ a0 a1 k, LeO (slices_IndexFunc_ga.f k a0 a1) (slices_IndexFunc_ga.f (k + 1) a0 a1) := by
 intro a0 a1 k
 have ih0 := slices_IndexFunc_ga.mono_l k
 unfold slices_IndexFunc_ga.f
 repeat' first
   | (with_reducible exact ih0 _ _ _ _)
   | (with_reducible exact LeO.refl _)
   | (with_reducible exact LeO.none _)
   | (with_reducible refine LeO.ite ?_ ?_)
   | (with_reducible refine LeO.bind ?_ (fun _ => ?_))
set_option maxHeartbeats 8000000 in
set_option maxRecDepth 100000 in
theorem slices_IndexFunc_ga.calls (k : Nat) (A0 : Option Addr) (c0 : Nat) (l0 : List (S67)) (a1 : Int) (r : Int) (w : World) (hr0 : Kd.C k67 w A0 l0.length l0) (hc0 : l0.length ≤ c0) (B : Nat) (hBc : w.cell? ⟨B, 0, none⟩ = some (.int .i64 a1)) (h : slices_IndexFunc_ga.f k l0 a1 = some r) :
  Calls Try.prog 93 #[.slice A0 l0.length c0, .func (.func 94) #[] #[.pointer (some ⟨B, 0, none⟩)]] w fun e w' => e = .returned (.int .i64 r) ∧ Below w.heap.size w w' := by
 have hu67 := Try.underlying67
 have HBc := am hBc
 clear hBc
 have HR0 := am hr0
 have HC0 := am hc0
 clear hr0 hc0
 have HB := am (Below.refl w.heap.size w)
 have H : (slices_IndexFunc_ga.l0 k l0 a1 (l0.length : Int) 0) = some r := h
 clear h
 have H' := am H
 clear H
 go_enter Try.func93, Try.ntmps93
 go_wp2
 go_loopg [8] k (fun kq v8 w' => ∃ (x8_1 : Int), v8 = .int .i64 x8_1 ∧ Aside0 (slices_IndexFunc_ga.l0 kq l0 a1 (l0.length : Int) x8_1 = some r) ∧ Aside0 (kq ≤ k) ∧ Aside0 (Below w.heap.size w w'))
 case atStart => exact ⟨(0), rfx, H', ⟨Nat.le_refl _⟩, ⟨pkB HB.out⟩⟩
 case round =>
  clear H'
  try clear p2
  obtain ⟨x8_1, rfl, HA, HK1, HB⟩ := hrel
  cases gk with
  | zero => exact absurd HA.out (by simp [slices_IndexFunc_ga.l0])
  | succ k1 =>
   have H := HA.out
   clear HA
   simp only [slices_IndexFunc_ga.l0] at H
   by_cases c3 : x8_1 < (l0.length : Int)
   ·rw [if_pos c3] at H
    have c3b0 : decide (x8_1 < (l0.length : Int)) = true := decide_eq_true c3
    clear c3
    by_cases c4 : 0 ≤ x8_1
    ·rw [if_pos c4] at H
     have c4b0 : decide (0 ≤ x8_1) = true := decide_eq_true c4
     clear c4
     by_cases c5 : x8_1 < (l0.length : Int)
     ·rw [if_pos c5] at H
      have c5b0 : decide (x8_1 < (l0.length : Int)) = true := decide_eq_true c5
      clear c5
      replace H := Option.bind_eq_some_iff.mp H
      obtain ⟨t1363, A60, H⟩ := H
      replace H : (if t1363 = true then (some x8_1) else (slices_IndexFunc_ga.l0 k1 l0 a1 (l0.length : Int) (wrap64 (x8_1 + 1)))) = some r := H
      have A6 := am A60
      clear A60
      by_cases c7 : t1363 = true
      ·subst c7
       replace H : (some x8_1) = some r := by rw [if_pos rfl] at H; exact H
       obtain rfl := Option.some.inj H
       have p1362 : 0 ≤ (x8_1 : Int) := ofd
       have q1362 : x8_1 < (l0.length : Int) := ofd
       obtain ⟨ad1362, e1362, hx1362_0, hx1362_1⟩ := at_T67 HR0.out x8_1 p1362 q1362
       cases e1362
       replace hx1362_0 := (HB.out.cell (World.block_lt_of_cell? w _ hx1362_0)).trans hx1362_0
       replace hx1362_1 := (HB.out.cell (World.block_lt_of_cell? w _ hx1362_1)).trans hx1362_1
       replace p1362 := eq_true p1362
       replace q1362 := eq_true q1362
       go_wp2_with (first | (go_at_call 94; (with_reducible refine (impl_grantAt_1.calls ((rd_T67 l0 x8_1).f0) ((rd_T67 l0 x8_1).f1) a1 true B _ (by first | exact HBc.out | exact cell_dr HBc.out | exact pw_cell_below (pkB HB.out) HBc.out) A6.out).mono ?_); rintro e w8 ⟨rfl, hb⟩; replace HB := am (below_step (pkB HB.out) hb); (try clear hb)))
       go_ret
       exact ⟨rfe, pkB HB.out⟩
      ·replace c7 := Bool.eq_false_iff.mpr c7
       subst c7
       replace H : (slices_IndexFunc_ga.l0 k1 l0 a1 (l0.length : Int) (wrap64 (x8_1 + 1))) = some r := by rw [if_neg (show ¬ (false = true) by decide)] at H; exact H
       have H' := am H
       clear H
       have p1362 : 0 ≤ (x8_1 : Int) := ofd
       have q1362 : x8_1 < (l0.length : Int) := ofd
       obtain ⟨ad1362, e1362, hx1362_0, hx1362_1⟩ := at_T67 HR0.out x8_1 p1362 q1362
       cases e1362
       replace hx1362_0 := (HB.out.cell (World.block_lt_of_cell? w _ hx1362_0)).trans hx1362_0
       replace hx1362_1 := (HB.out.cell (World.block_lt_of_cell? w _ hx1362_1)).trans hx1362_1
       replace p1362 := eq_true p1362
       replace q1362 := eq_true q1362
       go_wp2_with (first | (go_at_call 94; (with_reducible refine (impl_grantAt_1.calls ((rd_T67 l0 x8_1).f0) ((rd_T67 l0 x8_1).f1) a1 false B _ (by first | exact HBc.out | exact cell_dr HBc.out | exact pw_cell_below (pkB HB.out) HBc.out) A6.out).mono ?_); rintro e w9 ⟨rfl, hb⟩; replace HB := am (below_step (pkB HB.out) hb); (try clear hb)))
       go_roundg k1
       case measure => have := HK1.out; omega
       case rel => exact ⟨(wrap64 (x8_1 + 1)), rfx, H', ⟨by have := HK1.out; omega⟩, ⟨pkB HB.out⟩⟩
     ·rw [if_neg c5] at H
      exact absurd H (by simp)
    ·rw [if_neg c4] at H
     exact absurd H (by simp)
   ·rw [if_neg c3] at H
    have c3b0 : decide (x8_1 < (l0.length : Int)) = false := decide_eq_false c3
    clear c3
    obtain rfl := Option.some.inj H
    go_wp2
    go_ret
    exact ⟨rfe, pkB HB.out⟩
def impl_grantAt.f (k : Nat) (l0 : List (S67)) (a1 : Int) : Option (Int) := slices_IndexFunc_ga.f k l0 a1
theorem impl_grantAt.mono : ∀ a0 a1 k, LeO (impl_grantAt.f k a0 a1) (impl_grantAt.f (k + 1) a0 a1) := by
 intro a0 a1 k
 unfold impl_grantAt.f
 repeat' first
   | (with_reducible exact slices_IndexFunc_ga.mono _ _ _)
   | (with_reducible exact LeO.refl _)
   | (with_reducible exact LeO.none _)
   | (with_reducible refine LeO.ite ?_ ?_)
   | (with_reducible refine LeO.bind ?_ (fun _ => ?_))
set_option maxHeartbeats 8000000 in
set_option maxRecDepth 100000 in
theorem impl_grantAt.calls (k : Nat) (A0 : Option Addr) (c0 : Nat) (l0 : List (S67)) (a1 : Int) (r : Int) (w : World) (hr0 : Kd.C k67 w A0 l0.length l0) (hc0 : l0.length ≤ c0) (h : impl_grantAt.f k l0 a1 = some r) :
  Calls Try.prog 78 #[.slice A0 l0.length c0, .int .i64 a1] w fun e w' => e = .returned (.int .i64 r) ∧ Below w.heap.size w w' := by
 have HR0 := am hr0
 have HC0 := am hc0
 have A1 := am (show slices_IndexFunc_ga.f k l0 a1 = some r from h)
 clear h hr0 hc0
 have HB := am (Below.refl w.heap.size w)
 go_enter Try.func78, Try.ntmps78
 go_wp2_with (first | (go_at_call 93; (with_reducible refine (slices_IndexFunc_ga.calls k _ _ l0 a1 r _ ?side1 ?side2 w.heap.size ?side3 A1.out).mono ?_); (case side1 => exact pkC HR0.out); (case side2 => exact HC0.out); (case side3 => simp); rintro e w1 ⟨rfl, hb⟩; have n1_ := am (below_step (pkB HB.out) hb); clear HB; have HB := n1_; clear n1_ hb))
 go_ret
 exact ⟨rfl, pkB HB.out⟩
end Go.Proofs.Ytdagpmnadapbjaa.Z
