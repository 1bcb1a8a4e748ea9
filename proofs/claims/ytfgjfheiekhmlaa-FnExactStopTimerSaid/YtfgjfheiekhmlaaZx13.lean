/- The Go functions laws_heldTimerS, laws_heldClock as Lean functions, each with a proof that its code comes to just these answers; conditions: those of each theorem. -/
import Derived.Test.YtfgjfheiekhmlaaZx0
namespace Go.Proofs.Ytfgjfheiekhmlaa.Z
open Go.RowKit Go.Proofs.YtfgjfheiekhmlaaW.PrintWords Go.Proofs.YtfgjfheiekhmlaaW.PrintLast Go.Proofs.YtfgjfheiekhmlaaW.PrintMore
attribute [local go_sem] max2_int min2_int max_two min_two max_three min_three max_four min_four   -- for this text's walks alone
set_option linter.unusedVariables false
set_option linter.unusedSimpArgs false
def laws_heldTimerS.l0 : Nat → List (S46) → Int → Int → Option (Int)
 | 0, _, _, _ => none
 | k + 1, x0, x1, x5 => if x5 < (x0.length : Int) then (if 0 ≤ x5 then (if ((rd_T46 x0 x5).f0) = x1 then (if ((rd_T46 x0 x5).f1) = (wrap64 (x1 + 1)) then (laws_heldTimerS.l0 k x0 (wrap64 ((wrap64 (x1 + 1)) + 1)) (wrap64 (x5 + 1))) else (some (-1))) else (some (-1))) else (none)) else (some x1)
def laws_heldTimerS.f (k : Nat) (l0 : List (S46)) (a1 : Int) : Option (Int) := laws_heldTimerS.l0 k l0 a1 0
theorem laws_heldTimerS.mono_l : ∀ k, (∀ y0 y1 y2, LeO (laws_heldTimerS.l0 k y0 y1 y2) (laws_heldTimerS.l0 (k + 1) y0 y1 y2))
 | 0 => fun _ _ _ r h => by simp [laws_heldTimerS.l0] at h
 | k + 1 => by
  have ih0 := laws_heldTimerS.mono_l k
  ·intro y0 y1 y2
   unfold laws_heldTimerS.l0
   repeat' first
   | (with_reducible exact ih0 _ _ _)
   | (with_reducible exact LeO.refl _)
   | (with_reducible exact LeO.none _)
   | (with_reducible refine LeO.ite ?_ ?_)
   | (with_reducible refine LeO.bind ?_ (fun _ => ?_))
theorem laws_heldTimerS.mono : ∀ a0 a1 k, LeO (laws_heldTimerS.f k a0 a1) (laws_heldTimerS.f (k + 1) a0 a1) := by
 intro a0 a1 k
 have ih0 := laws_heldTimerS.mono_l k
 unfold laws_heldTimerS.f
 repeat' first
   | (with_reducible exact ih0 _ _ _)
   | (with_reducible exact LeO.refl _)
   | (with_reducible exact LeO.none _)
   | (with_reducible refine LeO.ite ?_ ?_)
   | (with_reducible refine LeO.bind ?_ (fun _ => ?_))
set_option maxHeartbeats 8000000 in
set_option maxRecDepth 100000 in
theorem laws_heldTimerS.calls (k : Nat) (A0 : Option Addr) (c0 : Nat) (l0 : List (S46)) (a1 : Int) (r : Int) (w : World) (hr0 : Kd.C k46 w A0 l0.length l0) (hc0 : l0.length ≤ c0) (h : laws_heldTimerS.f k l0 a1 = some r) :
  Calls Try.prog 42 #[.slice A0 l0.length c0, .int .i64 a1] w fun e w' => e = .returned (.int .i64 r) ∧ Drawn0 w w' := by
 have HR0 := am hr0
 have HC0 := am hc0
 clear hr0 hc0
 have H : (laws_heldTimerS.l0 k l0 a1 0) = some r := h
 clear h
 have H' := am H
 clear H
 go_enter Try.func42, Try.ntmps42
 go_wp2
 go_loopg [1, 5] k (fun kq v1 v5 w' => ∃ (x1_1 : Int) (x5_1 : Int), v1 = .int .i64 x1_1 ∧ v5 = .int .i64 x5_1 ∧ Aside0 (laws_heldTimerS.l0 kq l0 x1_1 x5_1 = some r) ∧ Aside0 (kq ≤ k) ∧ Drawn0 w w')
 case atStart => exact ⟨(a1), (0), rfx, rfx, H', ⟨Nat.le_refl _⟩, by repeat (first | exact Drawn0.refl _ | apply Drawn0.step)⟩
 case round =>
  clear H'
  try clear p2
  obtain ⟨x1_1, x5_1, rfl, rfl, HA, HK1, ⟨m1, rfl⟩⟩ := hrel
  cases gk with
  | zero => exact absurd HA.out (by simp [laws_heldTimerS.l0])
  | succ k1 =>
   have H := HA.out
   clear HA
   simp only [laws_heldTimerS.l0] at H
   by_cases c3 : x5_1 < (l0.length : Int)
   ·rw [if_pos c3] at H
    have c3b0 : decide (x5_1 < (l0.length : Int)) = true := decide_eq_true c3
    clear c3
    by_cases c4 : 0 ≤ x5_1
    ·rw [if_pos c4] at H
     have c4b0 : decide (0 ≤ x5_1) = true := decide_eq_true c4
     clear c4
     by_cases c5 : ((rd_T46 l0 x5_1).f0) = x1_1
     ·rw [if_pos c5] at H
      have c5b0 : (((rd_T46 l0 x5_1).f0) == x1_1) = true := beq_iff_eq.mpr c5
      have c5b1 : (((rd_T46 l0 x5_1).f0) != x1_1) = false := bne_eq_false_iff_eq.mpr c5
      clear c5
      by_cases c6 : ((rd_T46 l0 x5_1).f1) = (wrap64 (x1_1 + 1))
      ·rw [if_pos c6] at H
       have c6b0 : (((rd_T46 l0 x5_1).f1) == (wrap64 (x1_1 + 1))) = true := beq_iff_eq.mpr c6
       have c6b1 : (((rd_T46 l0 x5_1).f1) != (wrap64 (x1_1 + 1))) = false := bne_eq_false_iff_eq.mpr c6
       clear c6
       have H' := am H
       clear H
       have p220 : 0 ≤ (x5_1 : Int) := ofd
       have q220 : x5_1 < (l0.length : Int) := ofd
       obtain ⟨ad220, e220, hx220_0, hx220_1⟩ := at_T46 HR0.out x5_1 p220 q220
       cases e220
       replace p220 := eq_true p220
       replace q220 := eq_true q220
       have p221 : 0 ≤ (x5_1 : Int) := ofd
       have q221 : x5_1 < (l0.length : Int) := ofd
       obtain ⟨ad221, e221, hx221_0, hx221_1⟩ := at_T46 HR0.out x5_1 p221 q221
       obtain rfl : ad220 = ad221 := (by injection e221)
       replace p221 := eq_true p221
       replace q221 := eq_true q221
       go_wp2
       go_roundg k1
       case measure => have := HK1.out; omega
       case rel => exact ⟨(wrap64 ((wrap64 (x1_1 + 1)) + 1)), (wrap64 (x5_1 + 1)), rfx, rfx, H', ⟨by have := HK1.out; omega⟩, by repeat (first | exact Drawn0.refl _ | apply Drawn0.step)⟩
      ·rw [if_neg c6] at H
       have c6b0 : (((rd_T46 l0 x5_1).f1) == (wrap64 (x1_1 + 1))) = false := beq_eq_false_iff_ne.mpr c6
       have c6b1 : (((rd_T46 l0 x5_1).f1) != (wrap64 (x1_1 + 1))) = true := bne_iff_ne.mpr c6
       obtain rfl := Option.some.inj H
       have p220 : 0 ≤ (x5_1 : Int) := ofd
       have q220 : x5_1 < (l0.length : Int) := ofd
       obtain ⟨ad220, e220, hx220_0, hx220_1⟩ := at_T46 HR0.out x5_1 p220 q220
       cases e220
       replace p220 := eq_true p220
       replace q220 := eq_true q220
       have p221 : 0 ≤ (x5_1 : Int) := ofd
       have q221 : x5_1 < (l0.length : Int) := ofd
       obtain ⟨ad221, e221, hx221_0, hx221_1⟩ := at_T46 HR0.out x5_1 p221 q221
       obtain rfl : ad220 = ad221 := (by injection e221)
       replace p221 := eq_true p221
       replace q221 := eq_true q221
       go_wp2
       go_ret
       exact ⟨by first | rfl | (simp; done) | (simp [*]; done), by repeat (first | exact Drawn0.refl _ | apply Drawn0.step)⟩
     ·rw [if_neg c5] at H
      have c5b0 : (((rd_T46 l0 x5_1).f0) == x1_1) = false := beq_eq_false_iff_ne.mpr c5
      have c5b1 : (((rd_T46 l0 x5_1).f0) != x1_1) = true := bne_iff_ne.mpr c5
      obtain rfl := Option.some.inj H
      have p220 : 0 ≤ (x5_1 : Int) := ofd
      have q220 : x5_1 < (l0.length : Int) := ofd
      obtain ⟨ad220, e220, hx220_0, hx220_1⟩ := at_T46 HR0.out x5_1 p220 q220
      cases e220
      replace p220 := eq_true p220
      replace q220 := eq_true q220
      go_wp2
      go_ret
      exact ⟨by first | rfl | (simp; done) | (simp [*]; done), by repeat (first | exact Drawn0.refl _ | apply Drawn0.step)⟩
    ·rw [if_neg c4] at H
     exact absurd H (by simp)
   ·rw [if_neg c3] at H
    have c3b0 : decide (x5_1 < (l0.length : Int)) = false := decide_eq_false c3
    clear c3
    obtain rfl := Option.some.inj H
    go_wp2
    go_ret
    exact ⟨by first | rfl | (simp; done) | (simp [*]; done), by repeat (first | exact Drawn0.refl _ | apply Drawn0.step)⟩
def laws_heldClock.f (k : Nat) (a0_0 : Int) (l0_1 : List (S46)) (a1 : Int) : Option (Int) := (laws_heldTimerS.f k l0_1 a1).bind fun t223 => (if t223 < 0 then (some (-1)) else (some t223))
theorem laws_heldClock.mono : ∀ a0 a1 a2 k, LeO (laws_heldClock.f k a0 a1 a2) (laws_heldClock.f (k + 1) a0 a1 a2) := by
 intro a0 a1 a2 k
 unfold laws_heldClock.f
 repeat' first
   | (with_reducible exact laws_heldTimerS.mono _ _ _)
   | (with_reducible exact LeO.refl _)
   | (with_reducible exact LeO.none _)
   | (with_reducible refine LeO.ite ?_ ?_)
   | (with_reducible refine LeO.bind ?_ (fun _ => ?_))
set_option maxHeartbeats 8000000 in
set_option maxRecDepth 100000 in
theorem laws_heldClock.calls (k : Nat) (a0_0 : Int) (A0_1 : Option Addr) (c0_1 : Nat) (l0_1 : List (S46)) (a1 : Int) (r : Int) (w : World) (hr0_1 : Kd.C k46 w A0_1 l0_1.length l0_1) (hc0_1 : l0_1.length ≤ c0_1) (h : laws_heldClock.f k a0_0 l0_1 a1 = some r) :
  Calls Try.prog 17 #[.agg #[.int .i64 a0_0, .slice A0_1 l0_1.length c0_1], .int .i64 a1] w fun e w' => e = .returned (.int .i64 r) ∧ Below w.heap.size w w' := by
 have hu29 := Try.underlying29
 have HR0_1 := am hr0_1
 have HC0_1 := am hc0_1
 clear hr0_1 hc0_1
 have HB := am (Below.refl w.heap.size w)
 have H : ((laws_heldTimerS.f k l0_1 a1).bind fun t223 => (if t223 < 0 then (some (-1)) else (some t223))) = some r := h
 clear h
 replace H := Option.bind_eq_some_iff.mp H
 obtain ⟨t223, A30, H⟩ := H
 replace H : (if t223 < 0 then (some (-1)) else (some t223)) = some r := H
 have A3 := am A30
 clear A30
 by_cases c4 : t223 < 0
 ·rw [if_pos c4] at H
  have c4b0 : decide (t223 < 0) = true := decide_eq_true c4
  clear c4
  obtain rfl := Option.some.inj H
  go_enter Try.func17, Try.ntmps17
  go_wp2_with (first | ((with_reducible refine gate_dst (N := 2) rfl ?_); refine box_event ?hg (N := 2) ?hd (cs := #[.int .i64 a0_0, .slice A0_1 l0_1.length c0_1]) (t := 29) ?hr ?_; (case hd => rfl); (case hg => rfl); (case hr => first | (go_simp; done) | (go_simp; rfl)); intro gb222 hg w5 hbox hb; have BK222 := am (hbox); have GW222 := am ((by rw [hg]; exact (below_size (pkB HB.out)) : w.heap.size ≤ gb222)); have GE222 := am ((by rw [hg]; exact (below_size (pkB HB.out)) : w.heap.size ≤ gb222)); replace HB := am (below_step (pkB HB.out) hb); clear hb hbox hg; obtain ⟨hcz6_0, hcz6_1, hfz6_0, hfz6_1⟩ := bk2 BK222.out) | ((with_reducible refine gate_callee (f := 42) rfl ?_); refine goesL_ (some 8) rfl rfl Try.func42 (by kernel_rfl) rfl #[.slice A0_1 l0_1.length c0_1, .int .i64 a1] rfl mpx ?_; (with_reducible refine (laws_heldTimerS.calls k _ _ l0_1 a1 t223 _ ?side1 ?side2 A3.out).mono ?_); (case side1 => exact pkC (Kd.C_below HR0_1.out HB.out)); (case side2 => exact HC0_1.out); rintro e w' ⟨rfl, ⟨nd, rfl⟩⟩; refine ⟨_, rfl, ?_⟩))
  go_ret
  exact ⟨rfe, pkW HB.out⟩
 ·rw [if_neg c4] at H
  have c4b0 : decide (t223 < 0) = false := decide_eq_false c4
  clear c4
  obtain rfl := Option.some.inj H
  go_enter Try.func17, Try.ntmps17
  go_wp2_with (first | ((with_reducible refine gate_dst (N := 2) rfl ?_); refine box_event ?hg (N := 2) ?hd (cs := #[.int .i64 a0_0, .slice A0_1 l0_1.length c0_1]) (t := 29) ?hr ?_; (case hd => rfl); (case hg => rfl); (case hr => first | (go_simp; done) | (go_simp; rfl)); intro gb222 hg w7 hbox hb; have BK222 := am (hbox); have GW222 := am ((by rw [hg]; exact (below_size (pkB HB.out)) : w.heap.size ≤ gb222)); have GE222 := am ((by rw [hg]; exact (below_size (pkB HB.out)) : w.heap.size ≤ gb222)); replace HB := am (below_step (pkB HB.out) hb); clear hb hbox hg; obtain ⟨hcz8_0, hcz8_1, hfz8_0, hfz8_1⟩ := bk2 BK222.out) | ((with_reducible refine gate_callee (f := 42) rfl ?_); refine goesL_ (some 8) rfl rfl Try.func42 (by kernel_rfl) rfl #[.slice A0_1 l0_1.length c0_1, .int .i64 a1] rfl mpx ?_; (with_reducible refine (laws_heldTimerS.calls k _ _ l0_1 a1 t223 _ ?side1 ?side2 A3.out).mono ?_); (case side1 => exact pkC (Kd.C_below HR0_1.out HB.out)); (case side2 => exact HC0_1.out); rintro e w' ⟨rfl, ⟨nd, rfl⟩⟩; refine ⟨_, rfl, ?_⟩))
  go_ret
  exact ⟨rfe, pkW HB.out⟩
end Go.Proofs.Ytfgjfheiekhmlaa.Z
