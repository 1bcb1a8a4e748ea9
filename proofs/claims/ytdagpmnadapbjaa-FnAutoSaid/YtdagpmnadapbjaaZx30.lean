/- Go code comes to just these functions; conditions: in each theorem. -/
import Derived.Test.YtdagpmnadapbjaaZx0
import Derived.Test.YtdagpmnadapbjaaZx22
namespace Go.Proofs.Ytdagpmnadapbjaa.Z
open Go.RowKit Go.Proofs.YtdagpmnadapbjaaW.PrintWords Go.Proofs.YtdagpmnadapbjaaW.PrintLast Go.Proofs.YtdagpmnadapbjaaW.PrintMore
attribute [local go_sem] max2_int min2_int max_two min_two max_three min_three max_four min_four   -- for this text's walks alone
set_option linter.unusedVariables false
set_option linter.unusedSimpArgs false
def impl_without_1.f (a0 : Int) (a1 : Int) : Option (Bool) := some (decide (a0 = a1))
set_option maxHeartbeats 8000000 in
theorem impl_without_1.calls (a0 : Int) (a1 : Int) (r : Bool) (B : Nat) (w : World) (hBc : w.cell? ⟨B, 0, none⟩ = some (.int .i64 a1)) (h : impl_without_1.f a0 a1 = some r) :
  Calls Try.prog 90 #[.int .i64 a0, .pointer (some ⟨B, 0, none⟩)] w fun e w' => e = .returned (.bool r) ∧ Drawn0 w w' := by
 obtain rfl := Option.some.inj h
 clear h
 by_cases hq : a0 = a1
 ·have hq0 : (a0 == a1) = true := beq_iff_eq.mpr hq
  have hq1 : decide (a0 = a1) = true := decide_eq_true hq
  rw [hq1]
  clear hq hq1
  go_enter Try.func90, Try.ntmps90
  go_wp2
  go_ret
  exact ⟨rfl, Drawn0.refl _⟩
 ·have hq0 : (a0 == a1) = false := beq_eq_false_iff_ne.mpr hq
  have hq1 : decide (a0 = a1) = false := decide_eq_false hq
  rw [hq1]
  clear hq hq1
  go_enter Try.func90, Try.ntmps90
  go_wp2
  go_ret
  exact ⟨rfl, Drawn0.refl _⟩
def slices_IndexFunc_wo.l0 : Nat → List Int → Int → Int → Int → Option (Int)
 | 0, _, _, _, _ => none
 | k + 1, x0, x1, x7, x8 => if x8 < x7 then (if 0 ≤ x8 then (if x8 < (x0.length : Int) then ((impl_without_1.f (rd x0 x8) x1).bind fun t632 => (if t632 = true then (some x8) else (slices_IndexFunc_wo.l0 k x0 x1 x7 (wrap64 (x8 + 1))))) else (none)) else (none)) else (some (-1))
def slices_IndexFunc_wo.f (k : Nat) (l0 : List Int) (a1 : Int) : Option (Int) := slices_IndexFunc_wo.l0 k l0 a1 (l0.length : Int) 0
theorem slices_IndexFunc_wo.mono_l : ∀ k, (∀ y0 y1 y2 y3, LeO (slices_IndexFunc_wo.l0 k y0 y1 y2 y3) (slices_IndexFunc_wo.l0 (k + 1) y0 y1 y2 y3))
 | 0 => fun _ _ _ _ r h => by simp [slices_IndexFunc_wo.l0] at h
 | k + 1 => by
  have ih0 := slices_IndexFunc_wo.mono_l k
  ·intro y0 y1 y2 y3
   unfold slices_IndexFunc_wo.l0
   repeat' first
   | (with_reducible exact ih0 _ _ _ _)
   | (with_reducible exact LeO.refl _)
   | (with_reducible exact LeO.none _)
   | (with_reducible refine LeO.ite ?_ ?_)
   | (with_reducible refine LeO.bind ?_ (fun _ => ?_))
theorem slices_IndexFunc_wo.mono : ∀ a0 a1 k, LeO (slices_IndexFunc_wo.f k a0 a1) (slices_IndexFunc_wo.f (k + 1) a0 a1) := by
 intro a0 a1 k
 have ih0 := slices_IndexFunc_wo.mono_l k
 unfold slices_IndexFunc_wo.f
 repeat' first
   | (with_reducible exact ih0 _ _ _ _)
   | (with_reducible exact LeO.refl _)
   | (with_reducible exact LeO.none _)
   | (with_reducible refine LeO.ite ?_ ?_)
   | (with_reducible refine LeO.bind ?_ (fun _ => ?_))
set_option maxHeartbeats 8000000 in
set_option maxRecDepth 100000 in
theorem slices_IndexFunc_wo.calls (k : Nat) (A0 : Option Addr) (c0 : Nat) (l0 : List Int) (a1 : Int) (r : Int) (w : World) (hr0 : Kd.C (Kd.int .i64) w A0 l0.length l0) (hc0 : l0.length ≤ c0) (B : Nat) (hBc : w.cell? ⟨B, 0, none⟩ = some (.int .i64 a1)) (h : slices_IndexFunc_wo.f k l0 a1 = some r) :
  Calls Try.prog 95 #[.slice A0 l0.length c0, .func (.func 90) #[] #[.pointer (some ⟨B, 0, none⟩)]] w fun e w' => e = .returned (.int .i64 r) ∧ Drawn0 w w' := by
 have HBc := am hBc
 clear hBc
 have HR0 := am hr0
 have HC0 := am hc0
 clear hr0 hc0
 have H : (slices_IndexFunc_wo.l0 k l0 a1 (l0.length : Int) 0) = some r := h
 clear h
 have H' := am H
 clear H
 go_enter Try.func95, Try.ntmps95
 go_wp2
 go_loopg [8] k (fun kq v8 w' => ∃ (x8_1 : Int), v8 = .int .i64 x8_1 ∧ Aside0 (slices_IndexFunc_wo.l0 kq l0 a1 (l0.length : Int) x8_1 = some r) ∧ Aside0 (kq ≤ k) ∧ Drawn0 w w')
 case atStart => exact ⟨(0), rfx, H', ⟨Nat.le_refl _⟩, by repeat (first | exact Drawn0.refl _ | apply Drawn0.step)⟩
 case round =>
  clear H'
  try clear p2
  obtain ⟨x8_1, rfl, HA, HK1, m1, rfl⟩ := hrel
  cases gk with
  | zero => exact absurd HA.out (by simp [slices_IndexFunc_wo.l0])
  | succ k1 =>
   have H := HA.out
   clear HA
   simp only [slices_IndexFunc_wo.l0] at H
   by_cases c3 : x8_1 < (l0.length : Int)
   ·rw [if_pos c3] at H
    have c3b0 : decide (x8_1 < (l0.length : Int)) = true := decide_eq_true c3
    clear c3
    by_cases c4 : 0 ≤ x8_1
    ·rw [if_pos c4] at H
     have c4b0 : decide (0 ≤ x8_1) = true := decide_eq_true c4
     clear c4
     by_cases c5 : x8_1 < (l0.length : Int)
     ·rw [if_pos c5] at H
      have c5b0 : decide (x8_1 < (l0.length : Int)) = true := decide_eq_true c5
      clear c5
      replace H := Option.bind_eq_some_iff.mp H
      obtain ⟨t632, A60, H⟩ := H
      replace H : (if t632 = true then (some x8_1) else (slices_IndexFunc_wo.l0 k1 l0 a1 (l0.length : Int) (wrap64 (x8_1 + 1)))) = some r := H
      have A6 := am A60
      clear A60
      by_cases c7 : t632 = true
      ·subst c7
       replace H : (some x8_1) = some r := by rw [if_pos rfl] at H; exact H
       obtain rfl := Option.some.inj H
       have p631 : 0 ≤ (x8_1 : Int) := ofd
       have q631 : x8_1 < (l0.length : Int) := ofd
       obtain ⟨ad631, e631, hx631_0⟩ := Kd.at_int HR0.out x8_1 p631 q631
       cases e631
       replace p631 := eq_true p631
       replace q631 := eq_true q631
       go_wp2_with (first | (go_at_call 90; (with_reducible refine (impl_without_1.calls (rd l0 x8_1) a1 true B _ (by first | exact HBc.out | exact cell_dr HBc.out) A6.out).mono ?_); rintro e w' ⟨rfl, nd, rfl⟩))
       go_ret
       exact ⟨by first | rfl | (simp; done) | (simp [*]; done), by repeat (first | exact Drawn0.refl _ | apply Drawn0.step)⟩
      ·replace c7 := Bool.eq_false_iff.mpr c7
       subst c7
       replace H : (slices_IndexFunc_wo.l0 k1 l0 a1 (l0.length : Int) (wrap64 (x8_1 + 1))) = some r := by rw [if_neg (show ¬ (false = true) by decide)] at H; exact H
       have H' := am H
       clear H
       have p631 : 0 ≤ (x8_1 : Int) := ofd
       have q631 : x8_1 < (l0.length : Int) := ofd
       obtain ⟨ad631, e631, hx631_0⟩ := Kd.at_int HR0.out x8_1 p631 q631
       cases e631
       replace p631 := eq_true p631
       replace q631 := eq_true q631
       go_wp2_with (first | (go_at_call 90; (with_reducible refine (impl_without_1.calls (rd l0 x8_1) a1 false B _ (by first | exact HBc.out | exact cell_dr HBc.out) A6.out).mono ?_); rintro e w' ⟨rfl, nd, rfl⟩))
       go_roundg k1
       case measure => have := HK1.out; omega
       case rel => exact ⟨(wrap64 (x8_1 + 1)), rfx, H', ⟨by have := HK1.out; omega⟩, by repeat (first | exact Drawn0.refl _ | apply Drawn0.step)⟩
     ·rw [if_neg c5] at H
      exact absurd H (by simp)
    ·rw [if_neg c4] at H
     exact absurd H (by simp)
   ·rw [if_neg c3] at H
    have c3b0 : decide (x8_1 < (l0.length : Int)) = false := decide_eq_false c3
    clear c3
    obtain rfl := Option.some.inj H
    go_wp2
    go_ret
    exact ⟨by first | rfl | (simp; done) | (simp [*]; done), by repeat (first | exact Drawn0.refl _ | apply Drawn0.step)⟩
def slices_DeleteFunc_wo.l0 : Nat → List Int → Int → Int → Int → Option (List Int)
 | 0, _, _, _, _ => none
 | k + 1, x0, x1, x5, x6 => if x6 < (x0.length : Int) then (if 0 ≤ x6 then ((impl_without_1.f (rd x0 x6) x1).bind fun t639 => (if t639 = true then (slices_DeleteFunc_wo.l0 k x0 x1 x5 (wrap64 (x6 + 1))) else (if 0 ≤ x5 then (if x5 < (x0.length : Int) then (slices_DeleteFunc_wo.l0 k (x0.set (x5 : Int).toNat (rd x0 x6)) x1 (wrap64 (x5 + 1)) (wrap64 (x6 + 1))) else (none)) else (none)))) else (none)) else (if 0 ≤ x5 then (if x5 < (x0.length : Int) then (some (x0.take (x5 : Int).toNat)) else (none)) else (none))
def slices_DeleteFunc_wo.f (k : Nat) (l0 : List Int) (a1 : Int) : Option (List Int) := (slices_IndexFunc_wo.f k l0 a1).bind fun t637 => (if t637 = (-1) then (some l0) else (slices_DeleteFunc_wo.l0 k l0 a1 t637 (wrap64 (t637 + 1))))
theorem slices_DeleteFunc_wo.mono_l : ∀ k, (∀ y0 y1 y2 y3, LeO (slices_DeleteFunc_wo.l0 k y0 y1 y2 y3) (slices_DeleteFunc_wo.l0 (k + 1) y0 y1 y2 y3))
 | 0 => fun _ _ _ _ r h => by simp [slices_DeleteFunc_wo.l0] at h
 | k + 1 => by
  have ih0 := slices_DeleteFunc_wo.mono_l k
  ·intro y0 y1 y2 y3
   unfold slices_DeleteFunc_wo.l0
   repeat' first
   | (with_reducible exact ih0 _ _ _ _)
   | (with_reducible exact slices_IndexFunc_wo.mono _ _ _)
   | (with_reducible exact LeO.refl _)
   | (with_reducible exact LeO.none _)
   | (with_reducible refine LeO.ite ?_ ?_)
   | (with_reducible refine LeO.bind ?_ (fun _ => ?_))
theorem slices_DeleteFunc_wo.mono : ∀ a0 a1 k, LeO (slices_DeleteFunc_wo.f k a0 a1) (slices_DeleteFunc_wo.f (k + 1) a0 a1) := by
 intro a0 a1 k
 have ih0 := slices_DeleteFunc_wo.mono_l k
 unfold slices_DeleteFunc_wo.f
 repeat' first
   | (with_reducible exact ih0 _ _ _ _)
   | (with_reducible exact slices_IndexFunc_wo.mono _ _ _)
   | (with_reducible exact LeO.refl _)
   | (with_reducible exact LeO.none _)
   | (with_reducible refine LeO.ite ?_ ?_)
   | (with_reducible refine LeO.bind ?_ (fun _ => ?_))
set_option maxHeartbeats 8000000 in
set_option maxRecDepth 100000 in
theorem slices_DeleteFunc_wo.calls (k : Nat) (P0_ : Nat → Prop) (u9000_ : Value) (l0 : List Int) (a1 : Int) (r : List Int) (w0 w : World) (hB : Below w0.heap.size w0 w) (ho0 : Kd.R (Kd.int .i64) 3 w w0.heap.size P0_ u9000_ l0) (B : Nat) (hBc : w.cell? ⟨B, 0, none⟩ = some (.int .i64 a1)) (hBn : ¬ P0_ B) (h : slices_DeleteFunc_wo.f k l0 a1 = some r) :
  Calls Try.prog 89 #[u9000_, .func (.func 90) #[] #[.pointer (some ⟨B, 0, none⟩)]] w fun e w' => ∃ v0_ : Value, e = .returned (v0_) ∧ Kd.R (Kd.int .i64) 3 w' w0.heap.size (fun k_ => (P0_ k_ ∨ w.heap.size ≤ k_)) v0_ r ∧ Below w0.heap.size w0 w' ∧ Kept w w' (fun k_ => P0_ k_) := by
 have HBc := am hBc
 have HBn := am hBn
 clear hBc hBn
 have HO0 := am (show Kd.R (Kd.int .i64) 3 w w0.heap.size (fun k_ => (P0_ k_ ∨ w.heap.size ≤ k_)) u9000_ l0 from Kd.R_mono ho0 (fun k_ hk => (.inl hk)))
 have HK := am (Kept.refl w (fun k_ => P0_ k_))
 have HW0 := am hB.size
 have HB := am hB
 clear hB
 have H : ((slices_IndexFunc_wo.f k l0 a1).bind fun t637 => (if t637 = (-1) then (some l0) else (slices_DeleteFunc_wo.l0 k l0 a1 t637 (wrap64 (t637 + 1))))) = some r := h
 clear h
 replace H := Option.bind_eq_some_iff.mp H
 obtain ⟨t637, A30, H⟩ := H
 replace H : (if t637 = (-1) then (some l0) else (slices_DeleteFunc_wo.l0 k l0 a1 t637 (wrap64 (t637 + 1)))) = some r := H
 have A3 := am A30
 clear A30
 by_cases c4 : t637 = (-1)
 ·rw [if_pos c4] at H
  have c4b0 : (t637 == (-1)) = true := beq_iff_eq.mpr c4
  have c4b1 : (t637 != (-1)) = false := bne_eq_false_iff_eq.mpr c4
  clear c4
  obtain rfl := Option.some.inj H
  obtain ⟨Ao5, co5, eo5⟩ := Kd.R_slice HO0.out
  subst eo5
  go_enter Try.func89, Try.ntmps89
  go_wp2_with (first | ((with_reducible refine gate_callee (f := 95) rfl ?_); refine goesL_ (some 10) rfl rfl Try.func95 (by kernel_rfl) rfl #[.slice Ao5 l0.length co5, .func (.func 90) #[] #[.pointer (some ⟨B, 0, none⟩)]] rfl mpx ?_; (with_reducible refine (slices_IndexFunc_wo.calls k _ _ l0 a1 t637 _ ?side1 ?side2 B (by first | exact HBc.out | exact cell_dr HBc.out) A3.out).mono ?_); (case side1 => exact pkC (Kd.R_reads' HO0.out).2.2); (case side2 => exact (Kd.R_reads' HO0.out).2.1); rintro e w' ⟨rfl, nd, rfl⟩; refine ⟨_, rfl, ?_⟩))
  go_ret
  exact ⟨_, rfe, pkR HO0.out, pkB HB.out, by repeat (first | (with_reducible first | exact HK.out | apply Kept.alloc | apply Kept.drewN | apply Kept.drew) | exact HK.out)⟩
 ·rw [if_neg c4] at H
  have c4b0 : (t637 == (-1)) = false := beq_eq_false_iff_ne.mpr c4
  have c4b1 : (t637 != (-1)) = true := bne_iff_ne.mpr c4
  have H' := am H
  clear H
  obtain ⟨Ao6, co6, eo6⟩ := Kd.R_slice HO0.out
  subst eo6
  go_enter Try.func89, Try.ntmps89
  go_wp2_with (first | ((with_reducible refine gate_callee (f := 95) rfl ?_); refine goesL_ (some 10) rfl rfl Try.func95 (by kernel_rfl) rfl #[.slice Ao6 l0.length co6, .func (.func 90) #[] #[.pointer (some ⟨B, 0, none⟩)]] rfl mpx ?_; (with_reducible refine (slices_IndexFunc_wo.calls k _ _ l0 a1 t637 _ ?side1 ?side2 B (by first | exact HBc.out | exact cell_dr HBc.out) A3.out).mono ?_); (case side1 => exact pkC (Kd.R_reads' HO0.out).2.2); (case side2 => exact (Kd.R_reads' HO0.out).2.1); rintro e w' ⟨rfl, nd, rfl⟩; refine ⟨_, rfl, ?_⟩))
  go_loopg [5, 6] k (fun kq v5 v6 w' => ∃ (x0_1 : List Int) (x5_1 : Int) (x6_1 : Int), v5 = .int .i64 x5_1 ∧ v6 = .int .i64 x6_1 ∧ Aside0 (slices_DeleteFunc_wo.l0 kq x0_1 a1 x5_1 x6_1 = some r) ∧ Aside0 (kq ≤ k) ∧ Aside0 (Kd.R (Kd.int .i64) 3 w' w0.heap.size (fun k_ => (P0_ k_ ∨ w.heap.size ≤ k_)) (.slice Ao6 l0.length co6) x0_1) ∧ Aside0 (Kept w w' (fun k_ => P0_ k_)) ∧ Aside0 (Below w0.heap.size w0 w'))
  case atStart => exact ⟨(l0), (t637), (wrap64 (t637 + 1)), rfx, rfx, H', ⟨Nat.le_refl _⟩, ⟨pkR HO0.out⟩, ⟨by repeat (first | (with_reducible first | exact HK.out | apply Kept.alloc | apply Kept.drewN | apply Kept.drew) | exact HK.out)⟩, ⟨pkB HB.out⟩⟩
  case round =>
   clear H'
   try clear p2
   try clear c4
   try clear c4b0
   try clear c4b1
   try clear p6
   obtain ⟨x0_1, x5_1, x6_1, rfl, rfl, HA, HK1, HO_0, HK, HB⟩ := hrel
   have hl0_1 := (Kd.R_reads' HO_0.out).1
   rw [hl0_1] at HO_0
   (try simp only [hl0_1])
   cases gk with
   | zero => exact absurd HA.out (by simp [slices_DeleteFunc_wo.l0])
   | succ k1 =>
    have H := HA.out
    clear HA
    simp only [slices_DeleteFunc_wo.l0] at H
    by_cases c7 : x6_1 < (x0_1.length : Int)
    ·rw [if_pos c7] at H
     have c7b0 : decide (x6_1 < (x0_1.length : Int)) = true := decide_eq_true c7
     clear c7
     by_cases c8 : 0 ≤ x6_1
     ·rw [if_pos c8] at H
      have c8b0 : decide (0 ≤ x6_1) = true := decide_eq_true c8
      clear c8
      replace H := Option.bind_eq_some_iff.mp H
      obtain ⟨t639, A90, H⟩ := H
      replace H : (if t639 = true then (slices_DeleteFunc_wo.l0 k1 x0_1 a1 x5_1 (wrap64 (x6_1 + 1))) else (if 0 ≤ x5_1 then (if x5_1 < (x0_1.length : Int) then (slices_DeleteFunc_wo.l0 k1 (x0_1.set (x5_1 : Int).toNat (rd x0_1 x6_1)) a1 (wrap64 (x5_1 + 1)) (wrap64 (x6_1 + 1))) else (none)) else (none))) = some r := H
      have A9 := am A90
      clear A90
      by_cases c10 : t639 = true
      ·subst c10
       replace H : (slices_DeleteFunc_wo.l0 k1 x0_1 a1 x5_1 (wrap64 (x6_1 + 1))) = some r := by rw [if_pos rfl] at H; exact H
       have H' := am H
       clear H
       have p638 : 0 ≤ (x6_1 : Int) := ofd
       have q638 : x6_1 < (x0_1.length : Int) := ofd
       obtain ⟨ad638, e638, hx638_0⟩ := Kd.at_int (Kd.R_reads' HO_0.out).2.2 x6_1 p638 q638
       cases e638
       replace p638 := eq_true p638
       replace q638 := eq_true q638
       go_wp2_with (first | (go_at_call 90; (with_reducible refine (impl_without_1.calls (rd x0_1 x6_1) a1 true B _ (by first | exact cell_kept HBc.out HK.out HBn.out | exact cell_dr (cell_kept HBc.out HK.out HBn.out)) A9.out).mono ?_); rintro e w' ⟨rfl, nd, rfl⟩))
       (try simp only [← hl0_1])
       go_roundg k1
       case measure => have := HK1.out; omega
       case rel => exact ⟨(x0_1), (x5_1), (wrap64 (x6_1 + 1)), rfx, rfx, H', ⟨by have := HK1.out; omega⟩, ⟨by (try simp only [hl0_1]); (with_reducible repeat (first | apply Kd.R_alloc | apply Kd.R_drewN | apply Kd.R_drew)); exact HO_0.out⟩, ⟨by repeat (first | (with_reducible first | exact HK.out | apply Kept.alloc | apply Kept.drewN | apply Kept.drew) | exact HK.out)⟩, ⟨pkB HB.out⟩⟩
      ·replace c10 := Bool.eq_false_iff.mpr c10
       subst c10
       replace H : (if 0 ≤ x5_1 then (if x5_1 < (x0_1.length : Int) then (slices_DeleteFunc_wo.l0 k1 (x0_1.set (x5_1 : Int).toNat (rd x0_1 x6_1)) a1 (wrap64 (x5_1 + 1)) (wrap64 (x6_1 + 1))) else (none)) else (none)) = some r := by rw [if_neg (show ¬ (false = true) by decide)] at H; exact H
       by_cases c11 : 0 ≤ x5_1
       ·rw [if_pos c11] at H
        have c11b0 : decide (0 ≤ x5_1) = true := decide_eq_true c11
        clear c11
        by_cases c12 : x5_1 < (x0_1.length : Int)
        ·rw [if_pos c12] at H
         have c12b0 : decide (x5_1 < (x0_1.length : Int)) = true := decide_eq_true c12
         clear c12
         obtain ⟨y640, hy640⟩ : ∃ y_ : List Int, y_ = (x0_1.set (x5_1 : Int).toNat (rd x0_1 x6_1)) := ⟨_, rfl⟩
         replace H : (slices_DeleteFunc_wo.l0 k1 y640 a1 (wrap64 (x5_1 + 1)) (wrap64 (x6_1 + 1))) = some r := by first | (rw [hy640]; with_reducible exact H) | (have H2_ := (Option.bind_some _ _).symm.trans H; rw [hy640]; with_reducible exact H2_) | (have H2_ := (Option.bind_some _ _).symm.trans H; with_reducible exact H2_) | with_reducible exact H | (rw [hy640]; exact H) | exact H
         have Ny640 := am hy640
         clear hy640
         have H' := am H
         clear H
         have p638 : 0 ≤ (x6_1 : Int) := ofd
         have q638 : x6_1 < (x0_1.length : Int) := ofd
         obtain ⟨ad638, e638, hx638_0⟩ := Kd.at_int (Kd.R_reads' HO_0.out).2.2 x6_1 p638 q638
         cases e638
         replace p638 := eq_true p638
         replace q638 := eq_true q638
         go_wp2_with (first | (go_at_call 90; (with_reducible refine (impl_without_1.calls (rd x0_1 x6_1) a1 false B _ (by first | exact cell_kept HBc.out HK.out HBn.out | exact cell_dr (cell_kept HBc.out HK.out HBn.out)) A9.out).mono ?_); rintro e w' ⟨rfl, nd, rfl⟩; (try (rw [drewN_self wr]; generalize hq_ : World.drewN wr _ = wr; replace HO_0 : Aside0 (Kd.R (Kd.int .i64) 3 wr w0.heap.size (fun k_ => ((P0_ k_ ∨ w.heap.size ≤ k_))) (.slice (some ad638) x0_1.length co6) x0_1) := ⟨by rw [← hq_]; exact (pkR HO_0.out)⟩; replace HK : Aside0 (Kept w wr (fun k_ => P0_ k_)) := ⟨by rw [← hq_]; exact (by repeat (first | (with_reducible first | exact HK.out | apply Kept.alloc | apply Kept.drewN | apply Kept.drew) | exact HK.out))⟩; replace HB : Aside0 (Below w0.heap.size w0 wr) := ⟨by rw [← hq_]; exact (pkB HB.out)⟩; clear hq_)); have p13 : 0 ≤ (x5_1 : Int) := ofd; have q13 : (x5_1 : Int) < ((x0_1.length : Int) : Int) := ofd; obtain ⟨go13, co13, eo13, gb13, gl13, cl13, HG13⟩ := Kd.R_form HO_0.out (by omega); (first | cases eo13 | (injection eo13 with ea_ en_ ec_; (first | subst ea_ | (injection ea_ with ea_; subst ea_)); subst ec_; clear en_)); have GB13 := am gb13; have GG13 := am HG13; clear gb13 gl13 HG13; have HMgo13 := am (show (P0_ go13 ∨ w.heap.size ≤ go13) from (HO_0.out.1 _ rfl)); (first | simp only [add_plain] at hx638_0 | skip); obtain ⟨hx13_0, hf13_0⟩ := Kd.R_celln 0 HO_0.out (x5_1 : Int) p13 q13; replace p13 := eq_true p13; replace q13 := eq_true q13; obtain ⟨hy14_, hz14_⟩ := Kd.R_celln 0 HO_0.out (x5_1 : Int) (ofd) (ofd); have HP14 := Kd.R_putg HO_0.out (x5_1 : Int) (rd x0_1 x6_1)) | ((with_reducible refine gate_store (t := 3) (p := 33) rfl ?_); refine store_event (t := 3) (p := 33) (v := ?vo_w15) (w1 := (wr.setCell ⟨go13, (x5_1 : Int).toNat, none⟩ (.int .i64 (rd x0_1 x6_1)))) ?hg ?ho ?hn ?hr ?_; (case ho => rfl); (case hg => rfl); (case hn => rfl); (case hr => first | (go_simp; done) | (go_simp; rfl)); intro w15 hw; have hg : wr.grownBy w15 (some go13) := (by rw [hw]; exact HP14.2); have hp_ : Kd.R (Kd.int .i64) 3 w15 w0.heap.size (fun k_ => (P0_ k_ ∨ w.heap.size ≤ k_)) (.slice (some ⟨go13, 0, none⟩) x0_1.length co6) y640 := (by rw [hw, Ny640.out]; exact HP14.1); clear HP14; replace HB := am ((by rw [hw]; exact below_set (HB.out) GB13.out : Below w0.heap.size w0 w15)); replace HK := am (Kept.of_grown (S := (fun k_ => P0_ k_)) hg (by repeat (first | (with_reducible first | exact HK.out | apply Kept.alloc | apply Kept.drewN | apply Kept.drew) | exact HK.out)) (fun k_ e_ => (HO_0.out.1 k_ e_))); replace HO_0 := am (hp_); clear hg hw hp_))
         (try simp only [← hl0_1])
         go_roundg k1
         case measure => have := HK1.out; omega
         case rel => exact ⟨(y640), (wrap64 (x5_1 + 1)), (wrap64 (x6_1 + 1)), rfx, rfx, H', ⟨by have := HK1.out; omega⟩, ⟨by (try simp only [hl0_1]); (with_reducible repeat (first | apply Kd.R_alloc | apply Kd.R_drewN | apply Kd.R_drew)); exact HO_0.out⟩, ⟨by repeat (first | (with_reducible first | exact HK.out | apply Kept.alloc | apply Kept.drewN | apply Kept.drew) | exact HK.out)⟩, ⟨pkB HB.out⟩⟩
        ·rw [if_neg c12] at H
         exact absurd H (by simp)
       ·rw [if_neg c11] at H
        exact absurd H (by simp)
     ·rw [if_neg c8] at H
      exact absurd H (by simp)
    ·rw [if_neg c7] at H
     have c7b0 : decide (x6_1 < (x0_1.length : Int)) = false := decide_eq_false c7
     clear c7
     by_cases c16 : 0 ≤ x5_1
     ·rw [if_pos c16] at H
      have c16b0 := eq_true c16
      have c16b1 : decide (0 ≤ x5_1) = true := decide_eq_true c16
      clear c16
      by_cases c17 : x5_1 < (x0_1.length : Int)
      ·rw [if_pos c17] at H
       have l_ := c17
       obtain rfl := Option.some.inj H
       have p_ : 0 ≤ x5_1 := of_eq_true c16b0
       obtain ⟨gx_, cx_, ex_, hbx_, _, _⟩ := Kd.R_form HO_0.out (by omega)
       injection ex_ with e1_ e2_ e3_
       subst e1_
       subst e3_
       clear e2_
       obtain ⟨i0x_, hi0x_, hzx_⟩ := Option.map_eq_some_iff.1 info3
       simp only [Prod.mk.injEq] at hzx_
       have hdrop_ := drop_at (P := Try.prog) 22 3 .i64 Try.underlying22 hi0x_ gx_ x0_1.length co6 x5_1 p_ l_ (Kd.R_reads' HO_0.out).2.1
       rw [hzx_.2.1] at hdrop_
       have hcut_ := cut_to (P := Try.prog) 22 3 .i64 Try.underlying22 hi0x_ (some ⟨gx_, 0, none⟩) x0_1.length co6 x5_1 p_ (by omega) (Kd.R_reads' HO_0.out).2.1
       obtain ⟨w2_, hcl_, hrc_, hgc_⟩ := Kd.R_clear (i := (x5_1 : Int).toNat) Try.underlying22 info3 rfl (by intro u hu_; simp [Value.cells] at hu_; (first | (subst hu_; rfl) | (rcases hu_ with rfl | rfl <;> rfl))) (by decide) HO_0.out (by omega)
       have HR2_ := am hrc_
       have HB2_ := am (pw_below_grown HB.out (some gx_) HB.out.size hgc_ (fun k_ e_ => by injection e_ with e_; omega))
       have HK2_ := am (Kept.of_grown (S := fun k_ => P0_ k_) hgc_ HK.out (fun k_ e_ => HO_0.out.1 k_ e_))
       (try simp only [show ((Kd.int .i64)).sz = 1 from rfl, Nat.mul_one] at hcl_ hdrop_)
       (try simp only [show ((Kd.int .i64)).sz = 2 from rfl] at hcl_ hdrop_)
       have p0_ := eq_true p_
       have l0_ := eq_true l_
       clear hzx_ hi0x_ hbx_ hrc_ hgc_ p_ l_ HB HK HO_0
       go_wp2
       go_ret
       exact ⟨_, rfl, HR2_.out, HB2_.out, HK2_.out⟩
      ·rw [if_neg c17] at H
       exact absurd H (by simp)
     ·rw [if_neg c16] at H
      exact absurd H (by simp)
def impl_without.f (k : Nat) (l0 : List Int) (a1 : Int) : Option (List Int) := (slices_Clone_int_int.f l0).bind fun t_ => (slices_DeleteFunc_wo.f k t_ a1)
theorem impl_without.mono : ∀ a0 a1 k, LeO (impl_without.f k a0 a1) (impl_without.f (k + 1) a0 a1) := by
 intro a0 a1 k
 unfold impl_without.f
 repeat' first
   | (with_reducible exact slices_DeleteFunc_wo.mono _ _ _)
   | (with_reducible exact LeO.refl _)
   | (with_reducible exact LeO.none _)
   | (with_reducible refine LeO.ite ?_ ?_)
   | (with_reducible refine LeO.bind ?_ (fun _ => ?_))
set_option maxHeartbeats 8000000 in
set_option maxRecDepth 100000 in
theorem impl_without.calls (k : Nat) (A0 : Option Addr) (c0 : Nat) (l0 : List Int) (a1 : Int) (r : List Int) (w : World) (hr0 : Kd.C (Kd.int .i64) w A0 l0.length l0) (hc0 : l0.length ≤ c0) (h : impl_without.f k l0 a1 = some r) :
  Calls Try.prog 68 #[.slice A0 l0.length c0, .int .i64 a1] w fun e w' => ∃ v0_ : Value, e = .returned (v0_) ∧ Kd.R (Kd.int .i64) 3 w' w.heap.size (fun _ => True) v0_ r ∧ Below w.heap.size w w' := by
 have HR0 := am hr0
 have HC0 := am hc0
 obtain ⟨t_, h1, h2⟩ := Option.bind_eq_some_iff.mp h
 have A1 := am h1
 have A2 := am h2
 clear h h1 h2 hr0 hc0
 go_enter Try.func68, Try.ntmps68
 go_wp2_with (first | (go_at_call 72; (with_reducible refine (slices_Clone_int_int.calls _ _ l0 t_ _ ?side1 ?side2 A1.out).mono ?_); (case side1 => exact pkC HR0.out); (case side2 => exact HC0.out); rintro e w1 ⟨v1, rfl, ho, hb⟩; have HO1 := am (show Kd.R (Kd.int .i64) 3 w1 w.heap.size (fun k_ => w.heap.size < k_) v1 t_ from Kd.R_lower (Kd.R_mono (Kd.R_bound ho) (fun k_ hk_ => by have := hk_.2.1; simp at this; omega)) (by simp)); have HB1 := am (show Below w.heap.size w w1 from below_then (below_alloc (Below.refl _ _) _) (by simp) hb); have HC1 := am (show w1.cell? ⟨w.heap.size, 0, none⟩ = some (.int .i64 a1) from pw_cell_below hb (by simp)); clear ho hb) | (go_at_call 89; (with_reducible refine (slices_DeleteFunc_wo.calls k (fun k_ => w.heap.size < k_) _ t_ a1 r w _ HB1.out HO1.out w.heap.size HC1.out (by omega) A2.out).mono ?_); rintro e w2 ⟨v2, rfl, ho, hb, hk⟩; have HO2 := am ho; have HB2 := am hb; clear ho hb hk))
 go_ret
 exact ⟨_, rfl, Kd.R_mono HO2.out (fun _ _ => trivial), HB2.out⟩
end Go.Proofs.Ytdagpmnadapbjaa.Z
