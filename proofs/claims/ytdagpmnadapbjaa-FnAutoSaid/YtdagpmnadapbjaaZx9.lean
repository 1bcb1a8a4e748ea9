/- Go code comes to just these functions; conditions: in each theorem. -/
import Derived.Test.YtdagpmnadapbjaaZx0
import Derived.Test.YtdagpmnadapbjaaZx7
import Derived.Test.YtdagpmnadapbjaaZx8
namespace Go.Proofs.Ytdagpmnadapbjaa.Z
open Go.RowKit Go.Proofs.YtdagpmnadapbjaaW.PrintWords Go.Proofs.YtdagpmnadapbjaaW.PrintLast Go.Proofs.YtdagpmnadapbjaaW.PrintMore
attribute [local go_sem] max2_int min2_int max_two min_two max_three min_three max_four min_four   -- for this text's walks alone
set_option linter.unusedVariables false
set_option linter.unusedSimpArgs false
def impl_apart_1.f (k : Nat) (a0 : Int) (l1 : List Int) : Option (Bool) := slices_Contains_int_int.f k l1 a0
theorem impl_apart_1.mono : ∀ a0 a1 k, LeO (impl_apart_1.f k a0 a1) (impl_apart_1.f (k + 1) a0 a1) := fun a0 a1 k => slices_Contains_int_int.mono a1 a0 k
set_option maxHeartbeats 8000000 in
theorem impl_apart_1.calls (k : Nat) (a0 : Int) (A1 : Option Addr) (c1 : Nat) (l1 : List Int) (r : Bool) (B : Nat) (w : World) (hBc : w.cell? ⟨B, 0, none⟩ = some (.slice A1 l1.length c1)) (hr1 : Kd.C (Kd.int .i64) w A1 l1.length l1) (hc1 : l1.length ≤ c1) (h : impl_apart_1.f k a0 l1 = some r) :
  Calls Try.prog 84 #[.int .i64 a0, .pointer (some ⟨B, 0, none⟩)] w fun e w' => e = .returned (.bool r) ∧ Drawn0 w w' := by
 have HR1 := am hr1
 have HC1 := am hc1
 have A2 := am (show slices_Contains_int_int.f k l1 a0 = some r from h)
 clear hr1 hc1 h
 go_enter Try.func84, Try.ntmps84
 go_wp2_with (first | (go_at_call 66; (with_reducible refine (slices_Contains_int_int.calls k _ _ l1 a0 r _ ?side1 ?side2 A2.out).mono ?_); (case side1 => exact pkC HR1.out); (case side2 => exact HC1.out); rintro e w' ⟨rfl, ⟨nd, rfl⟩⟩))
 go_ret
 exact ⟨rfl, by repeat (first | exact Drawn0.refl _ | apply Drawn0.step)⟩
def slices_IndexFunc_ap.l0 : Nat → List Int → List Int → Int → Int → Option (Int)
 | 0, _, _, _, _ => none
 | k + 1, x0, x1, x7, x8 => if x8 < x7 then (if 0 ≤ x8 then (if x8 < (x0.length : Int) then ((impl_apart_1.f k (rd x0 x8) x1).bind fun t143 => (if t143 = true then (some x8) else (slices_IndexFunc_ap.l0 k x0 x1 x7 (wrap64 (x8 + 1))))) else (none)) else (none)) else (some (-1))
def slices_IndexFunc_ap.f (k : Nat) (l0 : List Int) (l1 : List Int) : Option (Int) := slices_IndexFunc_ap.l0 k l0 l1 (l0.length : Int) 0
theorem slices_IndexFunc_ap.mono_l : ∀ k, (∀ y0 y1 y2 y3, LeO (slices_IndexFunc_ap.l0 k y0 y1 y2 y3) (slices_IndexFunc_ap.l0 (k + 1) y0 y1 y2 y3))
 | 0 => fun _ _ _ _ r h => by simp [slices_IndexFunc_ap.l0] at h
 | k + 1 => by
  have ih0 := slices_IndexFunc_ap.mono_l k
  ·intro y0 y1 y2 y3
   unfold slices_IndexFunc_ap.l0
   repeat' first
   | (with_reducible exact ih0 _ _ _ _)
   | (with_reducible exact impl_apart_1.mono _ _ _)
   | (with_reducible exact LeO.refl _)
   | (with_reducible exact LeO.none _)
   | (with_reducible refine LeO.ite ?_ ?_)
   | (with_reducible refine LeO.bind ?_ (fun _ => ?_))
theorem slices_IndexFunc_ap.mono : ∀ a0 a1 k, LeO (slices_IndexFunc_ap.f k a0 a1) (slices_IndexFunc_ap.f (k + 1) a0 a1) := by
 intro a0 a1 k
 have ih0 := slices_IndexFunc_ap.mono_l k
 unfold slices_IndexFunc_ap.f
 repeat' first
   | (with_reducible exact ih0 _ _ _ _)
   | (with_reducible exact impl_apart_1.mono _ _ _)
   | (with_reducible exact LeO.refl _)
   | (with_reducible exact LeO.none _)
   | (with_reducible refine LeO.ite ?_ ?_)
   | (with_reducible refine LeO.bind ?_ (fun _ => ?_))
set_option maxHeartbeats 8000000 in
set_option maxRecDepth 100000 in
theorem slices_IndexFunc_ap.calls (k : Nat) (A0 : Option Addr) (c0 : Nat) (l0 : List Int) (A1 : Option Addr) (c1 : Nat) (l1 : List Int) (r : Int) (w : World) (hr0 : Kd.C (Kd.int .i64) w A0 l0.length l0) (hc0 : l0.length ≤ c0) (hr1 : Kd.C (Kd.int .i64) w A1 l1.length l1) (hc1 : l1.length ≤ c1) (B : Nat) (hBc : w.cell? ⟨B, 0, none⟩ = some (.slice A1 l1.length c1)) (h : slices_IndexFunc_ap.f k l0 l1 = some r) :
  Calls Try.prog 95 #[.slice A0 l0.length c0, .func (.func 84) #[] #[.pointer (some ⟨B, 0, none⟩)]] w fun e w' => e = .returned (.int .i64 r) ∧ Drawn0 w w' := by
 have HBc := am hBc
 clear hBc
 have HR0 := am hr0
 have HC0 := am hc0
 clear hr0 hc0
 have HR1 := am hr1
 have HC1 := am hc1
 clear hr1 hc1
 have H : (slices_IndexFunc_ap.l0 k l0 l1 (l0.length : Int) 0) = some r := h
 clear h
 have H' := am H
 clear H
 go_enter Try.func95, Try.ntmps95
 go_wp2
 go_loopg [8] k (fun kq v8 w' => ∃ (x8_1 : Int), v8 = .int .i64 x8_1 ∧ Aside0 (slices_IndexFunc_ap.l0 kq l0 l1 (l0.length : Int) x8_1 = some r) ∧ Aside0 (kq ≤ k) ∧ Drawn0 w w')
 case atStart => exact ⟨(0), rfx, H', ⟨Nat.le_refl _⟩, by repeat (first | exact Drawn0.refl _ | apply Drawn0.step)⟩
 case round =>
  clear H'
  try clear c1
  try clear p2
  obtain ⟨x8_1, rfl, HA, HK1, ⟨m1, rfl⟩⟩ := hrel
  cases gk with
  | zero => exact absurd HA.out (by simp [slices_IndexFunc_ap.l0])
  | succ k1 =>
   have H := HA.out
   clear HA
   simp only [slices_IndexFunc_ap.l0] at H
   by_cases c3 : x8_1 < (l0.length : Int)
   ·rw [if_pos c3] at H
    have c3b0 : decide (x8_1 < (l0.length : Int)) = true := decide_eq_true c3
    clear c3
    by_cases c4 : 0 ≤ x8_1
    ·rw [if_pos c4] at H
     have c4b0 : decide (0 ≤ x8_1) = true := decide_eq_true c4
     clear c4
     by_cases c5 : x8_1 < (l0.length : Int)
     ·rw [if_pos c5] at H
      have c5b0 : decide (x8_1 < (l0.length : Int)) = true := decide_eq_true c5
      clear c5
      replace H := Option.bind_eq_some_iff.mp H
      obtain ⟨t143, A60, H⟩ := H
      replace H : (if t143 = true then (some x8_1) else (slices_IndexFunc_ap.l0 k1 l0 l1 (l0.length : Int) (wrap64 (x8_1 + 1)))) = some r := H
      have A6 := am A60
      clear A60
      by_cases c7 : t143 = true
      ·subst c7
       replace H : (some x8_1) = some r := by rw [if_pos rfl] at H; exact H
       obtain rfl := Option.some.inj H
       have p142 : 0 ≤ (x8_1 : Int) := ofd
       have q142 : x8_1 < (l0.length : Int) := ofd
       obtain ⟨ad142, e142, hx142_0⟩ := Kd.at_int HR0.out x8_1 p142 q142
       cases e142
       replace p142 := eq_true p142
       replace q142 := eq_true q142
       go_wp2_with (first | (go_at_call 84; (with_reducible refine (impl_apart_1.calls k1 (rd l0 x8_1) _ _ l1 true B _ (by first | exact HBc.out | exact cell_dr HBc.out) ?side1 ?side2 A6.out).mono ?_); (case side1 => exact pkC HR1.out); (case side2 => exact HC1.out); rintro e w' ⟨rfl, ⟨nd, rfl⟩⟩))
       go_ret
       exact ⟨by first | rfl | (simp; done) | (simp [*]; done), by repeat (first | exact Drawn0.refl _ | apply Drawn0.step)⟩
      ·replace c7 := Bool.eq_false_iff.mpr c7
       subst c7
       replace H : (slices_IndexFunc_ap.l0 k1 l0 l1 (l0.length : Int) (wrap64 (x8_1 + 1))) = some r := by rw [if_neg (show ¬ (false = true) by decide)] at H; exact H
       have H' := am H
       clear H
       have p142 : 0 ≤ (x8_1 : Int) := ofd
       have q142 : x8_1 < (l0.length : Int) := ofd
       obtain ⟨ad142, e142, hx142_0⟩ := Kd.at_int HR0.out x8_1 p142 q142
       cases e142
       replace p142 := eq_true p142
       replace q142 := eq_true q142
       go_wp2_with (first | (go_at_call 84; (with_reducible refine (impl_apart_1.calls k1 (rd l0 x8_1) _ _ l1 false B _ (by first | exact HBc.out | exact cell_dr HBc.out) ?side1 ?side2 A6.out).mono ?_); (case side1 => exact pkC HR1.out); (case side2 => exact HC1.out); rintro e w' ⟨rfl, ⟨nd, rfl⟩⟩))
       go_roundg k1
       case measure => have := HK1.out; omega
       case rel => exact ⟨(wrap64 (x8_1 + 1)), rfx, H', ⟨by have := HK1.out; omega⟩, by repeat (first | exact Drawn0.refl _ | apply Drawn0.step)⟩
     ·rw [if_neg c5] at H
      exact absurd H (by simp)
    ·rw [if_neg c4] at H
     exact absurd H (by simp)
   ·rw [if_neg c3] at H
    have c3b0 : decide (x8_1 < (l0.length : Int)) = false := decide_eq_false c3
    clear c3
    obtain rfl := Option.some.inj H
    go_wp2
    go_ret
    exact ⟨by first | rfl | (simp; done) | (simp [*]; done), by repeat (first | exact Drawn0.refl _ | apply Drawn0.step)⟩
def slices_ContainsFunc_ap.f (k : Nat) (l0 : List Int) (l1 : List Int) : Option (Bool) := (slices_IndexFunc_ap.f k l0 l1).bind fun t144 => (some (decide (t144 ≥ 0)))
theorem slices_ContainsFunc_ap.mono : ∀ a0 a1 k, LeO (slices_ContainsFunc_ap.f k a0 a1) (slices_ContainsFunc_ap.f (k + 1) a0 a1) := by
 intro a0 a1 k
 unfold slices_ContainsFunc_ap.f
 repeat' first
   | (with_reducible exact slices_IndexFunc_ap.mono _ _ _)
   | (with_reducible exact LeO.refl _)
   | (with_reducible exact LeO.none _)
   | (with_reducible refine LeO.ite ?_ ?_)
   | (with_reducible refine LeO.bind ?_ (fun _ => ?_))
set_option maxHeartbeats 8000000 in
set_option maxRecDepth 100000 in
theorem slices_ContainsFunc_ap.calls (k : Nat) (A0 : Option Addr) (c0 : Nat) (l0 : List Int) (A1 : Option Addr) (c1 : Nat) (l1 : List Int) (r : Bool) (w : World) (hr0 : Kd.C (Kd.int .i64) w A0 l0.length l0) (hc0 : l0.length ≤ c0) (hr1 : Kd.C (Kd.int .i64) w A1 l1.length l1) (hc1 : l1.length ≤ c1) (B : Nat) (hBc : w.cell? ⟨B, 0, none⟩ = some (.slice A1 l1.length c1)) (h : slices_ContainsFunc_ap.f k l0 l1 = some r) :
  Calls Try.prog 83 #[.slice A0 l0.length c0, .func (.func 84) #[] #[.pointer (some ⟨B, 0, none⟩)]] w fun e w' => e = .returned (.bool r) ∧ Drawn0 w w' := by
 have HBc := am hBc
 clear hBc
 have HR0 := am hr0
 have HC0 := am hc0
 clear hr0 hc0
 have HR1 := am hr1
 have HC1 := am hc1
 clear hr1 hc1
 have H : ((slices_IndexFunc_ap.f k l0 l1).bind fun t144 => (some (decide (t144 ≥ 0)))) = some r := h
 clear h
 replace H := Option.bind_eq_some_iff.mp H
 obtain ⟨t144, A30, H⟩ := H
 replace H : (some (decide (t144 ≥ 0))) = some r := H
 have A3 := am A30
 clear A30
 obtain rfl := Option.some.inj H
 go_enter Try.func83, Try.ntmps83
 go_wp2_with (first | ((with_reducible refine gate_callee (f := 95) rfl ?_); refine goesL_ (some 7) rfl rfl Try.func95 (by kernel_rfl) rfl #[.slice A0 l0.length c0, .func (.func 84) #[] #[.pointer (some ⟨B, 0, none⟩)]] rfl mpx ?_; (with_reducible refine (slices_IndexFunc_ap.calls k _ _ l0 _ _ l1 t144 _ ?side1 ?side2 ?side3 ?side4 B (by first | exact HBc.out | exact cell_dr HBc.out) A3.out).mono ?_); (case side1 => exact pkC HR0.out); (case side2 => exact HC0.out); (case side3 => exact pkC HR1.out); (case side4 => exact HC1.out); rintro e w' ⟨rfl, ⟨nd, rfl⟩⟩; refine ⟨_, rfl, ?_⟩))
 go_ret
 exact ⟨by first | rfl | (simp; done) | (simp [*]; done), by repeat (first | exact Drawn0.refl _ | apply Drawn0.step)⟩
def impl_apart.f (k : Nat) (l0 : List Int) (l1 : List Int) : Option (Bool) := (impl_LineOk.f k l0).bind fun b0 => (if b0 = true then ((impl_clientsOk.f k l1).bind fun b1 => (if b1 = true then ((slices_ContainsFunc_ap.f k l1 l0).bind fun b2 => (some (!b2))) else (some false))) else (some false))
theorem impl_apart.mono : ∀ a0 a1 k, LeO (impl_apart.f k a0 a1) (impl_apart.f (k + 1) a0 a1) := by
 intro a0 a1 k
 unfold impl_apart.f
 repeat' first
   | (with_reducible exact impl_LineOk.mono _ _)
   | (with_reducible exact impl_clientsOk.mono _ _)
   | (with_reducible exact slices_ContainsFunc_ap.mono _ _ _)
   | (with_reducible exact LeO.refl _)
   | (with_reducible exact LeO.none _)
   | (with_reducible refine LeO.ite ?_ ?_)
   | (with_reducible refine LeO.bind ?_ (fun _ => ?_))
set_option maxHeartbeats 8000000 in
set_option maxRecDepth 100000 in
theorem impl_apart.calls (k : Nat) (A0 : Option Addr) (c0 : Nat) (l0 : List Int) (A1 : Option Addr) (c1 : Nat) (l1 : List Int) (r : Bool) (w : World) (hr0 : Kd.C (Kd.int .i64) w A0 l0.length l0) (hc0 : l0.length ≤ c0) (hr1 : Kd.C (Kd.int .i64) w A1 l1.length l1) (hc1 : l1.length ≤ c1) (h : impl_apart.f k l0 l1 = some r) :
  Calls Try.prog 54 #[.slice A0 l0.length c0, .slice A1 l1.length c1] w fun e w' => e = .returned (.bool r) ∧ Below w.heap.size w w' := by
 have HR0 := am hr0
 have HC0 := am hc0
 have HR1 := am hr1
 have HC1 := am hc1
 obtain ⟨b0, h1, h⟩ := Option.bind_eq_some_iff.mp h
 clear hr0 hc0 hr1 hc1
 cases b0 with
 | false =>
  have A1 := am h1
  obtain rfl : false = r := by simpa using h
  clear h h1
  go_enter Try.func54, Try.ntmps54
  go_wp2_with (first | (go_at_call 81; (with_reducible refine (impl_LineOk.calls k _ _ l0 false _ ?side1 ?side2 A1.out).mono ?_); (case side1 => exact pkC HR0.out); (case side2 => exact HC0.out); rintro e w' ⟨rfl, ⟨nd0, rfl⟩⟩))
  go_ret
  exact ⟨by first | rfl | (simp; done), by repeat (first | exact Below.refl _ _ | apply below_alloc | apply pw_below_drewN)⟩
 | true =>
  have A1 := am h1
  rw [if_pos rfl] at h
  obtain ⟨b1, h2, h⟩ := Option.bind_eq_some_iff.mp h
  cases b1 with
  | false =>
   have A2 := am h2
   obtain rfl : false = r := by simpa using h
   clear h h1 h2
   go_enter Try.func54, Try.ntmps54
   go_wp2_with (first | (go_at_call 81; (with_reducible refine (impl_LineOk.calls k _ _ l0 true _ ?side1 ?side2 A1.out).mono ?_); (case side1 => exact pkC HR0.out); (case side2 => exact HC0.out); rintro e w' ⟨rfl, ⟨nd0, rfl⟩⟩) | (go_at_call 82; (with_reducible refine (impl_clientsOk.calls k _ _ l1 false _ ?side1 ?side2 A2.out).mono ?_); (case side1 => exact pkC HR1.out); (case side2 => exact HC1.out); rintro e w' ⟨rfl, ⟨nd1, rfl⟩⟩))
   go_ret
   exact ⟨by first | rfl | (simp; done), by repeat (first | exact Below.refl _ _ | apply below_alloc | apply pw_below_drewN)⟩
  | true =>
   have A2 := am h2
   rw [if_pos rfl] at h
   obtain ⟨b2, h3, h⟩ := Option.bind_eq_some_iff.mp h
   have A3 := am h3
   obtain rfl := Option.some.inj h
   clear h h1 h2 h3
   go_enter Try.func54, Try.ntmps54
   go_wp2_with (first | (go_at_call 81; (with_reducible refine (impl_LineOk.calls k _ _ l0 true _ ?side1 ?side2 A1.out).mono ?_); (case side1 => exact pkC HR0.out); (case side2 => exact HC0.out); rintro e w' ⟨rfl, ⟨nd0, rfl⟩⟩) | (go_at_call 82; (with_reducible refine (impl_clientsOk.calls k _ _ l1 true _ ?side1 ?side2 A2.out).mono ?_); (case side1 => exact pkC HR1.out); (case side2 => exact HC1.out); rintro e w' ⟨rfl, ⟨nd1, rfl⟩⟩) | (go_at_call 83; (with_reducible refine (slices_ContainsFunc_ap.calls k _ _ l1 A0 c0 l0 b2 _ ?side1 ?side2 ?side3 ?side4 w.heap.size ?side5 A3.out).mono ?_); (case side5 => first | (simp; done) | (refine cell_dr ?_; simp; done) | (refine cell_dr (cell_dr ?_); simp; done)); (case side1 => exact pkC HR1.out); (case side2 => exact HC1.out); (case side3 => exact pkC HR0.out); (case side4 => exact HC0.out); rintro e w' ⟨rfl, ⟨nd2, rfl⟩⟩))
   go_ret
   exact ⟨by first | rfl | (simp; done), by repeat (first | exact Below.refl _ _ | apply below_alloc | apply pw_below_drewN)⟩
end Go.Proofs.Ytdagpmnadapbjaa.Z
