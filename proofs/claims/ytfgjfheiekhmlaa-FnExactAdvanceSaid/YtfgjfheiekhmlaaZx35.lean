/- The Go functions laws_FnExactAdvance as Lean functions, each with a proof that its code comes to just these answers; conditions: those of each theorem. -/
import Derived.Test.YtfgjfheiekhmlaaZx0
import Derived.Test.YtfgjfheiekhmlaaZx2
import Derived.Test.YtfgjfheiekhmlaaZx4
import Derived.Test.YtfgjfheiekhmlaaZx8
import Derived.Test.YtfgjfheiekhmlaaZx12
import Derived.Test.YtfgjfheiekhmlaaZx13
import Derived.Test.YtfgjfheiekhmlaaZx21
import Derived.Test.YtfgjfheiekhmlaaZx22
import Derived.Test.YtfgjfheiekhmlaaZx26
import Derived.Test.YtfgjfheiekhmlaaZx27
namespace Go.Proofs.Ytfgjfheiekhmlaa.Z
open Go.RowKit Go.Proofs.YtfgjfheiekhmlaaW.PrintWords Go.Proofs.YtfgjfheiekhmlaaW.PrintLast Go.Proofs.YtfgjfheiekhmlaaW.PrintMore
attribute [local go_sem] max2_int min2_int max_two min_two max_three min_three max_four min_four   -- for this text's walks alone
set_option linter.unusedVariables false
set_option linter.unusedSimpArgs false
mutual
def laws_FnExactAdvance.j0 : Nat → Int → List Int → Int → List Int → Int → Bool → Int → List (S68) → Int → List (S46) → Int → List (S46) → Int → List (S46) → Option (Bool)
 | 0, _, _, _, _, _, _, _, _, _, _, _, _, _, _ => none
 | k + 1, x1, x7, x8, x11, x12, x55, x522000, x522001, x536000, x536001, x541000, x541001, x550000, x550001 => if x55 = true then (some false) else ((laws_toClock.f k x522000 x522001).bind fun bt552 => ((laws_eqClock.f k x541000 x541001 bt552.1 bt552.2).bind fun t556 => (if t556 = true then ((laws_markClock.f k x541000 x541001 1).bind fun bt557 => (if bt557.1 < 0 then (laws_FnExactAdvance.j1 k x1 x7 x8 x11 true x522000 x522001 x536000 x536001 x550000 x550001) else ((laws_eqClock.f k x550000 x550001 x536000 x536001).bind fun t559 => (if t559 = true then ((laws_eqIntS.f k x11 x7).bind fun t560 => (if t560 = true then (laws_FnExactAdvance.j1 k x1 x7 x8 x11 (x12 != x8) x522000 x522001 x536000 x536001 x550000 x550001) else (laws_FnExactAdvance.j1 k x1 x7 x8 x11 true x522000 x522001 x536000 x536001 x550000 x550001))) else (laws_FnExactAdvance.j1 k x1 x7 x8 x11 true x522000 x522001 x536000 x536001 x550000 x550001))))) else (some false))))
def laws_FnExactAdvance.j1 : Nat → Int → List Int → Int → List Int → Bool → Int → List (S68) → Int → List (S46) → Int → List (S46) → Option (Bool)
 | 0, _, _, _, _, _, _, _, _, _, _, _ => none
 | k + 1, x1, x7, x8, x11, x82, x522000, x522001, x536000, x536001, x550000, x550001 => if x82 = true then (some false) else ((laws_markClock.f k x550000 x550001 1).bind fun bt561 => ((laws_markIntS.f k x11 bt561.1).bind fun bt563 => ((laws_heldClock.f k x550000 bt561.2 1).bind fun t565 => (if t565 < 0 then (some false) else ((laws_heldIntS.f k bt563.2 t565).bind fun t566 => (if t566 < 0 then (some false) else (if t566 = bt563.1 then ((laws_toClock.f k x522000 x522001).bind fun bt567 => ((impl_Advance.f k bt567.1 bt567.2 x1).bind fun bt571 => ((laws_eqClock.f k bt571.1 bt571.2.1 x536000 x536001).bind fun t580 => (if t580 = true then ((laws_eqIntS.f k bt571.2.2.1 x7).bind fun t581 => (if t581 = true then (laws_FnExactAdvance.j2 k bt563.2 bt563.1 (bt571.2.2.2 != x8) x550000 bt561.2) else (laws_FnExactAdvance.j2 k bt563.2 bt563.1 true x550000 bt561.2))) else (laws_FnExactAdvance.j2 k bt563.2 bt563.1 true x550000 bt561.2))))) else (some false))))))))
def laws_FnExactAdvance.j2 : Nat → List Int → Int → Bool → Int → List (S46) → Option (Bool)
 | 0, _, _, _, _, _ => none
 | k + 1, x11, x14, x124, x550000, x550001 => if x124 = true then (some false) else ((laws_heldClock.f k x550000 x550001 1).bind fun t582 => (if t582 < 0 then (some false) else ((laws_heldIntS.f k x11 t582).bind fun t583 => (if t583 < 0 then (some false) else (if t583 = x14 then (some true) else (some false))))))
end
def laws_FnExactAdvance.f (k : Nat) (a0_0 : Int) (l0_1 : List (S68)) (a1 : Int) : Option (Bool) := (laws_szClock.f a0_0 l0_1 1048576).bind fun t522 => (if t522 < 0 then (some true) else ((laws_toClock.f k a0_0 l0_1).bind fun bt523 => ((spec_Advance.f k bt523.1 bt523.2 a1).bind fun bt527 => ((laws_toClock.f k a0_0 l0_1).bind fun bt536 => ((impl_Advance.f k bt536.1 bt536.2 a1).bind fun bt541 => ((laws_eqClock.f k bt541.1 bt541.2.1 bt527.1 bt527.2.1).bind fun t550 => (if t550 = true then ((laws_eqIntS.f k bt541.2.2.1 bt527.2.2.1).bind fun t551 => (if t551 = true then (laws_FnExactAdvance.j0 k a1 bt527.2.2.1 bt527.2.2.2 bt541.2.2.1 bt541.2.2.2 (bt541.2.2.2 != bt527.2.2.2) a0_0 l0_1 bt527.1 bt527.2.1 bt536.1 bt536.2 bt541.1 bt541.2.1) else (laws_FnExactAdvance.j0 k a1 bt527.2.2.1 bt527.2.2.2 bt541.2.2.1 bt541.2.2.2 true a0_0 l0_1 bt527.1 bt527.2.1 bt536.1 bt536.2 bt541.1 bt541.2.1))) else (laws_FnExactAdvance.j0 k a1 bt527.2.2.1 bt527.2.2.2 bt541.2.2.1 bt541.2.2.2 true a0_0 l0_1 bt527.1 bt527.2.1 bt536.1 bt536.2 bt541.1 bt541.2.1))))))))
theorem laws_FnExactAdvance.mono_l : ∀ k, (∀ y0 y1 y2 y3 y4 y5 y6 y7 y8 y9 y10 y11 y12 y13, LeO (laws_FnExactAdvance.j0 k y0 y1 y2 y3 y4 y5 y6 y7 y8 y9 y10 y11 y12 y13) (laws_FnExactAdvance.j0 (k + 1) y0 y1 y2 y3 y4 y5 y6 y7 y8 y9 y10 y11 y12 y13)) ∧ (∀ y0 y1 y2 y3 y4 y5 y6 y7 y8 y9 y10, LeO (laws_FnExactAdvance.j1 k y0 y1 y2 y3 y4 y5 y6 y7 y8 y9 y10) (laws_FnExactAdvance.j1 (k + 1) y0 y1 y2 y3 y4 y5 y6 y7 y8 y9 y10)) ∧ (∀ y0 y1 y2 y3 y4, LeO (laws_FnExactAdvance.j2 k y0 y1 y2 y3 y4) (laws_FnExactAdvance.j2 (k + 1) y0 y1 y2 y3 y4))
 | 0 => ⟨fun _ _ _ _ _ _ _ _ _ _ _ _ _ _ r h => by simp [laws_FnExactAdvance.j0] at h, fun _ _ _ _ _ _ _ _ _ _ _ r h => by simp [laws_FnExactAdvance.j1] at h, fun _ _ _ _ _ r h => by simp [laws_FnExactAdvance.j2] at h⟩
 | k + 1 => by
  obtain ⟨ih0, ih1, ih2⟩ := laws_FnExactAdvance.mono_l k
  refine ⟨?_, ?_, ?_⟩
  ·intro y0 y1 y2 y3 y4 y5 y6 y7 y8 y9 y10 y11 y12 y13
   unfold laws_FnExactAdvance.j0
   repeat' first
   | (with_reducible exact ih0 _ _ _ _ _ _ _ _ _ _ _ _ _ _)
   | (with_reducible exact ih1 _ _ _ _ _ _ _ _ _ _ _)
   | (with_reducible exact ih2 _ _ _ _ _)
   | (with_reducible exact impl_Advance.mono _ _ _ _)
   | (with_reducible exact laws_eqClock.mono _ _ _ _ _)
   | (with_reducible exact laws_eqIntS.mono _ _ _)
   | (with_reducible exact laws_heldClock.mono _ _ _ _)
   | (with_reducible exact laws_heldIntS.mono _ _ _)
   | (with_reducible exact laws_markClock.mono _ _ _ _)
   | (with_reducible exact laws_markIntS.mono _ _ _)
   | (with_reducible exact laws_toClock.mono _ _ _)
   | (with_reducible exact spec_Advance.mono _ _ _ _)
   | (with_reducible exact LeO.refl _)
   | (with_reducible exact LeO.none _)
   | (with_reducible refine LeO.ite ?_ ?_)
   | (with_reducible refine LeO.bind ?_ (fun _ => ?_))
  ·intro y0 y1 y2 y3 y4 y5 y6 y7 y8 y9 y10
   unfold laws_FnExactAdvance.j1
   repeat' first
   | (with_reducible exact ih0 _ _ _ _ _ _ _ _ _ _ _ _ _ _)
   | (with_reducible exact ih1 _ _ _ _ _ _ _ _ _ _ _)
   | (with_reducible exact ih2 _ _ _ _ _)
   | (with_reducible exact impl_Advance.mono _ _ _ _)
   | (with_reducible exact laws_eqClock.mono _ _ _ _ _)
   | (with_reducible exact laws_eqIntS.mono _ _ _)
   | (with_reducible exact laws_heldClock.mono _ _ _ _)
   | (with_reducible exact laws_heldIntS.mono _ _ _)
   | (with_reducible exact laws_markClock.mono _ _ _ _)
   | (with_reducible exact laws_markIntS.mono _ _ _)
   | (with_reducible exact laws_toClock.mono _ _ _)
   | (with_reducible exact spec_Advance.mono _ _ _ _)
   | (with_reducible exact LeO.refl _)
   | (with_reducible exact LeO.none _)
   | (with_reducible refine LeO.ite ?_ ?_)
   | (with_reducible refine LeO.bind ?_ (fun _ => ?_))
  ·intro y0 y1 y2 y3 y4
   unfold laws_FnExactAdvance.j2
   repeat' first
   | (with_reducible exact ih0 _ _ _ _ _ _ _ _ _ _ _ _ _ _)
   | (with_reducible exact ih1 _ _ _ _ _ _ _ _ _ _ _)
   | (with_reducible exact ih2 _ _ _ _ _)
   | (with_reducible exact impl_Advance.mono _ _ _ _)
   | (with_reducible exact laws_eqClock.mono _ _ _ _ _)
   | (with_reducible exact laws_eqIntS.mono _ _ _)
   | (with_reducible exact laws_heldClock.mono _ _ _ _)
   | (with_reducible exact laws_heldIntS.mono _ _ _)
   | (with_reducible exact laws_markClock.mono _ _ _ _)
   | (with_reducible exact laws_markIntS.mono _ _ _)
   | (with_reducible exact laws_toClock.mono _ _ _)
   | (with_reducible exact spec_Advance.mono _ _ _ _)
   | (with_reducible exact LeO.refl _)
   | (with_reducible exact LeO.none _)
   | (with_reducible refine LeO.ite ?_ ?_)
   | (with_reducible refine LeO.bind ?_ (fun _ => ?_))
theorem laws_FnExactAdvance.mono : ∀ a0 a1 a2 k, LeO (laws_FnExactAdvance.f k a0 a1 a2) (laws_FnExactAdvance.f (k + 1) a0 a1 a2) := by
 intro a0 a1 a2 k
 obtain ⟨ih0, ih1, ih2⟩ := laws_FnExactAdvance.mono_l k
 unfold laws_FnExactAdvance.f
 repeat' first
   | (with_reducible exact ih0 _ _ _ _ _ _ _ _ _ _ _ _ _ _)
   | (with_reducible exact ih1 _ _ _ _ _ _ _ _ _ _ _)
   | (with_reducible exact ih2 _ _ _ _ _)
   | (with_reducible exact impl_Advance.mono _ _ _ _)
   | (with_reducible exact laws_eqClock.mono _ _ _ _ _)
   | (with_reducible exact laws_eqIntS.mono _ _ _)
   | (with_reducible exact laws_heldClock.mono _ _ _ _)
   | (with_reducible exact laws_heldIntS.mono _ _ _)
   | (with_reducible exact laws_markClock.mono _ _ _ _)
   | (with_reducible exact laws_markIntS.mono _ _ _)
   | (with_reducible exact laws_toClock.mono _ _ _)
   | (with_reducible exact spec_Advance.mono _ _ _ _)
   | (with_reducible exact LeO.refl _)
   | (with_reducible exact LeO.none _)
   | (with_reducible refine LeO.ite ?_ ?_)
   | (with_reducible refine LeO.bind ?_ (fun _ => ?_))
set_option maxHeartbeats 8000000 in
set_option maxRecDepth 100000 in
theorem laws_FnExactAdvance.calls (k : Nat) (a0_0 : Int) (A0_1 : Option Addr) (c0_1 : Nat) (l0_1 : List (S68)) (a1 : Int) (r : Bool) (w : World) (hr0_1 : Kd.C k68 w A0_1 l0_1.length l0_1) (hc0_1 : l0_1.length ≤ c0_1) (HQ_ : Aside0 (r = true)) (h : laws_FnExactAdvance.f k a0_0 l0_1 a1 = some r) :
  Calls Try.prog 6 #[.agg #[.int .i64 a0_0, .slice A0_1 l0_1.length c0_1], .int .i64 a1] w fun e w' => e = .returned (.bool r) ∧ Below w.heap.size w w' := by
 have hu24 := Try.underlying24
 have hu29 := Try.underlying29
 have HR0_1 := am hr0_1
 have HC0_1 := am hc0_1
 clear hr0_1 hc0_1
 have HB := am (Below.refl w.heap.size w)
 have H : ((laws_szClock.f a0_0 l0_1 1048576).bind fun t522 => (if t522 < 0 then (some true) else ((laws_toClock.f k a0_0 l0_1).bind fun bt523 => ((spec_Advance.f k bt523.1 bt523.2 a1).bind fun bt527 => ((laws_toClock.f k a0_0 l0_1).bind fun bt536 => ((impl_Advance.f k bt536.1 bt536.2 a1).bind fun bt541 => ((laws_eqClock.f k bt541.1 bt541.2.1 bt527.1 bt527.2.1).bind fun t550 => (if t550 = true then ((laws_eqIntS.f k bt541.2.2.1 bt527.2.2.1).bind fun t551 => (if t551 = true then (laws_FnExactAdvance.j0 k a1 bt527.2.2.1 bt527.2.2.2 bt541.2.2.1 bt541.2.2.2 (bt541.2.2.2 != bt527.2.2.2) a0_0 l0_1 bt527.1 bt527.2.1 bt536.1 bt536.2 bt541.1 bt541.2.1) else (laws_FnExactAdvance.j0 k a1 bt527.2.2.1 bt527.2.2.2 bt541.2.2.1 bt541.2.2.2 true a0_0 l0_1 bt527.1 bt527.2.1 bt536.1 bt536.2 bt541.1 bt541.2.1))) else (laws_FnExactAdvance.j0 k a1 bt527.2.2.1 bt527.2.2.2 bt541.2.2.1 bt541.2.2.2 true a0_0 l0_1 bt527.1 bt527.2.1 bt536.1 bt536.2 bt541.1 bt541.2.1))))))))) = some r := h
 clear h
 replace H := Option.bind_eq_some_iff.mp H
 obtain ⟨t522, A30, H⟩ := H
 replace H : (if t522 < 0 then (some true) else ((laws_toClock.f k a0_0 l0_1).bind fun bt523 => ((spec_Advance.f k bt523.1 bt523.2 a1).bind fun bt527 => ((laws_toClock.f k a0_0 l0_1).bind fun bt536 => ((impl_Advance.f k bt536.1 bt536.2 a1).bind fun bt541 => ((laws_eqClock.f k bt541.1 bt541.2.1 bt527.1 bt527.2.1).bind fun t550 => (if t550 = true then ((laws_eqIntS.f k bt541.2.2.1 bt527.2.2.1).bind fun t551 => (if t551 = true then (laws_FnExactAdvance.j0 k a1 bt527.2.2.1 bt527.2.2.2 bt541.2.2.1 bt541.2.2.2 (bt541.2.2.2 != bt527.2.2.2) a0_0 l0_1 bt527.1 bt527.2.1 bt536.1 bt536.2 bt541.1 bt541.2.1) else (laws_FnExactAdvance.j0 k a1 bt527.2.2.1 bt527.2.2.2 bt541.2.2.1 bt541.2.2.2 true a0_0 l0_1 bt527.1 bt527.2.1 bt536.1 bt536.2 bt541.1 bt541.2.1))) else (laws_FnExactAdvance.j0 k a1 bt527.2.2.1 bt527.2.2.2 bt541.2.2.1 bt541.2.2.2 true a0_0 l0_1 bt527.1 bt527.2.1 bt536.1 bt536.2 bt541.1 bt541.2.1)))))))) = some r := H
 have A3 := am A30
 clear A30
 by_cases c4 : t522 < 0
 ·rw [if_pos c4] at H
  have c4b0 : decide (t522 < 0) = true := decide_eq_true c4
  clear c4
  obtain rfl := Option.some.inj H
  go_enter Try.func6, Try.ntmps6
  go_wp2_with (first | ((with_reducible refine gate_dst (N := 2) rfl ?_); refine box_event ?hg (N := 2) ?hd (cs := #[.int .i64 a0_0, .slice A0_1 l0_1.length c0_1]) (t := 24) ?hr ?_; (case hd => rfl); (case hg => rfl); (case hr => first | (go_simp; done) | (go_simp; rfl)); intro gb521 hg w5 hbox hb; have BK521 := am (hbox); have GW521 := am ((by rw [hg]; exact (below_size (pkB HB.out)) : w.heap.size ≤ gb521)); have GE521 := am ((by rw [hg]; exact (below_size (pkB HB.out)) : w.heap.size ≤ gb521)); replace HB := am (below_step (pkB HB.out) hb); clear hb hbox hg; obtain ⟨hcz6_0, hcz6_1, hfz6_0, hfz6_1⟩ := bk2 BK521.out) | ((with_reducible refine gate_callee (f := 9) rfl ?_); refine goesL_ (some 21) rfl rfl Try.func9 (by kernel_rfl) rfl #[.agg #[.int .i64 a0_0, .slice A0_1 l0_1.length c0_1], .int .i64 1048576] rfl mpx ?_; (with_reducible refine (laws_szClock.calls a0_0 _ _ l0_1 1048576 t522 _ ?side1 ?side2 A3.out).mono ?_); (case side1 => exact pkC (Kd.C_below HR0_1.out HB.out)); (case side2 => exact HC0_1.out); rintro e w7 ⟨rfl, hb⟩; refine ⟨_, rfl, ?_⟩; replace BK521 := am (blk_below (pkK BK521.out) hb); replace HB := am (below_step (pkW HB.out) hb); (try clear hb)))
  go_ret
  exact ⟨rfe, pkW HB.out⟩
 ·rw [if_neg c4] at H
  have c4b0 : decide (t522 < 0) = false := decide_eq_false c4
  clear c4
  replace H := Option.bind_eq_some_iff.mp H
  obtain ⟨⟨t523, t524⟩, A80, H⟩ := H
  replace H : ((spec_Advance.f k t523 t524 a1).bind fun bt527 => ((laws_toClock.f k a0_0 l0_1).bind fun bt536 => ((impl_Advance.f k bt536.1 bt536.2 a1).bind fun bt541 => ((laws_eqClock.f k bt541.1 bt541.2.1 bt527.1 bt527.2.1).bind fun t550 => (if t550 = true then ((laws_eqIntS.f k bt541.2.2.1 bt527.2.2.1).bind fun t551 => (if t551 = true then (laws_FnExactAdvance.j0 k a1 bt527.2.2.1 bt527.2.2.2 bt541.2.2.1 bt541.2.2.2 (bt541.2.2.2 != bt527.2.2.2) a0_0 l0_1 bt527.1 bt527.2.1 bt536.1 bt536.2 bt541.1 bt541.2.1) else (laws_FnExactAdvance.j0 k a1 bt527.2.2.1 bt527.2.2.2 bt541.2.2.1 bt541.2.2.2 true a0_0 l0_1 bt527.1 bt527.2.1 bt536.1 bt536.2 bt541.1 bt541.2.1))) else (laws_FnExactAdvance.j0 k a1 bt527.2.2.1 bt527.2.2.2 bt541.2.2.1 bt541.2.2.2 true a0_0 l0_1 bt527.1 bt527.2.1 bt536.1 bt536.2 bt541.1 bt541.2.1)))))) = some r := H
  have A8 := am A80
  clear A80
  replace H := Option.bind_eq_some_iff.mp H
  obtain ⟨⟨t527, t528, t531, t534⟩, A90, H⟩ := H
  replace H : ((laws_toClock.f k a0_0 l0_1).bind fun bt536 => ((impl_Advance.f k bt536.1 bt536.2 a1).bind fun bt541 => ((laws_eqClock.f k bt541.1 bt541.2.1 t527 t528).bind fun t550 => (if t550 = true then ((laws_eqIntS.f k bt541.2.2.1 t531).bind fun t551 => (if t551 = true then (laws_FnExactAdvance.j0 k a1 t531 t534 bt541.2.2.1 bt541.2.2.2 (bt541.2.2.2 != t534) a0_0 l0_1 t527 t528 bt536.1 bt536.2 bt541.1 bt541.2.1) else (laws_FnExactAdvance.j0 k a1 t531 t534 bt541.2.2.1 bt541.2.2.2 true a0_0 l0_1 t527 t528 bt536.1 bt536.2 bt541.1 bt541.2.1))) else (laws_FnExactAdvance.j0 k a1 t531 t534 bt541.2.2.1 bt541.2.2.2 true a0_0 l0_1 t527 t528 bt536.1 bt536.2 bt541.1 bt541.2.1))))) = some r := H
  have A9 := am A90
  clear A90
  replace H := Option.bind_eq_some_iff.mp H
  obtain ⟨⟨t536, t537⟩, A100, H⟩ := H
  replace H : ((impl_Advance.f k t536 t537 a1).bind fun bt541 => ((laws_eqClock.f k bt541.1 bt541.2.1 t527 t528).bind fun t550 => (if t550 = true then ((laws_eqIntS.f k bt541.2.2.1 t531).bind fun t551 => (if t551 = true then (laws_FnExactAdvance.j0 k a1 t531 t534 bt541.2.2.1 bt541.2.2.2 (bt541.2.2.2 != t534) a0_0 l0_1 t527 t528 t536 t537 bt541.1 bt541.2.1) else (laws_FnExactAdvance.j0 k a1 t531 t534 bt541.2.2.1 bt541.2.2.2 true a0_0 l0_1 t527 t528 t536 t537 bt541.1 bt541.2.1))) else (laws_FnExactAdvance.j0 k a1 t531 t534 bt541.2.2.1 bt541.2.2.2 true a0_0 l0_1 t527 t528 t536 t537 bt541.1 bt541.2.1)))) = some r := H
  have A10 := am A100
  clear A100
  replace H := Option.bind_eq_some_iff.mp H
  obtain ⟨⟨t541, t542, t545, t548⟩, A110, H⟩ := H
  replace H : ((laws_eqClock.f k t541 t542 t527 t528).bind fun t550 => (if t550 = true then ((laws_eqIntS.f k t545 t531).bind fun t551 => (if t551 = true then (laws_FnExactAdvance.j0 k a1 t531 t534 t545 t548 (t548 != t534) a0_0 l0_1 t527 t528 t536 t537 t541 t542) else (laws_FnExactAdvance.j0 k a1 t531 t534 t545 t548 true a0_0 l0_1 t527 t528 t536 t537 t541 t542))) else (laws_FnExactAdvance.j0 k a1 t531 t534 t545 t548 true a0_0 l0_1 t527 t528 t536 t537 t541 t542))) = some r := H
  have A11 := am A110
  clear A110
  have HC12 := am H
  clear H
  go_enter Try.func6, Try.ntmps6
  go_upto_region 8 with (first | ((with_reducible refine gate_dst (N := 2) rfl ?_); refine box_event ?hg (N := 2) ?hd (cs := #[.int .i64 a0_0, .slice A0_1 l0_1.length c0_1]) (t := 24) ?hr ?_; (case hd => rfl); (case hg => rfl); (case hr => first | (go_simp; done) | (go_simp; rfl)); intro gb521 hg w13 hbox hb; have BK521 := am (hbox); have GW521 := am ((by rw [hg]; exact (below_size (pkB HB.out)) : w.heap.size ≤ gb521)); have GE521 := am ((by rw [hg]; exact (below_size (pkB HB.out)) : w.heap.size ≤ gb521)); replace HB := am (below_step (pkB HB.out) hb); clear hb hbox hg; obtain ⟨hcz14_0, hcz14_1, hfz14_0, hfz14_1⟩ := bk2 BK521.out) | ((with_reducible refine gate_callee (f := 9) rfl ?_); refine goesL_ (some 21) rfl rfl Try.func9 (by kernel_rfl) rfl #[.agg #[.int .i64 a0_0, .slice A0_1 l0_1.length c0_1], .int .i64 1048576] rfl mpx ?_; (with_reducible refine (laws_szClock.calls a0_0 _ _ l0_1 1048576 t522 _ ?side1 ?side2 A3.out).mono ?_); (case side1 => exact pkC (Kd.C_below HR0_1.out HB.out)); (case side2 => exact HC0_1.out); rintro e w15 ⟨rfl, hb⟩; refine ⟨_, rfl, ?_⟩; replace BK521 := am (blk_below (pkK BK521.out) hb); replace HB := am (below_step (pkW HB.out) hb); (try clear hb); obtain ⟨hcz16_0, hcz16_1, hfz16_0, hfz16_1⟩ := bk2 BK521.out) | ((with_reducible refine gate_callee (f := 11) rfl ?_); refine goesL_ (some 26) rfl rfl Try.func11 (by kernel_rfl) rfl #[.agg #[.int .i64 a0_0, .slice A0_1 l0_1.length c0_1]] rfl mpx ?_; (with_reducible refine (laws_toClock.calls k a0_0 _ _ l0_1 t523 t524 _ ?side1 ?side2 A8.out).mono ?_); (case side1 => exact pkC (Kd.C_below HR0_1.out HB.out)); (case side2 => exact HC0_1.out); rintro e w17 ⟨v525, rfl, ho0, hb⟩; refine ⟨_, rfl, ?_⟩; have HO526 := am (Kd.R_lower ho0 (below_size (pkW HB.out))); replace BK521 := am (blk_below (pkK BK521.out) hb); replace HB := am (below_step (pkW HB.out) hb); (try clear hb ho0); obtain ⟨Ao18, co18, eo18⟩ := Kd.R_slice HO526.out; subst eo18) | ((with_reducible refine gate_callee (f := 21) rfl ?_); refine goesL_ (some 28) rfl rfl Try.func21 (by kernel_rfl) rfl #[.agg #[.int .i64 t523, .slice Ao18 t524.length co18], .int .i64 a1] rfl mpx ?_; (with_reducible refine (spec_Advance.calls k t523 _ _ t524 a1 t527 t528 t531 t534 _ ?side1 ?side2 A9.out).mono ?_); (case side1 => exact pkC (Kd.R_reads' HO526.out).2.2); (case side2 => exact (Kd.R_reads' HO526.out).2.1); rintro e w19 ⟨v529, v532, rfl, ho0, ho1, hb⟩; refine ⟨_, rfl, ?_⟩; have HO530 := am (Kd.R_lower (Kd.R_new' ho0 (Kd.R_lt (pkR HO526.out))) (below_size (pkW HB.out))); replace HO526 := am (Kd.R_elder' (pkR HO526.out) (Kd.R_base ho0) hb); have HO533 := am (Kd.R_lower ho1 (below_size (pkW HB.out))); replace BK521 := am (blk_below (pkK BK521.out) hb); replace HB := am (below_step (pkW HB.out) hb); (try clear hb ho0 ho1)) | ((with_reducible refine gate_dst (N := 6) rfl ?_); refine box_event ?hg (N := 6) ?hd (cs := #[.int .i64 0, .slice none 0 0]) (t := 29) ?hr ?_; (case hd => rfl); (case hg => rfl); (case hr => first | (go_simp; done) | (go_simp; rfl)); intro gb535 hg w20 hbox hb; replace HO526 := am (Kd.R_below (pkR HO526.out) hb); replace HO530 := am (Kd.R_below (pkR HO530.out) hb); replace HO533 := am (Kd.R_below (pkR HO533.out) hb); have BK535 := am (hbox); have GW535 := am ((by rw [hg]; exact (below_size (pkW HB.out)) : w.heap.size ≤ gb535)); have GE535 := am ((by rw [hg]; exact (below_size (pkW HB.out)) : w.heap.size ≤ gb535)); replace HB := am (below_step (pkW HB.out) hb); have NB521_535 := am ((by rw [hg]; exact Nat.ne_of_lt (blk_lt (g := gb521) (o := .cells #[.int .i64 a0_0, .slice A0_1 l0_1.length c0_1] 24 (0, 0)) (pkK BK521.out)) : gb521 ≠ gb535)); have NB535_521 := am ((by rw [hg]; exact Nat.ne_of_gt (blk_lt (g := gb521) (o := .cells #[.int .i64 a0_0, .slice A0_1 l0_1.length c0_1] 24 (0, 0)) (pkK BK521.out)) : gb535 ≠ gb521)); replace BK521 := am (blk_below (pkK BK521.out) hb); clear hb hbox hg; have hnb21 := NB535_521.out; have hnc21 := NB521_535.out; obtain ⟨hcz22_0, hcz22_1, hfz22_0, hfz22_1⟩ := bk2 BK535.out; obtain ⟨Ao23, co23, eo23⟩ := Kd.R_slice HO530.out; subst eo23; obtain ⟨hcz24_0, hcz24_1, hfz24_0, hfz24_1⟩ := bk2 BK521.out) | ((with_reducible refine gate_callee (f := 11) rfl ?_); refine goesL_ (some 33) rfl rfl Try.func11 (by kernel_rfl) rfl #[.agg #[.int .i64 a0_0, .slice A0_1 l0_1.length c0_1]] rfl mpx ?_; (with_reducible refine (laws_toClock.calls k a0_0 _ _ l0_1 t536 t537 _ ?side1 ?side2 A10.out).mono ?_); (case side1 => exact Kd.C_below HR0_1.out (pkW HB.out)); (case side2 => exact HC0_1.out); rintro e w25 ⟨v538, rfl, ho0, hb⟩; refine ⟨_, rfl, ?_⟩; replace HO533 := am (Kd.R_below (by (with_reducible repeat (first | apply Kd.R_alloc | apply Kd.R_drewN | apply Kd.R_drew)); exact (Kd.R_mono (Kd.R_far (p := ⟨gb535, 1, none⟩) (Kd.R_far (p := ⟨gb535, 0, none⟩) (Kd.R_types HO533.out BK535.out (by decide)) (fun _ hk => hk.2) (.int .i64 t527)) (fun _ hk => hk.2) (.slice Ao23 t528.length co23)) (fun _ h_ => h_.1))) hb); have HO539 := am (Kd.R_lower (Kd.R_new' (Kd.R_new' ho0 (Kd.R_lt (by (with_reducible repeat (first | apply Kd.R_alloc | apply Kd.R_drewN | apply Kd.R_drew)); exact (Kd.R_mono (Kd.R_far (p := ⟨gb535, 1, none⟩) (Kd.R_far (p := ⟨gb535, 0, none⟩) (Kd.R_types HO526.out BK535.out (by decide)) (fun _ hk => hk.2) (.int .i64 t527)) (fun _ hk => hk.2) (.slice Ao23 t528.length co23)) (fun _ h_ => h_.1))))) (Kd.R_lt (by (with_reducible repeat (first | apply Kd.R_alloc | apply Kd.R_drewN | apply Kd.R_drew)); exact (Kd.R_mono (Kd.R_far (p := ⟨gb535, 1, none⟩) (Kd.R_far (p := ⟨gb535, 0, none⟩) (Kd.R_types HO530.out BK535.out (by decide)) (fun _ hk => hk.2) (.int .i64 t527)) (fun _ hk => hk.2) (.slice Ao23 t528.length co23)) (fun _ h_ => h_.1))))) (below_size (pkW HB.out))); replace HO526 := am (Kd.R_elder' (by (with_reducible repeat (first | apply Kd.R_alloc | apply Kd.R_drewN | apply Kd.R_drew)); exact (Kd.R_mono (Kd.R_far (p := ⟨gb535, 1, none⟩) (Kd.R_far (p := ⟨gb535, 0, none⟩) (Kd.R_types HO526.out BK535.out (by decide)) (fun _ hk => hk.2) (.int .i64 t527)) (fun _ hk => hk.2) (.slice Ao23 t528.length co23)) (fun _ h_ => h_.1))) (Kd.R_base ho0) hb); replace HO530 := am (Kd.R_elder' (by (with_reducible repeat (first | apply Kd.R_alloc | apply Kd.R_drewN | apply Kd.R_drew)); exact (Kd.R_mono (Kd.R_far (p := ⟨gb535, 1, none⟩) (Kd.R_far (p := ⟨gb535, 0, none⟩) (Kd.R_types HO530.out BK535.out (by decide)) (fun _ hk => hk.2) (.int .i64 t527)) (fun _ hk => hk.2) (.slice Ao23 t528.length co23)) (fun _ h_ => h_.1))) (Kd.R_base ho0) hb); replace BK521 := am (blk_below (g := gb521) (o := .cells #[.int .i64 a0_0, .slice A0_1 l0_1.length c0_1] 24 (0, 0)) (by (with_reducible repeat (first | refine blk_drewN ?_ _ | refine blk_drew ?_ | refine blk_alloc ?_ _)); refine blk_far ?_ NB521_535.out _; (with_reducible repeat (first | refine blk_drewN ?_ _ | refine blk_drew ?_ | refine blk_alloc ?_ _)); refine blk_far ?_ NB521_535.out _; exact pkK BK521.out) hb); replace BK535 := am (blk_below (g := gb535) (o := .cells #[.int .i64 t527, .slice Ao23 t528.length co23] 29 (0, 0)) (by (with_reducible repeat (first | refine blk_drewN ?_ _ | refine blk_drew ?_ | refine blk_alloc ?_ _)); refine blk_put (cs := #[.int .i64 t527, .slice none 0 0]) ?_ 1 _ rfl; (with_reducible repeat (first | refine blk_drewN ?_ _ | refine blk_drew ?_ | refine blk_alloc ?_ _)); refine blk_put (cs := #[.int .i64 0, .slice none 0 0]) ?_ 0 _ rfl; exact pkK BK535.out) hb); replace HB := am (below_step (pkW HB.out) hb); (try clear hb ho0)) | ((with_reducible refine gate_dst (N := 9) rfl ?_); refine box_event ?hg (N := 9) ?hd (cs := #[.int .i64 0, .slice none 0 0]) (t := 29) ?hr ?_; (case hd => rfl); (case hg => rfl); (case hr => first | (go_simp; done) | (go_simp; rfl)); intro gb540 hg w26 hbox hb; replace HO526 := am (Kd.R_below (pkR HO526.out) hb); replace HO530 := am (Kd.R_below (pkR HO530.out) hb); replace HO533 := am (Kd.R_below (pkR HO533.out) hb); replace HO539 := am (Kd.R_below (pkR HO539.out) hb); have BK540 := am (hbox); have GW540 := am ((by rw [hg]; exact (below_size (pkW HB.out)) : w.heap.size ≤ gb540)); have GE540 := am ((by rw [hg]; exact (below_size (pkW HB.out)) : w.heap.size ≤ gb540)); replace HB := am (below_step (pkW HB.out) hb); have NB521_540 := am ((by rw [hg]; exact Nat.ne_of_lt (blk_lt (g := gb521) (o := .cells #[.int .i64 a0_0, .slice A0_1 l0_1.length c0_1] 24 (0, 0)) (pkK BK521.out)) : gb521 ≠ gb540)); have NB540_521 := am ((by rw [hg]; exact Nat.ne_of_gt (blk_lt (g := gb521) (o := .cells #[.int .i64 a0_0, .slice A0_1 l0_1.length c0_1] 24 (0, 0)) (pkK BK521.out)) : gb540 ≠ gb521)); replace BK521 := am (blk_below (pkK BK521.out) hb); have NB535_540 := am ((by rw [hg]; exact Nat.ne_of_lt (blk_lt (g := gb535) (o := .cells #[.int .i64 t527, .slice Ao23 t528.length co23] 29 (0, 0)) (pkK BK535.out)) : gb535 ≠ gb540)); have NB540_535 := am ((by rw [hg]; exact Nat.ne_of_gt (blk_lt (g := gb535) (o := .cells #[.int .i64 t527, .slice Ao23 t528.length co23] 29 (0, 0)) (pkK BK535.out)) : gb540 ≠ gb535)); replace BK535 := am (blk_below (pkK BK535.out) hb); clear hb hbox hg; have hnb27 := NB540_521.out; have hnc27 := NB521_540.out; have hnb28 := NB540_535.out; have hnc28 := NB535_540.out; obtain ⟨hcz29_0, hcz29_1, hfz29_0, hfz29_1⟩ := bk2 BK540.out; obtain ⟨Ao30, co30, eo30⟩ := Kd.R_slice HO539.out; subst eo30) | ((with_reducible refine gate_callee (f := 20) rfl ?_); refine goesL_ (some 37) rfl rfl Try.func20 (by kernel_rfl) rfl #[.agg #[.int .i64 t536, .slice Ao30 t537.length co30], .int .i64 a1] rfl mpx ?_; (with_reducible refine (impl_Advance.calls k t536 _ _ t537 a1 t541 t542 t545 t548 _ ?side1 ?side2 A11.out).mono ?_); (case side1 => refine (Kd.R_reads' (e := 46) (base := w.heap.size) (ok := fun k_ => ((True ∧ some k_ ≠ (.slice Ao18 t524.length co18 : Value).ownBlock) ∧ some k_ ≠ (.slice Ao23 t528.length co23 : Value).ownBlock)) (n := t537.length) (c := co30) ?_).2.2; exact (by (with_reducible repeat (first | apply Kd.R_alloc | apply Kd.R_drewN | apply Kd.R_drew)); exact (Kd.R_mono (Kd.R_far (p := ⟨gb540, 1, none⟩) (Kd.R_far (p := ⟨gb540, 0, none⟩) (Kd.R_types HO539.out BK540.out (by decide)) (fun _ hk => hk.2) (.int .i64 t536)) (fun _ hk => hk.2) (.slice Ao30 t537.length co30)) (fun _ h_ => h_.1)))); (case side2 => exact (Kd.R_reads' HO539.out).2.1); rintro e w31 ⟨v543, v546, rfl, ho0, ho1, hb⟩; refine ⟨_, rfl, ?_⟩; have HO544 := am (Kd.Q_lower (Kd.Q_new' (Kd.Q_new' (Kd.Q_new' ho0 (Kd.R_lt (by (with_reducible repeat (first | apply Kd.R_alloc | apply Kd.R_drewN | apply Kd.R_drew)); exact (Kd.R_mono (Kd.R_far (p := ⟨gb540, 1, none⟩) (Kd.R_far (p := ⟨gb540, 0, none⟩) (Kd.R_types HO526.out BK540.out (by decide)) (fun _ hk => hk.2) (.int .i64 t536)) (fun _ hk => hk.2) (.slice Ao30 t537.length co30)) (fun _ h_ => h_.1))))) (Kd.R_lt (by (with_reducible repeat (first | apply Kd.R_alloc | apply Kd.R_drewN | apply Kd.R_drew)); exact (Kd.R_mono (Kd.R_far (p := ⟨gb540, 1, none⟩) (Kd.R_far (p := ⟨gb540, 0, none⟩) (Kd.R_types HO530.out BK540.out (by decide)) (fun _ hk => hk.2) (.int .i64 t536)) (fun _ hk => hk.2) (.slice Ao30 t537.length co30)) (fun _ h_ => h_.1))))) (Kd.R_lt (by (with_reducible repeat (first | apply Kd.R_alloc | apply Kd.R_drewN | apply Kd.R_drew)); exact (Kd.R_mono (Kd.R_far (p := ⟨gb540, 1, none⟩) (Kd.R_far (p := ⟨gb540, 0, none⟩) (Kd.R_types HO539.out BK540.out (by decide)) (fun _ hk => hk.2) (.int .i64 t536)) (fun _ hk => hk.2) (.slice Ao30 t537.length co30)) (fun _ h_ => h_.1))))) (below_size (pkW HB.out))); replace HO526 := am (Kd.R_elder' (by (with_reducible repeat (first | apply Kd.R_alloc | apply Kd.R_drewN | apply Kd.R_drew)); exact (Kd.R_mono (Kd.R_far (p := ⟨gb540, 1, none⟩) (Kd.R_far (p := ⟨gb540, 0, none⟩) (Kd.R_types HO526.out BK540.out (by decide)) (fun _ hk => hk.2) (.int .i64 t536)) (fun _ hk => hk.2) (.slice Ao30 t537.length co30)) (fun _ h_ => h_.1))) (Kd.Q_base ho0) hb); replace HO530 := am (Kd.R_elder' (by (with_reducible repeat (first | apply Kd.R_alloc | apply Kd.R_drewN | apply Kd.R_drew)); exact (Kd.R_mono (Kd.R_far (p := ⟨gb540, 1, none⟩) (Kd.R_far (p := ⟨gb540, 0, none⟩) (Kd.R_types HO530.out BK540.out (by decide)) (fun _ hk => hk.2) (.int .i64 t536)) (fun _ hk => hk.2) (.slice Ao30 t537.length co30)) (fun _ h_ => h_.1))) (Kd.Q_base ho0) hb); replace HO539 := am (Kd.R_elder' (by (with_reducible repeat (first | apply Kd.R_alloc | apply Kd.R_drewN | apply Kd.R_drew)); exact (Kd.R_mono (Kd.R_far (p := ⟨gb540, 1, none⟩) (Kd.R_far (p := ⟨gb540, 0, none⟩) (Kd.R_types HO539.out BK540.out (by decide)) (fun _ hk => hk.2) (.int .i64 t536)) (fun _ hk => hk.2) (.slice Ao30 t537.length co30)) (fun _ h_ => h_.1))) (Kd.Q_base ho0) hb); have HO547 := am (Kd.R_lower (Kd.R_new' ho1 (Kd.R_lt (by (with_reducible repeat (first | apply Kd.R_alloc | apply Kd.R_drewN | apply Kd.R_drew)); exact (Kd.R_mono (Kd.R_far (p := ⟨gb540, 1, none⟩) (Kd.R_far (p := ⟨gb540, 0, none⟩) (Kd.R_types HO533.out BK540.out (by decide)) (fun _ hk => hk.2) (.int .i64 t536)) (fun _ hk => hk.2) (.slice Ao30 t537.length co30)) (fun _ h_ => h_.1))))) (below_size (pkW HB.out))); replace HO533 := am (Kd.R_elder' (by (with_reducible repeat (first | apply Kd.R_alloc | apply Kd.R_drewN | apply Kd.R_drew)); exact (Kd.R_mono (Kd.R_far (p := ⟨gb540, 1, none⟩) (Kd.R_far (p := ⟨gb540, 0, none⟩) (Kd.R_types HO533.out BK540.out (by decide)) (fun _ hk => hk.2) (.int .i64 t536)) (fun _ hk => hk.2) (.slice Ao30 t537.length co30)) (fun _ h_ => h_.1))) (Kd.R_base ho1) hb); replace BK521 := am (blk_below (g := gb521) (o := .cells #[.int .i64 a0_0, .slice A0_1 l0_1.length c0_1] 24 (0, 0)) (by (with_reducible repeat (first | refine blk_drewN ?_ _ | refine blk_drew ?_ | refine blk_alloc ?_ _)); refine blk_far ?_ NB521_540.out _; (with_reducible repeat (first | refine blk_drewN ?_ _ | refine blk_drew ?_ | refine blk_alloc ?_ _)); refine blk_far ?_ NB521_540.out _; exact pkK BK521.out) hb); replace BK535 := am (blk_below (g := gb535) (o := .cells #[.int .i64 t527, .slice Ao23 t528.length co23] 29 (0, 0)) (by (with_reducible repeat (first | refine blk_drewN ?_ _ | refine blk_drew ?_ | refine blk_alloc ?_ _)); refine blk_far ?_ NB535_540.out _; (with_reducible repeat (first | refine blk_drewN ?_ _ | refine blk_drew ?_ | refine blk_alloc ?_ _)); refine blk_far ?_ NB535_540.out _; exact pkK BK535.out) hb); replace BK540 := am (blk_below (g := gb540) (o := .cells #[.int .i64 t536, .slice Ao30 t537.length co30] 29 (0, 0)) (by (with_reducible repeat (first | refine blk_drewN ?_ _ | refine blk_drew ?_ | refine blk_alloc ?_ _)); refine blk_put (cs := #[.int .i64 t536, .slice none 0 0]) ?_ 1 _ rfl; (with_reducible repeat (first | refine blk_drewN ?_ _ | refine blk_drew ?_ | refine blk_alloc ?_ _)); refine blk_put (cs := #[.int .i64 0, .slice none 0 0]) ?_ 0 _ rfl; exact pkK BK540.out) hb); replace HB := am (below_step (pkW HB.out) hb); (try clear hb ho0 ho1)) | ((with_reducible refine gate_dst (N := 10) rfl ?_); refine box_event ?hg (N := 10) ?hd (cs := #[.int .i64 0, .slice none 0 0]) (t := 29) ?hr ?_; (case hd => rfl); (case hg => rfl); (case hr => first | (go_simp; done) | (go_simp; rfl)); intro gb549 hg w32 hbox hb; replace HO526 := am (Kd.R_below (pkR HO526.out) hb); replace HO530 := am (Kd.R_below (pkR HO530.out) hb); replace HO533 := am (Kd.R_below (pkR HO533.out) hb); replace HO539 := am (Kd.R_below (pkR HO539.out) hb); replace HO544 := am (Kd.Q_below (pkQ HO544.out) hb); replace HO547 := am (Kd.R_below (pkR HO547.out) hb); have BK549 := am (hbox); have GW549 := am ((by rw [hg]; exact (below_size (pkW HB.out)) : w.heap.size ≤ gb549)); have GE549 := am ((by rw [hg]; exact (below_size (pkW HB.out)) : w.heap.size ≤ gb549)); replace HB := am (below_step (pkW HB.out) hb); have NB521_549 := am ((by rw [hg]; exact Nat.ne_of_lt (blk_lt (g := gb521) (o := .cells #[.int .i64 a0_0, .slice A0_1 l0_1.length c0_1] 24 (0, 0)) (pkK BK521.out)) : gb521 ≠ gb549)); have NB549_521 := am ((by rw [hg]; exact Nat.ne_of_gt (blk_lt (g := gb521) (o := .cells #[.int .i64 a0_0, .slice A0_1 l0_1.length c0_1] 24 (0, 0)) (pkK BK521.out)) : gb549 ≠ gb521)); replace BK521 := am (blk_below (pkK BK521.out) hb); have NB535_549 := am ((by rw [hg]; exact Nat.ne_of_lt (blk_lt (g := gb535) (o := .cells #[.int .i64 t527, .slice Ao23 t528.length co23] 29 (0, 0)) (pkK BK535.out)) : gb535 ≠ gb549)); have NB549_535 := am ((by rw [hg]; exact Nat.ne_of_gt (blk_lt (g := gb535) (o := .cells #[.int .i64 t527, .slice Ao23 t528.length co23] 29 (0, 0)) (pkK BK535.out)) : gb549 ≠ gb535)); replace BK535 := am (blk_below (pkK BK535.out) hb); have NB540_549 := am ((by rw [hg]; exact Nat.ne_of_lt (blk_lt (g := gb540) (o := .cells #[.int .i64 t536, .slice Ao30 t537.length co30] 29 (0, 0)) (pkK BK540.out)) : gb540 ≠ gb549)); have NB549_540 := am ((by rw [hg]; exact Nat.ne_of_gt (blk_lt (g := gb540) (o := .cells #[.int .i64 t536, .slice Ao30 t537.length co30] 29 (0, 0)) (pkK BK540.out)) : gb549 ≠ gb540)); replace BK540 := am (blk_below (pkK BK540.out) hb); clear hb hbox hg; have hnb33 := NB549_521.out; have hnc33 := NB521_549.out; have hnb34 := NB549_535.out; have hnc34 := NB535_549.out; have hnb35 := NB549_540.out; have hnc35 := NB540_549.out; obtain ⟨hcz36_0, hcz36_1, hfz36_0, hfz36_1⟩ := bk2 BK549.out; obtain ⟨Ao37, co37, eo37, _⟩ := Kd.Q_slice HO544.out; subst eo37))
  (try simp only [Act.put, List.setIfInBounds_toArray, List.set_cons_zero, List.set_cons_succ])
  go_cut [55] (fun v55 wc => ∃ (kq : Nat) (x55_11 : Bool), v55 = .bool x55_11 ∧ Aside0 (laws_FnExactAdvance.j0 kq a1 t531 t534 t545 t548 x55_11 a0_0 l0_1 t527 t528 t536 t537 t541 t542 = some r) ∧ Aside0 (kq ≤ k) ∧ Aside0 (Kd.R (Kd.int .i64) 3 wc w.heap.size (fun k_ => some k_ ≠ (v546 : Value).ownBlock) v532 t531) ∧ Aside0 (Kd.R (Kd.int .i64) 3 wc w.heap.size (fun k_ => some k_ ≠ (v532 : Value).ownBlock) v546 t545) ∧ Aside0 (Kd.Q k46 46 wc w.heap.size (fun k_ => some k_ ≠ ((.slice Ao30 t537.length co30) : Value).ownBlock ∧ some k_ ≠ ((.slice Ao37 t542.length co37) : Value).ownBlock) (.slice Ao23 t528.length co23) t528) ∧ Aside0 (Kd.Q k46 46 wc w.heap.size (fun k_ => some k_ ≠ ((.slice Ao23 t528.length co23) : Value).ownBlock ∧ some k_ ≠ ((.slice Ao37 t542.length co37) : Value).ownBlock) (.slice Ao30 t537.length co30) t537) ∧ Aside0 (Kd.Q k46 46 wc w.heap.size (fun k_ => some k_ ≠ ((.slice Ao23 t528.length co23) : Value).ownBlock ∧ some k_ ≠ ((.slice Ao30 t537.length co30) : Value).ownBlock) (.slice Ao37 t542.length co37) t542) ∧ Aside0 (wc.heap[gb521]? = some (.cells #[.int .i64 a0_0, (.slice A0_1 l0_1.length c0_1)] 24 (0, 0))) ∧ Aside0 (wc.heap[gb535]? = some (.cells #[.int .i64 t527, (.slice Ao23 t528.length co23)] 29 (0, 0))) ∧ Aside0 (wc.heap[gb540]? = some (.cells #[.int .i64 t536, (.slice Ao30 t537.length co30)] 29 (0, 0))) ∧ Aside0 (wc.heap[gb549]? = some (.cells #[.int .i64 t541, (.slice Ao37 t542.length co37)] 29 (0, 0))) ∧ Aside0 (Below w.heap.size w wc))
  case first =>
   have H := HC12.out
   clear HC12
   replace H := Option.bind_eq_some_iff.mp H
   obtain ⟨t550, A380, H⟩ := H
   replace H : (if t550 = true then ((laws_eqIntS.f k t545 t531).bind fun t551 => (if t551 = true then (laws_FnExactAdvance.j0 k a1 t531 t534 t545 t548 (t548 != t534) a0_0 l0_1 t527 t528 t536 t537 t541 t542) else (laws_FnExactAdvance.j0 k a1 t531 t534 t545 t548 true a0_0 l0_1 t527 t528 t536 t537 t541 t542))) else (laws_FnExactAdvance.j0 k a1 t531 t534 t545 t548 true a0_0 l0_1 t527 t528 t536 t537 t541 t542)) = some r := H
   have A38 := am A380
   clear A380
   by_cases c39 : t550 = true
   ·subst c39
    replace H : ((laws_eqIntS.f k t545 t531).bind fun t551 => (if t551 = true then (laws_FnExactAdvance.j0 k a1 t531 t534 t545 t548 (t548 != t534) a0_0 l0_1 t527 t528 t536 t537 t541 t542) else (laws_FnExactAdvance.j0 k a1 t531 t534 t545 t548 true a0_0 l0_1 t527 t528 t536 t537 t541 t542))) = some r := by rw [if_pos rfl] at H; exact H
    replace H := Option.bind_eq_some_iff.mp H
    obtain ⟨t551, A400, H⟩ := H
    replace H : (if t551 = true then (laws_FnExactAdvance.j0 k a1 t531 t534 t545 t548 (t548 != t534) a0_0 l0_1 t527 t528 t536 t537 t541 t542) else (laws_FnExactAdvance.j0 k a1 t531 t534 t545 t548 true a0_0 l0_1 t527 t528 t536 t537 t541 t542)) = some r := H
    have A40 := am A400
    clear A400
    by_cases c41 : t551 = true
    ·subst c41
     replace H : (laws_FnExactAdvance.j0 k a1 t531 t534 t545 t548 (t548 != t534) a0_0 l0_1 t527 t528 t536 t537 t541 t542) = some r := by rw [if_pos rfl] at H; exact H
     have H' := am H
     clear H
     have hnb42 := NB549_521.out
     have hnc42 := NB521_549.out
     have hnb43 := NB549_535.out
     have hnc43 := NB535_549.out
     have hnb44 := NB549_540.out
     have hnc44 := NB540_549.out
     obtain ⟨hcz45_0, hcz45_1, hfz45_0, hfz45_1⟩ := bk2 BK549.out
     have hnb46 := NB535_521.out
     have hnc46 := NB521_535.out
     have hnb47 := NB535_540.out
     have hnc47 := NB540_535.out
     obtain ⟨hcz48_0, hcz48_1, hfz48_0, hfz48_1⟩ := bk2 BK535.out
     go_wp2_with (first | ((with_reducible refine gate_callee (f := 13) rfl ?_); refine goesL_ (some 43) rfl rfl Try.func13 (by kernel_rfl) rfl #[.agg #[.int .i64 t541, .slice Ao37 t542.length co37], .agg #[.int .i64 t527, .slice Ao23 t528.length co23]] rfl mpx ?_; (with_reducible refine (laws_eqClock.calls k t541 _ _ t542 t527 _ _ t528 true _ ?side1 ?side2 ?side3 ?side4 A38.out).mono ?_); (case side1 => refine (Kd.Q_reads' (e := 46) (base := w.heap.size) (ok := fun k_ => (((True ∧ some k_ ≠ (.slice Ao18 t524.length co18 : Value).ownBlock) ∧ some k_ ≠ (.slice Ao23 t528.length co23 : Value).ownBlock) ∧ some k_ ≠ (.slice Ao30 t537.length co30 : Value).ownBlock)) (n := t542.length) (c := co37) ?_).2.2; exact (by (with_reducible repeat (first | apply Kd.Q_alloc | apply Kd.Q_drewN | apply Kd.Q_drew)); exact (Kd.Q_mono (Kd.Q_far (p := ⟨gb549, 1, none⟩) (Kd.Q_far (p := ⟨gb549, 0, none⟩) (Kd.Q_types HO544.out BK549.out (by decide)) (fun _ hk => hk.2) (.int .i64 t541)) (fun _ hk => hk.2) (.slice Ao37 t542.length co37)) (fun _ h_ => h_.1)))); (case side2 => exact (Kd.Q_reads' HO544.out).2.1); (case side3 => refine (Kd.R_reads' (e := 46) (base := w.heap.size) (ok := fun k_ => (((True ∧ some k_ ≠ (.slice Ao18 t524.length co18 : Value).ownBlock) ∧ some k_ ≠ (.slice Ao30 t537.length co30 : Value).ownBlock) ∧ some k_ ≠ (.slice Ao37 t542.length co37 : Value).ownBlock)) (n := t528.length) (c := co23) ?_).2.2; exact (by (with_reducible repeat (first | apply Kd.R_alloc | apply Kd.R_drewN | apply Kd.R_drew)); exact (Kd.R_mono (Kd.R_far (p := ⟨gb549, 1, none⟩) (Kd.R_far (p := ⟨gb549, 0, none⟩) (Kd.R_types HO530.out BK549.out (by decide)) (fun _ hk => hk.2) (.int .i64 t541)) (fun _ hk => hk.2) (.slice Ao37 t542.length co37)) (fun _ h_ => h_.1)))); (case side4 => exact (Kd.R_reads' HO530.out).2.1); rintro e w49 ⟨rfl, hb⟩; refine ⟨_, rfl, ?_⟩; replace HO526 := am (Kd.R_below (by (with_reducible repeat (first | apply Kd.R_alloc | apply Kd.R_drewN | apply Kd.R_drew)); exact (Kd.R_mono (Kd.R_far (p := ⟨gb549, 1, none⟩) (Kd.R_far (p := ⟨gb549, 0, none⟩) (Kd.R_types HO526.out BK549.out (by decide)) (fun _ hk => hk.2) (.int .i64 t541)) (fun _ hk => hk.2) (.slice Ao37 t542.length co37)) (fun _ h_ => h_.1))) hb); replace HO530 := am (Kd.R_below (by (with_reducible repeat (first | apply Kd.R_alloc | apply Kd.R_drewN | apply Kd.R_drew)); exact (Kd.R_mono (Kd.R_far (p := ⟨gb549, 1, none⟩) (Kd.R_far (p := ⟨gb549, 0, none⟩) (Kd.R_types HO530.out BK549.out (by decide)) (fun _ hk => hk.2) (.int .i64 t541)) (fun _ hk => hk.2) (.slice Ao37 t542.length co37)) (fun _ h_ => h_.1))) hb); replace HO533 := am (Kd.R_below (by (with_reducible repeat (first | apply Kd.R_alloc | apply Kd.R_drewN | apply Kd.R_drew)); exact (Kd.R_mono (Kd.R_far (p := ⟨gb549, 1, none⟩) (Kd.R_far (p := ⟨gb549, 0, none⟩) (Kd.R_types HO533.out BK549.out (by decide)) (fun _ hk => hk.2) (.int .i64 t541)) (fun _ hk => hk.2) (.slice Ao37 t542.length co37)) (fun _ h_ => h_.1))) hb); replace HO539 := am (Kd.R_below (by (with_reducible repeat (first | apply Kd.R_alloc | apply Kd.R_drewN | apply Kd.R_drew)); exact (Kd.R_mono (Kd.R_far (p := ⟨gb549, 1, none⟩) (Kd.R_far (p := ⟨gb549, 0, none⟩) (Kd.R_types HO539.out BK549.out (by decide)) (fun _ hk => hk.2) (.int .i64 t541)) (fun _ hk => hk.2) (.slice Ao37 t542.length co37)) (fun _ h_ => h_.1))) hb); replace HO544 := am (Kd.Q_below (by (with_reducible repeat (first | apply Kd.Q_alloc | apply Kd.Q_drewN | apply Kd.Q_drew)); exact (Kd.Q_mono (Kd.Q_far (p := ⟨gb549, 1, none⟩) (Kd.Q_far (p := ⟨gb549, 0, none⟩) (Kd.Q_types HO544.out BK549.out (by decide)) (fun _ hk => hk.2) (.int .i64 t541)) (fun _ hk => hk.2) (.slice Ao37 t542.length co37)) (fun _ h_ => h_.1))) hb); replace HO547 := am (Kd.R_below (by (with_reducible repeat (first | apply Kd.R_alloc | apply Kd.R_drewN | apply Kd.R_drew)); exact (Kd.R_mono (Kd.R_far (p := ⟨gb549, 1, none⟩) (Kd.R_far (p := ⟨gb549, 0, none⟩) (Kd.R_types HO547.out BK549.out (by decide)) (fun _ hk => hk.2) (.int .i64 t541)) (fun _ hk => hk.2) (.slice Ao37 t542.length co37)) (fun _ h_ => h_.1))) hb); replace BK521 := am (blk_below (g := gb521) (o := .cells #[.int .i64 a0_0, .slice A0_1 l0_1.length c0_1] 24 (0, 0)) (by (with_reducible repeat (first | refine blk_drewN ?_ _ | refine blk_drew ?_ | refine blk_alloc ?_ _)); refine blk_far ?_ NB521_549.out _; (with_reducible repeat (first | refine blk_drewN ?_ _ | refine blk_drew ?_ | refine blk_alloc ?_ _)); refine blk_far ?_ NB521_549.out _; exact pkK BK521.out) hb); replace BK535 := am (blk_below (g := gb535) (o := .cells #[.int .i64 t527, .slice Ao23 t528.length co23] 29 (0, 0)) (by (with_reducible repeat (first | refine blk_drewN ?_ _ | refine blk_drew ?_ | refine blk_alloc ?_ _)); refine blk_far ?_ NB535_549.out _; (with_reducible repeat (first | refine blk_drewN ?_ _ | refine blk_drew ?_ | refine blk_alloc ?_ _)); refine blk_far ?_ NB535_549.out _; exact pkK BK535.out) hb); replace BK540 := am (blk_below (g := gb540) (o := .cells #[.int .i64 t536, .slice Ao30 t537.length co30] 29 (0, 0)) (by (with_reducible repeat (first | refine blk_drewN ?_ _ | refine blk_drew ?_ | refine blk_alloc ?_ _)); refine blk_far ?_ NB540_549.out _; (with_reducible repeat (first | refine blk_drewN ?_ _ | refine blk_drew ?_ | refine blk_alloc ?_ _)); refine blk_far ?_ NB540_549.out _; exact pkK BK540.out) hb); replace BK549 := am (blk_below (g := gb549) (o := .cells #[.int .i64 t541, .slice Ao37 t542.length co37] 29 (0, 0)) (by (with_reducible repeat (first | refine blk_drewN ?_ _ | refine blk_drew ?_ | refine blk_alloc ?_ _)); refine blk_put (cs := #[.int .i64 t541, .slice none 0 0]) ?_ 1 _ rfl; (with_reducible repeat (first | refine blk_drewN ?_ _ | refine blk_drew ?_ | refine blk_alloc ?_ _)); refine blk_put (cs := #[.int .i64 0, .slice none 0 0]) ?_ 0 _ rfl; exact pkK BK549.out) hb); replace HB := am (below_step (pkW HB.out) hb); (try clear hb); obtain ⟨Ao50, co50, eo50⟩ := Kd.R_slice HO547.out; subst eo50; obtain ⟨Ao51, co51, eo51⟩ := Kd.R_slice HO533.out; subst eo51) | (go_at_call 25; (with_reducible refine (laws_eqIntS.calls k _ _ t545 _ _ t531 true _ ?side1 ?side2 ?side3 ?side4 A40.out).mono ?_); (case side1 => exact pkC (Kd.R_reads' HO547.out).2.2); (case side2 => exact (Kd.R_reads' HO547.out).2.1); (case side3 => exact pkC (Kd.R_reads' HO533.out).2.2); (case side4 => exact (Kd.R_reads' HO533.out).2.1); rintro e w' ⟨rfl, ⟨nd, rfl⟩⟩))
     go_meet
     case rel => exact ⟨_, ((t548 != t534)), rfx, H', ⟨by first | omega | exact Nat.le_refl _⟩, ⟨by (with_reducible repeat (first | apply Kd.R_alloc | apply Kd.R_drewN | apply Kd.R_drew)); exact Kd.R_mono HO533.out (fun _ hk => hk.2)⟩, ⟨by (with_reducible repeat (first | apply Kd.R_alloc | apply Kd.R_drewN | apply Kd.R_drew)); exact Kd.R_mono HO547.out (fun _ hk => hk.2)⟩, ⟨Kd.Q_of_R (by (with_reducible repeat (first | apply Kd.R_alloc | apply Kd.R_drewN | apply Kd.R_drew)); exact Kd.R_mono HO530.out (fun _ hk => ⟨hk.1.2, hk.2⟩))⟩, ⟨Kd.Q_of_R (by (with_reducible repeat (first | apply Kd.R_alloc | apply Kd.R_drewN | apply Kd.R_drew)); exact Kd.R_mono HO539.out (fun _ hk => ⟨hk.1.2, hk.2⟩))⟩, ⟨by (with_reducible repeat (first | apply Kd.Q_alloc | apply Kd.Q_drewN | apply Kd.Q_drew)); exact Kd.Q_mono HO544.out (fun _ hk => ⟨hk.1.2, hk.2⟩)⟩, ⟨pkK BK521.out⟩, ⟨pkK BK535.out⟩, ⟨pkK BK540.out⟩, ⟨pkK BK549.out⟩, ⟨pkW HB.out⟩⟩
    ·replace c41 := Bool.eq_false_iff.mpr c41
     subst c41
     replace H : (laws_FnExactAdvance.j0 k a1 t531 t534 t545 t548 true a0_0 l0_1 t527 t528 t536 t537 t541 t542) = some r := by rw [if_neg (show ¬ (false = true) by decide)] at H; exact H
     cases k with
     | zero => exact absurd H (by simp [laws_FnExactAdvance.j0])
     | succ k_ => (simp only [laws_FnExactAdvance.j0, if_pos] at H; exact absurd (Option.some.inj H) (by rw [HQ_.out]; simp))
   ·replace c39 := Bool.eq_false_iff.mpr c39
    subst c39
    replace H : (laws_FnExactAdvance.j0 k a1 t531 t534 t545 t548 true a0_0 l0_1 t527 t528 t536 t537 t541 t542) = some r := by rw [if_neg (show ¬ (false = true) by decide)] at H; exact H
    cases k with
    | zero => exact absurd H (by simp [laws_FnExactAdvance.j0])
    | succ k_ => (simp only [laws_FnExactAdvance.j0, if_pos] at H; exact absurd (Option.some.inj H) (by rw [HQ_.out]; simp))
  case rest =>
   clear HC12
   try clear c1
   try clear c2
   try clear p2
   try clear c3
   try clear c4
   try clear c4b0
   try clear c6
   try clear c9
   try clear c11
   try clear c13
   try clear c20
   try clear c21
   try clear c27
   try clear c28
   try clear c33
   try clear c34
   try clear c35
   try clear c39
   try clear c41
   try clear c42
   try clear c43
   try clear c44
   try clear c46
   try clear c47
   try clear hcz14_0
   try clear hcz14_1
   try clear hcz16_0
   try clear hcz16_1
   try clear hcz22_0
   try clear hcz22_1
   try clear hcz24_0
   try clear hcz24_1
   try clear hcz29_0
   try clear hcz29_1
   try clear hcz36_0
   try clear hcz36_1
   try clear hcz45_0
   try clear hcz45_1
   try clear hcz48_0
   try clear hcz48_1
   try clear hcz6_0
   try clear hcz6_1
   try clear hfz14_0
   try clear hfz14_1
   try clear hfz16_0
   try clear hfz16_1
   try clear hfz22_0
   try clear hfz22_1
   try clear hfz24_0
   try clear hfz24_1
   try clear hfz29_0
   try clear hfz29_1
   try clear hfz36_0
   try clear hfz36_1
   try clear hfz45_0
   try clear hfz45_1
   try clear hfz48_0
   try clear hfz48_1
   try clear hfz6_0
   try clear hfz6_1
   obtain ⟨kq, x55_11, rfl, HA, HJ11, HO_7, HO_11, HO_536001, HO_541001, HO_550001, BK521, BK535, BK540, BK549, HB⟩ := hcut
   cases kq with
   | zero => exact absurd HA.out (by simp [laws_FnExactAdvance.j0])
   | succ kj11 =>
    have H := HA.out
    clear HA
    simp only [laws_FnExactAdvance.j0] at H
    by_cases c52 : x55_11 = true
    ·subst c52
     replace H : (some false) = some r := by rw [if_pos rfl] at H; exact H
     exact absurd (Option.some.inj H) (by rw [HQ_.out]; simp)
    ·replace c52 := Bool.eq_false_iff.mpr c52
     subst c52
     replace H : ((laws_toClock.f kj11 a0_0 l0_1).bind fun bt552 => ((laws_eqClock.f kj11 t536 t537 bt552.1 bt552.2).bind fun t556 => (if t556 = true then ((laws_markClock.f kj11 t536 t537 1).bind fun bt557 => (if bt557.1 < 0 then (laws_FnExactAdvance.j1 kj11 a1 t531 t534 t545 true a0_0 l0_1 t527 t528 t541 t542) else ((laws_eqClock.f kj11 t541 t542 t527 t528).bind fun t559 => (if t559 = true then ((laws_eqIntS.f kj11 t545 t531).bind fun t560 => (if t560 = true then (laws_FnExactAdvance.j1 kj11 a1 t531 t534 t545 (t548 != t534) a0_0 l0_1 t527 t528 t541 t542) else (laws_FnExactAdvance.j1 kj11 a1 t531 t534 t545 true a0_0 l0_1 t527 t528 t541 t542))) else (laws_FnExactAdvance.j1 kj11 a1 t531 t534 t545 true a0_0 l0_1 t527 t528 t541 t542))))) else (some false)))) = some r := by rw [if_neg (show ¬ (false = true) by decide)] at H; exact H
     replace H := Option.bind_eq_some_iff.mp H
     obtain ⟨⟨t552, t553⟩, A530, H⟩ := H
     replace H : ((laws_eqClock.f kj11 t536 t537 t552 t553).bind fun t556 => (if t556 = true then ((laws_markClock.f kj11 t536 t537 1).bind fun bt557 => (if bt557.1 < 0 then (laws_FnExactAdvance.j1 kj11 a1 t531 t534 t545 true a0_0 l0_1 t527 t528 t541 t542) else ((laws_eqClock.f kj11 t541 t542 t527 t528).bind fun t559 => (if t559 = true then ((laws_eqIntS.f kj11 t545 t531).bind fun t560 => (if t560 = true then (laws_FnExactAdvance.j1 kj11 a1 t531 t534 t545 (t548 != t534) a0_0 l0_1 t527 t528 t541 t542) else (laws_FnExactAdvance.j1 kj11 a1 t531 t534 t545 true a0_0 l0_1 t527 t528 t541 t542))) else (laws_FnExactAdvance.j1 kj11 a1 t531 t534 t545 true a0_0 l0_1 t527 t528 t541 t542))))) else (some false))) = some r := H
     have A53 := am A530
     clear A530
     replace H := Option.bind_eq_some_iff.mp H
     obtain ⟨t556, A540, H⟩ := H
     replace H : (if t556 = true then ((laws_markClock.f kj11 t536 t537 1).bind fun bt557 => (if bt557.1 < 0 then (laws_FnExactAdvance.j1 kj11 a1 t531 t534 t545 true a0_0 l0_1 t527 t528 t541 t542) else ((laws_eqClock.f kj11 t541 t542 t527 t528).bind fun t559 => (if t559 = true then ((laws_eqIntS.f kj11 t545 t531).bind fun t560 => (if t560 = true then (laws_FnExactAdvance.j1 kj11 a1 t531 t534 t545 (t548 != t534) a0_0 l0_1 t527 t528 t541 t542) else (laws_FnExactAdvance.j1 kj11 a1 t531 t534 t545 true a0_0 l0_1 t527 t528 t541 t542))) else (laws_FnExactAdvance.j1 kj11 a1 t531 t534 t545 true a0_0 l0_1 t527 t528 t541 t542))))) else (some false)) = some r := H
     have A54 := am A540
     clear A540
     by_cases c55 : t556 = true
     ·subst c55
      replace H : ((laws_markClock.f kj11 t536 t537 1).bind fun bt557 => (if bt557.1 < 0 then (laws_FnExactAdvance.j1 kj11 a1 t531 t534 t545 true a0_0 l0_1 t527 t528 t541 t542) else ((laws_eqClock.f kj11 t541 t542 t527 t528).bind fun t559 => (if t559 = true then ((laws_eqIntS.f kj11 t545 t531).bind fun t560 => (if t560 = true then (laws_FnExactAdvance.j1 kj11 a1 t531 t534 t545 (t548 != t534) a0_0 l0_1 t527 t528 t541 t542) else (laws_FnExactAdvance.j1 kj11 a1 t531 t534 t545 true a0_0 l0_1 t527 t528 t541 t542))) else (laws_FnExactAdvance.j1 kj11 a1 t531 t534 t545 true a0_0 l0_1 t527 t528 t541 t542))))) = some r := by rw [if_pos rfl] at H; exact H
      replace H := Option.bind_eq_some_iff.mp H
      obtain ⟨⟨t557, t558⟩, A560, H⟩ := H
      replace H : (if t557 < 0 then (laws_FnExactAdvance.j1 kj11 a1 t531 t534 t545 true a0_0 l0_1 t527 t528 t541 t542) else ((laws_eqClock.f kj11 t541 t542 t527 t528).bind fun t559 => (if t559 = true then ((laws_eqIntS.f kj11 t545 t531).bind fun t560 => (if t560 = true then (laws_FnExactAdvance.j1 kj11 a1 t531 t534 t545 (t548 != t534) a0_0 l0_1 t527 t528 t541 t542) else (laws_FnExactAdvance.j1 kj11 a1 t531 t534 t545 true a0_0 l0_1 t527 t528 t541 t542))) else (laws_FnExactAdvance.j1 kj11 a1 t531 t534 t545 true a0_0 l0_1 t527 t528 t541 t542)))) = some r := H
      have A56 := am A560
      clear A560
      have HC57 := am H
      clear H
      try go_wp2
      replace HO_7 := am (Kd.R_drew HO_7.out)
      replace HO_11 := am (Kd.R_drew HO_11.out)
      replace HO_536001 := am (Kd.Q_drew HO_536001.out)
      replace HO_541001 := am (Kd.Q_drew HO_541001.out)
      replace HO_550001 := am (Kd.Q_drew HO_550001.out)
      replace BK521 := am (blk_drew BK521.out)
      replace BK535 := am (blk_drew BK535.out)
      replace BK540 := am (blk_drew BK540.out)
      replace BK549 := am (blk_drew BK549.out)
      replace HB := am (below_drew1 HB.out)
      refine start_ (n := 5) (S := fun w' => w'.cell? ⟨gb540, 0, none⟩ = some (.int .i64 t536) ∧ w'.cell? ⟨gb540, 1, none⟩ = some (.slice Ao30 t537.length co30) ∧ w'.cell? ⟨gb521, 0, none⟩ = some (.int .i64 a0_0) ∧ w'.cell? ⟨gb521, 1, none⟩ = some (.slice A0_1 l0_1.length c0_1)) (ds := []) #[false, false, false, false, false] (by kernel_rfl) rfl rfl ⟨(blk_cell BK540.out 0).trans rfl, (blk_cell BK540.out 1).trans rfl, (blk_cell BK521.out 0).trans rfl, (blk_cell BK521.out 1).trans rfl⟩ (fun hHeld => ?_)
      generalize wc.drew = w58 at HO_7 HO_11 HO_536001 HO_541001 HO_550001 BK521 BK535 BK540 BK549 HB hHeld ⊢
      refine take_ (i := 0) (N := some 56) (v := ?_) (a' := ?_) #[true, false, false, false, false] rfl rfl (by kernel_rfl) (fun _ _ _ h => h) (Or.inl ⟨by rfl, ?_⟩) hHeld ?_ ?_
      rotate_left
      ·rintro w' ⟨s0, s1, s2, s3⟩
       go_simp
       with_reducible rfl
      rotate_left
      ·simp only [Act.put, List.setIfInBounds_toArray, List.set_cons_zero, List.set_cons_succ, i64_w, i32_w]
       rfl
      refine take_ (i := 1) (N := some 57) (v := ?_) (a' := ?_) #[true, true, false, false, false] rfl rfl (by kernel_rfl) (fun _ _ _ h => h) (Or.inl ⟨by rfl, ?_⟩) hHeld ?_ ?_
      rotate_left
      ·rintro w' ⟨s0, s1, s2, s3⟩
       go_simp
       with_reducible rfl
      rotate_left
      ·simp only [Act.put, List.setIfInBounds_toArray, List.set_cons_zero, List.set_cons_succ, i64_w, i32_w]
       rfl
      refine one_ (i := 2) (N := some 58) #[true, true, true, false, false] rfl rfl (by kernel_rfl) (by decide) (fun K hK => ?_)
      refine goes_ Try.func11 (by kernel_rfl) rfl #[.agg #[.int .i64 a0_0, .slice A0_1 l0_1.length c0_1]] (by rfl) rfl rfl mpx ?_
      with_reducible refine (laws_toClock.calls kj11 a0_0 _ _ l0_1 t552 t553 _ ?side1 ?side2 A53.out).mono ?_
      (case side1 => exact pkC (Kd.C_below HR0_1.out HB.out))
      (case side2 => exact HC0_1.out)
      rintro e w59 ⟨v554, rfl, ho0, hb⟩
      refine ⟨_, rfl, ?_⟩
      replace HO_7 := am (Kd.R_below (pkR HO_7.out) hb)
      replace HO_11 := am (Kd.R_below (pkR HO_11.out) hb)
      have HO555 := am (Kd.R_lower (Kd.R_new' (Kd.R_new' (Kd.R_new' ho0 (Kd.Q_lt (pkQ HO_536001.out))) (Kd.Q_lt (pkQ HO_541001.out))) (Kd.Q_lt (pkQ HO_550001.out))) (below_size (pkW HB.out)))
      replace HO_536001 := am (Kd.Q_elder' (pkQ HO_536001.out) (Kd.R_base ho0) hb)
      replace HO_541001 := am (Kd.Q_elder' (pkQ HO_541001.out) (Kd.R_base ho0) hb)
      replace HO_550001 := am (Kd.Q_elder' (pkQ HO_550001.out) (Kd.R_base ho0) hb)
      replace BK521 := am (blk_below (pkK BK521.out) hb)
      replace BK535 := am (blk_below (pkK BK535.out) hb)
      replace BK540 := am (blk_below (pkK BK540.out) hb)
      replace BK549 := am (blk_below (pkK BK549.out) hb)
      replace HB := am (below_step (pkW HB.out) hb)
      (try clear hb); (try clear ho0)
      obtain ⟨Ao60, co60, eo60⟩ := Kd.R_slice HO555.out
      (first | subst eo60 | (injection eo60 with f1_ f2_ f3_; have f4_ := f1_.symm; have f5_ := f3_.symm; clear f1_ f2_ f3_; subst f4_; subst f5_))
      refine hK.out _ _ ⟨(blk_cell BK540.out 0).trans rfl, (blk_cell BK540.out 1).trans rfl, (blk_cell BK521.out 0).trans rfl, (blk_cell BK521.out 1).trans rfl⟩ (fun hHeld => ?_)
      clear hK K
      refine norm_ (a' := ?_) ?_ ?_
      rotate_left
      ·show Act.put _ (some 58) _ = _
       simp only [Act.put, List.setIfInBounds_toArray, List.set_cons_zero, List.set_cons_succ, i64_w, i32_w]
       rfl
      refine one_ (i := 3) (N := some 59) #[true, true, true, true, false] rfl rfl (by kernel_rfl) (by decide) (fun K hK => ?_)
      refine goes_ Try.func13 (by kernel_rfl) rfl #[.agg #[.int .i64 t536, .slice Ao30 t537.length co30], .agg #[.int .i64 t552, .slice Ao60 t553.length co60]] (by rfl) rfl rfl mpx ?_
      with_reducible refine (laws_eqClock.calls kj11 t536 _ _ t537 t552 _ _ t553 true _ ?side1 ?side2 ?side3 ?side4 A54.out).mono ?_
      (case side1 => repeat (first | exact (Kd.Q_reads' HO_541001.out).2.2 | (with_reducible refine Kd.C_alloc ?_ _) | (with_reducible refine Kd.C_drewN ?_ _) | (with_reducible refine Kd.C_drew ?_)))
      (case side2 => exact (Kd.Q_reads' HO_541001.out).2.1)
      (case side3 => exact pkC (Kd.R_reads' HO555.out).2.2)
      (case side4 => exact (Kd.R_reads' HO555.out).2.1)
      rintro e w61 ⟨rfl, hb⟩
      refine ⟨_, rfl, ?_⟩
      replace HO_7 := am (Kd.R_below (pkR HO_7.out) hb)
      replace HO_11 := am (Kd.R_below (pkR HO_11.out) hb)
      replace HO_536001 := am (Kd.Q_below (pkQ HO_536001.out) hb)
      replace HO_541001 := am (Kd.Q_below (pkQ HO_541001.out) hb)
      replace HO_550001 := am (Kd.Q_below (pkQ HO_550001.out) hb)
      replace HO555 := am (Kd.R_below (pkR HO555.out) hb)
      replace BK521 := am (blk_below (pkK BK521.out) hb)
      replace BK535 := am (blk_below (pkK BK535.out) hb)
      replace BK540 := am (blk_below (pkK BK540.out) hb)
      replace BK549 := am (blk_below (pkK BK549.out) hb)
      replace HB := am (below_step (pkW HB.out) hb)
      (try clear hb)
      refine hK.out _ _ ⟨(blk_cell BK540.out 0).trans rfl, (blk_cell BK540.out 1).trans rfl, (blk_cell BK521.out 0).trans rfl, (blk_cell BK521.out 1).trans rfl⟩ (fun hHeld => ?_)
      clear hK K
      refine norm_ (a' := ?_) ?_ ?_
      rotate_left
      ·show Act.put _ (some 59) _ = _
       simp only [Act.put, List.setIfInBounds_toArray, List.set_cons_zero, List.set_cons_succ, i64_w, i32_w]
       rfl
      refine pure_ (i := 4) (N := some 60) (v := ?_) (a' := ?_) #[true, true, true, true, true] rfl rfl (by kernel_rfl) (fun _ _ _ h => h) (Or.inl ⟨by rfl, ?_⟩) ?_ ?_
      rotate_left
      ·intro w'
       go_simp
       with_reducible rfl
      rotate_left
      ·simp only [Act.put, List.setIfInBounds_toArray, List.set_cons_zero, List.set_cons_succ, i64_w, i32_w]
       rfl
      refine done_ (by kernel_rfl) ?_
      have hnb62 := NB540_521.out
      have hnc62 := NB521_540.out
      have hnb63 := NB540_535.out
      have hnc63 := NB535_540.out
      have hnb64 := NB540_549.out
      have hnc64 := NB549_540.out
      obtain ⟨hcz65_0, hcz65_1, hfz65_0, hfz65_1⟩ := bk2 BK540.out
      go_upto_region 14 with (first | ((with_reducible refine gate_callee (f := 16) rfl ?_); refine goesL_ (some 63) rfl rfl Try.func16 (by kernel_rfl) rfl #[.agg #[.int .i64 t536, .slice Ao30 t537.length co30], .int .i64 1] rfl mpx ?_; (with_reducible refine (laws_markClock.calls kj11 t536 (fun k_ => some k_ = (.slice Ao30 t537.length co30 : Value).ownBlock) (.slice Ao30 t537.length co30) t537 1 t557 t558 w _ ?side1 ?side2 A56.out).mono ?_); (case side1 => repeat (first | (with_reducible first | exact HB.out | apply below_alloc | apply pw_below_drewN | apply below_drew1 | refine below_set ?_ GE521.out | refine below_set ?_ GE535.out | refine below_set ?_ GE540.out | refine below_set ?_ GE549.out) | exact HB.out)); (case side2 => exact Kd.Q_tight rfl HO_541001.out); rintro e w66 ⟨rfl, hy0, hb, hkp⟩; refine ⟨_, rfl, ?_⟩; replace HO_7 := am (Kd.R_mono (ok' := fun k_ => some k_ ≠ (v546 : Value).ownBlock) (Kd.R_keptB ((Kd.R_apart' HO_7.out (Kd.Q_typed HO_541001.out) (by decide))) hkp (fun k_ hk_ hs_ => (hk_.2) hs_)) (fun k_ hk_ => hk_.1.1)); replace HO_11 := am (Kd.R_mono (ok' := fun k_ => some k_ ≠ (v532 : Value).ownBlock) (Kd.R_keptB ((Kd.R_apart' HO_11.out (Kd.Q_typed HO_541001.out) (by decide))) hkp (fun k_ hk_ hs_ => (hk_.2) hs_)) (fun k_ hk_ => hk_.1.1)); replace HO_536001 := am (Kd.Q_mono (ok' := fun k_ => some k_ ≠ (.slice Ao30 t537.length co30 : Value).ownBlock ∧ some k_ ≠ (.slice Ao37 t542.length co37 : Value).ownBlock ∧ some k_ ≠ (.slice Ao60 t553.length co60 : Value).ownBlock) (Kd.Q_keptB (HO_536001.out) hkp (fun k_ hk_ hs_ => (hk_.1.1) hs_)) (fun k_ hk_ => ⟨hk_.1.1.1, hk_.1.1.2, hk_.1.2⟩)); replace HO_550001 := am (Kd.Q_mono (ok' := fun k_ => some k_ ≠ (.slice Ao23 t528.length co23 : Value).ownBlock ∧ some k_ ≠ (.slice Ao30 t537.length co30 : Value).ownBlock ∧ some k_ ≠ (.slice Ao60 t553.length co60 : Value).ownBlock) (Kd.Q_keptB (HO_550001.out) hkp (fun k_ hk_ hs_ => (hk_.1.2) hs_)) (fun k_ hk_ => ⟨hk_.1.1.1, hk_.1.1.2, hk_.1.2⟩)); replace BK521 := am (blk_kept (pkK BK521.out) hkp (fun hs_ => (fun e_ => (Kd.Q_ne HO_541001.out BK521.out (by decide)) e_) hs_)); replace BK535 := am (blk_kept (pkK BK535.out) hkp (fun hs_ => (fun e_ => (Kd.Q_ne HO_541001.out BK535.out (by decide)) e_) hs_)); replace BK540 := am (blk_kept (pkK BK540.out) hkp (fun hs_ => (fun e_ => (Kd.Q_ne HO_541001.out BK540.out (by decide)) e_) hs_)); replace BK549 := am (blk_kept (pkK BK549.out) hkp (fun hs_ => (fun e_ => (Kd.Q_ne HO_541001.out BK549.out (by decide)) e_) hs_)); replace HO_541001 := am (Kd.Q_reok rfl hy0 (fun k_ e_ => HO_541001.out.1 k_ e_)); replace HO555 := am (Kd.R_mono (ok' := fun k_ => some k_ ≠ (.slice Ao23 t528.length co23 : Value).ownBlock ∧ some k_ ≠ (.slice Ao30 t537.length co30 : Value).ownBlock ∧ some k_ ≠ (.slice Ao37 t542.length co37 : Value).ownBlock) (Kd.R_keptB (HO555.out) hkp (fun k_ hk_ hs_ => (hk_.1.2) hs_)) (fun k_ hk_ => ⟨hk_.1.1.1.2, hk_.1.1.2, hk_.1.2⟩)); replace HB := am (hb); (try clear hb); (try clear hkp); (try clear hy0)))
      (try simp only [Act.put, List.setIfInBounds_toArray, List.set_cons_zero, List.set_cons_succ])
      go_cut [82] (fun v82 wc => ∃ (kq : Nat) (x82_56 : Bool), v82 = .bool x82_56 ∧ Aside0 (laws_FnExactAdvance.j1 kq a1 t531 t534 t545 x82_56 a0_0 l0_1 t527 t528 t541 t542 = some r) ∧ Aside0 (kq ≤ kj11) ∧ Aside0 (Kd.R (Kd.int .i64) 3 wc w.heap.size (fun k_ => some k_ ≠ (v546 : Value).ownBlock) v532 t531) ∧ Aside0 (Kd.R (Kd.int .i64) 3 wc w.heap.size (fun k_ => some k_ ≠ (v532 : Value).ownBlock) v546 t545) ∧ Aside0 (Kd.Q k46 46 wc w.heap.size (fun k_ => some k_ ≠ ((.slice Ao30 t537.length co30) : Value).ownBlock ∧ some k_ ≠ ((.slice Ao37 t542.length co37) : Value).ownBlock) (.slice Ao23 t528.length co23) t528) ∧ Aside0 (Kd.Q k46 46 wc w.heap.size (fun k_ => some k_ ≠ ((.slice Ao23 t528.length co23) : Value).ownBlock ∧ some k_ ≠ ((.slice Ao37 t542.length co37) : Value).ownBlock) (.slice Ao30 t537.length co30) t558) ∧ Aside0 (Kd.Q k46 46 wc w.heap.size (fun k_ => some k_ ≠ ((.slice Ao23 t528.length co23) : Value).ownBlock ∧ some k_ ≠ ((.slice Ao30 t537.length co30) : Value).ownBlock) (.slice Ao37 t542.length co37) t542) ∧ Aside0 (wc.heap[gb521]? = some (.cells #[.int .i64 a0_0, (.slice A0_1 l0_1.length c0_1)] 24 (0, 0))) ∧ Aside0 (wc.heap[gb535]? = some (.cells #[.int .i64 t527, (.slice Ao23 t528.length co23)] 29 (0, 0))) ∧ Aside0 (wc.heap[gb540]? = some (.cells #[.int .i64 t536, (.slice Ao30 t537.length co30)] 29 (0, 0))) ∧ Aside0 (wc.heap[gb549]? = some (.cells #[.int .i64 t541, (.slice Ao37 t542.length co37)] 29 (0, 0))) ∧ Aside0 (Below w.heap.size w wc))
      case first =>
       have H := HC57.out
       clear HC57
       by_cases c67 : t557 < 0
       ·rw [if_pos c67] at H
        have c67b0 : decide (t557 < 0) = true := decide_eq_true c67
        clear c67
        (first | rw [c67b0] | (simp only [i64_w, i32_w]; rw [c67b0]) | skip)
        cases kj11 with
        | zero => exact absurd H (by simp [laws_FnExactAdvance.j1])
        | succ k_ => (simp only [laws_FnExactAdvance.j1, if_pos] at H; exact absurd (Option.some.inj H) (by rw [HQ_.out]; simp))
       ·rw [if_neg c67] at H
        have c67b0 : decide (t557 < 0) = false := decide_eq_false c67
        clear c67
        (first | rw [c67b0] | (simp only [i64_w, i32_w]; rw [c67b0]) | skip)
        replace H := Option.bind_eq_some_iff.mp H
        obtain ⟨t559, A680, H⟩ := H
        replace H : (if t559 = true then ((laws_eqIntS.f kj11 t545 t531).bind fun t560 => (if t560 = true then (laws_FnExactAdvance.j1 kj11 a1 t531 t534 t545 (t548 != t534) a0_0 l0_1 t527 t528 t541 t542) else (laws_FnExactAdvance.j1 kj11 a1 t531 t534 t545 true a0_0 l0_1 t527 t528 t541 t542))) else (laws_FnExactAdvance.j1 kj11 a1 t531 t534 t545 true a0_0 l0_1 t527 t528 t541 t542)) = some r := H
        have A68 := am A680
        clear A680
        by_cases c69 : t559 = true
        ·subst c69
         replace H : ((laws_eqIntS.f kj11 t545 t531).bind fun t560 => (if t560 = true then (laws_FnExactAdvance.j1 kj11 a1 t531 t534 t545 (t548 != t534) a0_0 l0_1 t527 t528 t541 t542) else (laws_FnExactAdvance.j1 kj11 a1 t531 t534 t545 true a0_0 l0_1 t527 t528 t541 t542))) = some r := by rw [if_pos rfl] at H; exact H
         replace H := Option.bind_eq_some_iff.mp H
         obtain ⟨t560, A700, H⟩ := H
         replace H : (if t560 = true then (laws_FnExactAdvance.j1 kj11 a1 t531 t534 t545 (t548 != t534) a0_0 l0_1 t527 t528 t541 t542) else (laws_FnExactAdvance.j1 kj11 a1 t531 t534 t545 true a0_0 l0_1 t527 t528 t541 t542)) = some r := H
         have A70 := am A700
         clear A700
         by_cases c71 : t560 = true
         ·subst c71
          replace H : (laws_FnExactAdvance.j1 kj11 a1 t531 t534 t545 (t548 != t534) a0_0 l0_1 t527 t528 t541 t542) = some r := by rw [if_pos rfl] at H; exact H
          have H' := am H
          clear H
          have hnb72 := NB549_521.out
          have hnc72 := NB521_549.out
          have hnb73 := NB549_535.out
          have hnc73 := NB535_549.out
          have hnb74 := NB549_540.out
          have hnc74 := NB540_549.out
          obtain ⟨hcz75_0, hcz75_1, hfz75_0, hfz75_1⟩ := bk2 BK549.out
          have hnb76 := NB535_521.out
          have hnc76 := NB521_535.out
          have hnb77 := NB535_540.out
          have hnc77 := NB540_535.out
          obtain ⟨hcz78_0, hcz78_1, hfz78_0, hfz78_1⟩ := bk2 BK535.out
          go_wp2_with (first | (go_at_call 13; (with_reducible refine (laws_eqClock.calls kj11 t541 _ _ t542 t527 _ _ t528 true _ ?side1 ?side2 ?side3 ?side4 A68.out).mono ?_); (case side1 => repeat (first | exact (Kd.Q_reads' HO_550001.out).2.2 | (with_reducible refine Kd.C_alloc ?_ _) | (with_reducible refine Kd.C_drewN ?_ _) | (with_reducible refine Kd.C_drew ?_))); (case side2 => exact (Kd.Q_reads' HO_550001.out).2.1); (case side3 => repeat (first | exact (Kd.Q_reads' HO_536001.out).2.2 | (with_reducible refine Kd.C_alloc ?_ _) | (with_reducible refine Kd.C_drewN ?_ _) | (with_reducible refine Kd.C_drew ?_))); (case side4 => exact (Kd.Q_reads' HO_536001.out).2.1); rintro e w79 ⟨rfl, hb⟩; replace HO_7 := am (Kd.R_below (pkR HO_7.out) hb); replace HO_11 := am (Kd.R_below (pkR HO_11.out) hb); replace HO_536001 := am (Kd.Q_below (pkQ HO_536001.out) hb); replace HO_541001 := am (Kd.Q_below (pkQ HO_541001.out) hb); replace HO_550001 := am (Kd.Q_below (pkQ HO_550001.out) hb); replace HO555 := am (Kd.R_below (pkR HO555.out) hb); replace BK521 := am (blk_below (pkK BK521.out) hb); replace BK535 := am (blk_below (pkK BK535.out) hb); replace BK540 := am (blk_below (pkK BK540.out) hb); replace BK549 := am (blk_below (pkK BK549.out) hb); replace HB := am (below_step (pkW HB.out) hb); (try clear hb); obtain ⟨Ao80, co80, eo80⟩ := Kd.R_slice HO_11.out; subst eo80; obtain ⟨Ao81, co81, eo81⟩ := Kd.R_slice HO_7.out; subst eo81) | (go_at_call 25; (with_reducible refine (laws_eqIntS.calls kj11 _ _ t545 _ _ t531 true _ ?side1 ?side2 ?side3 ?side4 A70.out).mono ?_); (case side1 => exact pkC (Kd.R_reads' HO_11.out).2.2); (case side2 => exact (Kd.R_reads' HO_11.out).2.1); (case side3 => exact pkC (Kd.R_reads' HO_7.out).2.2); (case side4 => exact (Kd.R_reads' HO_7.out).2.1); rintro e w' ⟨rfl, ⟨nd, rfl⟩⟩))
          go_meet
          case rel => exact ⟨_, ((t548 != t534)), rfx, H', ⟨by have := HJ11.out; first | omega | exact Nat.le_refl _⟩, ⟨pkR HO_7.out⟩, ⟨pkR HO_11.out⟩, ⟨by (with_reducible repeat (first | apply Kd.Q_alloc | apply Kd.Q_drewN | apply Kd.Q_drew)); exact Kd.Q_mono HO_536001.out (fun _ hk => ⟨hk.1, hk.2.1⟩)⟩, ⟨by (with_reducible repeat (first | apply Kd.Q_alloc | apply Kd.Q_drewN | apply Kd.Q_drew)); exact Kd.Q_mono HO_541001.out (fun _ hk => ⟨hk.1.1, hk.1.2⟩)⟩, ⟨by (with_reducible repeat (first | apply Kd.Q_alloc | apply Kd.Q_drewN | apply Kd.Q_drew)); exact Kd.Q_mono HO_550001.out (fun _ hk => ⟨hk.1, hk.2.1⟩)⟩, ⟨pkK BK521.out⟩, ⟨pkK BK535.out⟩, ⟨pkK BK540.out⟩, ⟨pkK BK549.out⟩, ⟨pkW HB.out⟩⟩
         ·replace c71 := Bool.eq_false_iff.mpr c71
          subst c71
          replace H : (laws_FnExactAdvance.j1 kj11 a1 t531 t534 t545 true a0_0 l0_1 t527 t528 t541 t542) = some r := by rw [if_neg (show ¬ (false = true) by decide)] at H; exact H
          cases kj11 with
          | zero => exact absurd H (by simp [laws_FnExactAdvance.j1])
          | succ k_ => (simp only [laws_FnExactAdvance.j1, if_pos] at H; exact absurd (Option.some.inj H) (by rw [HQ_.out]; simp))
        ·replace c69 := Bool.eq_false_iff.mpr c69
         subst c69
         replace H : (laws_FnExactAdvance.j1 kj11 a1 t531 t534 t545 true a0_0 l0_1 t527 t528 t541 t542) = some r := by rw [if_neg (show ¬ (false = true) by decide)] at H; exact H
         cases kj11 with
         | zero => exact absurd H (by simp [laws_FnExactAdvance.j1])
         | succ k_ => (simp only [laws_FnExactAdvance.j1, if_pos] at H; exact absurd (Option.some.inj H) (by rw [HQ_.out]; simp))
      case rest =>
       clear HC57
       try clear c1
       try clear c2
       try clear p2
       try clear c3
       try clear c4
       try clear c4b0
       try clear c5
       try clear c6
       try clear c7
       try clear c9
       try clear c11
       try clear c13
       try clear c16
       try clear c20
       try clear c21
       try clear c27
       try clear c28
       try clear c33
       try clear c34
       try clear c35
       try clear c39
       try clear c41
       try clear c42
       try clear c43
       try clear c44
       try clear c46
       try clear c47
       try clear c52
       try clear c55
       try clear c62
       try clear c63
       try clear c64
       try clear c67
       try clear c67b0
       try clear c69
       try clear c71
       try clear c72
       try clear c73
       try clear c74
       try clear c76
       try clear c77
       try clear hcz14_0
       try clear hcz14_1
       try clear hcz16_0
       try clear hcz16_1
       try clear hcz22_0
       try clear hcz22_1
       try clear hcz24_0
       try clear hcz24_1
       try clear hcz29_0
       try clear hcz29_1
       try clear hcz36_0
       try clear hcz36_1
       try clear hcz45_0
       try clear hcz45_1
       try clear hcz48_0
       try clear hcz48_1
       try clear hcz65_0
       try clear hcz65_1
       try clear hcz6_0
       try clear hcz6_1
       try clear hcz75_0
       try clear hcz75_1
       try clear hcz78_0
       try clear hcz78_1
       try clear hfz14_0
       try clear hfz14_1
       try clear hfz16_0
       try clear hfz16_1
       try clear hfz22_0
       try clear hfz22_1
       try clear hfz24_0
       try clear hfz24_1
       try clear hfz29_0
       try clear hfz29_1
       try clear hfz36_0
       try clear hfz36_1
       try clear hfz45_0
       try clear hfz45_1
       try clear hfz48_0
       try clear hfz48_1
       try clear hfz65_0
       try clear hfz65_1
       try clear hfz6_0
       try clear hfz6_1
       try clear hfz75_0
       try clear hfz75_1
       try clear hfz78_0
       try clear hfz78_1
       try clear p2
       obtain ⟨kq, x82_56, rfl, HA, HJ56, HO_7, HO_11, HO_536001, HO_541001, HO_550001, BK521, BK535, BK540, BK549, HB⟩ := hcut
       have hl541001_56 := (Kd.Q_reads' HO_541001.out).1
       rw [hl541001_56] at HO_541001
       (try simp only [hl541001_56])
       (try simp only [hl541001_56] at BK521)
       (try simp only [hl541001_56] at BK535)
       (try simp only [hl541001_56] at BK540)
       (try simp only [hl541001_56] at BK549)
       (try simp only [hl541001_56] at HO_7)
       (try simp only [hl541001_56] at HO_11)
       (try simp only [hl541001_56] at HO_536001)
       (try simp only [hl541001_56] at HO_550001)
       cases kq with
       | zero => exact absurd HA.out (by simp [laws_FnExactAdvance.j1])
       | succ kj56 =>
        have H := HA.out
        clear HA
        simp only [laws_FnExactAdvance.j1] at H
        by_cases c82 : x82_56 = true
        ·subst c82
         replace H : (some false) = some r := by rw [if_pos rfl] at H; exact H
         exact absurd (Option.some.inj H) (by rw [HQ_.out]; simp)
        ·replace c82 := Bool.eq_false_iff.mpr c82
         subst c82
         replace H : ((laws_markClock.f kj56 t541 t542 1).bind fun bt561 => ((laws_markIntS.f kj56 t545 bt561.1).bind fun bt563 => ((laws_heldClock.f kj56 t541 bt561.2 1).bind fun t565 => (if t565 < 0 then (some false) else ((laws_heldIntS.f kj56 bt563.2 t565).bind fun t566 => (if t566 < 0 then (some false) else (if t566 = bt563.1 then ((laws_toClock.f kj56 a0_0 l0_1).bind fun bt567 => ((impl_Advance.f kj56 bt567.1 bt567.2 a1).bind fun bt571 => ((laws_eqClock.f kj56 bt571.1 bt571.2.1 t527 t528).bind fun t580 => (if t580 = true then ((laws_eqIntS.f kj56 bt571.2.2.1 t531).bind fun t581 => (if t581 = true then (laws_FnExactAdvance.j2 kj56 bt563.2 bt563.1 (bt571.2.2.2 != t534) t541 bt561.2) else (laws_FnExactAdvance.j2 kj56 bt563.2 bt563.1 true t541 bt561.2))) else (laws_FnExactAdvance.j2 kj56 bt563.2 bt563.1 true t541 bt561.2))))) else (some false)))))))) = some r := by rw [if_neg (show ¬ (false = true) by decide)] at H; exact H
         replace H := Option.bind_eq_some_iff.mp H
         obtain ⟨⟨t561, t562⟩, A830, H⟩ := H
         replace H : ((laws_markIntS.f kj56 t545 t561).bind fun bt563 => ((laws_heldClock.f kj56 t541 t562 1).bind fun t565 => (if t565 < 0 then (some false) else ((laws_heldIntS.f kj56 bt563.2 t565).bind fun t566 => (if t566 < 0 then (some false) else (if t566 = bt563.1 then ((laws_toClock.f kj56 a0_0 l0_1).bind fun bt567 => ((impl_Advance.f kj56 bt567.1 bt567.2 a1).bind fun bt571 => ((laws_eqClock.f kj56 bt571.1 bt571.2.1 t527 t528).bind fun t580 => (if t580 = true then ((laws_eqIntS.f kj56 bt571.2.2.1 t531).bind fun t581 => (if t581 = true then (laws_FnExactAdvance.j2 kj56 bt563.2 bt563.1 (bt571.2.2.2 != t534) t541 t562) else (laws_FnExactAdvance.j2 kj56 bt563.2 bt563.1 true t541 t562))) else (laws_FnExactAdvance.j2 kj56 bt563.2 bt563.1 true t541 t562))))) else (some false))))))) = some r := H
         have A83 := am A830
         clear A830
         replace H := Option.bind_eq_some_iff.mp H
         obtain ⟨⟨t563, t564⟩, A840, H⟩ := H
         replace H : ((laws_heldClock.f kj56 t541 t562 1).bind fun t565 => (if t565 < 0 then (some false) else ((laws_heldIntS.f kj56 t564 t565).bind fun t566 => (if t566 < 0 then (some false) else (if t566 = t563 then ((laws_toClock.f kj56 a0_0 l0_1).bind fun bt567 => ((impl_Advance.f kj56 bt567.1 bt567.2 a1).bind fun bt571 => ((laws_eqClock.f kj56 bt571.1 bt571.2.1 t527 t528).bind fun t580 => (if t580 = true then ((laws_eqIntS.f kj56 bt571.2.2.1 t531).bind fun t581 => (if t581 = true then (laws_FnExactAdvance.j2 kj56 t564 t563 (bt571.2.2.2 != t534) t541 t562) else (laws_FnExactAdvance.j2 kj56 t564 t563 true t541 t562))) else (laws_FnExactAdvance.j2 kj56 t564 t563 true t541 t562))))) else (some false)))))) = some r := H
         have A84 := am A840
         clear A840
         replace H := Option.bind_eq_some_iff.mp H
         obtain ⟨t565, A850, H⟩ := H
         replace H : (if t565 < 0 then (some false) else ((laws_heldIntS.f kj56 t564 t565).bind fun t566 => (if t566 < 0 then (some false) else (if t566 = t563 then ((laws_toClock.f kj56 a0_0 l0_1).bind fun bt567 => ((impl_Advance.f kj56 bt567.1 bt567.2 a1).bind fun bt571 => ((laws_eqClock.f kj56 bt571.1 bt571.2.1 t527 t528).bind fun t580 => (if t580 = true then ((laws_eqIntS.f kj56 bt571.2.2.1 t531).bind fun t581 => (if t581 = true then (laws_FnExactAdvance.j2 kj56 t564 t563 (bt571.2.2.2 != t534) t541 t562) else (laws_FnExactAdvance.j2 kj56 t564 t563 true t541 t562))) else (laws_FnExactAdvance.j2 kj56 t564 t563 true t541 t562))))) else (some false))))) = some r := H
         have A85 := am A850
         clear A850
         by_cases c86 : t565 < 0
         ·rw [if_pos c86] at H
          have c86b0 : decide (t565 < 0) = true := decide_eq_true c86
          clear c86
          exact absurd (Option.some.inj H) (by rw [HQ_.out]; simp)
         ·rw [if_neg c86] at H
          have c86b0 : decide (t565 < 0) = false := decide_eq_false c86
          clear c86
          replace H := Option.bind_eq_some_iff.mp H
          obtain ⟨t566, A870, H⟩ := H
          replace H : (if t566 < 0 then (some false) else (if t566 = t563 then ((laws_toClock.f kj56 a0_0 l0_1).bind fun bt567 => ((impl_Advance.f kj56 bt567.1 bt567.2 a1).bind fun bt571 => ((laws_eqClock.f kj56 bt571.1 bt571.2.1 t527 t528).bind fun t580 => (if t580 = true then ((laws_eqIntS.f kj56 bt571.2.2.1 t531).bind fun t581 => (if t581 = true then (laws_FnExactAdvance.j2 kj56 t564 t563 (bt571.2.2.2 != t534) t541 t562) else (laws_FnExactAdvance.j2 kj56 t564 t563 true t541 t562))) else (laws_FnExactAdvance.j2 kj56 t564 t563 true t541 t562))))) else (some false))) = some r := H
          have A87 := am A870
          clear A870
          by_cases c88 : t566 < 0
          ·rw [if_pos c88] at H
           have c88b0 : decide (t566 < 0) = true := decide_eq_true c88
           clear c88
           exact absurd (Option.some.inj H) (by rw [HQ_.out]; simp)
          ·rw [if_neg c88] at H
           have c88b0 : decide (t566 < 0) = false := decide_eq_false c88
           clear c88
           by_cases c89 : t566 = t563
           ·rw [if_pos c89] at H
            have c89b0 : (t566 == t563) = true := beq_iff_eq.mpr c89
            have c89b1 : (t566 != t563) = false := bne_eq_false_iff_eq.mpr c89
            clear c89
            replace H := Option.bind_eq_some_iff.mp H
            obtain ⟨⟨t567, t568⟩, A900, H⟩ := H
            replace H : ((impl_Advance.f kj56 t567 t568 a1).bind fun bt571 => ((laws_eqClock.f kj56 bt571.1 bt571.2.1 t527 t528).bind fun t580 => (if t580 = true then ((laws_eqIntS.f kj56 bt571.2.2.1 t531).bind fun t581 => (if t581 = true then (laws_FnExactAdvance.j2 kj56 t564 t563 (bt571.2.2.2 != t534) t541 t562) else (laws_FnExactAdvance.j2 kj56 t564 t563 true t541 t562))) else (laws_FnExactAdvance.j2 kj56 t564 t563 true t541 t562)))) = some r := H
            have A90 := am A900
            clear A900
            replace H := Option.bind_eq_some_iff.mp H
            obtain ⟨⟨t571, t572, t575, t578⟩, A910, H⟩ := H
            replace H : ((laws_eqClock.f kj56 t571 t572 t527 t528).bind fun t580 => (if t580 = true then ((laws_eqIntS.f kj56 t575 t531).bind fun t581 => (if t581 = true then (laws_FnExactAdvance.j2 kj56 t564 t563 (t578 != t534) t541 t562) else (laws_FnExactAdvance.j2 kj56 t564 t563 true t541 t562))) else (laws_FnExactAdvance.j2 kj56 t564 t563 true t541 t562))) = some r := H
            have A91 := am A910
            clear A910
            have HC92 := am H
            clear H
            have hnb93 := NB549_521.out
            have hnc93 := NB521_549.out
            have hnb94 := NB549_535.out
            have hnc94 := NB535_549.out
            have hnb95 := NB549_540.out
            have hnc95 := NB540_549.out
            obtain ⟨hcz96_0, hcz96_1, hfz96_0, hfz96_1⟩ := bk2 BK549.out
            go_upto_region 29 with (first | ((with_reducible refine gate_callee (f := 16) rfl ?_); refine goesL_ (some 85) rfl rfl Try.func16 (by kernel_rfl) rfl #[.agg #[.int .i64 t541, .slice Ao37 t542.length co37], .int .i64 1] rfl mpx ?_; (with_reducible refine (laws_markClock.calls kj56 t541 (fun k_ => some k_ = (.slice Ao37 t542.length co37 : Value).ownBlock) (.slice Ao37 t542.length co37) t542 1 t561 t562 w _ ?side1 ?side2 A83.out).mono ?_); (case side1 => repeat (first | (with_reducible first | exact HB.out | apply below_alloc | apply pw_below_drewN | apply below_drew1 | refine below_set ?_ GE521.out | refine below_set ?_ GE535.out | refine below_set ?_ GE540.out | refine below_set ?_ GE549.out) | exact HB.out)); (case side2 => exact Kd.Q_tight rfl HO_550001.out); rintro e w97 ⟨rfl, hy0, hb, hkp⟩; refine ⟨_, rfl, ?_⟩; replace HO_7 := am (Kd.R_mono (ok' := fun k_ => some k_ ≠ (v546 : Value).ownBlock) (Kd.R_keptB ((Kd.R_apart' HO_7.out (Kd.Q_typed HO_550001.out) (by decide))) hkp (fun k_ hk_ hs_ => (hk_.2) hs_)) (fun k_ hk_ => hk_.1.1)); replace HO_11 := am (Kd.R_mono (ok' := fun k_ => some k_ ≠ (v532 : Value).ownBlock) (Kd.R_keptB ((Kd.R_apart' HO_11.out (Kd.Q_typed HO_550001.out) (by decide))) hkp (fun k_ hk_ hs_ => (hk_.2) hs_)) (fun k_ hk_ => hk_.1.1)); replace HO_536001 := am (Kd.Q_mono (ok' := fun k_ => some k_ ≠ (.slice Ao30 t558.length co30 : Value).ownBlock ∧ some k_ ≠ (.slice Ao37 t542.length co37 : Value).ownBlock) (Kd.Q_keptB (HO_536001.out) hkp (fun k_ hk_ hs_ => (hk_.2) hs_)) (fun k_ hk_ => ⟨hk_.1.1, hk_.1.2⟩)); replace HO_541001 := am (Kd.Q_mono (ok' := fun k_ => some k_ ≠ (.slice Ao23 t528.length co23 : Value).ownBlock ∧ some k_ ≠ (.slice Ao37 t542.length co37 : Value).ownBlock) (Kd.Q_keptB (HO_541001.out) hkp (fun k_ hk_ hs_ => (hk_.2) hs_)) (fun k_ hk_ => ⟨hk_.1.1, hk_.1.2⟩)); replace BK521 := am (blk_kept (pkK BK521.out) hkp (fun hs_ => (fun e_ => (Kd.Q_ne HO_550001.out BK521.out (by decide)) e_) hs_)); replace BK535 := am (blk_kept (pkK BK535.out) hkp (fun hs_ => (fun e_ => (Kd.Q_ne HO_550001.out BK535.out (by decide)) e_) hs_)); replace BK540 := am (blk_kept (pkK BK540.out) hkp (fun hs_ => (fun e_ => (Kd.Q_ne HO_550001.out BK540.out (by decide)) e_) hs_)); replace BK549 := am (blk_kept (pkK BK549.out) hkp (fun hs_ => (fun e_ => (Kd.Q_ne HO_550001.out BK549.out (by decide)) e_) hs_)); replace HO_550001 := am (Kd.Q_reok rfl hy0 (fun k_ e_ => HO_550001.out.1 k_ e_)); replace HB := am (hb); (try clear hb); (try clear hkp); (try clear hy0); obtain ⟨Ao98, co98, eo98⟩ := Kd.R_slice HO_11.out; subst eo98) | ((with_reducible refine gate_callee (f := 26) rfl ?_); refine goesL_ (some 88) rfl rfl Try.func26 (by kernel_rfl) rfl #[.slice Ao98 t545.length co98, .int .i64 t561] rfl mpx ?_; (with_reducible refine (laws_markIntS.calls kj56 (fun k_ => some k_ = (.slice Ao98 t545.length co98 : Value).ownBlock) (.slice Ao98 t545.length co98) t545 t561 t563 t564 w _ ?side1 ?side2 A84.out).mono ?_); (case side1 => repeat (first | (with_reducible first | exact HB.out | apply below_alloc | apply pw_below_drewN | apply below_drew1 | refine below_set ?_ GE521.out | refine below_set ?_ GE535.out | refine below_set ?_ GE540.out | refine below_set ?_ GE549.out) | exact HB.out)); (case side2 => exact Kd.R_tight rfl HO_11.out); rintro e w99 ⟨rfl, hy0, hb, hkp⟩; refine ⟨_, rfl, ?_⟩; replace HO_7 := am (Kd.R_mono (ok' := fun k_ => some k_ ≠ (.slice Ao98 t545.length co98 : Value).ownBlock) (Kd.R_keptB (HO_7.out) hkp (fun k_ hk_ hs_ => (hk_) hs_)) (fun k_ hk_ => hk_.1)); replace HO_536001 := am (Kd.Q_mono (ok' := fun k_ => some k_ ≠ (.slice Ao30 t558.length co30 : Value).ownBlock ∧ some k_ ≠ (.slice Ao37 t542.length co37 : Value).ownBlock) (Kd.Q_keptB ((Kd.Q_apart' HO_536001.out (Kd.R_typed HO_11.out) (by decide))) hkp (fun k_ hk_ hs_ => (hk_.2) hs_)) (fun k_ hk_ => ⟨hk_.1.1.1, hk_.1.1.2⟩)); replace HO_541001 := am (Kd.Q_mono (ok' := fun k_ => some k_ ≠ (.slice Ao23 t528.length co23 : Value).ownBlock ∧ some k_ ≠ (.slice Ao37 t542.length co37 : Value).ownBlock) (Kd.Q_keptB ((Kd.Q_apart' HO_541001.out (Kd.R_typed HO_11.out) (by decide))) hkp (fun k_ hk_ hs_ => (hk_.2) hs_)) (fun k_ hk_ => ⟨hk_.1.1.1, hk_.1.1.2⟩)); replace HO_550001 := am (Kd.Q_mono (ok' := fun k_ => some k_ ≠ (.slice Ao23 t528.length co23 : Value).ownBlock ∧ some k_ ≠ (.slice Ao30 t558.length co30 : Value).ownBlock) (Kd.Q_keptB ((Kd.Q_apart' HO_550001.out (Kd.R_typed HO_11.out) (by decide))) hkp (fun k_ hk_ hs_ => (hk_.2) hs_)) (fun k_ hk_ => ⟨hk_.1.1.1, hk_.1.1.2⟩)); replace BK521 := am (blk_kept (pkK BK521.out) hkp (fun hs_ => (fun e_ => (Kd.R_ne HO_11.out BK521.out (by decide)) e_) hs_)); replace BK535 := am (blk_kept (pkK BK535.out) hkp (fun hs_ => (fun e_ => (Kd.R_ne HO_11.out BK535.out (by decide)) e_) hs_)); replace BK540 := am (blk_kept (pkK BK540.out) hkp (fun hs_ => (fun e_ => (Kd.R_ne HO_11.out BK540.out (by decide)) e_) hs_)); replace BK549 := am (blk_kept (pkK BK549.out) hkp (fun hs_ => (fun e_ => (Kd.R_ne HO_11.out BK549.out (by decide)) e_) hs_)); replace HO_11 := am (Kd.R_reok rfl hy0 (fun k_ e_ => HO_11.out.1 k_ e_)); replace HB := am (hb); (try clear hb); (try clear hkp); (try clear hy0); obtain ⟨hcz100_0, hcz100_1, hfz100_0, hfz100_1⟩ := bk2 BK549.out) | ((with_reducible refine gate_callee (f := 17) rfl ?_); refine goesL_ (some 91) rfl rfl Try.func17 (by kernel_rfl) rfl #[.agg #[.int .i64 t541, .slice Ao37 t562.length co37], .int .i64 1] rfl (by (try simp only [List.map_toArray, List.map_cons, List.map_nil]); first | done | (rw [show t562.length = t542.length from (Kd.Q_reads' HO_550001.out).1.symm] <;> rfl) | rfl | (simp only [List.length_drop, List.length_take]; rfl) | (go_simp; done) | (simp [*]; done)) ?_; (with_reducible refine (laws_heldClock.calls kj56 t541 _ _ t562 1 t565 _ ?side1 ?side2 A85.out).mono ?_); (case side1 => repeat (first | exact (Kd.Q_reads' HO_550001.out).2.2 | (with_reducible refine Kd.C_alloc ?_ _) | (with_reducible refine Kd.C_drewN ?_ _) | (with_reducible refine Kd.C_drew ?_))); (case side2 => rw [show t562.length = t542.length from (Kd.Q_reads' HO_550001.out).1.symm]; exact (Kd.Q_reads' HO_550001.out).2.1); rintro e w101 ⟨rfl, hb⟩; refine ⟨_, rfl, ?_⟩; replace HO_7 := am (Kd.R_below (pkR HO_7.out) hb); replace HO_11 := am (Kd.R_below (pkR HO_11.out) hb); replace HO_536001 := am (Kd.Q_below (pkQ HO_536001.out) hb); replace HO_541001 := am (Kd.Q_below (pkQ HO_541001.out) hb); replace HO_550001 := am (Kd.Q_below (pkQ HO_550001.out) hb); replace BK521 := am (blk_below (pkK BK521.out) hb); replace BK535 := am (blk_below (pkK BK535.out) hb); replace BK540 := am (blk_below (pkK BK540.out) hb); replace BK549 := am (blk_below (pkK BK549.out) hb); replace HB := am (below_step (pkW HB.out) hb); (try clear hb)) | ((with_reducible refine gate_callee (f := 27) rfl ?_); refine goesL_ (some 96) rfl rfl Try.func27 (by kernel_rfl) rfl #[.slice Ao98 t564.length co98, .int .i64 t565] rfl (by (try simp only [List.map_toArray, List.map_cons, List.map_nil]); first | done | (rw [show t564.length = t545.length from (Kd.R_reads' HO_11.out).1.symm] <;> rfl) | rfl | (simp only [List.length_drop, List.length_take]; rfl) | (go_simp; done) | (simp [*]; done)) ?_; (with_reducible refine (laws_heldIntS.calls kj56 _ _ t564 t565 t566 _ ?side1 ?side2 A87.out).mono ?_); (case side1 => exact pkC (Kd.R_reads' HO_11.out).2.2); (case side2 => rw [show t564.length = t545.length from (Kd.R_reads' HO_11.out).1.symm]; exact (Kd.R_reads' HO_11.out).2.1); rintro e w' ⟨rfl, ⟨nd, rfl⟩⟩; refine ⟨_, rfl, ?_⟩; (try (rw [drewN_self w101]; generalize hq_ : World.drewN w101 _ = w101; replace HO_11 : Aside0 (Kd.R (Kd.int .i64) 3 w101 w.heap.size (fun k_ => some k_ ≠ (v532 : Value).ownBlock) (.slice Ao98 t545.length co98) t564) := ⟨by rw [← hq_]; exact (pkR HO_11.out)⟩; replace HO_536001 : Aside0 (Kd.Q k46 46 w101 w.heap.size (fun k_ => (some k_ ≠ (.slice Ao30 t558.length co30 : Value).ownBlock ∧ some k_ ≠ (.slice Ao37 t542.length co37 : Value).ownBlock)) (.slice Ao23 t528.length co23) t528) := ⟨by rw [← hq_]; exact (pkQ HO_536001.out)⟩; replace HO_541001 : Aside0 (Kd.Q k46 46 w101 w.heap.size (fun k_ => (some k_ ≠ (.slice Ao23 t528.length co23 : Value).ownBlock ∧ some k_ ≠ (.slice Ao37 t542.length co37 : Value).ownBlock)) (.slice Ao30 t558.length co30) t558) := ⟨by rw [← hq_]; exact (pkQ HO_541001.out)⟩; replace HO_550001 : Aside0 (Kd.Q k46 46 w101 w.heap.size (fun k_ => (some k_ ≠ (.slice Ao23 t528.length co23 : Value).ownBlock ∧ some k_ ≠ (.slice Ao30 t558.length co30 : Value).ownBlock)) (.slice Ao37 t542.length co37) t562) := ⟨by rw [← hq_]; exact (pkQ HO_550001.out)⟩; replace HO_7 : Aside0 (Kd.R (Kd.int .i64) 3 w101 w.heap.size (fun k_ => some k_ ≠ (.slice Ao98 t545.length co98 : Value).ownBlock) v532 t531) := ⟨by rw [← hq_]; exact (pkR HO_7.out)⟩; replace BK521 : Aside0 (w101.heap[gb521]? = some (.cells #[.int .i64 a0_0, .slice A0_1 l0_1.length c0_1] 24 (0, 0))) := ⟨by rw [← hq_]; exact (pkK BK521.out)⟩; replace BK535 : Aside0 (w101.heap[gb535]? = some (.cells #[.int .i64 t527, .slice Ao23 t528.length co23] 29 (0, 0))) := ⟨by rw [← hq_]; exact (pkK BK535.out)⟩; replace BK540 : Aside0 (w101.heap[gb540]? = some (.cells #[.int .i64 t536, .slice Ao30 t558.length co30] 29 (0, 0))) := ⟨by rw [← hq_]; exact (pkK BK540.out)⟩; replace BK549 : Aside0 (w101.heap[gb549]? = some (.cells #[.int .i64 t541, .slice Ao37 t542.length co37] 29 (0, 0))) := ⟨by rw [← hq_]; exact (pkK BK549.out)⟩; replace HB : Aside0 (Below w.heap.size w w101) := ⟨by rw [← hq_]; exact (pkW HB.out)⟩; clear hq_)); have hnb102 := NB521_535.out; have hnc102 := NB535_521.out; have hnb103 := NB521_540.out; have hnc103 := NB540_521.out; obtain ⟨hcz104_0, hcz104_1, hfz104_0, hfz104_1⟩ := bk2 BK521.out) | ((with_reducible refine gate_callee (f := 11) rfl ?_); refine goesL_ (some 104) rfl rfl Try.func11 (by kernel_rfl) rfl #[.agg #[.int .i64 a0_0, .slice A0_1 l0_1.length c0_1]] rfl mpx ?_; (with_reducible refine (laws_toClock.calls kj56 a0_0 _ _ l0_1 t567 t568 _ ?side1 ?side2 A90.out).mono ?_); (case side1 => exact pkC (Kd.C_below HR0_1.out HB.out)); (case side2 => exact HC0_1.out); rintro e w105 ⟨v569, rfl, ho0, hb⟩; refine ⟨_, rfl, ?_⟩; replace HO_7 := am (Kd.R_below (pkR HO_7.out) hb); replace HO_11 := am (Kd.R_below (pkR HO_11.out) hb); have HO570 := am (Kd.R_lower (Kd.R_new' (Kd.R_new' (Kd.R_new' ho0 (Kd.Q_lt (pkQ HO_536001.out))) (Kd.Q_lt (pkQ HO_541001.out))) (Kd.Q_lt (pkQ HO_550001.out))) (below_size (pkW HB.out))); replace HO_536001 := am (Kd.Q_elder' (pkQ HO_536001.out) (Kd.R_base ho0) hb); replace HO_541001 := am (Kd.Q_elder' (pkQ HO_541001.out) (Kd.R_base ho0) hb); replace HO_550001 := am (Kd.Q_elder' (pkQ HO_550001.out) (Kd.R_base ho0) hb); replace BK521 := am (blk_below (pkK BK521.out) hb); replace BK535 := am (blk_below (pkK BK535.out) hb); replace BK540 := am (blk_below (pkK BK540.out) hb); replace BK549 := am (blk_below (pkK BK549.out) hb); replace HB := am (below_step (pkW HB.out) hb); (try clear hb ho0); obtain ⟨Ao106, co106, eo106⟩ := Kd.R_slice HO570.out; subst eo106) | ((with_reducible refine gate_callee (f := 20) rfl ?_); refine goesL_ (some 106) rfl rfl Try.func20 (by kernel_rfl) rfl #[.agg #[.int .i64 t567, .slice Ao106 t568.length co106], .int .i64 a1] rfl mpx ?_; (with_reducible refine (impl_Advance.calls kj56 t567 _ _ t568 a1 t571 t572 t575 t578 _ ?side1 ?side2 A91.out).mono ?_); (case side1 => exact pkC (Kd.R_reads' HO570.out).2.2); (case side2 => exact (Kd.R_reads' HO570.out).2.1); rintro e w107 ⟨v573, v576, rfl, ho0, ho1, hb⟩; refine ⟨_, rfl, ?_⟩; have HO574 := am (Kd.Q_lower (Kd.Q_new' (Kd.Q_new' (Kd.Q_new' (Kd.Q_new' ho0 (Kd.Q_lt (pkQ HO_536001.out))) (Kd.Q_lt (pkQ HO_541001.out))) (Kd.Q_lt (pkQ HO_550001.out))) (Kd.R_lt (pkR HO570.out))) (below_size (pkW HB.out))); replace HO_536001 := am (Kd.Q_elder' (pkQ HO_536001.out) (Kd.Q_base ho0) hb); replace HO_541001 := am (Kd.Q_elder' (pkQ HO_541001.out) (Kd.Q_base ho0) hb); replace HO_550001 := am (Kd.Q_elder' (pkQ HO_550001.out) (Kd.Q_base ho0) hb); replace HO570 := am (Kd.R_elder' (pkR HO570.out) (Kd.Q_base ho0) hb); have HO577 := am (Kd.R_lower (Kd.R_new' (Kd.R_new' ho1 (Kd.R_lt (pkR HO_7.out))) (Kd.R_lt (pkR HO_11.out))) (below_size (pkW HB.out))); replace HO_7 := am (Kd.R_elder' (pkR HO_7.out) (Kd.R_base ho1) hb); replace HO_11 := am (Kd.R_elder' (pkR HO_11.out) (Kd.R_base ho1) hb); replace BK521 := am (blk_below (pkK BK521.out) hb); replace BK535 := am (blk_below (pkK BK535.out) hb); replace BK540 := am (blk_below (pkK BK540.out) hb); replace BK549 := am (blk_below (pkK BK549.out) hb); replace HB := am (below_step (pkW HB.out) hb); (try clear hb ho0 ho1)) | ((with_reducible refine gate_dst (N := 16) rfl ?_); refine box_event ?hg (N := 16) ?hd (cs := #[.int .i64 0, .slice none 0 0]) (t := 29) ?hr ?_; (case hd => rfl); (case hg => rfl); (case hr => first | (go_simp; done) | (go_simp; rfl)); intro gb579 hg w108 hbox hb; replace HO_7 := am (Kd.R_below (pkR HO_7.out) hb); replace HO_11 := am (Kd.R_below (pkR HO_11.out) hb); replace HO_536001 := am (Kd.Q_below (pkQ HO_536001.out) hb); replace HO_541001 := am (Kd.Q_below (pkQ HO_541001.out) hb); replace HO_550001 := am (Kd.Q_below (pkQ HO_550001.out) hb); replace HO570 := am (Kd.R_below (pkR HO570.out) hb); replace HO574 := am (Kd.Q_below (pkQ HO574.out) hb); replace HO577 := am (Kd.R_below (pkR HO577.out) hb); have BK579 := am (hbox); have GW579 := am ((by rw [hg]; exact (below_size (pkW HB.out)) : w.heap.size ≤ gb579)); have GE579 := am ((by rw [hg]; exact (below_size (pkW HB.out)) : w.heap.size ≤ gb579)); replace HB := am (below_step (pkW HB.out) hb); have NB521_579 := am ((by rw [hg]; exact Nat.ne_of_lt (blk_lt (g := gb521) (o := .cells #[.int .i64 a0_0, .slice A0_1 l0_1.length c0_1] 24 (0, 0)) (pkK BK521.out)) : gb521 ≠ gb579)); have NB579_521 := am ((by rw [hg]; exact Nat.ne_of_gt (blk_lt (g := gb521) (o := .cells #[.int .i64 a0_0, .slice A0_1 l0_1.length c0_1] 24 (0, 0)) (pkK BK521.out)) : gb579 ≠ gb521)); replace BK521 := am (blk_below (pkK BK521.out) hb); have NB535_579 := am ((by rw [hg]; exact Nat.ne_of_lt (blk_lt (g := gb535) (o := .cells #[.int .i64 t527, .slice Ao23 t528.length co23] 29 (0, 0)) (pkK BK535.out)) : gb535 ≠ gb579)); have NB579_535 := am ((by rw [hg]; exact Nat.ne_of_gt (blk_lt (g := gb535) (o := .cells #[.int .i64 t527, .slice Ao23 t528.length co23] 29 (0, 0)) (pkK BK535.out)) : gb579 ≠ gb535)); replace BK535 := am (blk_below (pkK BK535.out) hb); have NB540_579 := am ((by rw [hg]; exact Nat.ne_of_lt (blk_lt (g := gb540) (o := .cells #[.int .i64 t536, .slice Ao30 t558.length co30] 29 (0, 0)) (pkK BK540.out)) : gb540 ≠ gb579)); have NB579_540 := am ((by rw [hg]; exact Nat.ne_of_gt (blk_lt (g := gb540) (o := .cells #[.int .i64 t536, .slice Ao30 t558.length co30] 29 (0, 0)) (pkK BK540.out)) : gb579 ≠ gb540)); replace BK540 := am (blk_below (pkK BK540.out) hb); have NB549_579 := am ((by rw [hg]; exact Nat.ne_of_lt (blk_lt (g := gb549) (o := .cells #[.int .i64 t541, .slice Ao37 t542.length co37] 29 (0, 0)) (pkK BK549.out)) : gb549 ≠ gb579)); have NB579_549 := am ((by rw [hg]; exact Nat.ne_of_gt (blk_lt (g := gb549) (o := .cells #[.int .i64 t541, .slice Ao37 t542.length co37] 29 (0, 0)) (pkK BK549.out)) : gb579 ≠ gb549)); replace BK549 := am (blk_below (pkK BK549.out) hb); clear hb hbox hg; have hnb109 := NB579_521.out; have hnc109 := NB521_579.out; have hnb110 := NB579_535.out; have hnc110 := NB535_579.out; have hnb111 := NB579_540.out; have hnc111 := NB540_579.out; have hnb112 := NB579_549.out; have hnc112 := NB549_579.out; obtain ⟨hcz113_0, hcz113_1, hfz113_0, hfz113_1⟩ := bk2 BK579.out; obtain ⟨Ao114, co114, eo114, _⟩ := Kd.Q_slice HO574.out; subst eo114))
            (try simp only [Act.put, List.setIfInBounds_toArray, List.set_cons_zero, List.set_cons_succ])
            go_cut [124] (fun v124 wc => ∃ (kq : Nat) (x124_91 : Bool), v124 = .bool x124_91 ∧ Aside0 (laws_FnExactAdvance.j2 kq t564 t563 x124_91 t541 t562 = some r) ∧ Aside0 (kq ≤ kj56) ∧ Aside0 (Kd.R (Kd.int .i64) 3 wc w.heap.size (fun _ => True) (.slice Ao98 t545.length co98) t564) ∧ Aside0 (Kd.Q k46 46 wc w.heap.size (fun k_ => some k_ ≠ ((.slice Ao30 t558.length co30) : Value).ownBlock ∧ some k_ ≠ ((.slice Ao37 t542.length co37) : Value).ownBlock ∧ some k_ ≠ ((.slice Ao114 t572.length co114) : Value).ownBlock) (.slice Ao23 t528.length co23) t528) ∧ Aside0 (Kd.Q k46 46 wc w.heap.size (fun k_ => some k_ ≠ ((.slice Ao23 t528.length co23) : Value).ownBlock ∧ some k_ ≠ ((.slice Ao37 t542.length co37) : Value).ownBlock ∧ some k_ ≠ ((.slice Ao114 t572.length co114) : Value).ownBlock) (.slice Ao30 t558.length co30) t558) ∧ Aside0 (Kd.Q k46 46 wc w.heap.size (fun k_ => some k_ ≠ ((.slice Ao23 t528.length co23) : Value).ownBlock ∧ some k_ ≠ ((.slice Ao30 t558.length co30) : Value).ownBlock ∧ some k_ ≠ ((.slice Ao114 t572.length co114) : Value).ownBlock) (.slice Ao37 t542.length co37) t562) ∧ Aside0 (Kd.Q k46 46 wc w.heap.size (fun k_ => some k_ ≠ ((.slice Ao23 t528.length co23) : Value).ownBlock ∧ some k_ ≠ ((.slice Ao30 t558.length co30) : Value).ownBlock ∧ some k_ ≠ ((.slice Ao37 t542.length co37) : Value).ownBlock) (.slice Ao114 t572.length co114) t572) ∧ Aside0 (wc.heap[gb521]? = some (.cells #[.int .i64 a0_0, (.slice A0_1 l0_1.length c0_1)] 24 (0, 0))) ∧ Aside0 (wc.heap[gb535]? = some (.cells #[.int .i64 t527, (.slice Ao23 t528.length co23)] 29 (0, 0))) ∧ Aside0 (wc.heap[gb540]? = some (.cells #[.int .i64 t536, (.slice Ao30 t558.length co30)] 29 (0, 0))) ∧ Aside0 (wc.heap[gb549]? = some (.cells #[.int .i64 t541, (.slice Ao37 t542.length co37)] 29 (0, 0))) ∧ Aside0 (wc.heap[gb579]? = some (.cells #[.int .i64 t571, (.slice Ao114 t572.length co114)] 29 (0, 0))) ∧ Aside0 (Below w.heap.size w wc))
            case first =>
             have H := HC92.out
             clear HC92
             replace H := Option.bind_eq_some_iff.mp H
             obtain ⟨t580, A1150, H⟩ := H
             replace H : (if t580 = true then ((laws_eqIntS.f kj56 t575 t531).bind fun t581 => (if t581 = true then (laws_FnExactAdvance.j2 kj56 t564 t563 (t578 != t534) t541 t562) else (laws_FnExactAdvance.j2 kj56 t564 t563 true t541 t562))) else (laws_FnExactAdvance.j2 kj56 t564 t563 true t541 t562)) = some r := H
             have A115 := am A1150
             clear A1150
             by_cases c116 : t580 = true
             ·subst c116
              replace H : ((laws_eqIntS.f kj56 t575 t531).bind fun t581 => (if t581 = true then (laws_FnExactAdvance.j2 kj56 t564 t563 (t578 != t534) t541 t562) else (laws_FnExactAdvance.j2 kj56 t564 t563 true t541 t562))) = some r := by rw [if_pos rfl] at H; exact H
              replace H := Option.bind_eq_some_iff.mp H
              obtain ⟨t581, A1170, H⟩ := H
              replace H : (if t581 = true then (laws_FnExactAdvance.j2 kj56 t564 t563 (t578 != t534) t541 t562) else (laws_FnExactAdvance.j2 kj56 t564 t563 true t541 t562)) = some r := H
              have A117 := am A1170
              clear A1170
              by_cases c118 : t581 = true
              ·subst c118
               replace H : (laws_FnExactAdvance.j2 kj56 t564 t563 (t578 != t534) t541 t562) = some r := by rw [if_pos rfl] at H; exact H
               have H' := am H
               clear H
               have hnb119 := NB579_521.out
               have hnc119 := NB521_579.out
               have hnb120 := NB579_535.out
               have hnc120 := NB535_579.out
               have hnb121 := NB579_540.out
               have hnc121 := NB540_579.out
               have hnb122 := NB579_549.out
               have hnc122 := NB549_579.out
               obtain ⟨hcz123_0, hcz123_1, hfz123_0, hfz123_1⟩ := bk2 BK579.out
               have hnb124 := NB535_521.out
               have hnc124 := NB521_535.out
               have hnb125 := NB535_540.out
               have hnc125 := NB540_535.out
               have hnb126 := NB535_549.out
               have hnc126 := NB549_535.out
               obtain ⟨hcz127_0, hcz127_1, hfz127_0, hfz127_1⟩ := bk2 BK535.out
               go_wp2_with (first | ((with_reducible refine gate_callee (f := 13) rfl ?_); refine goesL_ (some 112) rfl rfl Try.func13 (by kernel_rfl) rfl #[.agg #[.int .i64 t571, .slice Ao114 t572.length co114], .agg #[.int .i64 t527, .slice Ao23 t528.length co23]] rfl mpx ?_; (with_reducible refine (laws_eqClock.calls kj56 t571 _ _ t572 t527 _ _ t528 true _ ?side1 ?side2 ?side3 ?side4 A115.out).mono ?_); (case side1 => refine (Kd.Q_reads' (e := 46) (base := w.heap.size) (ok := fun k_ => ((((True ∧ some k_ ≠ (.slice Ao23 t528.length co23 : Value).ownBlock) ∧ some k_ ≠ (.slice Ao30 t558.length co30 : Value).ownBlock) ∧ some k_ ≠ (.slice Ao37 t542.length co37 : Value).ownBlock) ∧ some k_ ≠ (.slice Ao106 t568.length co106 : Value).ownBlock)) (n := t572.length) (c := co114) ?_).2.2; exact (by (with_reducible repeat (first | apply Kd.Q_alloc | apply Kd.Q_drewN | apply Kd.Q_drew)); exact (Kd.Q_mono (Kd.Q_far (p := ⟨gb579, 1, none⟩) (Kd.Q_far (p := ⟨gb579, 0, none⟩) (Kd.Q_types HO574.out BK579.out (by decide)) (fun _ hk => hk.2) (.int .i64 t571)) (fun _ hk => hk.2) (.slice Ao114 t572.length co114)) (fun _ h_ => h_.1)))); (case side2 => exact (Kd.Q_reads' HO574.out).2.1); (case side3 => refine (Kd.Q_reads' (e := 46) (base := w.heap.size) (ok := fun k_ => (((some k_ ≠ (.slice Ao30 t558.length co30 : Value).ownBlock ∧ some k_ ≠ (.slice Ao37 t542.length co37 : Value).ownBlock) ∧ some k_ ≠ (.slice Ao106 t568.length co106 : Value).ownBlock) ∧ some k_ ≠ (.slice Ao114 t572.length co114 : Value).ownBlock)) (n := t528.length) (c := co23) ?_).2.2; exact (by (with_reducible repeat (first | apply Kd.Q_alloc | apply Kd.Q_drewN | apply Kd.Q_drew)); exact (Kd.Q_mono (Kd.Q_far (p := ⟨gb579, 1, none⟩) (Kd.Q_far (p := ⟨gb579, 0, none⟩) (Kd.Q_types HO_536001.out BK579.out (by decide)) (fun _ hk => hk.2) (.int .i64 t571)) (fun _ hk => hk.2) (.slice Ao114 t572.length co114)) (fun _ h_ => h_.1)))); (case side4 => exact (Kd.Q_reads' HO_536001.out).2.1); rintro e w128 ⟨rfl, hb⟩; refine ⟨_, rfl, ?_⟩; replace HO_7 := am (Kd.R_below (by (with_reducible repeat (first | apply Kd.R_alloc | apply Kd.R_drewN | apply Kd.R_drew)); exact (Kd.R_mono (Kd.R_far (p := ⟨gb579, 1, none⟩) (Kd.R_far (p := ⟨gb579, 0, none⟩) (Kd.R_types HO_7.out BK579.out (by decide)) (fun _ hk => hk.2) (.int .i64 t571)) (fun _ hk => hk.2) (.slice Ao114 t572.length co114)) (fun _ h_ => h_.1))) hb); replace HO_11 := am (Kd.R_below (by (with_reducible repeat (first | apply Kd.R_alloc | apply Kd.R_drewN | apply Kd.R_drew)); exact (Kd.R_mono (Kd.R_far (p := ⟨gb579, 1, none⟩) (Kd.R_far (p := ⟨gb579, 0, none⟩) (Kd.R_types HO_11.out BK579.out (by decide)) (fun _ hk => hk.2) (.int .i64 t571)) (fun _ hk => hk.2) (.slice Ao114 t572.length co114)) (fun _ h_ => h_.1))) hb); replace HO_536001 := am (Kd.Q_below (by (with_reducible repeat (first | apply Kd.Q_alloc | apply Kd.Q_drewN | apply Kd.Q_drew)); exact (Kd.Q_mono (Kd.Q_far (p := ⟨gb579, 1, none⟩) (Kd.Q_far (p := ⟨gb579, 0, none⟩) (Kd.Q_types HO_536001.out BK579.out (by decide)) (fun _ hk => hk.2) (.int .i64 t571)) (fun _ hk => hk.2) (.slice Ao114 t572.length co114)) (fun _ h_ => h_.1))) hb); replace HO_541001 := am (Kd.Q_below (by (with_reducible repeat (first | apply Kd.Q_alloc | apply Kd.Q_drewN | apply Kd.Q_drew)); exact (Kd.Q_mono (Kd.Q_far (p := ⟨gb579, 1, none⟩) (Kd.Q_far (p := ⟨gb579, 0, none⟩) (Kd.Q_types HO_541001.out BK579.out (by decide)) (fun _ hk => hk.2) (.int .i64 t571)) (fun _ hk => hk.2) (.slice Ao114 t572.length co114)) (fun _ h_ => h_.1))) hb); replace HO_550001 := am (Kd.Q_below (by (with_reducible repeat (first | apply Kd.Q_alloc | apply Kd.Q_drewN | apply Kd.Q_drew)); exact (Kd.Q_mono (Kd.Q_far (p := ⟨gb579, 1, none⟩) (Kd.Q_far (p := ⟨gb579, 0, none⟩) (Kd.Q_types HO_550001.out BK579.out (by decide)) (fun _ hk => hk.2) (.int .i64 t571)) (fun _ hk => hk.2) (.slice Ao114 t572.length co114)) (fun _ h_ => h_.1))) hb); replace HO570 := am (Kd.R_below (by (with_reducible repeat (first | apply Kd.R_alloc | apply Kd.R_drewN | apply Kd.R_drew)); exact (Kd.R_mono (Kd.R_far (p := ⟨gb579, 1, none⟩) (Kd.R_far (p := ⟨gb579, 0, none⟩) (Kd.R_types HO570.out BK579.out (by decide)) (fun _ hk => hk.2) (.int .i64 t571)) (fun _ hk => hk.2) (.slice Ao114 t572.length co114)) (fun _ h_ => h_.1))) hb); replace HO574 := am (Kd.Q_below (by (with_reducible repeat (first | apply Kd.Q_alloc | apply Kd.Q_drewN | apply Kd.Q_drew)); exact (Kd.Q_mono (Kd.Q_far (p := ⟨gb579, 1, none⟩) (Kd.Q_far (p := ⟨gb579, 0, none⟩) (Kd.Q_types HO574.out BK579.out (by decide)) (fun _ hk => hk.2) (.int .i64 t571)) (fun _ hk => hk.2) (.slice Ao114 t572.length co114)) (fun _ h_ => h_.1))) hb); replace HO577 := am (Kd.R_below (by (with_reducible repeat (first | apply Kd.R_alloc | apply Kd.R_drewN | apply Kd.R_drew)); exact (Kd.R_mono (Kd.R_far (p := ⟨gb579, 1, none⟩) (Kd.R_far (p := ⟨gb579, 0, none⟩) (Kd.R_types HO577.out BK579.out (by decide)) (fun _ hk => hk.2) (.int .i64 t571)) (fun _ hk => hk.2) (.slice Ao114 t572.length co114)) (fun _ h_ => h_.1))) hb); replace BK521 := am (blk_below (g := gb521) (o := .cells #[.int .i64 a0_0, .slice A0_1 l0_1.length c0_1] 24 (0, 0)) (by (with_reducible repeat (first | refine blk_drewN ?_ _ | refine blk_drew ?_ | refine blk_alloc ?_ _)); refine blk_far ?_ NB521_579.out _; (with_reducible repeat (first | refine blk_drewN ?_ _ | refine blk_drew ?_ | refine blk_alloc ?_ _)); refine blk_far ?_ NB521_579.out _; exact pkK BK521.out) hb); replace BK535 := am (blk_below (g := gb535) (o := .cells #[.int .i64 t527, .slice Ao23 t528.length co23] 29 (0, 0)) (by (with_reducible repeat (first | refine blk_drewN ?_ _ | refine blk_drew ?_ | refine blk_alloc ?_ _)); refine blk_far ?_ NB535_579.out _; (with_reducible repeat (first | refine blk_drewN ?_ _ | refine blk_drew ?_ | refine blk_alloc ?_ _)); refine blk_far ?_ NB535_579.out _; exact pkK BK535.out) hb); replace BK540 := am (blk_below (g := gb540) (o := .cells #[.int .i64 t536, .slice Ao30 t558.length co30] 29 (0, 0)) (by (with_reducible repeat (first | refine blk_drewN ?_ _ | refine blk_drew ?_ | refine blk_alloc ?_ _)); refine blk_far ?_ NB540_579.out _; (with_reducible repeat (first | refine blk_drewN ?_ _ | refine blk_drew ?_ | refine blk_alloc ?_ _)); refine blk_far ?_ NB540_579.out _; exact pkK BK540.out) hb); replace BK549 := am (blk_below (g := gb549) (o := .cells #[.int .i64 t541, .slice Ao37 t542.length co37] 29 (0, 0)) (by (with_reducible repeat (first | refine blk_drewN ?_ _ | refine blk_drew ?_ | refine blk_alloc ?_ _)); refine blk_far ?_ NB549_579.out _; (with_reducible repeat (first | refine blk_drewN ?_ _ | refine blk_drew ?_ | refine blk_alloc ?_ _)); refine blk_far ?_ NB549_579.out _; exact pkK BK549.out) hb); replace BK579 := am (blk_below (g := gb579) (o := .cells #[.int .i64 t571, .slice Ao114 t572.length co114] 29 (0, 0)) (by (with_reducible repeat (first | refine blk_drewN ?_ _ | refine blk_drew ?_ | refine blk_alloc ?_ _)); refine blk_put (cs := #[.int .i64 t571, .slice none 0 0]) ?_ 1 _ rfl; (with_reducible repeat (first | refine blk_drewN ?_ _ | refine blk_drew ?_ | refine blk_alloc ?_ _)); refine blk_put (cs := #[.int .i64 0, .slice none 0 0]) ?_ 0 _ rfl; exact pkK BK579.out) hb); replace HB := am (below_step (pkW HB.out) hb); (try clear hb); obtain ⟨Ao129, co129, eo129⟩ := Kd.R_slice HO577.out; subst eo129; obtain ⟨Ao130, co130, eo130⟩ := Kd.R_slice HO_7.out; subst eo130) | (go_at_call 25; (with_reducible refine (laws_eqIntS.calls kj56 _ _ t575 _ _ t531 true _ ?side1 ?side2 ?side3 ?side4 A117.out).mono ?_); (case side1 => exact pkC (Kd.R_reads' HO577.out).2.2); (case side2 => exact (Kd.R_reads' HO577.out).2.1); (case side3 => exact pkC (Kd.R_reads' HO_7.out).2.2); (case side4 => exact (Kd.R_reads' HO_7.out).2.1); rintro e w' ⟨rfl, ⟨nd, rfl⟩⟩))
               go_meet
               case rel => exact ⟨_, ((t578 != t534)), rfx, H', ⟨by have := HJ11.out; have := HJ56.out; first | omega | exact Nat.le_refl _⟩, ⟨by (try simp only [hl541001_56]); (with_reducible repeat (first | apply Kd.R_alloc | apply Kd.R_drewN | apply Kd.R_drew)); exact Kd.R_mono HO_11.out (fun _ hk => trivial)⟩, ⟨by (try simp only [hl541001_56]); (with_reducible repeat (first | apply Kd.Q_alloc | apply Kd.Q_drewN | apply Kd.Q_drew)); exact Kd.Q_mono HO_536001.out (fun _ hk => ⟨hk.1.1.1, ⟨hk.1.1.2, hk.2⟩⟩)⟩, ⟨by (try simp only [hl541001_56]); (with_reducible repeat (first | apply Kd.Q_alloc | apply Kd.Q_drewN | apply Kd.Q_drew)); exact Kd.Q_mono HO_541001.out (fun _ hk => ⟨hk.1.1.1, ⟨hk.1.1.2, hk.2⟩⟩)⟩, ⟨by (try simp only [hl541001_56]); (with_reducible repeat (first | apply Kd.Q_alloc | apply Kd.Q_drewN | apply Kd.Q_drew)); exact Kd.Q_mono HO_550001.out (fun _ hk => ⟨hk.1.1.1, ⟨hk.1.1.2, hk.2⟩⟩)⟩, ⟨by (try simp only [hl541001_56]); (with_reducible repeat (first | apply Kd.Q_alloc | apply Kd.Q_drewN | apply Kd.Q_drew)); exact Kd.Q_mono HO574.out (fun _ hk => ⟨hk.1.1.1.2, ⟨hk.1.1.2, hk.1.2⟩⟩)⟩, ⟨by (try simp only [hl541001_56]); exact pkK BK521.out⟩, ⟨by (try simp only [hl541001_56]); exact pkK BK535.out⟩, ⟨by (try simp only [hl541001_56]); exact pkK BK540.out⟩, ⟨by (try simp only [hl541001_56]); exact pkK BK549.out⟩, ⟨by (try simp only [hl541001_56]); exact pkK BK579.out⟩, ⟨pkW HB.out⟩⟩
              ·replace c118 := Bool.eq_false_iff.mpr c118
               subst c118
               replace H : (laws_FnExactAdvance.j2 kj56 t564 t563 true t541 t562) = some r := by rw [if_neg (show ¬ (false = true) by decide)] at H; exact H
               cases kj56 with
               | zero => exact absurd H (by simp [laws_FnExactAdvance.j2])
               | succ k_ => (simp only [laws_FnExactAdvance.j2, if_pos] at H; exact absurd (Option.some.inj H) (by rw [HQ_.out]; simp))
             ·replace c116 := Bool.eq_false_iff.mpr c116
              subst c116
              replace H : (laws_FnExactAdvance.j2 kj56 t564 t563 true t541 t562) = some r := by rw [if_neg (show ¬ (false = true) by decide)] at H; exact H
              cases kj56 with
              | zero => exact absurd H (by simp [laws_FnExactAdvance.j2])
              | succ k_ => (simp only [laws_FnExactAdvance.j2, if_pos] at H; exact absurd (Option.some.inj H) (by rw [HQ_.out]; simp))
            case rest =>
             clear HC92
             try clear c1
             try clear c2
             try clear p2
             try clear c3
             try clear c4
             try clear c4b0
             try clear c5
             try clear c6
             try clear c7
             try clear c8
             try clear c9
             try clear c10
             try clear c11
             try clear c12
             try clear c13
             try clear c16
             try clear c17
             try clear c20
             try clear c21
             try clear c26
             try clear c27
             try clear c28
             try clear c33
             try clear c34
             try clear c35
             try clear c39
             try clear c41
             try clear c42
             try clear c43
             try clear c44
             try clear c46
             try clear c47
             try clear c52
             try clear c55
             try clear c62
             try clear c63
             try clear c64
             try clear c67
             try clear c67b0
             try clear c69
             try clear c71
             try clear c72
             try clear c73
             try clear c74
             try clear c76
             try clear c77
             try clear c82
             try clear c86
             try clear c86b0
             try clear c88
             try clear c88b0
             try clear c89
             try clear c89b0
             try clear c89b1
             try clear c93
             try clear c94
             try clear c95
             try clear c102
             try clear c103
             try clear c109
             try clear c110
             try clear c111
             try clear c112
             try clear c116
             try clear c118
             try clear c119
             try clear c120
             try clear c121
             try clear c122
             try clear c124
             try clear c125
             try clear c126
             try clear hcz100_0
             try clear hcz100_1
             try clear hcz104_0
             try clear hcz104_1
             try clear hcz113_0
             try clear hcz113_1
             try clear hcz123_0
             try clear hcz123_1
             try clear hcz127_0
             try clear hcz127_1
             try clear hcz14_0
             try clear hcz14_1
             try clear hcz16_0
             try clear hcz16_1
             try clear hcz22_0
             try clear hcz22_1
             try clear hcz24_0
             try clear hcz24_1
             try clear hcz29_0
             try clear hcz29_1
             try clear hcz36_0
             try clear hcz36_1
             try clear hcz45_0
             try clear hcz45_1
             try clear hcz48_0
             try clear hcz48_1
             try clear hcz65_0
             try clear hcz65_1
             try clear hcz6_0
             try clear hcz6_1
             try clear hcz75_0
             try clear hcz75_1
             try clear hcz78_0
             try clear hcz78_1
             try clear hcz96_0
             try clear hcz96_1
             try clear hfz100_0
             try clear hfz100_1
             try clear hfz104_0
             try clear hfz104_1
             try clear hfz113_0
             try clear hfz113_1
             try clear hfz123_0
             try clear hfz123_1
             try clear hfz127_0
             try clear hfz127_1
             try clear hfz14_0
             try clear hfz14_1
             try clear hfz16_0
             try clear hfz16_1
             try clear hfz22_0
             try clear hfz22_1
             try clear hfz24_0
             try clear hfz24_1
             try clear hfz29_0
             try clear hfz29_1
             try clear hfz36_0
             try clear hfz36_1
             try clear hfz45_0
             try clear hfz45_1
             try clear hfz48_0
             try clear hfz48_1
             try clear hfz65_0
             try clear hfz65_1
             try clear hfz6_0
             try clear hfz6_1
             try clear hfz75_0
             try clear hfz75_1
             try clear hfz78_0
             try clear hfz78_1
             try clear hfz96_0
             try clear hfz96_1
             try clear p2
             obtain ⟨kq, x124_91, rfl, HA, HJ91, HO_11, HO_536001, HO_541001, HO_550001, HO_580001, BK521, BK535, BK540, BK549, BK579, HB⟩ := hcut
             have hl11_91 := (Kd.R_reads' HO_11.out).1
             rw [hl11_91] at HO_11
             (try simp only [hl11_91])
             (try simp only [hl11_91] at BK521)
             (try simp only [hl11_91] at BK535)
             (try simp only [hl11_91] at BK540)
             (try simp only [hl11_91] at BK549)
             (try simp only [hl11_91] at BK579)
             (try simp only [hl11_91] at HO_536001)
             (try simp only [hl11_91] at HO_541001)
             (try simp only [hl11_91] at HO_550001)
             (try simp only [hl11_91] at HO_580001)
             have hl550001_91 := (Kd.Q_reads' HO_550001.out).1
             rw [hl550001_91] at HO_550001
             (try simp only [hl550001_91])
             (try simp only [hl550001_91] at BK521)
             (try simp only [hl550001_91] at BK535)
             (try simp only [hl550001_91] at BK540)
             (try simp only [hl550001_91] at BK549)
             (try simp only [hl550001_91] at BK579)
             (try simp only [hl550001_91] at HO_11)
             (try simp only [hl550001_91] at HO_536001)
             (try simp only [hl550001_91] at HO_541001)
             (try simp only [hl550001_91] at HO_580001)
             cases kq with
             | zero => exact absurd HA.out (by simp [laws_FnExactAdvance.j2])
             | succ kj91 =>
              have H := HA.out
              clear HA
              simp only [laws_FnExactAdvance.j2] at H
              by_cases c131 : x124_91 = true
              ·subst c131
               replace H : (some false) = some r := by rw [if_pos rfl] at H; exact H
               exact absurd (Option.some.inj H) (by rw [HQ_.out]; simp)
              ·replace c131 := Bool.eq_false_iff.mpr c131
               subst c131
               replace H : ((laws_heldClock.f kj91 t541 t562 1).bind fun t582 => (if t582 < 0 then (some false) else ((laws_heldIntS.f kj91 t564 t582).bind fun t583 => (if t583 < 0 then (some false) else (if t583 = t563 then (some true) else (some false)))))) = some r := by rw [if_neg (show ¬ (false = true) by decide)] at H; exact H
               replace H := Option.bind_eq_some_iff.mp H
               obtain ⟨t582, A1320, H⟩ := H
               replace H : (if t582 < 0 then (some false) else ((laws_heldIntS.f kj91 t564 t582).bind fun t583 => (if t583 < 0 then (some false) else (if t583 = t563 then (some true) else (some false))))) = some r := H
               have A132 := am A1320
               clear A1320
               by_cases c133 : t582 < 0
               ·rw [if_pos c133] at H
                have c133b0 : decide (t582 < 0) = true := decide_eq_true c133
                clear c133
                exact absurd (Option.some.inj H) (by rw [HQ_.out]; simp)
               ·rw [if_neg c133] at H
                have c133b0 : decide (t582 < 0) = false := decide_eq_false c133
                clear c133
                replace H := Option.bind_eq_some_iff.mp H
                obtain ⟨t583, A1340, H⟩ := H
                replace H : (if t583 < 0 then (some false) else (if t583 = t563 then (some true) else (some false))) = some r := H
                have A134 := am A1340
                clear A1340
                by_cases c135 : t583 < 0
                ·rw [if_pos c135] at H
                 have c135b0 : decide (t583 < 0) = true := decide_eq_true c135
                 clear c135
                 exact absurd (Option.some.inj H) (by rw [HQ_.out]; simp)
                ·rw [if_neg c135] at H
                 have c135b0 : decide (t583 < 0) = false := decide_eq_false c135
                 clear c135
                 by_cases c136 : t583 = t563
                 ·rw [if_pos c136] at H
                  have c136b0 : (t583 == t563) = true := beq_iff_eq.mpr c136
                  have c136b1 : (t583 != t563) = false := bne_eq_false_iff_eq.mpr c136
                  clear c136
                  obtain rfl := Option.some.inj H
                  have hnb137 := NB549_521.out
                  have hnc137 := NB521_549.out
                  have hnb138 := NB549_535.out
                  have hnc138 := NB535_549.out
                  have hnb139 := NB549_540.out
                  have hnc139 := NB540_549.out
                  have hnb140 := NB549_579.out
                  have hnc140 := NB579_549.out
                  obtain ⟨hcz141_0, hcz141_1, hfz141_0, hfz141_1⟩ := bk2 BK549.out
                  go_wp2_with (first | ((with_reducible refine gate_callee (f := 17) rfl ?_); refine goesL_ (some 127) rfl rfl Try.func17 (by kernel_rfl) rfl #[.agg #[.int .i64 t541, .slice Ao37 t562.length co37], .int .i64 1] rfl mpx ?_; (with_reducible refine (laws_heldClock.calls kj91 t541 _ _ t562 1 t582 _ ?side1 ?side2 A132.out).mono ?_); (case side1 => repeat (first | exact (Kd.Q_reads' HO_550001.out).2.2 | (with_reducible refine Kd.C_alloc ?_ _) | (with_reducible refine Kd.C_drewN ?_ _) | (with_reducible refine Kd.C_drew ?_))); (case side2 => exact (Kd.Q_reads' HO_550001.out).2.1); rintro e w142 ⟨rfl, hb⟩; refine ⟨_, rfl, ?_⟩; replace HO_11 := am (Kd.R_below (pkR HO_11.out) hb); replace HO_536001 := am (Kd.Q_below (pkQ HO_536001.out) hb); replace HO_541001 := am (Kd.Q_below (pkQ HO_541001.out) hb); replace HO_550001 := am (Kd.Q_below (pkQ HO_550001.out) hb); replace HO_580001 := am (Kd.Q_below (pkQ HO_580001.out) hb); replace BK521 := am (blk_below (pkK BK521.out) hb); replace BK535 := am (blk_below (pkK BK535.out) hb); replace BK540 := am (blk_below (pkK BK540.out) hb); replace BK549 := am (blk_below (pkK BK549.out) hb); replace BK579 := am (blk_below (pkK BK579.out) hb); replace HB := am (below_step (pkW HB.out) hb); (try clear hb)) | ((with_reducible refine gate_callee (f := 27) rfl ?_); refine goesL_ (some 132) rfl rfl Try.func27 (by kernel_rfl) rfl #[.slice Ao98 t564.length co98, .int .i64 t582] rfl mpx ?_; (with_reducible refine (laws_heldIntS.calls kj91 _ _ t564 t582 t583 _ ?side1 ?side2 A134.out).mono ?_); (case side1 => exact pkC (Kd.R_reads' HO_11.out).2.2); (case side2 => exact (Kd.R_reads' HO_11.out).2.1); rintro e w' ⟨rfl, ⟨nd, rfl⟩⟩; refine ⟨_, rfl, ?_⟩))
                  go_ret
                  exact ⟨rfe, pkW HB.out⟩
                 ·rw [if_neg c136] at H
                  have c136b0 : (t583 == t563) = false := beq_eq_false_iff_ne.mpr c136
                  have c136b1 : (t583 != t563) = true := bne_iff_ne.mpr c136
                  exact absurd (Option.some.inj H) (by rw [HQ_.out]; simp)
           ·rw [if_neg c89] at H
            have c89b0 : (t566 == t563) = false := beq_eq_false_iff_ne.mpr c89
            have c89b1 : (t566 != t563) = true := bne_iff_ne.mpr c89
            exact absurd (Option.some.inj H) (by rw [HQ_.out]; simp)
     ·replace c55 := Bool.eq_false_iff.mpr c55
      subst c55
      replace H : (some false) = some r := by rw [if_neg (show ¬ (false = true) by decide)] at H; exact H
      exact absurd (Option.some.inj H) (by rw [HQ_.out]; simp)
end Go.Proofs.Ytfgjfheiekhmlaa.Z
