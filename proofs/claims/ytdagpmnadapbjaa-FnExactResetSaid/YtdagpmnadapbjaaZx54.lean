/- The Go functions laws_FnExactReset as Lean functions, each with a proof that its code comes to just these answers; conditions: those of each theorem. -/
import Derived.Test.YtdagpmnadapbjaaZx0
import Derived.Test.YtdagpmnadapbjaaZx1
import Derived.Test.YtdagpmnadapbjaaZx6
import Derived.Test.YtdagpmnadapbjaaZx13
import Derived.Test.YtdagpmnadapbjaaZx21
import Derived.Test.YtdagpmnadapbjaaZx23
import Derived.Test.YtdagpmnadapbjaaZx24
import Derived.Test.YtdagpmnadapbjaaZx25
namespace Go.Proofs.Ytdagpmnadapbjaa.Z
open Go.RowKit Go.Proofs.YtdagpmnadapbjaaW.PrintWords Go.Proofs.YtdagpmnadapbjaaW.PrintLast Go.Proofs.YtdagpmnadapbjaaW.PrintMore
attribute [local go_sem] max2_int min2_int max_two min_two max_three min_three max_four min_four   -- for this text's walks alone
set_option linter.unusedVariables false
set_option linter.unusedSimpArgs false
mutual
def laws_FnExactReset.j0 : Nat → Int → Int → Bool → Bool → Bool → List Int → List Int → Int → Int → Int → Bool → Bool → List Int → List Int → Int → Int → Int → Bool → Bool → List Int → List Int → Int → Int → Int → Bool → Bool → List Int → List Int → Int → Int → Int → Option (Bool)
 | 0, _, _, _, _, _, _, _, _, _, _, _, _, _, _, _, _, _, _, _, _, _, _, _, _, _, _, _, _, _, _, _ => none
 | k + 1, x5, x8, x40, x362000, x362001, x362002, x362003, x362004, x362005, x362006, x387000, x387001, x387002, x387003, x387004, x387005, x387006, x399000, x399001, x399002, x399003, x399004, x399005, x399006, x412000, x412001, x412002, x412003, x412004, x412005, x412006 => if x40 = true then (some false) else ((laws_toEvent.f k x362000 x362001 x362002 x362003 x362004 x362005 x362006).bind fun bt413 => ((laws_eqEvent.f k x399000 x399001 x399002 x399003 x399004 x399005 x399006 bt413.1 bt413.2.1 bt413.2.2.1 bt413.2.2.2.1 bt413.2.2.2.2.1 bt413.2.2.2.2.2.1 bt413.2.2.2.2.2.2).bind fun t424 => (if t424 = true then ((laws_markEvent.f k x399000 x399001 x399002 x399003 x399004 x399005 x399006 1).bind fun bt425 => (if bt425.1 < 0 then (laws_FnExactReset.j1 k x5 true x362000 x362001 x362002 x362003 x362004 x362005 x362006 x387000 x387001 x387002 x387003 x387004 x387005 x387006 x412000 x412001 x412002 x412003 x412004 x412005 x412006) else ((laws_eqEvent.f k x412000 x412001 x412002 x412003 x412004 x412005 x412006 x387000 x387001 x387002 x387003 x387004 x387005 x387006).bind fun t428 => (if t428 = true then (laws_FnExactReset.j1 k x5 (x8 != x5) x362000 x362001 x362002 x362003 x362004 x362005 x362006 x387000 x387001 x387002 x387003 x387004 x387005 x387006 x412000 x412001 x412002 x412003 x412004 x412005 x412006) else (laws_FnExactReset.j1 k x5 true x362000 x362001 x362002 x362003 x362004 x362005 x362006 x387000 x387001 x387002 x387003 x387004 x387005 x387006 x412000 x412001 x412002 x412003 x412004 x412005 x412006))))) else (some false))))
def laws_FnExactReset.j1 : Nat → Int → Bool → Bool → Bool → List Int → List Int → Int → Int → Int → Bool → Bool → List Int → List Int → Int → Int → Int → Bool → Bool → List Int → List Int → Int → Int → Int → Option (Bool)
 | 0, _, _, _, _, _, _, _, _, _, _, _, _, _, _, _, _, _, _, _, _, _, _, _ => none
 | k + 1, x5, x61, x362000, x362001, x362002, x362003, x362004, x362005, x362006, x387000, x387001, x387002, x387003, x387004, x387005, x387006, x412000, x412001, x412002, x412003, x412004, x412005, x412006 => if x61 = true then (some false) else ((laws_markEvent.f k x412000 x412001 x412002 x412003 x412004 x412005 x412006 1).bind fun bt429 => ((laws_heldEvent.f k x412000 x412001 bt429.2.1 bt429.2.2 x412004 x412005 x412006 1).bind fun t432 => (if t432 < 0 then (some false) else (if t432 = bt429.1 then ((laws_toEvent.f k x362000 x362001 x362002 x362003 x362004 x362005 x362006).bind fun bt433 => ((impl_Reset.f k bt433.1 bt433.2.1 bt433.2.2.1 bt433.2.2.2.1 bt433.2.2.2.2.1 bt433.2.2.2.2.2.1 bt433.2.2.2.2.2.2).bind fun bt444 => ((laws_eqEvent.f k bt444.1 bt444.2.1 bt444.2.2.1 bt444.2.2.2.1 bt444.2.2.2.2.1 bt444.2.2.2.2.2.1 bt444.2.2.2.2.2.2.1 x387000 x387001 x387002 x387003 x387004 x387005 x387006).bind fun t457 => (if t457 = true then (laws_FnExactReset.j2 k bt429.1 (bt444.2.2.2.2.2.2.2 != x5) x412000 x412001 bt429.2.1 bt429.2.2 x412004 x412005 x412006) else (laws_FnExactReset.j2 k bt429.1 true x412000 x412001 bt429.2.1 bt429.2.2 x412004 x412005 x412006))))) else (some false)))))
def laws_FnExactReset.j2 : Nat → Int → Bool → Bool → Bool → List Int → List Int → Int → Int → Int → Option (Bool)
 | 0, _, _, _, _, _, _, _, _, _ => none
 | k + 1, x10, x87, x412000, x412001, x412002, x412003, x412004, x412005, x412006 => if x87 = true then (some false) else ((laws_heldEvent.f k x412000 x412001 x412002 x412003 x412004 x412005 x412006 1).bind fun t458 => (if t458 < 0 then (some false) else (if t458 = x10 then (some true) else (some false))))
end
def laws_FnExactReset.f (k : Nat) (a0_0 : Bool) (a0_1 : Bool) (l0_2 : List Int) (l0_3 : List Int) (a0_4 : Int) (a0_5 : Int) (a0_6 : Int) : Option (Bool) := (laws_szEvent.f a0_0 a0_1 l0_2 l0_3 a0_4 a0_5 a0_6 1048576).bind fun t362 => (if t362 < 0 then (some true) else ((laws_toEvent.f k a0_0 a0_1 l0_2 l0_3 a0_4 a0_5 a0_6).bind fun bt363 => ((spec_Reset.f k bt363.1 bt363.2.1 bt363.2.2.1 bt363.2.2.2.1 bt363.2.2.2.2.1 bt363.2.2.2.2.2.1 bt363.2.2.2.2.2.2).bind fun bt374 => ((laws_toEvent.f k a0_0 a0_1 l0_2 l0_3 a0_4 a0_5 a0_6).bind fun bt387 => ((impl_Reset.f k bt387.1 bt387.2.1 bt387.2.2.1 bt387.2.2.2.1 bt387.2.2.2.2.1 bt387.2.2.2.2.2.1 bt387.2.2.2.2.2.2).bind fun bt399 => ((laws_eqEvent.f k bt399.1 bt399.2.1 bt399.2.2.1 bt399.2.2.2.1 bt399.2.2.2.2.1 bt399.2.2.2.2.2.1 bt399.2.2.2.2.2.2.1 bt374.1 bt374.2.1 bt374.2.2.1 bt374.2.2.2.1 bt374.2.2.2.2.1 bt374.2.2.2.2.2.1 bt374.2.2.2.2.2.2.1).bind fun t412 => (if t412 = true then (laws_FnExactReset.j0 k bt374.2.2.2.2.2.2.2 bt399.2.2.2.2.2.2.2 (bt399.2.2.2.2.2.2.2 != bt374.2.2.2.2.2.2.2) a0_0 a0_1 l0_2 l0_3 a0_4 a0_5 a0_6 bt374.1 bt374.2.1 bt374.2.2.1 bt374.2.2.2.1 bt374.2.2.2.2.1 bt374.2.2.2.2.2.1 bt374.2.2.2.2.2.2.1 bt387.1 bt387.2.1 bt387.2.2.1 bt387.2.2.2.1 bt387.2.2.2.2.1 bt387.2.2.2.2.2.1 bt387.2.2.2.2.2.2 bt399.1 bt399.2.1 bt399.2.2.1 bt399.2.2.2.1 bt399.2.2.2.2.1 bt399.2.2.2.2.2.1 bt399.2.2.2.2.2.2.1) else (laws_FnExactReset.j0 k bt374.2.2.2.2.2.2.2 bt399.2.2.2.2.2.2.2 true a0_0 a0_1 l0_2 l0_3 a0_4 a0_5 a0_6 bt374.1 bt374.2.1 bt374.2.2.1 bt374.2.2.2.1 bt374.2.2.2.2.1 bt374.2.2.2.2.2.1 bt374.2.2.2.2.2.2.1 bt387.1 bt387.2.1 bt387.2.2.1 bt387.2.2.2.1 bt387.2.2.2.2.1 bt387.2.2.2.2.2.1 bt387.2.2.2.2.2.2 bt399.1 bt399.2.1 bt399.2.2.1 bt399.2.2.2.1 bt399.2.2.2.2.1 bt399.2.2.2.2.2.1 bt399.2.2.2.2.2.2.1))))))))
theorem laws_FnExactReset.mono_l : ∀ k, (∀ y0 y1 y2 y3 y4 y5 y6 y7 y8 y9 y10 y11 y12 y13 y14 y15 y16 y17 y18 y19 y20 y21 y22 y23 y24 y25 y26 y27 y28 y29 y30, LeO (laws_FnExactReset.j0 k y0 y1 y2 y3 y4 y5 y6 y7 y8 y9 y10 y11 y12 y13 y14 y15 y16 y17 y18 y19 y20 y21 y22 y23 y24 y25 y26 y27 y28 y29 y30) (laws_FnExactReset.j0 (k + 1) y0 y1 y2 y3 y4 y5 y6 y7 y8 y9 y10 y11 y12 y13 y14 y15 y16 y17 y18 y19 y20 y21 y22 y23 y24 y25 y26 y27 y28 y29 y30)) ∧ (∀ y0 y1 y2 y3 y4 y5 y6 y7 y8 y9 y10 y11 y12 y13 y14 y15 y16 y17 y18 y19 y20 y21 y22, LeO (laws_FnExactReset.j1 k y0 y1 y2 y3 y4 y5 y6 y7 y8 y9 y10 y11 y12 y13 y14 y15 y16 y17 y18 y19 y20 y21 y22) (laws_FnExactReset.j1 (k + 1) y0 y1 y2 y3 y4 y5 y6 y7 y8 y9 y10 y11 y12 y13 y14 y15 y16 y17 y18 y19 y20 y21 y22)) ∧ (∀ y0 y1 y2 y3 y4 y5 y6 y7 y8, LeO (laws_FnExactReset.j2 k y0 y1 y2 y3 y4 y5 y6 y7 y8) (laws_FnExactReset.j2 (k + 1) y0 y1 y2 y3 y4 y5 y6 y7 y8))
 | 0 => ⟨fun _ _ _ _ _ _ _ _ _ _ _ _ _ _ _ _ _ _ _ _ _ _ _ _ _ _ _ _ _ _ _ r h => by simp [laws_FnExactReset.j0] at h, fun _ _ _ _ _ _ _ _ _ _ _ _ _ _ _ _ _ _ _ _ _ _ _ r h => by simp [laws_FnExactReset.j1] at h, fun _ _ _ _ _ _ _ _ _ r h => by simp [laws_FnExactReset.j2] at h⟩
 | k + 1 => by
  obtain ⟨ih0, ih1, ih2⟩ := laws_FnExactReset.mono_l k
  refine ⟨?_, ?_, ?_⟩
  ·intro y0 y1 y2 y3 y4 y5 y6 y7 y8 y9 y10 y11 y12 y13 y14 y15 y16 y17 y18 y19 y20 y21 y22 y23 y24 y25 y26 y27 y28 y29 y30
   unfold laws_FnExactReset.j0
   repeat' first
   | (with_reducible exact ih0 _ _ _ _ _ _ _ _ _ _ _ _ _ _ _ _ _ _ _ _ _ _ _ _ _ _ _ _ _ _ _)
   | (with_reducible exact ih1 _ _ _ _ _ _ _ _ _ _ _ _ _ _ _ _ _ _ _ _ _ _ _)
   | (with_reducible exact ih2 _ _ _ _ _ _ _ _ _)
   | (with_reducible exact impl_Reset.mono _ _ _ _ _ _ _ _)
   | (with_reducible exact laws_eqEvent.mono _ _ _ _ _ _ _ _ _ _ _ _ _ _ _)
   | (with_reducible exact laws_heldEvent.mono _ _ _ _ _ _ _ _ _)
   | (with_reducible exact laws_markEvent.mono _ _ _ _ _ _ _ _ _)
   | (with_reducible exact laws_toEvent.mono _ _ _ _ _ _ _ _)
   | (with_reducible exact spec_Reset.mono _ _ _ _ _ _ _ _)
   | (with_reducible exact LeO.refl _)
   | (with_reducible exact LeO.none _)
   | (with_reducible refine LeO.ite ?_ ?_)
   | (with_reducible refine LeO.bind ?_ (fun _ => ?_))
  ·intro y0 y1 y2 y3 y4 y5 y6 y7 y8 y9 y10 y11 y12 y13 y14 y15 y16 y17 y18 y19 y20 y21 y22
   unfold laws_FnExactReset.j1
   repeat' first
   | (with_reducible exact ih0 _ _ _ _ _ _ _ _ _ _ _ _ _ _ _ _ _ _ _ _ _ _ _ _ _ _ _ _ _ _ _)
   | (with_reducible exact ih1 _ _ _ _ _ _ _ _ _ _ _ _ _ _ _ _ _ _ _ _ _ _ _)
   | (with_reducible exact ih2 _ _ _ _ _ _ _ _ _)
   | (with_reducible exact impl_Reset.mono _ _ _ _ _ _ _ _)
   | (with_reducible exact laws_eqEvent.mono _ _ _ _ _ _ _ _ _ _ _ _ _ _ _)
   | (with_reducible exact laws_heldEvent.mono _ _ _ _ _ _ _ _ _)
   | (with_reducible exact laws_markEvent.mono _ _ _ _ _ _ _ _ _)
   | (with_reducible exact laws_toEvent.mono _ _ _ _ _ _ _ _)
   | (with_reducible exact spec_Reset.mono _ _ _ _ _ _ _ _)
   | (with_reducible exact LeO.refl _)
   | (with_reducible exact LeO.none _)
   | (with_reducible refine LeO.ite ?_ ?_)
   | (with_reducible refine LeO.bind ?_ (fun _ => ?_))
  ·intro y0 y1 y2 y3 y4 y5 y6 y7 y8
   unfold laws_FnExactReset.j2
   repeat' first
   | (with_reducible exact ih0 _ _ _ _ _ _ _ _ _ _ _ _ _ _ _ _ _ _ _ _ _ _ _ _ _ _ _ _ _ _ _)
   | (with_reducible exact ih1 _ _ _ _ _ _ _ _ _ _ _ _ _ _ _ _ _ _ _ _ _ _ _)
   | (with_reducible exact ih2 _ _ _ _ _ _ _ _ _)
   | (with_reducible exact impl_Reset.mono _ _ _ _ _ _ _ _)
   | (with_reducible exact laws_eqEvent.mono _ _ _ _ _ _ _ _ _ _ _ _ _ _ _)
   | (with_reducible exact laws_heldEvent.mono _ _ _ _ _ _ _ _ _)
   | (with_reducible exact laws_markEvent.mono _ _ _ _ _ _ _ _ _)
   | (with_reducible exact laws_toEvent.mono _ _ _ _ _ _ _ _)
   | (with_reducible exact spec_Reset.mono _ _ _ _ _ _ _ _)
   | (with_reducible exact LeO.refl _)
   | (with_reducible exact LeO.none _)
   | (with_reducible refine LeO.ite ?_ ?_)
   | (with_reducible refine LeO.bind ?_ (fun _ => ?_))
theorem laws_FnExactReset.mono : ∀ a0 a1 a2 a3 a4 a5 a6 k, LeO (laws_FnExactReset.f k a0 a1 a2 a3 a4 a5 a6) (laws_FnExactReset.f (k + 1) a0 a1 a2 a3 a4 a5 a6) := by
 intro a0 a1 a2 a3 a4 a5 a6 k
 obtain ⟨ih0, ih1, ih2⟩ := laws_FnExactReset.mono_l k
 unfold laws_FnExactReset.f
 repeat' first
   | (with_reducible exact ih0 _ _ _ _ _ _ _ _ _ _ _ _ _ _ _ _ _ _ _ _ _ _ _ _ _ _ _ _ _ _ _)
   | (with_reducible exact ih1 _ _ _ _ _ _ _ _ _ _ _ _ _ _ _ _ _ _ _ _ _ _ _)
   | (with_reducible exact ih2 _ _ _ _ _ _ _ _ _)
   | (with_reducible exact impl_Reset.mono _ _ _ _ _ _ _ _)
   | (with_reducible exact laws_eqEvent.mono _ _ _ _ _ _ _ _ _ _ _ _ _ _ _)
   | (with_reducible exact laws_heldEvent.mono _ _ _ _ _ _ _ _ _)
   | (with_reducible exact laws_markEvent.mono _ _ _ _ _ _ _ _ _)
   | (with_reducible exact laws_toEvent.mono _ _ _ _ _ _ _ _)
   | (with_reducible exact spec_Reset.mono _ _ _ _ _ _ _ _)
   | (with_reducible exact LeO.refl _)
   | (with_reducible exact LeO.none _)
   | (with_reducible refine LeO.ite ?_ ?_)
   | (with_reducible refine LeO.bind ?_ (fun _ => ?_))
set_option maxHeartbeats 8000000 in
set_option maxRecDepth 100000 in
theorem laws_FnExactReset.calls (k : Nat) (a0_0 : Bool) (a0_1 : Bool) (A0_2 : Option Addr) (c0_2 : Nat) (l0_2 : List Int) (A0_3 : Option Addr) (c0_3 : Nat) (l0_3 : List Int) (a0_4 : Int) (a0_5 : Int) (a0_6 : Int) (r : Bool) (w : World) (hr0_2 : Kd.C (Kd.int .i64) w A0_2 l0_2.length l0_2) (hc0_2 : l0_2.length ≤ c0_2) (hr0_3 : Kd.C (Kd.int .i64) w A0_3 l0_3.length l0_3) (hc0_3 : l0_3.length ≤ c0_3) (HQ_ : Aside0 (r = true)) (h : laws_FnExactReset.f k a0_0 a0_1 l0_2 l0_3 a0_4 a0_5 a0_6 = some r) :
  Calls Try.prog 5 #[.agg #[.bool a0_0, .bool a0_1, .slice A0_2 l0_2.length c0_2, .slice A0_3 l0_3.length c0_3, .int .i64 a0_4, .int .i64 a0_5, .int .i64 a0_6]] w fun e w' => e = .returned (.bool r) ∧ Below w.heap.size w w' := by
 have hu24 := Try.underlying24
 have hu27 := Try.underlying27
 have HR0_2 := am hr0_2
 have HC0_2 := am hc0_2
 clear hr0_2 hc0_2
 have HR0_3 := am hr0_3
 have HC0_3 := am hc0_3
 clear hr0_3 hc0_3
 have HB := am (Below.refl w.heap.size w)
 have H : ((laws_szEvent.f a0_0 a0_1 l0_2 l0_3 a0_4 a0_5 a0_6 1048576).bind fun t362 => (if t362 < 0 then (some true) else ((laws_toEvent.f k a0_0 a0_1 l0_2 l0_3 a0_4 a0_5 a0_6).bind fun bt363 => ((spec_Reset.f k bt363.1 bt363.2.1 bt363.2.2.1 bt363.2.2.2.1 bt363.2.2.2.2.1 bt363.2.2.2.2.2.1 bt363.2.2.2.2.2.2).bind fun bt374 => ((laws_toEvent.f k a0_0 a0_1 l0_2 l0_3 a0_4 a0_5 a0_6).bind fun bt387 => ((impl_Reset.f k bt387.1 bt387.2.1 bt387.2.2.1 bt387.2.2.2.1 bt387.2.2.2.2.1 bt387.2.2.2.2.2.1 bt387.2.2.2.2.2.2).bind fun bt399 => ((laws_eqEvent.f k bt399.1 bt399.2.1 bt399.2.2.1 bt399.2.2.2.1 bt399.2.2.2.2.1 bt399.2.2.2.2.2.1 bt399.2.2.2.2.2.2.1 bt374.1 bt374.2.1 bt374.2.2.1 bt374.2.2.2.1 bt374.2.2.2.2.1 bt374.2.2.2.2.2.1 bt374.2.2.2.2.2.2.1).bind fun t412 => (if t412 = true then (laws_FnExactReset.j0 k bt374.2.2.2.2.2.2.2 bt399.2.2.2.2.2.2.2 (bt399.2.2.2.2.2.2.2 != bt374.2.2.2.2.2.2.2) a0_0 a0_1 l0_2 l0_3 a0_4 a0_5 a0_6 bt374.1 bt374.2.1 bt374.2.2.1 bt374.2.2.2.1 bt374.2.2.2.2.1 bt374.2.2.2.2.2.1 bt374.2.2.2.2.2.2.1 bt387.1 bt387.2.1 bt387.2.2.1 bt387.2.2.2.1 bt387.2.2.2.2.1 bt387.2.2.2.2.2.1 bt387.2.2.2.2.2.2 bt399.1 bt399.2.1 bt399.2.2.1 bt399.2.2.2.1 bt399.2.2.2.2.1 bt399.2.2.2.2.2.1 bt399.2.2.2.2.2.2.1) else (laws_FnExactReset.j0 k bt374.2.2.2.2.2.2.2 bt399.2.2.2.2.2.2.2 true a0_0 a0_1 l0_2 l0_3 a0_4 a0_5 a0_6 bt374.1 bt374.2.1 bt374.2.2.1 bt374.2.2.2.1 bt374.2.2.2.2.1 bt374.2.2.2.2.2.1 bt374.2.2.2.2.2.2.1 bt387.1 bt387.2.1 bt387.2.2.1 bt387.2.2.2.1 bt387.2.2.2.2.1 bt387.2.2.2.2.2.1 bt387.2.2.2.2.2.2 bt399.1 bt399.2.1 bt399.2.2.1 bt399.2.2.2.1 bt399.2.2.2.2.1 bt399.2.2.2.2.2.1 bt399.2.2.2.2.2.2.1))))))))) = some r := h
 clear h
 replace H := Option.bind_eq_some_iff.mp H
 obtain ⟨t362, A20, H⟩ := H
 replace H : (if t362 < 0 then (some true) else ((laws_toEvent.f k a0_0 a0_1 l0_2 l0_3 a0_4 a0_5 a0_6).bind fun bt363 => ((spec_Reset.f k bt363.1 bt363.2.1 bt363.2.2.1 bt363.2.2.2.1 bt363.2.2.2.2.1 bt363.2.2.2.2.2.1 bt363.2.2.2.2.2.2).bind fun bt374 => ((laws_toEvent.f k a0_0 a0_1 l0_2 l0_3 a0_4 a0_5 a0_6).bind fun bt387 => ((impl_Reset.f k bt387.1 bt387.2.1 bt387.2.2.1 bt387.2.2.2.1 bt387.2.2.2.2.1 bt387.2.2.2.2.2.1 bt387.2.2.2.2.2.2).bind fun bt399 => ((laws_eqEvent.f k bt399.1 bt399.2.1 bt399.2.2.1 bt399.2.2.2.1 bt399.2.2.2.2.1 bt399.2.2.2.2.2.1 bt399.2.2.2.2.2.2.1 bt374.1 bt374.2.1 bt374.2.2.1 bt374.2.2.2.1 bt374.2.2.2.2.1 bt374.2.2.2.2.2.1 bt374.2.2.2.2.2.2.1).bind fun t412 => (if t412 = true then (laws_FnExactReset.j0 k bt374.2.2.2.2.2.2.2 bt399.2.2.2.2.2.2.2 (bt399.2.2.2.2.2.2.2 != bt374.2.2.2.2.2.2.2) a0_0 a0_1 l0_2 l0_3 a0_4 a0_5 a0_6 bt374.1 bt374.2.1 bt374.2.2.1 bt374.2.2.2.1 bt374.2.2.2.2.1 bt374.2.2.2.2.2.1 bt374.2.2.2.2.2.2.1 bt387.1 bt387.2.1 bt387.2.2.1 bt387.2.2.2.1 bt387.2.2.2.2.1 bt387.2.2.2.2.2.1 bt387.2.2.2.2.2.2 bt399.1 bt399.2.1 bt399.2.2.1 bt399.2.2.2.1 bt399.2.2.2.2.1 bt399.2.2.2.2.2.1 bt399.2.2.2.2.2.2.1) else (laws_FnExactReset.j0 k bt374.2.2.2.2.2.2.2 bt399.2.2.2.2.2.2.2 true a0_0 a0_1 l0_2 l0_3 a0_4 a0_5 a0_6 bt374.1 bt374.2.1 bt374.2.2.1 bt374.2.2.2.1 bt374.2.2.2.2.1 bt374.2.2.2.2.2.1 bt374.2.2.2.2.2.2.1 bt387.1 bt387.2.1 bt387.2.2.1 bt387.2.2.2.1 bt387.2.2.2.2.1 bt387.2.2.2.2.2.1 bt387.2.2.2.2.2.2 bt399.1 bt399.2.1 bt399.2.2.1 bt399.2.2.2.1 bt399.2.2.2.2.1 bt399.2.2.2.2.2.1 bt399.2.2.2.2.2.2.1)))))))) = some r := H
 have A2 := am A20
 clear A20
 by_cases c3 : t362 < 0
 ·rw [if_pos c3] at H
  have c3b0 : decide (t362 < 0) = true := decide_eq_true c3
  clear c3
  obtain rfl := Option.some.inj H
  go_enter Try.func5, Try.ntmps5
  go_wp2_with (first | ((with_reducible refine gate_dst (N := 1) rfl ?_); refine box_event ?hg (N := 1) ?hd (cs := #[.bool a0_0, .bool a0_1, .slice A0_2 l0_2.length c0_2, .slice A0_3 l0_3.length c0_3, .int .i64 a0_4, .int .i64 a0_5, .int .i64 a0_6]) (t := 24) ?hr ?_; (case hd => rfl); (case hg => rfl); (case hr => first | (go_simp; done) | (go_simp; rfl)); intro gb361 hg w4 hbox hb; have BK361 := am (hbox); have GW361 := am ((by rw [hg]; exact (below_size (pkB HB.out)) : w.heap.size ≤ gb361)); have GE361 := am ((by rw [hg]; exact (below_size (pkB HB.out)) : w.heap.size ≤ gb361)); replace HB := am (below_step (pkB HB.out) hb); clear hb hbox hg; obtain ⟨hcz5_0, hcz5_1, hcz5_2, hcz5_3, hcz5_4, hcz5_5, hcz5_6, hfz5_0, hfz5_1, hfz5_2, hfz5_3, hfz5_4, hfz5_5, hfz5_6⟩ := bk7 BK361.out) | ((with_reducible refine gate_callee (f := 14) rfl ?_); refine goesL_ (some 16) rfl rfl Try.func14 (by kernel_rfl) rfl #[.agg #[.bool a0_0, .bool a0_1, .slice A0_2 l0_2.length c0_2, .slice A0_3 l0_3.length c0_3, .int .i64 a0_4, .int .i64 a0_5, .int .i64 a0_6], .int .i64 1048576] rfl mpx ?_; (with_reducible refine (laws_szEvent.calls a0_0 a0_1 _ _ l0_2 _ _ l0_3 a0_4 a0_5 a0_6 1048576 t362 _ ?side1 ?side2 ?side3 ?side4 A2.out).mono ?_); (case side1 => exact pkC (Kd.C_below HR0_2.out HB.out)); (case side2 => exact HC0_2.out); (case side3 => exact pkC (Kd.C_below HR0_3.out HB.out)); (case side4 => exact HC0_3.out); rintro e w6 ⟨rfl, hb⟩; refine ⟨_, rfl, ?_⟩; replace BK361 := am (blk_below (pkK BK361.out) hb); replace HB := am (below_step (pkW HB.out) hb); (try clear hb)))
  go_ret
  exact ⟨rfe, pkW HB.out⟩
 ·rw [if_neg c3] at H
  have c3b0 : decide (t362 < 0) = false := decide_eq_false c3
  clear c3
  replace H := Option.bind_eq_some_iff.mp H
  obtain ⟨⟨t363, t364, t365, t368, t371, t372, t373⟩, A70, H⟩ := H
  replace H : ((spec_Reset.f k t363 t364 t365 t368 t371 t372 t373).bind fun bt374 => ((laws_toEvent.f k a0_0 a0_1 l0_2 l0_3 a0_4 a0_5 a0_6).bind fun bt387 => ((impl_Reset.f k bt387.1 bt387.2.1 bt387.2.2.1 bt387.2.2.2.1 bt387.2.2.2.2.1 bt387.2.2.2.2.2.1 bt387.2.2.2.2.2.2).bind fun bt399 => ((laws_eqEvent.f k bt399.1 bt399.2.1 bt399.2.2.1 bt399.2.2.2.1 bt399.2.2.2.2.1 bt399.2.2.2.2.2.1 bt399.2.2.2.2.2.2.1 bt374.1 bt374.2.1 bt374.2.2.1 bt374.2.2.2.1 bt374.2.2.2.2.1 bt374.2.2.2.2.2.1 bt374.2.2.2.2.2.2.1).bind fun t412 => (if t412 = true then (laws_FnExactReset.j0 k bt374.2.2.2.2.2.2.2 bt399.2.2.2.2.2.2.2 (bt399.2.2.2.2.2.2.2 != bt374.2.2.2.2.2.2.2) a0_0 a0_1 l0_2 l0_3 a0_4 a0_5 a0_6 bt374.1 bt374.2.1 bt374.2.2.1 bt374.2.2.2.1 bt374.2.2.2.2.1 bt374.2.2.2.2.2.1 bt374.2.2.2.2.2.2.1 bt387.1 bt387.2.1 bt387.2.2.1 bt387.2.2.2.1 bt387.2.2.2.2.1 bt387.2.2.2.2.2.1 bt387.2.2.2.2.2.2 bt399.1 bt399.2.1 bt399.2.2.1 bt399.2.2.2.1 bt399.2.2.2.2.1 bt399.2.2.2.2.2.1 bt399.2.2.2.2.2.2.1) else (laws_FnExactReset.j0 k bt374.2.2.2.2.2.2.2 bt399.2.2.2.2.2.2.2 true a0_0 a0_1 l0_2 l0_3 a0_4 a0_5 a0_6 bt374.1 bt374.2.1 bt374.2.2.1 bt374.2.2.2.1 bt374.2.2.2.2.1 bt374.2.2.2.2.2.1 bt374.2.2.2.2.2.2.1 bt387.1 bt387.2.1 bt387.2.2.1 bt387.2.2.2.1 bt387.2.2.2.2.1 bt387.2.2.2.2.2.1 bt387.2.2.2.2.2.2 bt399.1 bt399.2.1 bt399.2.2.1 bt399.2.2.2.1 bt399.2.2.2.2.1 bt399.2.2.2.2.2.1 bt399.2.2.2.2.2.2.1)))))) = some r := H
  have A7 := am A70
  clear A70
  replace H := Option.bind_eq_some_iff.mp H
  obtain ⟨⟨t374, t375, t376, t379, t382, t383, t384, t385⟩, A80, H⟩ := H
  replace H : ((laws_toEvent.f k a0_0 a0_1 l0_2 l0_3 a0_4 a0_5 a0_6).bind fun bt387 => ((impl_Reset.f k bt387.1 bt387.2.1 bt387.2.2.1 bt387.2.2.2.1 bt387.2.2.2.2.1 bt387.2.2.2.2.2.1 bt387.2.2.2.2.2.2).bind fun bt399 => ((laws_eqEvent.f k bt399.1 bt399.2.1 bt399.2.2.1 bt399.2.2.2.1 bt399.2.2.2.2.1 bt399.2.2.2.2.2.1 bt399.2.2.2.2.2.2.1 t374 t375 t376 t379 t382 t383 t384).bind fun t412 => (if t412 = true then (laws_FnExactReset.j0 k t385 bt399.2.2.2.2.2.2.2 (bt399.2.2.2.2.2.2.2 != t385) a0_0 a0_1 l0_2 l0_3 a0_4 a0_5 a0_6 t374 t375 t376 t379 t382 t383 t384 bt387.1 bt387.2.1 bt387.2.2.1 bt387.2.2.2.1 bt387.2.2.2.2.1 bt387.2.2.2.2.2.1 bt387.2.2.2.2.2.2 bt399.1 bt399.2.1 bt399.2.2.1 bt399.2.2.2.1 bt399.2.2.2.2.1 bt399.2.2.2.2.2.1 bt399.2.2.2.2.2.2.1) else (laws_FnExactReset.j0 k t385 bt399.2.2.2.2.2.2.2 true a0_0 a0_1 l0_2 l0_3 a0_4 a0_5 a0_6 t374 t375 t376 t379 t382 t383 t384 bt387.1 bt387.2.1 bt387.2.2.1 bt387.2.2.2.1 bt387.2.2.2.2.1 bt387.2.2.2.2.2.1 bt387.2.2.2.2.2.2 bt399.1 bt399.2.1 bt399.2.2.1 bt399.2.2.2.1 bt399.2.2.2.2.1 bt399.2.2.2.2.2.1 bt399.2.2.2.2.2.2.1))))) = some r := H
  have A8 := am A80
  clear A80
  replace H := Option.bind_eq_some_iff.mp H
  obtain ⟨⟨t387, t388, t389, t392, t395, t396, t397⟩, A90, H⟩ := H
  replace H : ((impl_Reset.f k t387 t388 t389 t392 t395 t396 t397).bind fun bt399 => ((laws_eqEvent.f k bt399.1 bt399.2.1 bt399.2.2.1 bt399.2.2.2.1 bt399.2.2.2.2.1 bt399.2.2.2.2.2.1 bt399.2.2.2.2.2.2.1 t374 t375 t376 t379 t382 t383 t384).bind fun t412 => (if t412 = true then (laws_FnExactReset.j0 k t385 bt399.2.2.2.2.2.2.2 (bt399.2.2.2.2.2.2.2 != t385) a0_0 a0_1 l0_2 l0_3 a0_4 a0_5 a0_6 t374 t375 t376 t379 t382 t383 t384 t387 t388 t389 t392 t395 t396 t397 bt399.1 bt399.2.1 bt399.2.2.1 bt399.2.2.2.1 bt399.2.2.2.2.1 bt399.2.2.2.2.2.1 bt399.2.2.2.2.2.2.1) else (laws_FnExactReset.j0 k t385 bt399.2.2.2.2.2.2.2 true a0_0 a0_1 l0_2 l0_3 a0_4 a0_5 a0_6 t374 t375 t376 t379 t382 t383 t384 t387 t388 t389 t392 t395 t396 t397 bt399.1 bt399.2.1 bt399.2.2.1 bt399.2.2.2.1 bt399.2.2.2.2.1 bt399.2.2.2.2.2.1 bt399.2.2.2.2.2.2.1)))) = some r := H
  have A9 := am A90
  clear A90
  replace H := Option.bind_eq_some_iff.mp H
  obtain ⟨⟨t399, t400, t401, t404, t407, t408, t409, t410⟩, A100, H⟩ := H
  replace H : ((laws_eqEvent.f k t399 t400 t401 t404 t407 t408 t409 t374 t375 t376 t379 t382 t383 t384).bind fun t412 => (if t412 = true then (laws_FnExactReset.j0 k t385 t410 (t410 != t385) a0_0 a0_1 l0_2 l0_3 a0_4 a0_5 a0_6 t374 t375 t376 t379 t382 t383 t384 t387 t388 t389 t392 t395 t396 t397 t399 t400 t401 t404 t407 t408 t409) else (laws_FnExactReset.j0 k t385 t410 true a0_0 a0_1 l0_2 l0_3 a0_4 a0_5 a0_6 t374 t375 t376 t379 t382 t383 t384 t387 t388 t389 t392 t395 t396 t397 t399 t400 t401 t404 t407 t408 t409))) = some r := H
  have A10 := am A100
  clear A100
  have HC11 := am H
  clear H
  go_enter Try.func5, Try.ntmps5
  go_upto_region 8 with (first | ((with_reducible refine gate_dst (N := 1) rfl ?_); refine box_event ?hg (N := 1) ?hd (cs := #[.bool a0_0, .bool a0_1, .slice A0_2 l0_2.length c0_2, .slice A0_3 l0_3.length c0_3, .int .i64 a0_4, .int .i64 a0_5, .int .i64 a0_6]) (t := 24) ?hr ?_; (case hd => rfl); (case hg => rfl); (case hr => first | (go_simp; done) | (go_simp; rfl)); intro gb361 hg w12 hbox hb; have BK361 := am (hbox); have GW361 := am ((by rw [hg]; exact (below_size (pkB HB.out)) : w.heap.size ≤ gb361)); have GE361 := am ((by rw [hg]; exact (below_size (pkB HB.out)) : w.heap.size ≤ gb361)); replace HB := am (below_step (pkB HB.out) hb); clear hb hbox hg; obtain ⟨hcz13_0, hcz13_1, hcz13_2, hcz13_3, hcz13_4, hcz13_5, hcz13_6, hfz13_0, hfz13_1, hfz13_2, hfz13_3, hfz13_4, hfz13_5, hfz13_6⟩ := bk7 BK361.out) | ((with_reducible refine gate_callee (f := 14) rfl ?_); refine goesL_ (some 16) rfl rfl Try.func14 (by kernel_rfl) rfl #[.agg #[.bool a0_0, .bool a0_1, .slice A0_2 l0_2.length c0_2, .slice A0_3 l0_3.length c0_3, .int .i64 a0_4, .int .i64 a0_5, .int .i64 a0_6], .int .i64 1048576] rfl mpx ?_; (with_reducible refine (laws_szEvent.calls a0_0 a0_1 _ _ l0_2 _ _ l0_3 a0_4 a0_5 a0_6 1048576 t362 _ ?side1 ?side2 ?side3 ?side4 A2.out).mono ?_); (case side1 => exact pkC (Kd.C_below HR0_2.out HB.out)); (case side2 => exact HC0_2.out); (case side3 => exact pkC (Kd.C_below HR0_3.out HB.out)); (case side4 => exact HC0_3.out); rintro e w14 ⟨rfl, hb⟩; refine ⟨_, rfl, ?_⟩; replace BK361 := am (blk_below (pkK BK361.out) hb); replace HB := am (below_step (pkW HB.out) hb); (try clear hb); obtain ⟨hcz15_0, hcz15_1, hcz15_2, hcz15_3, hcz15_4, hcz15_5, hcz15_6, hfz15_0, hfz15_1, hfz15_2, hfz15_3, hfz15_4, hfz15_5, hfz15_6⟩ := bk7 BK361.out) | ((with_reducible refine gate_callee (f := 16) rfl ?_); refine goesL_ (some 21) rfl rfl Try.func16 (by kernel_rfl) rfl #[.agg #[.bool a0_0, .bool a0_1, .slice A0_2 l0_2.length c0_2, .slice A0_3 l0_3.length c0_3, .int .i64 a0_4, .int .i64 a0_5, .int .i64 a0_6]] rfl mpx ?_; (with_reducible refine (laws_toEvent.calls k a0_0 a0_1 _ _ l0_2 _ _ l0_3 a0_4 a0_5 a0_6 t363 t364 t365 t368 t371 t372 t373 _ ?side1 ?side2 ?side3 ?side4 A7.out).mono ?_); (case side1 => exact pkC (Kd.C_below HR0_2.out HB.out)); (case side2 => exact HC0_2.out); (case side3 => exact pkC (Kd.C_below HR0_3.out HB.out)); (case side4 => exact HC0_3.out); rintro e w16 ⟨v366, v369, rfl, ho0, ho1, hb⟩; refine ⟨_, rfl, ?_⟩; have HO367 := am (Kd.R_lower ho0 (below_size (pkW HB.out))); have HO370 := am (Kd.R_lower ho1 (below_size (pkW HB.out))); replace BK361 := am (blk_below (pkK BK361.out) hb); replace HB := am (below_step (pkW HB.out) hb); (try clear hb ho0 ho1); obtain ⟨Ao17, co17, eo17⟩ := Kd.R_slice HO367.out; subst eo17; obtain ⟨Ao18, co18, eo18⟩ := Kd.R_slice HO370.out; subst eo18) | ((with_reducible refine gate_callee (f := 24) rfl ?_); refine goesL_ (some 22) rfl rfl Try.func24 (by kernel_rfl) rfl #[.agg #[.bool t363, .bool t364, .slice Ao17 t365.length co17, .slice Ao18 t368.length co18, .int .i64 t371, .int .i64 t372, .int .i64 t373]] rfl mpx ?_; (with_reducible refine (spec_Reset.calls k t363 t364 _ _ t365 _ _ t368 t371 t372 t373 t374 t375 t376 t379 t382 t383 t384 t385 _ ?side1 ?side2 ?side3 ?side4 A8.out).mono ?_); (case side1 => exact pkC (Kd.R_reads' HO367.out).2.2); (case side2 => exact (Kd.R_reads' HO367.out).2.1); (case side3 => exact pkC (Kd.R_reads' HO370.out).2.2); (case side4 => exact (Kd.R_reads' HO370.out).2.1); rintro e w19 ⟨v377, v380, rfl, ho0, ho1, hb⟩; refine ⟨_, rfl, ?_⟩; have HO378 := am (Kd.R_lower (Kd.R_new' (Kd.R_new' ho0 (Kd.R_lt (pkR HO367.out))) (Kd.R_lt (pkR HO370.out))) (below_size (pkW HB.out))); have HO381 := am (Kd.R_lower (Kd.R_new' (Kd.R_new' ho1 (Kd.R_lt (pkR HO367.out))) (Kd.R_lt (pkR HO370.out))) (below_size (pkW HB.out))); replace HO367 := am (Kd.R_mono (Kd.R_told (Kd.R_told (Kd.R_old (pkR HO367.out) hb) (Kd.R_base ho0)) (Kd.R_base ho1)) (fun _ h_ => h_.1)); replace HO370 := am (Kd.R_mono (Kd.R_told (Kd.R_told (Kd.R_old (pkR HO370.out) hb) (Kd.R_base ho0)) (Kd.R_base ho1)) (fun _ h_ => h_.1)); replace BK361 := am (blk_below (pkK BK361.out) hb); replace HB := am (below_step (pkW HB.out) hb); (try clear hb ho0 ho1)) | ((with_reducible refine gate_dst (N := 4) rfl ?_); refine box_event ?hg (N := 4) ?hd (cs := #[.bool false, .bool false, .slice none 0 0, .slice none 0 0, .int .i64 0, .int .i64 0, .int .i64 0]) (t := 27) ?hr ?_; (case hd => rfl); (case hg => rfl); (case hr => first | (go_simp; done) | (go_simp; rfl)); intro gb386 hg w20 hbox hb; replace HO367 := am (Kd.R_below (pkR HO367.out) hb); replace HO370 := am (Kd.R_below (pkR HO370.out) hb); replace HO378 := am (Kd.R_below (pkR HO378.out) hb); replace HO381 := am (Kd.R_below (pkR HO381.out) hb); have BK386 := am (hbox); have GW386 := am ((by rw [hg]; exact (below_size (pkW HB.out)) : w.heap.size ≤ gb386)); have GE386 := am ((by rw [hg]; exact (below_size (pkW HB.out)) : w.heap.size ≤ gb386)); replace HB := am (below_step (pkW HB.out) hb); have NB361_386 := am ((by rw [hg]; exact Nat.ne_of_lt (blk_lt (g := gb361) (o := .cells #[.bool a0_0, .bool a0_1, .slice A0_2 l0_2.length c0_2, .slice A0_3 l0_3.length c0_3, .int .i64 a0_4, .int .i64 a0_5, .int .i64 a0_6] 24 (0, 0)) (pkK BK361.out)) : gb361 ≠ gb386)); have NB386_361 := am ((by rw [hg]; exact Nat.ne_of_gt (blk_lt (g := gb361) (o := .cells #[.bool a0_0, .bool a0_1, .slice A0_2 l0_2.length c0_2, .slice A0_3 l0_3.length c0_3, .int .i64 a0_4, .int .i64 a0_5, .int .i64 a0_6] 24 (0, 0)) (pkK BK361.out)) : gb386 ≠ gb361)); replace BK361 := am (blk_below (pkK BK361.out) hb); clear hb hbox hg; have hnb21 := NB386_361.out; have hnc21 := NB361_386.out; obtain ⟨hcz22_0, hcz22_1, hcz22_2, hcz22_3, hcz22_4, hcz22_5, hcz22_6, hfz22_0, hfz22_1, hfz22_2, hfz22_3, hfz22_4, hfz22_5, hfz22_6⟩ := bk7 BK386.out; obtain ⟨Ao23, co23, eo23⟩ := Kd.R_slice HO378.out; subst eo23; obtain ⟨Ao24, co24, eo24⟩ := Kd.R_slice HO381.out; subst eo24; obtain ⟨hcz25_0, hcz25_1, hcz25_2, hcz25_3, hcz25_4, hcz25_5, hcz25_6, hfz25_0, hfz25_1, hfz25_2, hfz25_3, hfz25_4, hfz25_5, hfz25_6⟩ := bk7 BK361.out) | ((with_reducible refine gate_callee (f := 16) rfl ?_); refine goesL_ (some 26) rfl rfl Try.func16 (by kernel_rfl) rfl #[.agg #[.bool a0_0, .bool a0_1, .slice A0_2 l0_2.length c0_2, .slice A0_3 l0_3.length c0_3, .int .i64 a0_4, .int .i64 a0_5, .int .i64 a0_6]] rfl mpx ?_; (with_reducible refine (laws_toEvent.calls k a0_0 a0_1 _ _ l0_2 _ _ l0_3 a0_4 a0_5 a0_6 t387 t388 t389 t392 t395 t396 t397 _ ?side1 ?side2 ?side3 ?side4 A9.out).mono ?_); (case side1 => exact Kd.C_below HR0_2.out (pkW HB.out)); (case side2 => exact HC0_2.out); (case side3 => exact Kd.C_below HR0_3.out (pkW HB.out)); (case side4 => exact HC0_3.out); rintro e w26 ⟨v390, v393, rfl, ho0, ho1, hb⟩; refine ⟨_, rfl, ?_⟩; have HO391 := am (Kd.R_lower (Kd.R_new' (Kd.R_new' (Kd.R_new' (Kd.R_new' ho0 (Kd.R_lt (by (with_reducible repeat (first | apply Kd.R_alloc | apply Kd.R_drewN | apply Kd.R_drew)); exact (Kd.R_mono (Kd.R_far (p := ⟨gb386, 6, none⟩) (Kd.R_far (p := ⟨gb386, 5, none⟩) (Kd.R_far (p := ⟨gb386, 4, none⟩) (Kd.R_far (p := ⟨gb386, 3, none⟩) (Kd.R_far (p := ⟨gb386, 2, none⟩) (Kd.R_far (p := ⟨gb386, 1, none⟩) (Kd.R_far (p := ⟨gb386, 0, none⟩) (Kd.R_types HO367.out BK386.out (by decide)) (fun _ hk => hk.2) (.bool t374)) (fun _ hk => hk.2) (.bool t375)) (fun _ hk => hk.2) (.slice Ao23 t376.length co23)) (fun _ hk => hk.2) (.slice Ao24 t379.length co24)) (fun _ hk => hk.2) (.int .i64 t382)) (fun _ hk => hk.2) (.int .i64 t383)) (fun _ hk => hk.2) (.int .i64 t384)) (fun _ h_ => h_.1))))) (Kd.R_lt (by (with_reducible repeat (first | apply Kd.R_alloc | apply Kd.R_drewN | apply Kd.R_drew)); exact (Kd.R_mono (Kd.R_far (p := ⟨gb386, 6, none⟩) (Kd.R_far (p := ⟨gb386, 5, none⟩) (Kd.R_far (p := ⟨gb386, 4, none⟩) (Kd.R_far (p := ⟨gb386, 3, none⟩) (Kd.R_far (p := ⟨gb386, 2, none⟩) (Kd.R_far (p := ⟨gb386, 1, none⟩) (Kd.R_far (p := ⟨gb386, 0, none⟩) (Kd.R_types HO370.out BK386.out (by decide)) (fun _ hk => hk.2) (.bool t374)) (fun _ hk => hk.2) (.bool t375)) (fun _ hk => hk.2) (.slice Ao23 t376.length co23)) (fun _ hk => hk.2) (.slice Ao24 t379.length co24)) (fun _ hk => hk.2) (.int .i64 t382)) (fun _ hk => hk.2) (.int .i64 t383)) (fun _ hk => hk.2) (.int .i64 t384)) (fun _ h_ => h_.1))))) (Kd.R_lt (by (with_reducible repeat (first | apply Kd.R_alloc | apply Kd.R_drewN | apply Kd.R_drew)); exact (Kd.R_mono (Kd.R_far (p := ⟨gb386, 6, none⟩) (Kd.R_far (p := ⟨gb386, 5, none⟩) (Kd.R_far (p := ⟨gb386, 4, none⟩) (Kd.R_far (p := ⟨gb386, 3, none⟩) (Kd.R_far (p := ⟨gb386, 2, none⟩) (Kd.R_far (p := ⟨gb386, 1, none⟩) (Kd.R_far (p := ⟨gb386, 0, none⟩) (Kd.R_types HO378.out BK386.out (by decide)) (fun _ hk => hk.2) (.bool t374)) (fun _ hk => hk.2) (.bool t375)) (fun _ hk => hk.2) (.slice Ao23 t376.length co23)) (fun _ hk => hk.2) (.slice Ao24 t379.length co24)) (fun _ hk => hk.2) (.int .i64 t382)) (fun _ hk => hk.2) (.int .i64 t383)) (fun _ hk => hk.2) (.int .i64 t384)) (fun _ h_ => h_.1))))) (Kd.R_lt (by (with_reducible repeat (first | apply Kd.R_alloc | apply Kd.R_drewN | apply Kd.R_drew)); exact (Kd.R_mono (Kd.R_far (p := ⟨gb386, 6, none⟩) (Kd.R_far (p := ⟨gb386, 5, none⟩) (Kd.R_far (p := ⟨gb386, 4, none⟩) (Kd.R_far (p := ⟨gb386, 3, none⟩) (Kd.R_far (p := ⟨gb386, 2, none⟩) (Kd.R_far (p := ⟨gb386, 1, none⟩) (Kd.R_far (p := ⟨gb386, 0, none⟩) (Kd.R_types HO381.out BK386.out (by decide)) (fun _ hk => hk.2) (.bool t374)) (fun _ hk => hk.2) (.bool t375)) (fun _ hk => hk.2) (.slice Ao23 t376.length co23)) (fun _ hk => hk.2) (.slice Ao24 t379.length co24)) (fun _ hk => hk.2) (.int .i64 t382)) (fun _ hk => hk.2) (.int .i64 t383)) (fun _ hk => hk.2) (.int .i64 t384)) (fun _ h_ => h_.1))))) (below_size (pkW HB.out))); have HO394 := am (Kd.R_lower (Kd.R_new' (Kd.R_new' (Kd.R_new' (Kd.R_new' ho1 (Kd.R_lt (by (with_reducible repeat (first | apply Kd.R_alloc | apply Kd.R_drewN | apply Kd.R_drew)); exact (Kd.R_mono (Kd.R_far (p := ⟨gb386, 6, none⟩) (Kd.R_far (p := ⟨gb386, 5, none⟩) (Kd.R_far (p := ⟨gb386, 4, none⟩) (Kd.R_far (p := ⟨gb386, 3, none⟩) (Kd.R_far (p := ⟨gb386, 2, none⟩) (Kd.R_far (p := ⟨gb386, 1, none⟩) (Kd.R_far (p := ⟨gb386, 0, none⟩) (Kd.R_types HO367.out BK386.out (by decide)) (fun _ hk => hk.2) (.bool t374)) (fun _ hk => hk.2) (.bool t375)) (fun _ hk => hk.2) (.slice Ao23 t376.length co23)) (fun _ hk => hk.2) (.slice Ao24 t379.length co24)) (fun _ hk => hk.2) (.int .i64 t382)) (fun _ hk => hk.2) (.int .i64 t383)) (fun _ hk => hk.2) (.int .i64 t384)) (fun _ h_ => h_.1))))) (Kd.R_lt (by (with_reducible repeat (first | apply Kd.R_alloc | apply Kd.R_drewN | apply Kd.R_drew)); exact (Kd.R_mono (Kd.R_far (p := ⟨gb386, 6, none⟩) (Kd.R_far (p := ⟨gb386, 5, none⟩) (Kd.R_far (p := ⟨gb386, 4, none⟩) (Kd.R_far (p := ⟨gb386, 3, none⟩) (Kd.R_far (p := ⟨gb386, 2, none⟩) (Kd.R_far (p := ⟨gb386, 1, none⟩) (Kd.R_far (p := ⟨gb386, 0, none⟩) (Kd.R_types HO370.out BK386.out (by decide)) (fun _ hk => hk.2) (.bool t374)) (fun _ hk => hk.2) (.bool t375)) (fun _ hk => hk.2) (.slice Ao23 t376.length co23)) (fun _ hk => hk.2) (.slice Ao24 t379.length co24)) (fun _ hk => hk.2) (.int .i64 t382)) (fun _ hk => hk.2) (.int .i64 t383)) (fun _ hk => hk.2) (.int .i64 t384)) (fun _ h_ => h_.1))))) (Kd.R_lt (by (with_reducible repeat (first | apply Kd.R_alloc | apply Kd.R_drewN | apply Kd.R_drew)); exact (Kd.R_mono (Kd.R_far (p := ⟨gb386, 6, none⟩) (Kd.R_far (p := ⟨gb386, 5, none⟩) (Kd.R_far (p := ⟨gb386, 4, none⟩) (Kd.R_far (p := ⟨gb386, 3, none⟩) (Kd.R_far (p := ⟨gb386, 2, none⟩) (Kd.R_far (p := ⟨gb386, 1, none⟩) (Kd.R_far (p := ⟨gb386, 0, none⟩) (Kd.R_types HO378.out BK386.out (by decide)) (fun _ hk => hk.2) (.bool t374)) (fun _ hk => hk.2) (.bool t375)) (fun _ hk => hk.2) (.slice Ao23 t376.length co23)) (fun _ hk => hk.2) (.slice Ao24 t379.length co24)) (fun _ hk => hk.2) (.int .i64 t382)) (fun _ hk => hk.2) (.int .i64 t383)) (fun _ hk => hk.2) (.int .i64 t384)) (fun _ h_ => h_.1))))) (Kd.R_lt (by (with_reducible repeat (first | apply Kd.R_alloc | apply Kd.R_drewN | apply Kd.R_drew)); exact (Kd.R_mono (Kd.R_far (p := ⟨gb386, 6, none⟩) (Kd.R_far (p := ⟨gb386, 5, none⟩) (Kd.R_far (p := ⟨gb386, 4, none⟩) (Kd.R_far (p := ⟨gb386, 3, none⟩) (Kd.R_far (p := ⟨gb386, 2, none⟩) (Kd.R_far (p := ⟨gb386, 1, none⟩) (Kd.R_far (p := ⟨gb386, 0, none⟩) (Kd.R_types HO381.out BK386.out (by decide)) (fun _ hk => hk.2) (.bool t374)) (fun _ hk => hk.2) (.bool t375)) (fun _ hk => hk.2) (.slice Ao23 t376.length co23)) (fun _ hk => hk.2) (.slice Ao24 t379.length co24)) (fun _ hk => hk.2) (.int .i64 t382)) (fun _ hk => hk.2) (.int .i64 t383)) (fun _ hk => hk.2) (.int .i64 t384)) (fun _ h_ => h_.1))))) (below_size (pkW HB.out))); replace HO367 := am (Kd.R_mono (Kd.R_told (Kd.R_told (Kd.R_old (by (with_reducible repeat (first | apply Kd.R_alloc | apply Kd.R_drewN | apply Kd.R_drew)); exact (Kd.R_mono (Kd.R_far (p := ⟨gb386, 6, none⟩) (Kd.R_far (p := ⟨gb386, 5, none⟩) (Kd.R_far (p := ⟨gb386, 4, none⟩) (Kd.R_far (p := ⟨gb386, 3, none⟩) (Kd.R_far (p := ⟨gb386, 2, none⟩) (Kd.R_far (p := ⟨gb386, 1, none⟩) (Kd.R_far (p := ⟨gb386, 0, none⟩) (Kd.R_types HO367.out BK386.out (by decide)) (fun _ hk => hk.2) (.bool t374)) (fun _ hk => hk.2) (.bool t375)) (fun _ hk => hk.2) (.slice Ao23 t376.length co23)) (fun _ hk => hk.2) (.slice Ao24 t379.length co24)) (fun _ hk => hk.2) (.int .i64 t382)) (fun _ hk => hk.2) (.int .i64 t383)) (fun _ hk => hk.2) (.int .i64 t384)) (fun _ h_ => h_.1))) hb) (Kd.R_base ho0)) (Kd.R_base ho1)) (fun _ h_ => h_.1)); replace HO370 := am (Kd.R_mono (Kd.R_told (Kd.R_told (Kd.R_old (by (with_reducible repeat (first | apply Kd.R_alloc | apply Kd.R_drewN | apply Kd.R_drew)); exact (Kd.R_mono (Kd.R_far (p := ⟨gb386, 6, none⟩) (Kd.R_far (p := ⟨gb386, 5, none⟩) (Kd.R_far (p := ⟨gb386, 4, none⟩) (Kd.R_far (p := ⟨gb386, 3, none⟩) (Kd.R_far (p := ⟨gb386, 2, none⟩) (Kd.R_far (p := ⟨gb386, 1, none⟩) (Kd.R_far (p := ⟨gb386, 0, none⟩) (Kd.R_types HO370.out BK386.out (by decide)) (fun _ hk => hk.2) (.bool t374)) (fun _ hk => hk.2) (.bool t375)) (fun _ hk => hk.2) (.slice Ao23 t376.length co23)) (fun _ hk => hk.2) (.slice Ao24 t379.length co24)) (fun _ hk => hk.2) (.int .i64 t382)) (fun _ hk => hk.2) (.int .i64 t383)) (fun _ hk => hk.2) (.int .i64 t384)) (fun _ h_ => h_.1))) hb) (Kd.R_base ho0)) (Kd.R_base ho1)) (fun _ h_ => h_.1)); replace HO378 := am (Kd.R_mono (Kd.R_told (Kd.R_told (Kd.R_old (by (with_reducible repeat (first | apply Kd.R_alloc | apply Kd.R_drewN | apply Kd.R_drew)); exact (Kd.R_mono (Kd.R_far (p := ⟨gb386, 6, none⟩) (Kd.R_far (p := ⟨gb386, 5, none⟩) (Kd.R_far (p := ⟨gb386, 4, none⟩) (Kd.R_far (p := ⟨gb386, 3, none⟩) (Kd.R_far (p := ⟨gb386, 2, none⟩) (Kd.R_far (p := ⟨gb386, 1, none⟩) (Kd.R_far (p := ⟨gb386, 0, none⟩) (Kd.R_types HO378.out BK386.out (by decide)) (fun _ hk => hk.2) (.bool t374)) (fun _ hk => hk.2) (.bool t375)) (fun _ hk => hk.2) (.slice Ao23 t376.length co23)) (fun _ hk => hk.2) (.slice Ao24 t379.length co24)) (fun _ hk => hk.2) (.int .i64 t382)) (fun _ hk => hk.2) (.int .i64 t383)) (fun _ hk => hk.2) (.int .i64 t384)) (fun _ h_ => h_.1))) hb) (Kd.R_base ho0)) (Kd.R_base ho1)) (fun _ h_ => h_.1)); replace HO381 := am (Kd.R_mono (Kd.R_told (Kd.R_told (Kd.R_old (by (with_reducible repeat (first | apply Kd.R_alloc | apply Kd.R_drewN | apply Kd.R_drew)); exact (Kd.R_mono (Kd.R_far (p := ⟨gb386, 6, none⟩) (Kd.R_far (p := ⟨gb386, 5, none⟩) (Kd.R_far (p := ⟨gb386, 4, none⟩) (Kd.R_far (p := ⟨gb386, 3, none⟩) (Kd.R_far (p := ⟨gb386, 2, none⟩) (Kd.R_far (p := ⟨gb386, 1, none⟩) (Kd.R_far (p := ⟨gb386, 0, none⟩) (Kd.R_types HO381.out BK386.out (by decide)) (fun _ hk => hk.2) (.bool t374)) (fun _ hk => hk.2) (.bool t375)) (fun _ hk => hk.2) (.slice Ao23 t376.length co23)) (fun _ hk => hk.2) (.slice Ao24 t379.length co24)) (fun _ hk => hk.2) (.int .i64 t382)) (fun _ hk => hk.2) (.int .i64 t383)) (fun _ hk => hk.2) (.int .i64 t384)) (fun _ h_ => h_.1))) hb) (Kd.R_base ho0)) (Kd.R_base ho1)) (fun _ h_ => h_.1)); replace BK361 := am (blk_below (g := gb361) (o := .cells #[.bool a0_0, .bool a0_1, .slice A0_2 l0_2.length c0_2, .slice A0_3 l0_3.length c0_3, .int .i64 a0_4, .int .i64 a0_5, .int .i64 a0_6] 24 (0, 0)) (by (with_reducible repeat (first | refine blk_drewN ?_ _ | refine blk_drew ?_ | refine blk_alloc ?_ _)); refine blk_far ?_ NB361_386.out _; (with_reducible repeat (first | refine blk_drewN ?_ _ | refine blk_drew ?_ | refine blk_alloc ?_ _)); refine blk_far ?_ NB361_386.out _; (with_reducible repeat (first | refine blk_drewN ?_ _ | refine blk_drew ?_ | refine blk_alloc ?_ _)); refine blk_far ?_ NB361_386.out _; (with_reducible repeat (first | refine blk_drewN ?_ _ | refine blk_drew ?_ | refine blk_alloc ?_ _)); refine blk_far ?_ NB361_386.out _; (with_reducible repeat (first | refine blk_drewN ?_ _ | refine blk_drew ?_ | refine blk_alloc ?_ _)); refine blk_far ?_ NB361_386.out _; (with_reducible repeat (first | refine blk_drewN ?_ _ | refine blk_drew ?_ | refine blk_alloc ?_ _)); refine blk_far ?_ NB361_386.out _; (with_reducible repeat (first | refine blk_drewN ?_ _ | refine blk_drew ?_ | refine blk_alloc ?_ _)); refine blk_far ?_ NB361_386.out _; exact pkK BK361.out) hb); replace BK386 := am (blk_below (g := gb386) (o := .cells #[.bool t374, .bool t375, .slice Ao23 t376.length co23, .slice Ao24 t379.length co24, .int .i64 t382, .int .i64 t383, .int .i64 t384] 27 (0, 0)) (by (with_reducible repeat (first | refine blk_drewN ?_ _ | refine blk_drew ?_ | refine blk_alloc ?_ _)); refine blk_put (cs := #[.bool t374, .bool t375, .slice Ao23 t376.length co23, .slice Ao24 t379.length co24, .int .i64 t382, .int .i64 t383, .int .i64 0]) ?_ 6 _ rfl; (with_reducible repeat (first | refine blk_drewN ?_ _ | refine blk_drew ?_ | refine blk_alloc ?_ _)); refine blk_put (cs := #[.bool t374, .bool t375, .slice Ao23 t376.length co23, .slice Ao24 t379.length co24, .int .i64 t382, .int .i64 0, .int .i64 0]) ?_ 5 _ rfl; (with_reducible repeat (first | refine blk_drewN ?_ _ | refine blk_drew ?_ | refine blk_alloc ?_ _)); refine blk_put (cs := #[.bool t374, .bool t375, .slice Ao23 t376.length co23, .slice Ao24 t379.length co24, .int .i64 0, .int .i64 0, .int .i64 0]) ?_ 4 _ rfl; (with_reducible repeat (first | refine blk_drewN ?_ _ | refine blk_drew ?_ | refine blk_alloc ?_ _)); refine blk_put (cs := #[.bool t374, .bool t375, .slice Ao23 t376.length co23, .slice none 0 0, .int .i64 0, .int .i64 0, .int .i64 0]) ?_ 3 _ rfl; (with_reducible repeat (first | refine blk_drewN ?_ _ | refine blk_drew ?_ | refine blk_alloc ?_ _)); refine blk_put (cs := #[.bool t374, .bool t375, .slice none 0 0, .slice none 0 0, .int .i64 0, .int .i64 0, .int .i64 0]) ?_ 2 _ rfl; (with_reducible repeat (first | refine blk_drewN ?_ _ | refine blk_drew ?_ | refine blk_alloc ?_ _)); refine blk_put (cs := #[.bool t374, .bool false, .slice none 0 0, .slice none 0 0, .int .i64 0, .int .i64 0, .int .i64 0]) ?_ 1 _ rfl; (with_reducible repeat (first | refine blk_drewN ?_ _ | refine blk_drew ?_ | refine blk_alloc ?_ _)); refine blk_put (cs := #[.bool false, .bool false, .slice none 0 0, .slice none 0 0, .int .i64 0, .int .i64 0, .int .i64 0]) ?_ 0 _ rfl; exact pkK BK386.out) hb); replace HB := am (below_step (pkW HB.out) hb); (try clear hb ho0 ho1)) | ((with_reducible refine gate_dst (N := 6) rfl ?_); refine box_event ?hg (N := 6) ?hd (cs := #[.bool false, .bool false, .slice none 0 0, .slice none 0 0, .int .i64 0, .int .i64 0, .int .i64 0]) (t := 27) ?hr ?_; (case hd => rfl); (case hg => rfl); (case hr => first | (go_simp; done) | (go_simp; rfl)); intro gb398 hg w27 hbox hb; replace HO367 := am (Kd.R_below (pkR HO367.out) hb); replace HO370 := am (Kd.R_below (pkR HO370.out) hb); replace HO378 := am (Kd.R_below (pkR HO378.out) hb); replace HO381 := am (Kd.R_below (pkR HO381.out) hb); replace HO391 := am (Kd.R_below (pkR HO391.out) hb); replace HO394 := am (Kd.R_below (pkR HO394.out) hb); have BK398 := am (hbox); have GW398 := am ((by rw [hg]; exact (below_size (pkW HB.out)) : w.heap.size ≤ gb398)); have GE398 := am ((by rw [hg]; exact (below_size (pkW HB.out)) : w.heap.size ≤ gb398)); replace HB := am (below_step (pkW HB.out) hb); have NB361_398 := am ((by rw [hg]; exact Nat.ne_of_lt (blk_lt (g := gb361) (o := .cells #[.bool a0_0, .bool a0_1, .slice A0_2 l0_2.length c0_2, .slice A0_3 l0_3.length c0_3, .int .i64 a0_4, .int .i64 a0_5, .int .i64 a0_6] 24 (0, 0)) (pkK BK361.out)) : gb361 ≠ gb398)); have NB398_361 := am ((by rw [hg]; exact Nat.ne_of_gt (blk_lt (g := gb361) (o := .cells #[.bool a0_0, .bool a0_1, .slice A0_2 l0_2.length c0_2, .slice A0_3 l0_3.length c0_3, .int .i64 a0_4, .int .i64 a0_5, .int .i64 a0_6] 24 (0, 0)) (pkK BK361.out)) : gb398 ≠ gb361)); replace BK361 := am (blk_below (pkK BK361.out) hb); have NB386_398 := am ((by rw [hg]; exact Nat.ne_of_lt (blk_lt (g := gb386) (o := .cells #[.bool t374, .bool t375, .slice Ao23 t376.length co23, .slice Ao24 t379.length co24, .int .i64 t382, .int .i64 t383, .int .i64 t384] 27 (0, 0)) (pkK BK386.out)) : gb386 ≠ gb398)); have NB398_386 := am ((by rw [hg]; exact Nat.ne_of_gt (blk_lt (g := gb386) (o := .cells #[.bool t374, .bool t375, .slice Ao23 t376.length co23, .slice Ao24 t379.length co24, .int .i64 t382, .int .i64 t383, .int .i64 t384] 27 (0, 0)) (pkK BK386.out)) : gb398 ≠ gb386)); replace BK386 := am (blk_below (pkK BK386.out) hb); clear hb hbox hg; have hnb28 := NB398_361.out; have hnc28 := NB361_398.out; have hnb29 := NB398_386.out; have hnc29 := NB386_398.out; obtain ⟨hcz30_0, hcz30_1, hcz30_2, hcz30_3, hcz30_4, hcz30_5, hcz30_6, hfz30_0, hfz30_1, hfz30_2, hfz30_3, hfz30_4, hfz30_5, hfz30_6⟩ := bk7 BK398.out; obtain ⟨Ao31, co31, eo31⟩ := Kd.R_slice HO391.out; subst eo31; obtain ⟨Ao32, co32, eo32⟩ := Kd.R_slice HO394.out; subst eo32) | ((with_reducible refine gate_callee (f := 25) rfl ?_); refine goesL_ (some 29) rfl rfl Try.func25 (by kernel_rfl) rfl #[.agg #[.bool t387, .bool t388, .slice Ao31 t389.length co31, .slice Ao32 t392.length co32, .int .i64 t395, .int .i64 t396, .int .i64 t397]] rfl mpx ?_; (with_reducible refine (impl_Reset.calls k t387 t388 _ _ t389 _ _ t392 t395 t396 t397 t399 t400 t401 t404 t407 t408 t409 t410 _ ?side1 ?side2 ?side3 ?side4 A10.out).mono ?_); (case side1 => refine (Kd.R_reads' (e := 3) (base := w.heap.size) (ok := fun k_ => ((((some k_ ≠ (.slice Ao32 t392.length co32 : Value).ownBlock ∧ some k_ ≠ (.slice Ao17 t365.length co17 : Value).ownBlock) ∧ some k_ ≠ (.slice Ao18 t368.length co18 : Value).ownBlock) ∧ some k_ ≠ (.slice Ao23 t376.length co23 : Value).ownBlock) ∧ some k_ ≠ (.slice Ao24 t379.length co24 : Value).ownBlock)) (n := t389.length) (c := co31) ?_).2.2; exact (by (with_reducible repeat (first | apply Kd.R_alloc | apply Kd.R_drewN | apply Kd.R_drew)); exact (Kd.R_mono (Kd.R_far (p := ⟨gb398, 6, none⟩) (Kd.R_far (p := ⟨gb398, 5, none⟩) (Kd.R_far (p := ⟨gb398, 4, none⟩) (Kd.R_far (p := ⟨gb398, 3, none⟩) (Kd.R_far (p := ⟨gb398, 2, none⟩) (Kd.R_far (p := ⟨gb398, 1, none⟩) (Kd.R_far (p := ⟨gb398, 0, none⟩) (Kd.R_types HO391.out BK398.out (by decide)) (fun _ hk => hk.2) (.bool t387)) (fun _ hk => hk.2) (.bool t388)) (fun _ hk => hk.2) (.slice Ao31 t389.length co31)) (fun _ hk => hk.2) (.slice Ao32 t392.length co32)) (fun _ hk => hk.2) (.int .i64 t395)) (fun _ hk => hk.2) (.int .i64 t396)) (fun _ hk => hk.2) (.int .i64 t397)) (fun _ h_ => h_.1)))); (case side2 => exact (Kd.R_reads' HO391.out).2.1); (case side3 => refine (Kd.R_reads' (e := 3) (base := w.heap.size) (ok := fun k_ => ((((some k_ ≠ (.slice Ao31 t389.length co31 : Value).ownBlock ∧ some k_ ≠ (.slice Ao17 t365.length co17 : Value).ownBlock) ∧ some k_ ≠ (.slice Ao18 t368.length co18 : Value).ownBlock) ∧ some k_ ≠ (.slice Ao23 t376.length co23 : Value).ownBlock) ∧ some k_ ≠ (.slice Ao24 t379.length co24 : Value).ownBlock)) (n := t392.length) (c := co32) ?_).2.2; exact (by (with_reducible repeat (first | apply Kd.R_alloc | apply Kd.R_drewN | apply Kd.R_drew)); exact (Kd.R_mono (Kd.R_far (p := ⟨gb398, 6, none⟩) (Kd.R_far (p := ⟨gb398, 5, none⟩) (Kd.R_far (p := ⟨gb398, 4, none⟩) (Kd.R_far (p := ⟨gb398, 3, none⟩) (Kd.R_far (p := ⟨gb398, 2, none⟩) (Kd.R_far (p := ⟨gb398, 1, none⟩) (Kd.R_far (p := ⟨gb398, 0, none⟩) (Kd.R_types HO394.out BK398.out (by decide)) (fun _ hk => hk.2) (.bool t387)) (fun _ hk => hk.2) (.bool t388)) (fun _ hk => hk.2) (.slice Ao31 t389.length co31)) (fun _ hk => hk.2) (.slice Ao32 t392.length co32)) (fun _ hk => hk.2) (.int .i64 t395)) (fun _ hk => hk.2) (.int .i64 t396)) (fun _ hk => hk.2) (.int .i64 t397)) (fun _ h_ => h_.1)))); (case side4 => exact (Kd.R_reads' HO394.out).2.1); rintro e w33 ⟨v402, v405, rfl, ho0, ho1, hb⟩; refine ⟨_, rfl, ?_⟩; have HO403 := am (Kd.R_lower (Kd.R_new' (Kd.R_new' (Kd.R_new' (Kd.R_new' (Kd.R_new' (Kd.R_new' ho0 (Kd.R_lt (by (with_reducible repeat (first | apply Kd.R_alloc | apply Kd.R_drewN | apply Kd.R_drew)); exact (Kd.R_mono (Kd.R_far (p := ⟨gb398, 6, none⟩) (Kd.R_far (p := ⟨gb398, 5, none⟩) (Kd.R_far (p := ⟨gb398, 4, none⟩) (Kd.R_far (p := ⟨gb398, 3, none⟩) (Kd.R_far (p := ⟨gb398, 2, none⟩) (Kd.R_far (p := ⟨gb398, 1, none⟩) (Kd.R_far (p := ⟨gb398, 0, none⟩) (Kd.R_types HO367.out BK398.out (by decide)) (fun _ hk => hk.2) (.bool t387)) (fun _ hk => hk.2) (.bool t388)) (fun _ hk => hk.2) (.slice Ao31 t389.length co31)) (fun _ hk => hk.2) (.slice Ao32 t392.length co32)) (fun _ hk => hk.2) (.int .i64 t395)) (fun _ hk => hk.2) (.int .i64 t396)) (fun _ hk => hk.2) (.int .i64 t397)) (fun _ h_ => h_.1))))) (Kd.R_lt (by (with_reducible repeat (first | apply Kd.R_alloc | apply Kd.R_drewN | apply Kd.R_drew)); exact (Kd.R_mono (Kd.R_far (p := ⟨gb398, 6, none⟩) (Kd.R_far (p := ⟨gb398, 5, none⟩) (Kd.R_far (p := ⟨gb398, 4, none⟩) (Kd.R_far (p := ⟨gb398, 3, none⟩) (Kd.R_far (p := ⟨gb398, 2, none⟩) (Kd.R_far (p := ⟨gb398, 1, none⟩) (Kd.R_far (p := ⟨gb398, 0, none⟩) (Kd.R_types HO370.out BK398.out (by decide)) (fun _ hk => hk.2) (.bool t387)) (fun _ hk => hk.2) (.bool t388)) (fun _ hk => hk.2) (.slice Ao31 t389.length co31)) (fun _ hk => hk.2) (.slice Ao32 t392.length co32)) (fun _ hk => hk.2) (.int .i64 t395)) (fun _ hk => hk.2) (.int .i64 t396)) (fun _ hk => hk.2) (.int .i64 t397)) (fun _ h_ => h_.1))))) (Kd.R_lt (by (with_reducible repeat (first | apply Kd.R_alloc | apply Kd.R_drewN | apply Kd.R_drew)); exact (Kd.R_mono (Kd.R_far (p := ⟨gb398, 6, none⟩) (Kd.R_far (p := ⟨gb398, 5, none⟩) (Kd.R_far (p := ⟨gb398, 4, none⟩) (Kd.R_far (p := ⟨gb398, 3, none⟩) (Kd.R_far (p := ⟨gb398, 2, none⟩) (Kd.R_far (p := ⟨gb398, 1, none⟩) (Kd.R_far (p := ⟨gb398, 0, none⟩) (Kd.R_types HO378.out BK398.out (by decide)) (fun _ hk => hk.2) (.bool t387)) (fun _ hk => hk.2) (.bool t388)) (fun _ hk => hk.2) (.slice Ao31 t389.length co31)) (fun _ hk => hk.2) (.slice Ao32 t392.length co32)) (fun _ hk => hk.2) (.int .i64 t395)) (fun _ hk => hk.2) (.int .i64 t396)) (fun _ hk => hk.2) (.int .i64 t397)) (fun _ h_ => h_.1))))) (Kd.R_lt (by (with_reducible repeat (first | apply Kd.R_alloc | apply Kd.R_drewN | apply Kd.R_drew)); exact (Kd.R_mono (Kd.R_far (p := ⟨gb398, 6, none⟩) (Kd.R_far (p := ⟨gb398, 5, none⟩) (Kd.R_far (p := ⟨gb398, 4, none⟩) (Kd.R_far (p := ⟨gb398, 3, none⟩) (Kd.R_far (p := ⟨gb398, 2, none⟩) (Kd.R_far (p := ⟨gb398, 1, none⟩) (Kd.R_far (p := ⟨gb398, 0, none⟩) (Kd.R_types HO381.out BK398.out (by decide)) (fun _ hk => hk.2) (.bool t387)) (fun _ hk => hk.2) (.bool t388)) (fun _ hk => hk.2) (.slice Ao31 t389.length co31)) (fun _ hk => hk.2) (.slice Ao32 t392.length co32)) (fun _ hk => hk.2) (.int .i64 t395)) (fun _ hk => hk.2) (.int .i64 t396)) (fun _ hk => hk.2) (.int .i64 t397)) (fun _ h_ => h_.1))))) (Kd.R_lt (by (with_reducible repeat (first | apply Kd.R_alloc | apply Kd.R_drewN | apply Kd.R_drew)); exact (Kd.R_mono (Kd.R_far (p := ⟨gb398, 6, none⟩) (Kd.R_far (p := ⟨gb398, 5, none⟩) (Kd.R_far (p := ⟨gb398, 4, none⟩) (Kd.R_far (p := ⟨gb398, 3, none⟩) (Kd.R_far (p := ⟨gb398, 2, none⟩) (Kd.R_far (p := ⟨gb398, 1, none⟩) (Kd.R_far (p := ⟨gb398, 0, none⟩) (Kd.R_types HO391.out BK398.out (by decide)) (fun _ hk => hk.2) (.bool t387)) (fun _ hk => hk.2) (.bool t388)) (fun _ hk => hk.2) (.slice Ao31 t389.length co31)) (fun _ hk => hk.2) (.slice Ao32 t392.length co32)) (fun _ hk => hk.2) (.int .i64 t395)) (fun _ hk => hk.2) (.int .i64 t396)) (fun _ hk => hk.2) (.int .i64 t397)) (fun _ h_ => h_.1))))) (Kd.R_lt (by (with_reducible repeat (first | apply Kd.R_alloc | apply Kd.R_drewN | apply Kd.R_drew)); exact (Kd.R_mono (Kd.R_far (p := ⟨gb398, 6, none⟩) (Kd.R_far (p := ⟨gb398, 5, none⟩) (Kd.R_far (p := ⟨gb398, 4, none⟩) (Kd.R_far (p := ⟨gb398, 3, none⟩) (Kd.R_far (p := ⟨gb398, 2, none⟩) (Kd.R_far (p := ⟨gb398, 1, none⟩) (Kd.R_far (p := ⟨gb398, 0, none⟩) (Kd.R_types HO394.out BK398.out (by decide)) (fun _ hk => hk.2) (.bool t387)) (fun _ hk => hk.2) (.bool t388)) (fun _ hk => hk.2) (.slice Ao31 t389.length co31)) (fun _ hk => hk.2) (.slice Ao32 t392.length co32)) (fun _ hk => hk.2) (.int .i64 t395)) (fun _ hk => hk.2) (.int .i64 t396)) (fun _ hk => hk.2) (.int .i64 t397)) (fun _ h_ => h_.1))))) (below_size (pkW HB.out))); have HO406 := am (Kd.R_lower (Kd.R_new' (Kd.R_new' (Kd.R_new' (Kd.R_new' (Kd.R_new' (Kd.R_new' ho1 (Kd.R_lt (by (with_reducible repeat (first | apply Kd.R_alloc | apply Kd.R_drewN | apply Kd.R_drew)); exact (Kd.R_mono (Kd.R_far (p := ⟨gb398, 6, none⟩) (Kd.R_far (p := ⟨gb398, 5, none⟩) (Kd.R_far (p := ⟨gb398, 4, none⟩) (Kd.R_far (p := ⟨gb398, 3, none⟩) (Kd.R_far (p := ⟨gb398, 2, none⟩) (Kd.R_far (p := ⟨gb398, 1, none⟩) (Kd.R_far (p := ⟨gb398, 0, none⟩) (Kd.R_types HO367.out BK398.out (by decide)) (fun _ hk => hk.2) (.bool t387)) (fun _ hk => hk.2) (.bool t388)) (fun _ hk => hk.2) (.slice Ao31 t389.length co31)) (fun _ hk => hk.2) (.slice Ao32 t392.length co32)) (fun _ hk => hk.2) (.int .i64 t395)) (fun _ hk => hk.2) (.int .i64 t396)) (fun _ hk => hk.2) (.int .i64 t397)) (fun _ h_ => h_.1))))) (Kd.R_lt (by (with_reducible repeat (first | apply Kd.R_alloc | apply Kd.R_drewN | apply Kd.R_drew)); exact (Kd.R_mono (Kd.R_far (p := ⟨gb398, 6, none⟩) (Kd.R_far (p := ⟨gb398, 5, none⟩) (Kd.R_far (p := ⟨gb398, 4, none⟩) (Kd.R_far (p := ⟨gb398, 3, none⟩) (Kd.R_far (p := ⟨gb398, 2, none⟩) (Kd.R_far (p := ⟨gb398, 1, none⟩) (Kd.R_far (p := ⟨gb398, 0, none⟩) (Kd.R_types HO370.out BK398.out (by decide)) (fun _ hk => hk.2) (.bool t387)) (fun _ hk => hk.2) (.bool t388)) (fun _ hk => hk.2) (.slice Ao31 t389.length co31)) (fun _ hk => hk.2) (.slice Ao32 t392.length co32)) (fun _ hk => hk.2) (.int .i64 t395)) (fun _ hk => hk.2) (.int .i64 t396)) (fun _ hk => hk.2) (.int .i64 t397)) (fun _ h_ => h_.1))))) (Kd.R_lt (by (with_reducible repeat (first | apply Kd.R_alloc | apply Kd.R_drewN | apply Kd.R_drew)); exact (Kd.R_mono (Kd.R_far (p := ⟨gb398, 6, none⟩) (Kd.R_far (p := ⟨gb398, 5, none⟩) (Kd.R_far (p := ⟨gb398, 4, none⟩) (Kd.R_far (p := ⟨gb398, 3, none⟩) (Kd.R_far (p := ⟨gb398, 2, none⟩) (Kd.R_far (p := ⟨gb398, 1, none⟩) (Kd.R_far (p := ⟨gb398, 0, none⟩) (Kd.R_types HO378.out BK398.out (by decide)) (fun _ hk => hk.2) (.bool t387)) (fun _ hk => hk.2) (.bool t388)) (fun _ hk => hk.2) (.slice Ao31 t389.length co31)) (fun _ hk => hk.2) (.slice Ao32 t392.length co32)) (fun _ hk => hk.2) (.int .i64 t395)) (fun _ hk => hk.2) (.int .i64 t396)) (fun _ hk => hk.2) (.int .i64 t397)) (fun _ h_ => h_.1))))) (Kd.R_lt (by (with_reducible repeat (first | apply Kd.R_alloc | apply Kd.R_drewN | apply Kd.R_drew)); exact (Kd.R_mono (Kd.R_far (p := ⟨gb398, 6, none⟩) (Kd.R_far (p := ⟨gb398, 5, none⟩) (Kd.R_far (p := ⟨gb398, 4, none⟩) (Kd.R_far (p := ⟨gb398, 3, none⟩) (Kd.R_far (p := ⟨gb398, 2, none⟩) (Kd.R_far (p := ⟨gb398, 1, none⟩) (Kd.R_far (p := ⟨gb398, 0, none⟩) (Kd.R_types HO381.out BK398.out (by decide)) (fun _ hk => hk.2) (.bool t387)) (fun _ hk => hk.2) (.bool t388)) (fun _ hk => hk.2) (.slice Ao31 t389.length co31)) (fun _ hk => hk.2) (.slice Ao32 t392.length co32)) (fun _ hk => hk.2) (.int .i64 t395)) (fun _ hk => hk.2) (.int .i64 t396)) (fun _ hk => hk.2) (.int .i64 t397)) (fun _ h_ => h_.1))))) (Kd.R_lt (by (with_reducible repeat (first | apply Kd.R_alloc | apply Kd.R_drewN | apply Kd.R_drew)); exact (Kd.R_mono (Kd.R_far (p := ⟨gb398, 6, none⟩) (Kd.R_far (p := ⟨gb398, 5, none⟩) (Kd.R_far (p := ⟨gb398, 4, none⟩) (Kd.R_far (p := ⟨gb398, 3, none⟩) (Kd.R_far (p := ⟨gb398, 2, none⟩) (Kd.R_far (p := ⟨gb398, 1, none⟩) (Kd.R_far (p := ⟨gb398, 0, none⟩) (Kd.R_types HO391.out BK398.out (by decide)) (fun _ hk => hk.2) (.bool t387)) (fun _ hk => hk.2) (.bool t388)) (fun _ hk => hk.2) (.slice Ao31 t389.length co31)) (fun _ hk => hk.2) (.slice Ao32 t392.length co32)) (fun _ hk => hk.2) (.int .i64 t395)) (fun _ hk => hk.2) (.int .i64 t396)) (fun _ hk => hk.2) (.int .i64 t397)) (fun _ h_ => h_.1))))) (Kd.R_lt (by (with_reducible repeat (first | apply Kd.R_alloc | apply Kd.R_drewN | apply Kd.R_drew)); exact (Kd.R_mono (Kd.R_far (p := ⟨gb398, 6, none⟩) (Kd.R_far (p := ⟨gb398, 5, none⟩) (Kd.R_far (p := ⟨gb398, 4, none⟩) (Kd.R_far (p := ⟨gb398, 3, none⟩) (Kd.R_far (p := ⟨gb398, 2, none⟩) (Kd.R_far (p := ⟨gb398, 1, none⟩) (Kd.R_far (p := ⟨gb398, 0, none⟩) (Kd.R_types HO394.out BK398.out (by decide)) (fun _ hk => hk.2) (.bool t387)) (fun _ hk => hk.2) (.bool t388)) (fun _ hk => hk.2) (.slice Ao31 t389.length co31)) (fun _ hk => hk.2) (.slice Ao32 t392.length co32)) (fun _ hk => hk.2) (.int .i64 t395)) (fun _ hk => hk.2) (.int .i64 t396)) (fun _ hk => hk.2) (.int .i64 t397)) (fun _ h_ => h_.1))))) (below_size (pkW HB.out))); replace HO367 := am (Kd.R_mono (Kd.R_told (Kd.R_told (Kd.R_old (by (with_reducible repeat (first | apply Kd.R_alloc | apply Kd.R_drewN | apply Kd.R_drew)); exact (Kd.R_mono (Kd.R_far (p := ⟨gb398, 6, none⟩) (Kd.R_far (p := ⟨gb398, 5, none⟩) (Kd.R_far (p := ⟨gb398, 4, none⟩) (Kd.R_far (p := ⟨gb398, 3, none⟩) (Kd.R_far (p := ⟨gb398, 2, none⟩) (Kd.R_far (p := ⟨gb398, 1, none⟩) (Kd.R_far (p := ⟨gb398, 0, none⟩) (Kd.R_types HO367.out BK398.out (by decide)) (fun _ hk => hk.2) (.bool t387)) (fun _ hk => hk.2) (.bool t388)) (fun _ hk => hk.2) (.slice Ao31 t389.length co31)) (fun _ hk => hk.2) (.slice Ao32 t392.length co32)) (fun _ hk => hk.2) (.int .i64 t395)) (fun _ hk => hk.2) (.int .i64 t396)) (fun _ hk => hk.2) (.int .i64 t397)) (fun _ h_ => h_.1))) hb) (Kd.R_base ho0)) (Kd.R_base ho1)) (fun _ h_ => h_.1)); replace HO370 := am (Kd.R_mono (Kd.R_told (Kd.R_told (Kd.R_old (by (with_reducible repeat (first | apply Kd.R_alloc | apply Kd.R_drewN | apply Kd.R_drew)); exact (Kd.R_mono (Kd.R_far (p := ⟨gb398, 6, none⟩) (Kd.R_far (p := ⟨gb398, 5, none⟩) (Kd.R_far (p := ⟨gb398, 4, none⟩) (Kd.R_far (p := ⟨gb398, 3, none⟩) (Kd.R_far (p := ⟨gb398, 2, none⟩) (Kd.R_far (p := ⟨gb398, 1, none⟩) (Kd.R_far (p := ⟨gb398, 0, none⟩) (Kd.R_types HO370.out BK398.out (by decide)) (fun _ hk => hk.2) (.bool t387)) (fun _ hk => hk.2) (.bool t388)) (fun _ hk => hk.2) (.slice Ao31 t389.length co31)) (fun _ hk => hk.2) (.slice Ao32 t392.length co32)) (fun _ hk => hk.2) (.int .i64 t395)) (fun _ hk => hk.2) (.int .i64 t396)) (fun _ hk => hk.2) (.int .i64 t397)) (fun _ h_ => h_.1))) hb) (Kd.R_base ho0)) (Kd.R_base ho1)) (fun _ h_ => h_.1)); replace HO378 := am (Kd.R_mono (Kd.R_told (Kd.R_told (Kd.R_old (by (with_reducible repeat (first | apply Kd.R_alloc | apply Kd.R_drewN | apply Kd.R_drew)); exact (Kd.R_mono (Kd.R_far (p := ⟨gb398, 6, none⟩) (Kd.R_far (p := ⟨gb398, 5, none⟩) (Kd.R_far (p := ⟨gb398, 4, none⟩) (Kd.R_far (p := ⟨gb398, 3, none⟩) (Kd.R_far (p := ⟨gb398, 2, none⟩) (Kd.R_far (p := ⟨gb398, 1, none⟩) (Kd.R_far (p := ⟨gb398, 0, none⟩) (Kd.R_types HO378.out BK398.out (by decide)) (fun _ hk => hk.2) (.bool t387)) (fun _ hk => hk.2) (.bool t388)) (fun _ hk => hk.2) (.slice Ao31 t389.length co31)) (fun _ hk => hk.2) (.slice Ao32 t392.length co32)) (fun _ hk => hk.2) (.int .i64 t395)) (fun _ hk => hk.2) (.int .i64 t396)) (fun _ hk => hk.2) (.int .i64 t397)) (fun _ h_ => h_.1))) hb) (Kd.R_base ho0)) (Kd.R_base ho1)) (fun _ h_ => h_.1)); replace HO381 := am (Kd.R_mono (Kd.R_told (Kd.R_told (Kd.R_old (by (with_reducible repeat (first | apply Kd.R_alloc | apply Kd.R_drewN | apply Kd.R_drew)); exact (Kd.R_mono (Kd.R_far (p := ⟨gb398, 6, none⟩) (Kd.R_far (p := ⟨gb398, 5, none⟩) (Kd.R_far (p := ⟨gb398, 4, none⟩) (Kd.R_far (p := ⟨gb398, 3, none⟩) (Kd.R_far (p := ⟨gb398, 2, none⟩) (Kd.R_far (p := ⟨gb398, 1, none⟩) (Kd.R_far (p := ⟨gb398, 0, none⟩) (Kd.R_types HO381.out BK398.out (by decide)) (fun _ hk => hk.2) (.bool t387)) (fun _ hk => hk.2) (.bool t388)) (fun _ hk => hk.2) (.slice Ao31 t389.length co31)) (fun _ hk => hk.2) (.slice Ao32 t392.length co32)) (fun _ hk => hk.2) (.int .i64 t395)) (fun _ hk => hk.2) (.int .i64 t396)) (fun _ hk => hk.2) (.int .i64 t397)) (fun _ h_ => h_.1))) hb) (Kd.R_base ho0)) (Kd.R_base ho1)) (fun _ h_ => h_.1)); replace HO391 := am (Kd.R_mono (Kd.R_told (Kd.R_told (Kd.R_old (by (with_reducible repeat (first | apply Kd.R_alloc | apply Kd.R_drewN | apply Kd.R_drew)); exact (Kd.R_mono (Kd.R_far (p := ⟨gb398, 6, none⟩) (Kd.R_far (p := ⟨gb398, 5, none⟩) (Kd.R_far (p := ⟨gb398, 4, none⟩) (Kd.R_far (p := ⟨gb398, 3, none⟩) (Kd.R_far (p := ⟨gb398, 2, none⟩) (Kd.R_far (p := ⟨gb398, 1, none⟩) (Kd.R_far (p := ⟨gb398, 0, none⟩) (Kd.R_types HO391.out BK398.out (by decide)) (fun _ hk => hk.2) (.bool t387)) (fun _ hk => hk.2) (.bool t388)) (fun _ hk => hk.2) (.slice Ao31 t389.length co31)) (fun _ hk => hk.2) (.slice Ao32 t392.length co32)) (fun _ hk => hk.2) (.int .i64 t395)) (fun _ hk => hk.2) (.int .i64 t396)) (fun _ hk => hk.2) (.int .i64 t397)) (fun _ h_ => h_.1))) hb) (Kd.R_base ho0)) (Kd.R_base ho1)) (fun _ h_ => h_.1)); replace HO394 := am (Kd.R_mono (Kd.R_told (Kd.R_told (Kd.R_old (by (with_reducible repeat (first | apply Kd.R_alloc | apply Kd.R_drewN | apply Kd.R_drew)); exact (Kd.R_mono (Kd.R_far (p := ⟨gb398, 6, none⟩) (Kd.R_far (p := ⟨gb398, 5, none⟩) (Kd.R_far (p := ⟨gb398, 4, none⟩) (Kd.R_far (p := ⟨gb398, 3, none⟩) (Kd.R_far (p := ⟨gb398, 2, none⟩) (Kd.R_far (p := ⟨gb398, 1, none⟩) (Kd.R_far (p := ⟨gb398, 0, none⟩) (Kd.R_types HO394.out BK398.out (by decide)) (fun _ hk => hk.2) (.bool t387)) (fun _ hk => hk.2) (.bool t388)) (fun _ hk => hk.2) (.slice Ao31 t389.length co31)) (fun _ hk => hk.2) (.slice Ao32 t392.length co32)) (fun _ hk => hk.2) (.int .i64 t395)) (fun _ hk => hk.2) (.int .i64 t396)) (fun _ hk => hk.2) (.int .i64 t397)) (fun _ h_ => h_.1))) hb) (Kd.R_base ho0)) (Kd.R_base ho1)) (fun _ h_ => h_.1)); replace BK361 := am (blk_below (g := gb361) (o := .cells #[.bool a0_0, .bool a0_1, .slice A0_2 l0_2.length c0_2, .slice A0_3 l0_3.length c0_3, .int .i64 a0_4, .int .i64 a0_5, .int .i64 a0_6] 24 (0, 0)) (by (with_reducible repeat (first | refine blk_drewN ?_ _ | refine blk_drew ?_ | refine blk_alloc ?_ _)); refine blk_far ?_ NB361_398.out _; (with_reducible repeat (first | refine blk_drewN ?_ _ | refine blk_drew ?_ | refine blk_alloc ?_ _)); refine blk_far ?_ NB361_398.out _; (with_reducible repeat (first | refine blk_drewN ?_ _ | refine blk_drew ?_ | refine blk_alloc ?_ _)); refine blk_far ?_ NB361_398.out _; (with_reducible repeat (first | refine blk_drewN ?_ _ | refine blk_drew ?_ | refine blk_alloc ?_ _)); refine blk_far ?_ NB361_398.out _; (with_reducible repeat (first | refine blk_drewN ?_ _ | refine blk_drew ?_ | refine blk_alloc ?_ _)); refine blk_far ?_ NB361_398.out _; (with_reducible repeat (first | refine blk_drewN ?_ _ | refine blk_drew ?_ | refine blk_alloc ?_ _)); refine blk_far ?_ NB361_398.out _; (with_reducible repeat (first | refine blk_drewN ?_ _ | refine blk_drew ?_ | refine blk_alloc ?_ _)); refine blk_far ?_ NB361_398.out _; exact pkK BK361.out) hb); replace BK386 := am (blk_below (g := gb386) (o := .cells #[.bool t374, .bool t375, .slice Ao23 t376.length co23, .slice Ao24 t379.length co24, .int .i64 t382, .int .i64 t383, .int .i64 t384] 27 (0, 0)) (by (with_reducible repeat (first | refine blk_drewN ?_ _ | refine blk_drew ?_ | refine blk_alloc ?_ _)); refine blk_far ?_ NB386_398.out _; (with_reducible repeat (first | refine blk_drewN ?_ _ | refine blk_drew ?_ | refine blk_alloc ?_ _)); refine blk_far ?_ NB386_398.out _; (with_reducible repeat (first | refine blk_drewN ?_ _ | refine blk_drew ?_ | refine blk_alloc ?_ _)); refine blk_far ?_ NB386_398.out _; (with_reducible repeat (first | refine blk_drewN ?_ _ | refine blk_drew ?_ | refine blk_alloc ?_ _)); refine blk_far ?_ NB386_398.out _; (with_reducible repeat (first | refine blk_drewN ?_ _ | refine blk_drew ?_ | refine blk_alloc ?_ _)); refine blk_far ?_ NB386_398.out _; (with_reducible repeat (first | refine blk_drewN ?_ _ | refine blk_drew ?_ | refine blk_alloc ?_ _)); refine blk_far ?_ NB386_398.out _; (with_reducible repeat (first | refine blk_drewN ?_ _ | refine blk_drew ?_ | refine blk_alloc ?_ _)); refine blk_far ?_ NB386_398.out _; exact pkK BK386.out) hb); replace BK398 := am (blk_below (g := gb398) (o := .cells #[.bool t387, .bool t388, .slice Ao31 t389.length co31, .slice Ao32 t392.length co32, .int .i64 t395, .int .i64 t396, .int .i64 t397] 27 (0, 0)) (by (with_reducible repeat (first | refine blk_drewN ?_ _ | refine blk_drew ?_ | refine blk_alloc ?_ _)); refine blk_put (cs := #[.bool t387, .bool t388, .slice Ao31 t389.length co31, .slice Ao32 t392.length co32, .int .i64 t395, .int .i64 t396, .int .i64 0]) ?_ 6 _ rfl; (with_reducible repeat (first | refine blk_drewN ?_ _ | refine blk_drew ?_ | refine blk_alloc ?_ _)); refine blk_put (cs := #[.bool t387, .bool t388, .slice Ao31 t389.length co31, .slice Ao32 t392.length co32, .int .i64 t395, .int .i64 0, .int .i64 0]) ?_ 5 _ rfl; (with_reducible repeat (first | refine blk_drewN ?_ _ | refine blk_drew ?_ | refine blk_alloc ?_ _)); refine blk_put (cs := #[.bool t387, .bool t388, .slice Ao31 t389.length co31, .slice Ao32 t392.length co32, .int .i64 0, .int .i64 0, .int .i64 0]) ?_ 4 _ rfl; (with_reducible repeat (first | refine blk_drewN ?_ _ | refine blk_drew ?_ | refine blk_alloc ?_ _)); refine blk_put (cs := #[.bool t387, .bool t388, .slice Ao31 t389.length co31, .slice none 0 0, .int .i64 0, .int .i64 0, .int .i64 0]) ?_ 3 _ rfl; (with_reducible repeat (first | refine blk_drewN ?_ _ | refine blk_drew ?_ | refine blk_alloc ?_ _)); refine blk_put (cs := #[.bool t387, .bool t388, .slice none 0 0, .slice none 0 0, .int .i64 0, .int .i64 0, .int .i64 0]) ?_ 2 _ rfl; (with_reducible repeat (first | refine blk_drewN ?_ _ | refine blk_drew ?_ | refine blk_alloc ?_ _)); refine blk_put (cs := #[.bool t387, .bool false, .slice none 0 0, .slice none 0 0, .int .i64 0, .int .i64 0, .int .i64 0]) ?_ 1 _ rfl; (with_reducible repeat (first | refine blk_drewN ?_ _ | refine blk_drew ?_ | refine blk_alloc ?_ _)); refine blk_put (cs := #[.bool false, .bool false, .slice none 0 0, .slice none 0 0, .int .i64 0, .int .i64 0, .int .i64 0]) ?_ 0 _ rfl; exact pkK BK398.out) hb); replace HB := am (below_step (pkW HB.out) hb); (try clear hb ho0 ho1)) | ((with_reducible refine gate_dst (N := 7) rfl ?_); refine box_event ?hg (N := 7) ?hd (cs := #[.bool false, .bool false, .slice none 0 0, .slice none 0 0, .int .i64 0, .int .i64 0, .int .i64 0]) (t := 27) ?hr ?_; (case hd => rfl); (case hg => rfl); (case hr => first | (go_simp; done) | (go_simp; rfl)); intro gb411 hg w34 hbox hb; replace HO367 := am (Kd.R_below (pkR HO367.out) hb); replace HO370 := am (Kd.R_below (pkR HO370.out) hb); replace HO378 := am (Kd.R_below (pkR HO378.out) hb); replace HO381 := am (Kd.R_below (pkR HO381.out) hb); replace HO391 := am (Kd.R_below (pkR HO391.out) hb); replace HO394 := am (Kd.R_below (pkR HO394.out) hb); replace HO403 := am (Kd.R_below (pkR HO403.out) hb); replace HO406 := am (Kd.R_below (pkR HO406.out) hb); have BK411 := am (hbox); have GW411 := am ((by rw [hg]; exact (below_size (pkW HB.out)) : w.heap.size ≤ gb411)); have GE411 := am ((by rw [hg]; exact (below_size (pkW HB.out)) : w.heap.size ≤ gb411)); replace HB := am (below_step (pkW HB.out) hb); have NB361_411 := am ((by rw [hg]; exact Nat.ne_of_lt (blk_lt (g := gb361) (o := .cells #[.bool a0_0, .bool a0_1, .slice A0_2 l0_2.length c0_2, .slice A0_3 l0_3.length c0_3, .int .i64 a0_4, .int .i64 a0_5, .int .i64 a0_6] 24 (0, 0)) (pkK BK361.out)) : gb361 ≠ gb411)); have NB411_361 := am ((by rw [hg]; exact Nat.ne_of_gt (blk_lt (g := gb361) (o := .cells #[.bool a0_0, .bool a0_1, .slice A0_2 l0_2.length c0_2, .slice A0_3 l0_3.length c0_3, .int .i64 a0_4, .int .i64 a0_5, .int .i64 a0_6] 24 (0, 0)) (pkK BK361.out)) : gb411 ≠ gb361)); replace BK361 := am (blk_below (pkK BK361.out) hb); have NB386_411 := am ((by rw [hg]; exact Nat.ne_of_lt (blk_lt (g := gb386) (o := .cells #[.bool t374, .bool t375, .slice Ao23 t376.length co23, .slice Ao24 t379.length co24, .int .i64 t382, .int .i64 t383, .int .i64 t384] 27 (0, 0)) (pkK BK386.out)) : gb386 ≠ gb411)); have NB411_386 := am ((by rw [hg]; exact Nat.ne_of_gt (blk_lt (g := gb386) (o := .cells #[.bool t374, .bool t375, .slice Ao23 t376.length co23, .slice Ao24 t379.length co24, .int .i64 t382, .int .i64 t383, .int .i64 t384] 27 (0, 0)) (pkK BK386.out)) : gb411 ≠ gb386)); replace BK386 := am (blk_below (pkK BK386.out) hb); have NB398_411 := am ((by rw [hg]; exact Nat.ne_of_lt (blk_lt (g := gb398) (o := .cells #[.bool t387, .bool t388, .slice Ao31 t389.length co31, .slice Ao32 t392.length co32, .int .i64 t395, .int .i64 t396, .int .i64 t397] 27 (0, 0)) (pkK BK398.out)) : gb398 ≠ gb411)); have NB411_398 := am ((by rw [hg]; exact Nat.ne_of_gt (blk_lt (g := gb398) (o := .cells #[.bool t387, .bool t388, .slice Ao31 t389.length co31, .slice Ao32 t392.length co32, .int .i64 t395, .int .i64 t396, .int .i64 t397] 27 (0, 0)) (pkK BK398.out)) : gb411 ≠ gb398)); replace BK398 := am (blk_below (pkK BK398.out) hb); clear hb hbox hg; have hnb35 := NB411_361.out; have hnc35 := NB361_411.out; have hnb36 := NB411_386.out; have hnc36 := NB386_411.out; have hnb37 := NB411_398.out; have hnc37 := NB398_411.out; obtain ⟨hcz38_0, hcz38_1, hcz38_2, hcz38_3, hcz38_4, hcz38_5, hcz38_6, hfz38_0, hfz38_1, hfz38_2, hfz38_3, hfz38_4, hfz38_5, hfz38_6⟩ := bk7 BK411.out; obtain ⟨Ao39, co39, eo39⟩ := Kd.R_slice HO403.out; subst eo39; obtain ⟨Ao40, co40, eo40⟩ := Kd.R_slice HO406.out; subst eo40))
  (try simp only [Act.put, List.setIfInBounds_toArray, List.set_cons_zero, List.set_cons_succ])
  go_cut [40] (fun v40 wc => ∃ (kq : Nat) (x40_10 : Bool), v40 = .bool x40_10 ∧ Aside0 (laws_FnExactReset.j0 kq t385 t410 x40_10 a0_0 a0_1 l0_2 l0_3 a0_4 a0_5 a0_6 t374 t375 t376 t379 t382 t383 t384 t387 t388 t389 t392 t395 t396 t397 t399 t400 t401 t404 t407 t408 t409 = some r) ∧ Aside0 (kq ≤ k) ∧ Aside0 (Kd.R (Kd.int .i64) 3 wc w.heap.size (fun k_ => some k_ ≠ ((.slice Ao24 t379.length co24) : Value).ownBlock ∧ some k_ ≠ ((.slice Ao31 t389.length co31) : Value).ownBlock ∧ some k_ ≠ ((.slice Ao32 t392.length co32) : Value).ownBlock ∧ some k_ ≠ ((.slice Ao39 t401.length co39) : Value).ownBlock ∧ some k_ ≠ ((.slice Ao40 t404.length co40) : Value).ownBlock) (.slice Ao23 t376.length co23) t376) ∧ Aside0 (Kd.R (Kd.int .i64) 3 wc w.heap.size (fun k_ => some k_ ≠ ((.slice Ao23 t376.length co23) : Value).ownBlock ∧ some k_ ≠ ((.slice Ao31 t389.length co31) : Value).ownBlock ∧ some k_ ≠ ((.slice Ao32 t392.length co32) : Value).ownBlock ∧ some k_ ≠ ((.slice Ao39 t401.length co39) : Value).ownBlock ∧ some k_ ≠ ((.slice Ao40 t404.length co40) : Value).ownBlock) (.slice Ao24 t379.length co24) t379) ∧ Aside0 (Kd.Q (Kd.int .i64) 3 wc w.heap.size (fun k_ => some k_ ≠ ((.slice Ao23 t376.length co23) : Value).ownBlock ∧ some k_ ≠ ((.slice Ao24 t379.length co24) : Value).ownBlock ∧ some k_ ≠ ((.slice Ao32 t392.length co32) : Value).ownBlock ∧ some k_ ≠ ((.slice Ao39 t401.length co39) : Value).ownBlock ∧ some k_ ≠ ((.slice Ao40 t404.length co40) : Value).ownBlock) (.slice Ao31 t389.length co31) t389) ∧ Aside0 (Kd.Q (Kd.int .i64) 3 wc w.heap.size (fun k_ => some k_ ≠ ((.slice Ao23 t376.length co23) : Value).ownBlock ∧ some k_ ≠ ((.slice Ao24 t379.length co24) : Value).ownBlock ∧ some k_ ≠ ((.slice Ao31 t389.length co31) : Value).ownBlock ∧ some k_ ≠ ((.slice Ao39 t401.length co39) : Value).ownBlock ∧ some k_ ≠ ((.slice Ao40 t404.length co40) : Value).ownBlock) (.slice Ao32 t392.length co32) t392) ∧ Aside0 (Kd.Q (Kd.int .i64) 3 wc w.heap.size (fun k_ => some k_ ≠ ((.slice Ao23 t376.length co23) : Value).ownBlock ∧ some k_ ≠ ((.slice Ao24 t379.length co24) : Value).ownBlock ∧ some k_ ≠ ((.slice Ao31 t389.length co31) : Value).ownBlock ∧ some k_ ≠ ((.slice Ao32 t392.length co32) : Value).ownBlock ∧ some k_ ≠ ((.slice Ao40 t404.length co40) : Value).ownBlock) (.slice Ao39 t401.length co39) t401) ∧ Aside0 (Kd.Q (Kd.int .i64) 3 wc w.heap.size (fun k_ => some k_ ≠ ((.slice Ao23 t376.length co23) : Value).ownBlock ∧ some k_ ≠ ((.slice Ao24 t379.length co24) : Value).ownBlock ∧ some k_ ≠ ((.slice Ao31 t389.length co31) : Value).ownBlock ∧ some k_ ≠ ((.slice Ao32 t392.length co32) : Value).ownBlock ∧ some k_ ≠ ((.slice Ao39 t401.length co39) : Value).ownBlock) (.slice Ao40 t404.length co40) t404) ∧ Aside0 (wc.heap[gb361]? = some (.cells #[.bool a0_0, .bool a0_1, (.slice A0_2 l0_2.length c0_2), (.slice A0_3 l0_3.length c0_3), .int .i64 a0_4, .int .i64 a0_5, .int .i64 a0_6] 24 (0, 0))) ∧ Aside0 (wc.heap[gb386]? = some (.cells #[.bool t374, .bool t375, (.slice Ao23 t376.length co23), (.slice Ao24 t379.length co24), .int .i64 t382, .int .i64 t383, .int .i64 t384] 27 (0, 0))) ∧ Aside0 (wc.heap[gb398]? = some (.cells #[.bool t387, .bool t388, (.slice Ao31 t389.length co31), (.slice Ao32 t392.length co32), .int .i64 t395, .int .i64 t396, .int .i64 t397] 27 (0, 0))) ∧ Aside0 (wc.heap[gb411]? = some (.cells #[.bool t399, .bool t400, (.slice Ao39 t401.length co39), (.slice Ao40 t404.length co40), .int .i64 t407, .int .i64 t408, .int .i64 t409] 27 (0, 0))) ∧ Aside0 (Below w.heap.size w wc))
  case first =>
   have H := HC11.out
   clear HC11
   replace H := Option.bind_eq_some_iff.mp H
   obtain ⟨t412, A410, H⟩ := H
   replace H : (if t412 = true then (laws_FnExactReset.j0 k t385 t410 (t410 != t385) a0_0 a0_1 l0_2 l0_3 a0_4 a0_5 a0_6 t374 t375 t376 t379 t382 t383 t384 t387 t388 t389 t392 t395 t396 t397 t399 t400 t401 t404 t407 t408 t409) else (laws_FnExactReset.j0 k t385 t410 true a0_0 a0_1 l0_2 l0_3 a0_4 a0_5 a0_6 t374 t375 t376 t379 t382 t383 t384 t387 t388 t389 t392 t395 t396 t397 t399 t400 t401 t404 t407 t408 t409)) = some r := H
   have A41 := am A410
   clear A410
   by_cases c42 : t412 = true
   ·subst c42
    replace H : (laws_FnExactReset.j0 k t385 t410 (t410 != t385) a0_0 a0_1 l0_2 l0_3 a0_4 a0_5 a0_6 t374 t375 t376 t379 t382 t383 t384 t387 t388 t389 t392 t395 t396 t397 t399 t400 t401 t404 t407 t408 t409) = some r := by rw [if_pos rfl] at H; exact H
    have H' := am H
    clear H
    have hnb43 := NB411_361.out
    have hnc43 := NB361_411.out
    have hnb44 := NB411_386.out
    have hnc44 := NB386_411.out
    have hnb45 := NB411_398.out
    have hnc45 := NB398_411.out
    obtain ⟨hcz46_0, hcz46_1, hcz46_2, hcz46_3, hcz46_4, hcz46_5, hcz46_6, hfz46_0, hfz46_1, hfz46_2, hfz46_3, hfz46_4, hfz46_5, hfz46_6⟩ := bk7 BK411.out
    have hnb47 := NB386_361.out
    have hnc47 := NB361_386.out
    have hnb48 := NB386_398.out
    have hnc48 := NB398_386.out
    obtain ⟨hcz49_0, hcz49_1, hcz49_2, hcz49_3, hcz49_4, hcz49_5, hcz49_6, hfz49_0, hfz49_1, hfz49_2, hfz49_3, hfz49_4, hfz49_5, hfz49_6⟩ := bk7 BK386.out
    go_wp2_with (first | ((with_reducible refine gate_callee (f := 18) rfl ?_); refine goesL_ (some 34) rfl rfl Try.func18 (by kernel_rfl) rfl #[.agg #[.bool t399, .bool t400, .slice Ao39 t401.length co39, .slice Ao40 t404.length co40, .int .i64 t407, .int .i64 t408, .int .i64 t409], .agg #[.bool t374, .bool t375, .slice Ao23 t376.length co23, .slice Ao24 t379.length co24, .int .i64 t382, .int .i64 t383, .int .i64 t384]] rfl mpx ?_; (with_reducible refine (laws_eqEvent.calls k t399 t400 _ _ t401 _ _ t404 t407 t408 t409 t374 t375 _ _ t376 _ _ t379 t382 t383 t384 true _ ?side1 ?side2 ?side3 ?side4 ?side5 ?side6 ?side7 ?side8 A41.out).mono ?_); (case side1 => refine (Kd.R_reads' (e := 3) (base := w.heap.size) (ok := fun k_ => ((((((some k_ ≠ (.slice Ao40 t404.length co40 : Value).ownBlock ∧ some k_ ≠ (.slice Ao17 t365.length co17 : Value).ownBlock) ∧ some k_ ≠ (.slice Ao18 t368.length co18 : Value).ownBlock) ∧ some k_ ≠ (.slice Ao23 t376.length co23 : Value).ownBlock) ∧ some k_ ≠ (.slice Ao24 t379.length co24 : Value).ownBlock) ∧ some k_ ≠ (.slice Ao31 t389.length co31 : Value).ownBlock) ∧ some k_ ≠ (.slice Ao32 t392.length co32 : Value).ownBlock)) (n := t401.length) (c := co39) ?_).2.2; exact (by (with_reducible repeat (first | apply Kd.R_alloc | apply Kd.R_drewN | apply Kd.R_drew)); exact (Kd.R_mono (Kd.R_far (p := ⟨gb411, 6, none⟩) (Kd.R_far (p := ⟨gb411, 5, none⟩) (Kd.R_far (p := ⟨gb411, 4, none⟩) (Kd.R_far (p := ⟨gb411, 3, none⟩) (Kd.R_far (p := ⟨gb411, 2, none⟩) (Kd.R_far (p := ⟨gb411, 1, none⟩) (Kd.R_far (p := ⟨gb411, 0, none⟩) (Kd.R_types HO403.out BK411.out (by decide)) (fun _ hk => hk.2) (.bool t399)) (fun _ hk => hk.2) (.bool t400)) (fun _ hk => hk.2) (.slice Ao39 t401.length co39)) (fun _ hk => hk.2) (.slice Ao40 t404.length co40)) (fun _ hk => hk.2) (.int .i64 t407)) (fun _ hk => hk.2) (.int .i64 t408)) (fun _ hk => hk.2) (.int .i64 t409)) (fun _ h_ => h_.1)))); (case side2 => exact (Kd.R_reads' HO403.out).2.1); (case side3 => refine (Kd.R_reads' (e := 3) (base := w.heap.size) (ok := fun k_ => ((((((some k_ ≠ (.slice Ao39 t401.length co39 : Value).ownBlock ∧ some k_ ≠ (.slice Ao17 t365.length co17 : Value).ownBlock) ∧ some k_ ≠ (.slice Ao18 t368.length co18 : Value).ownBlock) ∧ some k_ ≠ (.slice Ao23 t376.length co23 : Value).ownBlock) ∧ some k_ ≠ (.slice Ao24 t379.length co24 : Value).ownBlock) ∧ some k_ ≠ (.slice Ao31 t389.length co31 : Value).ownBlock) ∧ some k_ ≠ (.slice Ao32 t392.length co32 : Value).ownBlock)) (n := t404.length) (c := co40) ?_).2.2; exact (by (with_reducible repeat (first | apply Kd.R_alloc | apply Kd.R_drewN | apply Kd.R_drew)); exact (Kd.R_mono (Kd.R_far (p := ⟨gb411, 6, none⟩) (Kd.R_far (p := ⟨gb411, 5, none⟩) (Kd.R_far (p := ⟨gb411, 4, none⟩) (Kd.R_far (p := ⟨gb411, 3, none⟩) (Kd.R_far (p := ⟨gb411, 2, none⟩) (Kd.R_far (p := ⟨gb411, 1, none⟩) (Kd.R_far (p := ⟨gb411, 0, none⟩) (Kd.R_types HO406.out BK411.out (by decide)) (fun _ hk => hk.2) (.bool t399)) (fun _ hk => hk.2) (.bool t400)) (fun _ hk => hk.2) (.slice Ao39 t401.length co39)) (fun _ hk => hk.2) (.slice Ao40 t404.length co40)) (fun _ hk => hk.2) (.int .i64 t407)) (fun _ hk => hk.2) (.int .i64 t408)) (fun _ hk => hk.2) (.int .i64 t409)) (fun _ h_ => h_.1)))); (case side4 => exact (Kd.R_reads' HO406.out).2.1); (case side5 => refine (Kd.R_reads' (e := 3) (base := w.heap.size) (ok := fun k_ => ((((((some k_ ≠ (.slice Ao24 t379.length co24 : Value).ownBlock ∧ some k_ ≠ (.slice Ao17 t365.length co17 : Value).ownBlock) ∧ some k_ ≠ (.slice Ao18 t368.length co18 : Value).ownBlock) ∧ some k_ ≠ (.slice Ao31 t389.length co31 : Value).ownBlock) ∧ some k_ ≠ (.slice Ao32 t392.length co32 : Value).ownBlock) ∧ some k_ ≠ (.slice Ao39 t401.length co39 : Value).ownBlock) ∧ some k_ ≠ (.slice Ao40 t404.length co40 : Value).ownBlock)) (n := t376.length) (c := co23) ?_).2.2; exact (by (with_reducible repeat (first | apply Kd.R_alloc | apply Kd.R_drewN | apply Kd.R_drew)); exact (Kd.R_mono (Kd.R_far (p := ⟨gb411, 6, none⟩) (Kd.R_far (p := ⟨gb411, 5, none⟩) (Kd.R_far (p := ⟨gb411, 4, none⟩) (Kd.R_far (p := ⟨gb411, 3, none⟩) (Kd.R_far (p := ⟨gb411, 2, none⟩) (Kd.R_far (p := ⟨gb411, 1, none⟩) (Kd.R_far (p := ⟨gb411, 0, none⟩) (Kd.R_types HO378.out BK411.out (by decide)) (fun _ hk => hk.2) (.bool t399)) (fun _ hk => hk.2) (.bool t400)) (fun _ hk => hk.2) (.slice Ao39 t401.length co39)) (fun _ hk => hk.2) (.slice Ao40 t404.length co40)) (fun _ hk => hk.2) (.int .i64 t407)) (fun _ hk => hk.2) (.int .i64 t408)) (fun _ hk => hk.2) (.int .i64 t409)) (fun _ h_ => h_.1)))); (case side6 => exact (Kd.R_reads' HO378.out).2.1); (case side7 => refine (Kd.R_reads' (e := 3) (base := w.heap.size) (ok := fun k_ => ((((((some k_ ≠ (.slice Ao23 t376.length co23 : Value).ownBlock ∧ some k_ ≠ (.slice Ao17 t365.length co17 : Value).ownBlock) ∧ some k_ ≠ (.slice Ao18 t368.length co18 : Value).ownBlock) ∧ some k_ ≠ (.slice Ao31 t389.length co31 : Value).ownBlock) ∧ some k_ ≠ (.slice Ao32 t392.length co32 : Value).ownBlock) ∧ some k_ ≠ (.slice Ao39 t401.length co39 : Value).ownBlock) ∧ some k_ ≠ (.slice Ao40 t404.length co40 : Value).ownBlock)) (n := t379.length) (c := co24) ?_).2.2; exact (by (with_reducible repeat (first | apply Kd.R_alloc | apply Kd.R_drewN | apply Kd.R_drew)); exact (Kd.R_mono (Kd.R_far (p := ⟨gb411, 6, none⟩) (Kd.R_far (p := ⟨gb411, 5, none⟩) (Kd.R_far (p := ⟨gb411, 4, none⟩) (Kd.R_far (p := ⟨gb411, 3, none⟩) (Kd.R_far (p := ⟨gb411, 2, none⟩) (Kd.R_far (p := ⟨gb411, 1, none⟩) (Kd.R_far (p := ⟨gb411, 0, none⟩) (Kd.R_types HO381.out BK411.out (by decide)) (fun _ hk => hk.2) (.bool t399)) (fun _ hk => hk.2) (.bool t400)) (fun _ hk => hk.2) (.slice Ao39 t401.length co39)) (fun _ hk => hk.2) (.slice Ao40 t404.length co40)) (fun _ hk => hk.2) (.int .i64 t407)) (fun _ hk => hk.2) (.int .i64 t408)) (fun _ hk => hk.2) (.int .i64 t409)) (fun _ h_ => h_.1)))); (case side8 => exact (Kd.R_reads' HO381.out).2.1); rintro e w50 ⟨rfl, hb⟩; refine ⟨_, rfl, ?_⟩; replace HO367 := am (Kd.R_below (by (with_reducible repeat (first | apply Kd.R_alloc | apply Kd.R_drewN | apply Kd.R_drew)); exact (Kd.R_mono (Kd.R_far (p := ⟨gb411, 6, none⟩) (Kd.R_far (p := ⟨gb411, 5, none⟩) (Kd.R_far (p := ⟨gb411, 4, none⟩) (Kd.R_far (p := ⟨gb411, 3, none⟩) (Kd.R_far (p := ⟨gb411, 2, none⟩) (Kd.R_far (p := ⟨gb411, 1, none⟩) (Kd.R_far (p := ⟨gb411, 0, none⟩) (Kd.R_types HO367.out BK411.out (by decide)) (fun _ hk => hk.2) (.bool t399)) (fun _ hk => hk.2) (.bool t400)) (fun _ hk => hk.2) (.slice Ao39 t401.length co39)) (fun _ hk => hk.2) (.slice Ao40 t404.length co40)) (fun _ hk => hk.2) (.int .i64 t407)) (fun _ hk => hk.2) (.int .i64 t408)) (fun _ hk => hk.2) (.int .i64 t409)) (fun _ h_ => h_.1))) hb); replace HO370 := am (Kd.R_below (by (with_reducible repeat (first | apply Kd.R_alloc | apply Kd.R_drewN | apply Kd.R_drew)); exact (Kd.R_mono (Kd.R_far (p := ⟨gb411, 6, none⟩) (Kd.R_far (p := ⟨gb411, 5, none⟩) (Kd.R_far (p := ⟨gb411, 4, none⟩) (Kd.R_far (p := ⟨gb411, 3, none⟩) (Kd.R_far (p := ⟨gb411, 2, none⟩) (Kd.R_far (p := ⟨gb411, 1, none⟩) (Kd.R_far (p := ⟨gb411, 0, none⟩) (Kd.R_types HO370.out BK411.out (by decide)) (fun _ hk => hk.2) (.bool t399)) (fun _ hk => hk.2) (.bool t400)) (fun _ hk => hk.2) (.slice Ao39 t401.length co39)) (fun _ hk => hk.2) (.slice Ao40 t404.length co40)) (fun _ hk => hk.2) (.int .i64 t407)) (fun _ hk => hk.2) (.int .i64 t408)) (fun _ hk => hk.2) (.int .i64 t409)) (fun _ h_ => h_.1))) hb); replace HO378 := am (Kd.R_below (by (with_reducible repeat (first | apply Kd.R_alloc | apply Kd.R_drewN | apply Kd.R_drew)); exact (Kd.R_mono (Kd.R_far (p := ⟨gb411, 6, none⟩) (Kd.R_far (p := ⟨gb411, 5, none⟩) (Kd.R_far (p := ⟨gb411, 4, none⟩) (Kd.R_far (p := ⟨gb411, 3, none⟩) (Kd.R_far (p := ⟨gb411, 2, none⟩) (Kd.R_far (p := ⟨gb411, 1, none⟩) (Kd.R_far (p := ⟨gb411, 0, none⟩) (Kd.R_types HO378.out BK411.out (by decide)) (fun _ hk => hk.2) (.bool t399)) (fun _ hk => hk.2) (.bool t400)) (fun _ hk => hk.2) (.slice Ao39 t401.length co39)) (fun _ hk => hk.2) (.slice Ao40 t404.length co40)) (fun _ hk => hk.2) (.int .i64 t407)) (fun _ hk => hk.2) (.int .i64 t408)) (fun _ hk => hk.2) (.int .i64 t409)) (fun _ h_ => h_.1))) hb); replace HO381 := am (Kd.R_below (by (with_reducible repeat (first | apply Kd.R_alloc | apply Kd.R_drewN | apply Kd.R_drew)); exact (Kd.R_mono (Kd.R_far (p := ⟨gb411, 6, none⟩) (Kd.R_far (p := ⟨gb411, 5, none⟩) (Kd.R_far (p := ⟨gb411, 4, none⟩) (Kd.R_far (p := ⟨gb411, 3, none⟩) (Kd.R_far (p := ⟨gb411, 2, none⟩) (Kd.R_far (p := ⟨gb411, 1, none⟩) (Kd.R_far (p := ⟨gb411, 0, none⟩) (Kd.R_types HO381.out BK411.out (by decide)) (fun _ hk => hk.2) (.bool t399)) (fun _ hk => hk.2) (.bool t400)) (fun _ hk => hk.2) (.slice Ao39 t401.length co39)) (fun _ hk => hk.2) (.slice Ao40 t404.length co40)) (fun _ hk => hk.2) (.int .i64 t407)) (fun _ hk => hk.2) (.int .i64 t408)) (fun _ hk => hk.2) (.int .i64 t409)) (fun _ h_ => h_.1))) hb); replace HO391 := am (Kd.R_below (by (with_reducible repeat (first | apply Kd.R_alloc | apply Kd.R_drewN | apply Kd.R_drew)); exact (Kd.R_mono (Kd.R_far (p := ⟨gb411, 6, none⟩) (Kd.R_far (p := ⟨gb411, 5, none⟩) (Kd.R_far (p := ⟨gb411, 4, none⟩) (Kd.R_far (p := ⟨gb411, 3, none⟩) (Kd.R_far (p := ⟨gb411, 2, none⟩) (Kd.R_far (p := ⟨gb411, 1, none⟩) (Kd.R_far (p := ⟨gb411, 0, none⟩) (Kd.R_types HO391.out BK411.out (by decide)) (fun _ hk => hk.2) (.bool t399)) (fun _ hk => hk.2) (.bool t400)) (fun _ hk => hk.2) (.slice Ao39 t401.length co39)) (fun _ hk => hk.2) (.slice Ao40 t404.length co40)) (fun _ hk => hk.2) (.int .i64 t407)) (fun _ hk => hk.2) (.int .i64 t408)) (fun _ hk => hk.2) (.int .i64 t409)) (fun _ h_ => h_.1))) hb); replace HO394 := am (Kd.R_below (by (with_reducible repeat (first | apply Kd.R_alloc | apply Kd.R_drewN | apply Kd.R_drew)); exact (Kd.R_mono (Kd.R_far (p := ⟨gb411, 6, none⟩) (Kd.R_far (p := ⟨gb411, 5, none⟩) (Kd.R_far (p := ⟨gb411, 4, none⟩) (Kd.R_far (p := ⟨gb411, 3, none⟩) (Kd.R_far (p := ⟨gb411, 2, none⟩) (Kd.R_far (p := ⟨gb411, 1, none⟩) (Kd.R_far (p := ⟨gb411, 0, none⟩) (Kd.R_types HO394.out BK411.out (by decide)) (fun _ hk => hk.2) (.bool t399)) (fun _ hk => hk.2) (.bool t400)) (fun _ hk => hk.2) (.slice Ao39 t401.length co39)) (fun _ hk => hk.2) (.slice Ao40 t404.length co40)) (fun _ hk => hk.2) (.int .i64 t407)) (fun _ hk => hk.2) (.int .i64 t408)) (fun _ hk => hk.2) (.int .i64 t409)) (fun _ h_ => h_.1))) hb); replace HO403 := am (Kd.R_below (by (with_reducible repeat (first | apply Kd.R_alloc | apply Kd.R_drewN | apply Kd.R_drew)); exact (Kd.R_mono (Kd.R_far (p := ⟨gb411, 6, none⟩) (Kd.R_far (p := ⟨gb411, 5, none⟩) (Kd.R_far (p := ⟨gb411, 4, none⟩) (Kd.R_far (p := ⟨gb411, 3, none⟩) (Kd.R_far (p := ⟨gb411, 2, none⟩) (Kd.R_far (p := ⟨gb411, 1, none⟩) (Kd.R_far (p := ⟨gb411, 0, none⟩) (Kd.R_types HO403.out BK411.out (by decide)) (fun _ hk => hk.2) (.bool t399)) (fun _ hk => hk.2) (.bool t400)) (fun _ hk => hk.2) (.slice Ao39 t401.length co39)) (fun _ hk => hk.2) (.slice Ao40 t404.length co40)) (fun _ hk => hk.2) (.int .i64 t407)) (fun _ hk => hk.2) (.int .i64 t408)) (fun _ hk => hk.2) (.int .i64 t409)) (fun _ h_ => h_.1))) hb); replace HO406 := am (Kd.R_below (by (with_reducible repeat (first | apply Kd.R_alloc | apply Kd.R_drewN | apply Kd.R_drew)); exact (Kd.R_mono (Kd.R_far (p := ⟨gb411, 6, none⟩) (Kd.R_far (p := ⟨gb411, 5, none⟩) (Kd.R_far (p := ⟨gb411, 4, none⟩) (Kd.R_far (p := ⟨gb411, 3, none⟩) (Kd.R_far (p := ⟨gb411, 2, none⟩) (Kd.R_far (p := ⟨gb411, 1, none⟩) (Kd.R_far (p := ⟨gb411, 0, none⟩) (Kd.R_types HO406.out BK411.out (by decide)) (fun _ hk => hk.2) (.bool t399)) (fun _ hk => hk.2) (.bool t400)) (fun _ hk => hk.2) (.slice Ao39 t401.length co39)) (fun _ hk => hk.2) (.slice Ao40 t404.length co40)) (fun _ hk => hk.2) (.int .i64 t407)) (fun _ hk => hk.2) (.int .i64 t408)) (fun _ hk => hk.2) (.int .i64 t409)) (fun _ h_ => h_.1))) hb); replace BK361 := am (blk_below (g := gb361) (o := .cells #[.bool a0_0, .bool a0_1, .slice A0_2 l0_2.length c0_2, .slice A0_3 l0_3.length c0_3, .int .i64 a0_4, .int .i64 a0_5, .int .i64 a0_6] 24 (0, 0)) (by (with_reducible repeat (first | refine blk_drewN ?_ _ | refine blk_drew ?_ | refine blk_alloc ?_ _)); refine blk_far ?_ NB361_411.out _; (with_reducible repeat (first | refine blk_drewN ?_ _ | refine blk_drew ?_ | refine blk_alloc ?_ _)); refine blk_far ?_ NB361_411.out _; (with_reducible repeat (first | refine blk_drewN ?_ _ | refine blk_drew ?_ | refine blk_alloc ?_ _)); refine blk_far ?_ NB361_411.out _; (with_reducible repeat (first | refine blk_drewN ?_ _ | refine blk_drew ?_ | refine blk_alloc ?_ _)); refine blk_far ?_ NB361_411.out _; (with_reducible repeat (first | refine blk_drewN ?_ _ | refine blk_drew ?_ | refine blk_alloc ?_ _)); refine blk_far ?_ NB361_411.out _; (with_reducible repeat (first | refine blk_drewN ?_ _ | refine blk_drew ?_ | refine blk_alloc ?_ _)); refine blk_far ?_ NB361_411.out _; (with_reducible repeat (first | refine blk_drewN ?_ _ | refine blk_drew ?_ | refine blk_alloc ?_ _)); refine blk_far ?_ NB361_411.out _; exact pkK BK361.out) hb); replace BK386 := am (blk_below (g := gb386) (o := .cells #[.bool t374, .bool t375, .slice Ao23 t376.length co23, .slice Ao24 t379.length co24, .int .i64 t382, .int .i64 t383, .int .i64 t384] 27 (0, 0)) (by (with_reducible repeat (first | refine blk_drewN ?_ _ | refine blk_drew ?_ | refine blk_alloc ?_ _)); refine blk_far ?_ NB386_411.out _; (with_reducible repeat (first | refine blk_drewN ?_ _ | refine blk_drew ?_ | refine blk_alloc ?_ _)); refine blk_far ?_ NB386_411.out _; (with_reducible repeat (first | refine blk_drewN ?_ _ | refine blk_drew ?_ | refine blk_alloc ?_ _)); refine blk_far ?_ NB386_411.out _; (with_reducible repeat (first | refine blk_drewN ?_ _ | refine blk_drew ?_ | refine blk_alloc ?_ _)); refine blk_far ?_ NB386_411.out _; (with_reducible repeat (first | refine blk_drewN ?_ _ | refine blk_drew ?_ | refine blk_alloc ?_ _)); refine blk_far ?_ NB386_411.out _; (with_reducible repeat (first | refine blk_drewN ?_ _ | refine blk_drew ?_ | refine blk_alloc ?_ _)); refine blk_far ?_ NB386_411.out _; (with_reducible repeat (first | refine blk_drewN ?_ _ | refine blk_drew ?_ | refine blk_alloc ?_ _)); refine blk_far ?_ NB386_411.out _; exact pkK BK386.out) hb); replace BK398 := am (blk_below (g := gb398) (o := .cells #[.bool t387, .bool t388, .slice Ao31 t389.length co31, .slice Ao32 t392.length co32, .int .i64 t395, .int .i64 t396, .int .i64 t397] 27 (0, 0)) (by (with_reducible repeat (first | refine blk_drewN ?_ _ | refine blk_drew ?_ | refine blk_alloc ?_ _)); refine blk_far ?_ NB398_411.out _; (with_reducible repeat (first | refine blk_drewN ?_ _ | refine blk_drew ?_ | refine blk_alloc ?_ _)); refine blk_far ?_ NB398_411.out _; (with_reducible repeat (first | refine blk_drewN ?_ _ | refine blk_drew ?_ | refine blk_alloc ?_ _)); refine blk_far ?_ NB398_411.out _; (with_reducible repeat (first | refine blk_drewN ?_ _ | refine blk_drew ?_ | refine blk_alloc ?_ _)); refine blk_far ?_ NB398_411.out _; (with_reducible repeat (first | refine blk_drewN ?_ _ | refine blk_drew ?_ | refine blk_alloc ?_ _)); refine blk_far ?_ NB398_411.out _; (with_reducible repeat (first | refine blk_drewN ?_ _ | refine blk_drew ?_ | refine blk_alloc ?_ _)); refine blk_far ?_ NB398_411.out _; (with_reducible repeat (first | refine blk_drewN ?_ _ | refine blk_drew ?_ | refine blk_alloc ?_ _)); refine blk_far ?_ NB398_411.out _; exact pkK BK398.out) hb); replace BK411 := am (blk_below (g := gb411) (o := .cells #[.bool t399, .bool t400, .slice Ao39 t401.length co39, .slice Ao40 t404.length co40, .int .i64 t407, .int .i64 t408, .int .i64 t409] 27 (0, 0)) (by (with_reducible repeat (first | refine blk_drewN ?_ _ | refine blk_drew ?_ | refine blk_alloc ?_ _)); refine blk_put (cs := #[.bool t399, .bool t400, .slice Ao39 t401.length co39, .slice Ao40 t404.length co40, .int .i64 t407, .int .i64 t408, .int .i64 0]) ?_ 6 _ rfl; (with_reducible repeat (first | refine blk_drewN ?_ _ | refine blk_drew ?_ | refine blk_alloc ?_ _)); refine blk_put (cs := #[.bool t399, .bool t400, .slice Ao39 t401.length co39, .slice Ao40 t404.length co40, .int .i64 t407, .int .i64 0, .int .i64 0]) ?_ 5 _ rfl; (with_reducible repeat (first | refine blk_drewN ?_ _ | refine blk_drew ?_ | refine blk_alloc ?_ _)); refine blk_put (cs := #[.bool t399, .bool t400, .slice Ao39 t401.length co39, .slice Ao40 t404.length co40, .int .i64 0, .int .i64 0, .int .i64 0]) ?_ 4 _ rfl; (with_reducible repeat (first | refine blk_drewN ?_ _ | refine blk_drew ?_ | refine blk_alloc ?_ _)); refine blk_put (cs := #[.bool t399, .bool t400, .slice Ao39 t401.length co39, .slice none 0 0, .int .i64 0, .int .i64 0, .int .i64 0]) ?_ 3 _ rfl; (with_reducible repeat (first | refine blk_drewN ?_ _ | refine blk_drew ?_ | refine blk_alloc ?_ _)); refine blk_put (cs := #[.bool t399, .bool t400, .slice none 0 0, .slice none 0 0, .int .i64 0, .int .i64 0, .int .i64 0]) ?_ 2 _ rfl; (with_reducible repeat (first | refine blk_drewN ?_ _ | refine blk_drew ?_ | refine blk_alloc ?_ _)); refine blk_put (cs := #[.bool t399, .bool false, .slice none 0 0, .slice none 0 0, .int .i64 0, .int .i64 0, .int .i64 0]) ?_ 1 _ rfl; (with_reducible repeat (first | refine blk_drewN ?_ _ | refine blk_drew ?_ | refine blk_alloc ?_ _)); refine blk_put (cs := #[.bool false, .bool false, .slice none 0 0, .slice none 0 0, .int .i64 0, .int .i64 0, .int .i64 0]) ?_ 0 _ rfl; exact pkK BK411.out) hb); replace HB := am (below_step (pkW HB.out) hb); (try clear hb)))
    go_meet
    case rel => exact ⟨_, ((t410 != t385)), rfx, H', ⟨by first | omega | exact Nat.le_refl _⟩, ⟨by (with_reducible repeat (first | apply Kd.R_alloc | apply Kd.R_drewN | apply Kd.R_drew)); exact Kd.R_mono HO378.out (fun _ hk => ⟨hk.1.1.1.1.1.1, ⟨hk.1.1.1.2, ⟨hk.1.1.2, ⟨hk.1.2, hk.2⟩⟩⟩⟩)⟩, ⟨by (with_reducible repeat (first | apply Kd.R_alloc | apply Kd.R_drewN | apply Kd.R_drew)); exact Kd.R_mono HO381.out (fun _ hk => ⟨hk.1.1.1.1.1.1, ⟨hk.1.1.1.2, ⟨hk.1.1.2, ⟨hk.1.2, hk.2⟩⟩⟩⟩)⟩, ⟨Kd.Q_of_R (by (with_reducible repeat (first | apply Kd.R_alloc | apply Kd.R_drewN | apply Kd.R_drew)); exact Kd.R_mono HO391.out (fun _ hk => ⟨hk.1.1.1.2, ⟨hk.1.1.2, ⟨hk.1.1.1.1.1.1, ⟨hk.1.2, hk.2⟩⟩⟩⟩))⟩, ⟨Kd.Q_of_R (by (with_reducible repeat (first | apply Kd.R_alloc | apply Kd.R_drewN | apply Kd.R_drew)); exact Kd.R_mono HO394.out (fun _ hk => ⟨hk.1.1.1.2, ⟨hk.1.1.2, ⟨hk.1.1.1.1.1.1, ⟨hk.1.2, hk.2⟩⟩⟩⟩))⟩, ⟨Kd.Q_of_R (by (with_reducible repeat (first | apply Kd.R_alloc | apply Kd.R_drewN | apply Kd.R_drew)); exact Kd.R_mono HO403.out (fun _ hk => ⟨hk.1.1.1.2, ⟨hk.1.1.2, ⟨hk.1.2, ⟨hk.2, hk.1.1.1.1.1.1⟩⟩⟩⟩))⟩, ⟨Kd.Q_of_R (by (with_reducible repeat (first | apply Kd.R_alloc | apply Kd.R_drewN | apply Kd.R_drew)); exact Kd.R_mono HO406.out (fun _ hk => ⟨hk.1.1.1.2, ⟨hk.1.1.2, ⟨hk.1.2, ⟨hk.2, hk.1.1.1.1.1.1⟩⟩⟩⟩))⟩, ⟨pkK BK361.out⟩, ⟨pkK BK386.out⟩, ⟨pkK BK398.out⟩, ⟨pkK BK411.out⟩, ⟨pkW HB.out⟩⟩
   ·replace c42 := Bool.eq_false_iff.mpr c42
    subst c42
    replace H : (laws_FnExactReset.j0 k t385 t410 true a0_0 a0_1 l0_2 l0_3 a0_4 a0_5 a0_6 t374 t375 t376 t379 t382 t383 t384 t387 t388 t389 t392 t395 t396 t397 t399 t400 t401 t404 t407 t408 t409) = some r := by rw [if_neg (show ¬ (false = true) by decide)] at H; exact H
    cases k with
    | zero => exact absurd H (by simp [laws_FnExactReset.j0])
    | succ k_ => (simp only [laws_FnExactReset.j0, if_pos] at H; exact absurd (Option.some.inj H) (by rw [HQ_.out]; simp))
  case rest =>
   clear HC11
   try clear c1
   try clear c2
   try clear p2
   try clear c3
   try clear c3b0
   try clear c4
   try clear c5
   try clear c14
   try clear c16
   try clear c18
   try clear c21
   try clear c24
   try clear c25
   try clear c28
   try clear c29
   try clear c35
   try clear c36
   try clear c37
   try clear c42
   try clear c43
   try clear c44
   try clear c45
   try clear c47
   try clear c48
   try clear hcz13_0
   try clear hcz13_1
   try clear hcz13_2
   try clear hcz13_3
   try clear hcz13_4
   try clear hcz13_5
   try clear hcz13_6
   try clear hcz15_0
   try clear hcz15_1
   try clear hcz15_2
   try clear hcz15_3
   try clear hcz15_4
   try clear hcz15_5
   try clear hcz15_6
   try clear hcz22_0
   try clear hcz22_1
   try clear hcz22_2
   try clear hcz22_3
   try clear hcz22_4
   try clear hcz22_5
   try clear hcz22_6
   try clear hcz25_0
   try clear hcz25_1
   try clear hcz25_2
   try clear hcz25_3
   try clear hcz25_4
   try clear hcz25_5
   try clear hcz25_6
   try clear hcz30_0
   try clear hcz30_1
   try clear hcz30_2
   try clear hcz30_3
   try clear hcz30_4
   try clear hcz30_5
   try clear hcz30_6
   try clear hcz38_0
   try clear hcz38_1
   try clear hcz38_2
   try clear hcz38_3
   try clear hcz38_4
   try clear hcz38_5
   try clear hcz38_6
   try clear hcz46_0
   try clear hcz46_1
   try clear hcz46_2
   try clear hcz46_3
   try clear hcz46_4
   try clear hcz46_5
   try clear hcz46_6
   try clear hcz49_0
   try clear hcz49_1
   try clear hcz49_2
   try clear hcz49_3
   try clear hcz49_4
   try clear hcz49_5
   try clear hcz49_6
   try clear hcz5_0
   try clear hcz5_1
   try clear hcz5_2
   try clear hcz5_3
   try clear hcz5_4
   try clear hcz5_5
   try clear hcz5_6
   try clear hfz13_0
   try clear hfz13_1
   try clear hfz13_2
   try clear hfz13_3
   try clear hfz13_4
   try clear hfz13_5
   try clear hfz13_6
   try clear hfz15_0
   try clear hfz15_1
   try clear hfz15_2
   try clear hfz15_3
   try clear hfz15_4
   try clear hfz15_5
   try clear hfz15_6
   try clear hfz22_0
   try clear hfz22_1
   try clear hfz22_2
   try clear hfz22_3
   try clear hfz22_4
   try clear hfz22_5
   try clear hfz22_6
   try clear hfz25_0
   try clear hfz25_1
   try clear hfz25_2
   try clear hfz25_3
   try clear hfz25_4
   try clear hfz25_5
   try clear hfz25_6
   try clear hfz30_0
   try clear hfz30_1
   try clear hfz30_2
   try clear hfz30_3
   try clear hfz30_4
   try clear hfz30_5
   try clear hfz30_6
   try clear hfz38_0
   try clear hfz38_1
   try clear hfz38_2
   try clear hfz38_3
   try clear hfz38_4
   try clear hfz38_5
   try clear hfz38_6
   try clear hfz46_0
   try clear hfz46_1
   try clear hfz46_2
   try clear hfz46_3
   try clear hfz46_4
   try clear hfz46_5
   try clear hfz46_6
   try clear hfz49_0
   try clear hfz49_1
   try clear hfz49_2
   try clear hfz49_3
   try clear hfz49_4
   try clear hfz49_5
   try clear hfz49_6
   try clear hfz5_0
   try clear hfz5_1
   try clear hfz5_2
   try clear hfz5_3
   try clear hfz5_4
   try clear hfz5_5
   try clear hfz5_6
   obtain ⟨kq, x40_10, rfl, HA, HJ10, HO_387002, HO_387003, HO_399002, HO_399003, HO_412002, HO_412003, BK361, BK386, BK398, BK411, HB⟩ := hcut
   cases kq with
   | zero => exact absurd HA.out (by simp [laws_FnExactReset.j0])
   | succ kj10 =>
    have H := HA.out
    clear HA
    simp only [laws_FnExactReset.j0] at H
    by_cases c51 : x40_10 = true
    ·subst c51
     replace H : (some false) = some r := by rw [if_pos rfl] at H; exact H
     exact absurd (Option.some.inj H) (by rw [HQ_.out]; simp)
    ·replace c51 := Bool.eq_false_iff.mpr c51
     subst c51
     replace H : ((laws_toEvent.f kj10 a0_0 a0_1 l0_2 l0_3 a0_4 a0_5 a0_6).bind fun bt413 => ((laws_eqEvent.f kj10 t387 t388 t389 t392 t395 t396 t397 bt413.1 bt413.2.1 bt413.2.2.1 bt413.2.2.2.1 bt413.2.2.2.2.1 bt413.2.2.2.2.2.1 bt413.2.2.2.2.2.2).bind fun t424 => (if t424 = true then ((laws_markEvent.f kj10 t387 t388 t389 t392 t395 t396 t397 1).bind fun bt425 => (if bt425.1 < 0 then (laws_FnExactReset.j1 kj10 t385 true a0_0 a0_1 l0_2 l0_3 a0_4 a0_5 a0_6 t374 t375 t376 t379 t382 t383 t384 t399 t400 t401 t404 t407 t408 t409) else ((laws_eqEvent.f kj10 t399 t400 t401 t404 t407 t408 t409 t374 t375 t376 t379 t382 t383 t384).bind fun t428 => (if t428 = true then (laws_FnExactReset.j1 kj10 t385 (t410 != t385) a0_0 a0_1 l0_2 l0_3 a0_4 a0_5 a0_6 t374 t375 t376 t379 t382 t383 t384 t399 t400 t401 t404 t407 t408 t409) else (laws_FnExactReset.j1 kj10 t385 true a0_0 a0_1 l0_2 l0_3 a0_4 a0_5 a0_6 t374 t375 t376 t379 t382 t383 t384 t399 t400 t401 t404 t407 t408 t409))))) else (some false)))) = some r := by rw [if_neg (show ¬ (false = true) by decide)] at H; exact H
     replace H := Option.bind_eq_some_iff.mp H
     obtain ⟨⟨t413, t414, t415, t418, t421, t422, t423⟩, A520, H⟩ := H
     replace H : ((laws_eqEvent.f kj10 t387 t388 t389 t392 t395 t396 t397 t413 t414 t415 t418 t421 t422 t423).bind fun t424 => (if t424 = true then ((laws_markEvent.f kj10 t387 t388 t389 t392 t395 t396 t397 1).bind fun bt425 => (if bt425.1 < 0 then (laws_FnExactReset.j1 kj10 t385 true a0_0 a0_1 l0_2 l0_3 a0_4 a0_5 a0_6 t374 t375 t376 t379 t382 t383 t384 t399 t400 t401 t404 t407 t408 t409) else ((laws_eqEvent.f kj10 t399 t400 t401 t404 t407 t408 t409 t374 t375 t376 t379 t382 t383 t384).bind fun t428 => (if t428 = true then (laws_FnExactReset.j1 kj10 t385 (t410 != t385) a0_0 a0_1 l0_2 l0_3 a0_4 a0_5 a0_6 t374 t375 t376 t379 t382 t383 t384 t399 t400 t401 t404 t407 t408 t409) else (laws_FnExactReset.j1 kj10 t385 true a0_0 a0_1 l0_2 l0_3 a0_4 a0_5 a0_6 t374 t375 t376 t379 t382 t383 t384 t399 t400 t401 t404 t407 t408 t409))))) else (some false))) = some r := H
     have A52 := am A520
     clear A520
     replace H := Option.bind_eq_some_iff.mp H
     obtain ⟨t424, A530, H⟩ := H
     replace H : (if t424 = true then ((laws_markEvent.f kj10 t387 t388 t389 t392 t395 t396 t397 1).bind fun bt425 => (if bt425.1 < 0 then (laws_FnExactReset.j1 kj10 t385 true a0_0 a0_1 l0_2 l0_3 a0_4 a0_5 a0_6 t374 t375 t376 t379 t382 t383 t384 t399 t400 t401 t404 t407 t408 t409) else ((laws_eqEvent.f kj10 t399 t400 t401 t404 t407 t408 t409 t374 t375 t376 t379 t382 t383 t384).bind fun t428 => (if t428 = true then (laws_FnExactReset.j1 kj10 t385 (t410 != t385) a0_0 a0_1 l0_2 l0_3 a0_4 a0_5 a0_6 t374 t375 t376 t379 t382 t383 t384 t399 t400 t401 t404 t407 t408 t409) else (laws_FnExactReset.j1 kj10 t385 true a0_0 a0_1 l0_2 l0_3 a0_4 a0_5 a0_6 t374 t375 t376 t379 t382 t383 t384 t399 t400 t401 t404 t407 t408 t409))))) else (some false)) = some r := H
     have A53 := am A530
     clear A530
     by_cases c54 : t424 = true
     ·subst c54
      replace H : ((laws_markEvent.f kj10 t387 t388 t389 t392 t395 t396 t397 1).bind fun bt425 => (if bt425.1 < 0 then (laws_FnExactReset.j1 kj10 t385 true a0_0 a0_1 l0_2 l0_3 a0_4 a0_5 a0_6 t374 t375 t376 t379 t382 t383 t384 t399 t400 t401 t404 t407 t408 t409) else ((laws_eqEvent.f kj10 t399 t400 t401 t404 t407 t408 t409 t374 t375 t376 t379 t382 t383 t384).bind fun t428 => (if t428 = true then (laws_FnExactReset.j1 kj10 t385 (t410 != t385) a0_0 a0_1 l0_2 l0_3 a0_4 a0_5 a0_6 t374 t375 t376 t379 t382 t383 t384 t399 t400 t401 t404 t407 t408 t409) else (laws_FnExactReset.j1 kj10 t385 true a0_0 a0_1 l0_2 l0_3 a0_4 a0_5 a0_6 t374 t375 t376 t379 t382 t383 t384 t399 t400 t401 t404 t407 t408 t409))))) = some r := by rw [if_pos rfl] at H; exact H
      replace H := Option.bind_eq_some_iff.mp H
      obtain ⟨⟨t425, t426, t427⟩, A550, H⟩ := H
      replace H : (if t425 < 0 then (laws_FnExactReset.j1 kj10 t385 true a0_0 a0_1 l0_2 l0_3 a0_4 a0_5 a0_6 t374 t375 t376 t379 t382 t383 t384 t399 t400 t401 t404 t407 t408 t409) else ((laws_eqEvent.f kj10 t399 t400 t401 t404 t407 t408 t409 t374 t375 t376 t379 t382 t383 t384).bind fun t428 => (if t428 = true then (laws_FnExactReset.j1 kj10 t385 (t410 != t385) a0_0 a0_1 l0_2 l0_3 a0_4 a0_5 a0_6 t374 t375 t376 t379 t382 t383 t384 t399 t400 t401 t404 t407 t408 t409) else (laws_FnExactReset.j1 kj10 t385 true a0_0 a0_1 l0_2 l0_3 a0_4 a0_5 a0_6 t374 t375 t376 t379 t382 t383 t384 t399 t400 t401 t404 t407 t408 t409)))) = some r := H
      have A55 := am A550
      clear A550
      have HC56 := am H
      clear H
      try go_wp2
      replace HO_387002 := am (Kd.R_drew HO_387002.out)
      replace HO_387003 := am (Kd.R_drew HO_387003.out)
      replace HO_399002 := am (Kd.Q_drew HO_399002.out)
      replace HO_399003 := am (Kd.Q_drew HO_399003.out)
      replace HO_412002 := am (Kd.Q_drew HO_412002.out)
      replace HO_412003 := am (Kd.Q_drew HO_412003.out)
      replace BK361 := am (blk_drew BK361.out)
      replace BK386 := am (blk_drew BK386.out)
      replace BK398 := am (blk_drew BK398.out)
      replace BK411 := am (blk_drew BK411.out)
      replace HB := am (below_drew1 HB.out)
      refine start_ (n := 5) (S := fun w' => w'.cell? ⟨gb398, 0, none⟩ = some (.bool t387) ∧ w'.cell? ⟨gb398, 1, none⟩ = some (.bool t388) ∧ w'.cell? ⟨gb398, 2, none⟩ = some (.slice Ao31 t389.length co31) ∧ w'.cell? ⟨gb398, 3, none⟩ = some (.slice Ao32 t392.length co32) ∧ w'.cell? ⟨gb398, 4, none⟩ = some (.int .i64 t395) ∧ w'.cell? ⟨gb398, 5, none⟩ = some (.int .i64 t396) ∧ w'.cell? ⟨gb398, 6, none⟩ = some (.int .i64 t397) ∧ w'.cell? ⟨gb361, 0, none⟩ = some (.bool a0_0) ∧ w'.cell? ⟨gb361, 1, none⟩ = some (.bool a0_1) ∧ w'.cell? ⟨gb361, 2, none⟩ = some (.slice A0_2 l0_2.length c0_2) ∧ w'.cell? ⟨gb361, 3, none⟩ = some (.slice A0_3 l0_3.length c0_3) ∧ w'.cell? ⟨gb361, 4, none⟩ = some (.int .i64 a0_4) ∧ w'.cell? ⟨gb361, 5, none⟩ = some (.int .i64 a0_5) ∧ w'.cell? ⟨gb361, 6, none⟩ = some (.int .i64 a0_6)) (ds := []) #[false, false, false, false, false] (by kernel_rfl) rfl rfl ⟨(blk_cell BK398.out 0).trans rfl, (blk_cell BK398.out 1).trans rfl, (blk_cell BK398.out 2).trans rfl, (blk_cell BK398.out 3).trans rfl, (blk_cell BK398.out 4).trans rfl, (blk_cell BK398.out 5).trans rfl, (blk_cell BK398.out 6).trans rfl, (blk_cell BK361.out 0).trans rfl, (blk_cell BK361.out 1).trans rfl, (blk_cell BK361.out 2).trans rfl, (blk_cell BK361.out 3).trans rfl, (blk_cell BK361.out 4).trans rfl, (blk_cell BK361.out 5).trans rfl, (blk_cell BK361.out 6).trans rfl⟩ (fun hHeld => ?_)
      generalize wc.drew = w57 at HO_387002 HO_387003 HO_399002 HO_399003 HO_412002 HO_412003 BK361 BK386 BK398 BK411 HB hHeld ⊢
      refine take_ (i := 0) (N := some 41) (v := ?_) (a' := ?_) #[true, false, false, false, false] rfl rfl (by kernel_rfl) (fun _ _ _ h => h) (Or.inl ⟨by rfl, ?_⟩) hHeld ?_ ?_
      rotate_left
      ·rintro w' ⟨s0, s1, s2, s3, s4, s5, s6, s7, s8, s9, s10, s11, s12, s13⟩
       go_simp
       with_reducible rfl
      rotate_left
      ·simp only [Act.put, List.setIfInBounds_toArray, List.set_cons_zero, List.set_cons_succ, i64_w, i32_w]
       rfl
      refine take_ (i := 1) (N := some 42) (v := ?_) (a' := ?_) #[true, true, false, false, false] rfl rfl (by kernel_rfl) (fun _ _ _ h => h) (Or.inl ⟨by rfl, ?_⟩) hHeld ?_ ?_
      rotate_left
      ·rintro w' ⟨s0, s1, s2, s3, s4, s5, s6, s7, s8, s9, s10, s11, s12, s13⟩
       go_simp
       with_reducible rfl
      rotate_left
      ·simp only [Act.put, List.setIfInBounds_toArray, List.set_cons_zero, List.set_cons_succ, i64_w, i32_w]
       rfl
      refine one_ (i := 2) (N := some 43) #[true, true, true, false, false] rfl rfl (by kernel_rfl) (by decide) (fun K hK => ?_)
      refine goes_ Try.func16 (by kernel_rfl) rfl #[.agg #[.bool a0_0, .bool a0_1, .slice A0_2 l0_2.length c0_2, .slice A0_3 l0_3.length c0_3, .int .i64 a0_4, .int .i64 a0_5, .int .i64 a0_6]] (by rfl) rfl rfl mpx ?_
      with_reducible refine (laws_toEvent.calls kj10 a0_0 a0_1 _ _ l0_2 _ _ l0_3 a0_4 a0_5 a0_6 t413 t414 t415 t418 t421 t422 t423 _ ?side1 ?side2 ?side3 ?side4 A52.out).mono ?_
      (case side1 => exact pkC (Kd.C_below HR0_2.out HB.out))
      (case side2 => exact HC0_2.out)
      (case side3 => exact pkC (Kd.C_below HR0_3.out HB.out))
      (case side4 => exact HC0_3.out)
      rintro e w58 ⟨v416, v419, rfl, ho0, ho1, hb⟩
      refine ⟨_, rfl, ?_⟩
      have HO417 := am (Kd.R_lower (Kd.R_new' (Kd.R_new' (Kd.R_new' (Kd.R_new' (Kd.R_new' (Kd.R_new' ho0 (Kd.R_lt (pkR HO_387002.out))) (Kd.R_lt (pkR HO_387003.out))) (Kd.Q_lt (pkQ HO_399002.out))) (Kd.Q_lt (pkQ HO_399003.out))) (Kd.Q_lt (pkQ HO_412002.out))) (Kd.Q_lt (pkQ HO_412003.out))) (below_size (pkW HB.out)))
      have HO420 := am (Kd.R_lower (Kd.R_new' (Kd.R_new' (Kd.R_new' (Kd.R_new' (Kd.R_new' (Kd.R_new' ho1 (Kd.R_lt (pkR HO_387002.out))) (Kd.R_lt (pkR HO_387003.out))) (Kd.Q_lt (pkQ HO_399002.out))) (Kd.Q_lt (pkQ HO_399003.out))) (Kd.Q_lt (pkQ HO_412002.out))) (Kd.Q_lt (pkQ HO_412003.out))) (below_size (pkW HB.out)))
      replace HO_387002 := am (Kd.R_mono (Kd.R_told (Kd.R_told (Kd.R_old (pkR HO_387002.out) hb) (Kd.R_base ho0)) (Kd.R_base ho1)) (fun _ h_ => h_.1))
      replace HO_387003 := am (Kd.R_mono (Kd.R_told (Kd.R_told (Kd.R_old (pkR HO_387003.out) hb) (Kd.R_base ho0)) (Kd.R_base ho1)) (fun _ h_ => h_.1))
      replace HO_399002 := am (Kd.Q_mono (Kd.Q_told (Kd.Q_told (Kd.Q_old (pkQ HO_399002.out) hb) (Kd.R_base ho0)) (Kd.R_base ho1)) (fun _ h_ => h_.1))
      replace HO_399003 := am (Kd.Q_mono (Kd.Q_told (Kd.Q_told (Kd.Q_old (pkQ HO_399003.out) hb) (Kd.R_base ho0)) (Kd.R_base ho1)) (fun _ h_ => h_.1))
      replace HO_412002 := am (Kd.Q_mono (Kd.Q_told (Kd.Q_told (Kd.Q_old (pkQ HO_412002.out) hb) (Kd.R_base ho0)) (Kd.R_base ho1)) (fun _ h_ => h_.1))
      replace HO_412003 := am (Kd.Q_mono (Kd.Q_told (Kd.Q_told (Kd.Q_old (pkQ HO_412003.out) hb) (Kd.R_base ho0)) (Kd.R_base ho1)) (fun _ h_ => h_.1))
      replace BK361 := am (blk_below (pkK BK361.out) hb)
      replace BK386 := am (blk_below (pkK BK386.out) hb)
      replace BK398 := am (blk_below (pkK BK398.out) hb)
      replace BK411 := am (blk_below (pkK BK411.out) hb)
      replace HB := am (below_step (pkW HB.out) hb)
      (try clear hb); (try clear ho0 ho1)
      obtain ⟨Ao59, co59, eo59⟩ := Kd.R_slice HO417.out
      (first | subst eo59 | (injection eo59 with f1_ f2_ f3_; have f4_ := f1_.symm; have f5_ := f3_.symm; clear f1_ f2_ f3_; subst f4_; subst f5_))
      obtain ⟨Ao60, co60, eo60⟩ := Kd.R_slice HO420.out
      (first | subst eo60 | (injection eo60 with f1_ f2_ f3_; have f4_ := f1_.symm; have f5_ := f3_.symm; clear f1_ f2_ f3_; subst f4_; subst f5_))
      refine hK.out _ _ ⟨(blk_cell BK398.out 0).trans rfl, (blk_cell BK398.out 1).trans rfl, (blk_cell BK398.out 2).trans rfl, (blk_cell BK398.out 3).trans rfl, (blk_cell BK398.out 4).trans rfl, (blk_cell BK398.out 5).trans rfl, (blk_cell BK398.out 6).trans rfl, (blk_cell BK361.out 0).trans rfl, (blk_cell BK361.out 1).trans rfl, (blk_cell BK361.out 2).trans rfl, (blk_cell BK361.out 3).trans rfl, (blk_cell BK361.out 4).trans rfl, (blk_cell BK361.out 5).trans rfl, (blk_cell BK361.out 6).trans rfl⟩ (fun hHeld => ?_)
      clear hK K
      refine norm_ (a' := ?_) ?_ ?_
      rotate_left
      ·show Act.put _ (some 43) _ = _
       simp only [Act.put, List.setIfInBounds_toArray, List.set_cons_zero, List.set_cons_succ, i64_w, i32_w]
       rfl
      refine one_ (i := 3) (N := some 44) #[true, true, true, true, false] rfl rfl (by kernel_rfl) (by decide) (fun K hK => ?_)
      refine goes_ Try.func18 (by kernel_rfl) rfl #[.agg #[.bool t387, .bool t388, .slice Ao31 t389.length co31, .slice Ao32 t392.length co32, .int .i64 t395, .int .i64 t396, .int .i64 t397], .agg #[.bool t413, .bool t414, .slice Ao59 t415.length co59, .slice Ao60 t418.length co60, .int .i64 t421, .int .i64 t422, .int .i64 t423]] (by rfl) rfl rfl mpx ?_
      with_reducible refine (laws_eqEvent.calls kj10 t387 t388 _ _ t389 _ _ t392 t395 t396 t397 t413 t414 _ _ t415 _ _ t418 t421 t422 t423 true _ ?side1 ?side2 ?side3 ?side4 ?side5 ?side6 ?side7 ?side8 A53.out).mono ?_
      (case side1 => repeat (first | exact (Kd.Q_reads' HO_399002.out).2.2 | (with_reducible refine Kd.C_alloc ?_ _) | (with_reducible refine Kd.C_drewN ?_ _) | (with_reducible refine Kd.C_drew ?_)))
      (case side2 => exact (Kd.Q_reads' HO_399002.out).2.1)
      (case side3 => repeat (first | exact (Kd.Q_reads' HO_399003.out).2.2 | (with_reducible refine Kd.C_alloc ?_ _) | (with_reducible refine Kd.C_drewN ?_ _) | (with_reducible refine Kd.C_drew ?_)))
      (case side4 => exact (Kd.Q_reads' HO_399003.out).2.1)
      (case side5 => exact pkC (Kd.R_reads' HO417.out).2.2)
      (case side6 => exact (Kd.R_reads' HO417.out).2.1)
      (case side7 => exact pkC (Kd.R_reads' HO420.out).2.2)
      (case side8 => exact (Kd.R_reads' HO420.out).2.1)
      rintro e w61 ⟨rfl, hb⟩
      refine ⟨_, rfl, ?_⟩
      replace HO_387002 := am (Kd.R_below (pkR HO_387002.out) hb)
      replace HO_387003 := am (Kd.R_below (pkR HO_387003.out) hb)
      replace HO_399002 := am (Kd.Q_below (pkQ HO_399002.out) hb)
      replace HO_399003 := am (Kd.Q_below (pkQ HO_399003.out) hb)
      replace HO_412002 := am (Kd.Q_below (pkQ HO_412002.out) hb)
      replace HO_412003 := am (Kd.Q_below (pkQ HO_412003.out) hb)
      replace HO417 := am (Kd.R_below (pkR HO417.out) hb)
      replace HO420 := am (Kd.R_below (pkR HO420.out) hb)
      replace BK361 := am (blk_below (pkK BK361.out) hb)
      replace BK386 := am (blk_below (pkK BK386.out) hb)
      replace BK398 := am (blk_below (pkK BK398.out) hb)
      replace BK411 := am (blk_below (pkK BK411.out) hb)
      replace HB := am (below_step (pkW HB.out) hb)
      (try clear hb)
      refine hK.out _ _ ⟨(blk_cell BK398.out 0).trans rfl, (blk_cell BK398.out 1).trans rfl, (blk_cell BK398.out 2).trans rfl, (blk_cell BK398.out 3).trans rfl, (blk_cell BK398.out 4).trans rfl, (blk_cell BK398.out 5).trans rfl, (blk_cell BK398.out 6).trans rfl, (blk_cell BK361.out 0).trans rfl, (blk_cell BK361.out 1).trans rfl, (blk_cell BK361.out 2).trans rfl, (blk_cell BK361.out 3).trans rfl, (blk_cell BK361.out 4).trans rfl, (blk_cell BK361.out 5).trans rfl, (blk_cell BK361.out 6).trans rfl⟩ (fun hHeld => ?_)
      clear hK K
      refine norm_ (a' := ?_) ?_ ?_
      rotate_left
      ·show Act.put _ (some 44) _ = _
       simp only [Act.put, List.setIfInBounds_toArray, List.set_cons_zero, List.set_cons_succ, i64_w, i32_w]
       rfl
      refine pure_ (i := 4) (N := some 45) (v := ?_) (a' := ?_) #[true, true, true, true, true] rfl rfl (by kernel_rfl) (fun _ _ _ h => h) (Or.inl ⟨by rfl, ?_⟩) ?_ ?_
      rotate_left
      ·intro w'
       go_simp
       with_reducible rfl
      rotate_left
      ·simp only [Act.put, List.setIfInBounds_toArray, List.set_cons_zero, List.set_cons_succ, i64_w, i32_w]
       rfl
      refine done_ (by kernel_rfl) ?_
      have hnb62 := NB398_361.out
      have hnc62 := NB361_398.out
      have hnb63 := NB398_386.out
      have hnc63 := NB386_398.out
      have hnb64 := NB398_411.out
      have hnc64 := NB411_398.out
      obtain ⟨hcz65_0, hcz65_1, hcz65_2, hcz65_3, hcz65_4, hcz65_5, hcz65_6, hfz65_0, hfz65_1, hfz65_2, hfz65_3, hfz65_4, hfz65_5, hfz65_6⟩ := bk7 BK398.out
      go_upto_region 14 with (first | ((with_reducible refine gate_callee (f := 26) rfl ?_); refine goesL_ (some 48) rfl rfl Try.func26 (by kernel_rfl) rfl #[.agg #[.bool t387, .bool t388, .slice Ao31 t389.length co31, .slice Ao32 t392.length co32, .int .i64 t395, .int .i64 t396, .int .i64 t397], .int .i64 1] rfl mpx ?_; (with_reducible refine (laws_markEvent.calls kj10 t387 t388 (fun k_ => some k_ = (.slice Ao31 t389.length co31 : Value).ownBlock) (.slice Ao31 t389.length co31) t389 (fun k_ => some k_ = (.slice Ao32 t392.length co32 : Value).ownBlock) (.slice Ao32 t392.length co32) t392 t395 t396 t397 1 t425 t426 t427 w _ ?side1 ?side2 ?side3 ?side4 ?side5 A55.out).mono ?_); (case side1 => repeat (first | (with_reducible first | exact HB.out | apply below_alloc | apply pw_below_drewN | apply below_drew1 | refine below_set ?_ GE361.out | refine below_set ?_ GE386.out | refine below_set ?_ GE398.out | refine below_set ?_ GE411.out) | exact HB.out)); (case side2 => exact Kd.Q_tight rfl HO_399002.out); (case side3 => exact fun k_ e_ => (HO_399002.out.1 k_ e_.symm).1.1.2.2.1); (case side4 => exact Kd.Q_tight rfl HO_399003.out); (case side5 => exact fun k_ e_ => (HO_399003.out.1 k_ e_.symm).1.1.2.2.1); rintro e w66 ⟨rfl, hy0, hy1, hb, hkp⟩; refine ⟨_, rfl, ?_⟩; replace HO_387002 := am (Kd.R_mono (ok' := fun k_ => some k_ ≠ (.slice Ao24 t379.length co24 : Value).ownBlock ∧ some k_ ≠ (.slice Ao31 t389.length co31 : Value).ownBlock ∧ some k_ ≠ (.slice Ao32 t392.length co32 : Value).ownBlock ∧ some k_ ≠ (.slice Ao39 t401.length co39 : Value).ownBlock ∧ some k_ ≠ (.slice Ao40 t404.length co40 : Value).ownBlock ∧ some k_ ≠ (.slice Ao59 t415.length co59 : Value).ownBlock ∧ some k_ ≠ (.slice Ao60 t418.length co60 : Value).ownBlock) (Kd.R_keptB (HO_387002.out) hkp (fun k_ hk_ hs_ => Or.elim hs_ (fun e_ => (hk_.1.1.2.1) e_) (fun e_ => (hk_.1.1.2.2.1) e_))) (fun k_ hk_ => ⟨hk_.1.1.1.1, hk_.1.1.1.2.1, hk_.1.1.1.2.2.1, hk_.1.1.1.2.2.2.1, hk_.1.1.1.2.2.2.2, hk_.1.1.2, hk_.1.2⟩)); replace HO_387003 := am (Kd.R_mono (ok' := fun k_ => some k_ ≠ (.slice Ao23 t376.length co23 : Value).ownBlock ∧ some k_ ≠ (.slice Ao31 t389.length co31 : Value).ownBlock ∧ some k_ ≠ (.slice Ao32 t392.length co32 : Value).ownBlock ∧ some k_ ≠ (.slice Ao39 t401.length co39 : Value).ownBlock ∧ some k_ ≠ (.slice Ao40 t404.length co40 : Value).ownBlock ∧ some k_ ≠ (.slice Ao59 t415.length co59 : Value).ownBlock ∧ some k_ ≠ (.slice Ao60 t418.length co60 : Value).ownBlock) (Kd.R_keptB (HO_387003.out) hkp (fun k_ hk_ hs_ => Or.elim hs_ (fun e_ => (hk_.1.1.2.1) e_) (fun e_ => (hk_.1.1.2.2.1) e_))) (fun k_ hk_ => ⟨hk_.1.1.1.1, hk_.1.1.1.2.1, hk_.1.1.1.2.2.1, hk_.1.1.1.2.2.2.1, hk_.1.1.1.2.2.2.2, hk_.1.1.2, hk_.1.2⟩)); replace HO_412002 := am (Kd.Q_mono (ok' := fun k_ => some k_ ≠ (.slice Ao23 t376.length co23 : Value).ownBlock ∧ some k_ ≠ (.slice Ao24 t379.length co24 : Value).ownBlock ∧ some k_ ≠ (.slice Ao31 t389.length co31 : Value).ownBlock ∧ some k_ ≠ (.slice Ao32 t392.length co32 : Value).ownBlock ∧ some k_ ≠ (.slice Ao40 t404.length co40 : Value).ownBlock ∧ some k_ ≠ (.slice Ao59 t415.length co59 : Value).ownBlock ∧ some k_ ≠ (.slice Ao60 t418.length co60 : Value).ownBlock) (Kd.Q_keptB (HO_412002.out) hkp (fun k_ hk_ hs_ => Or.elim hs_ (fun e_ => (hk_.1.1.2.2.1) e_) (fun e_ => (hk_.1.1.2.2.2.1) e_))) (fun k_ hk_ => ⟨hk_.1.1.1.1, hk_.1.1.1.2.1, hk_.1.1.1.2.2.1, hk_.1.1.1.2.2.2.1, hk_.1.1.1.2.2.2.2, hk_.1.1.2, hk_.1.2⟩)); replace HO_412003 := am (Kd.Q_mono (ok' := fun k_ => some k_ ≠ (.slice Ao23 t376.length co23 : Value).ownBlock ∧ some k_ ≠ (.slice Ao24 t379.length co24 : Value).ownBlock ∧ some k_ ≠ (.slice Ao31 t389.length co31 : Value).ownBlock ∧ some k_ ≠ (.slice Ao32 t392.length co32 : Value).ownBlock ∧ some k_ ≠ (.slice Ao39 t401.length co39 : Value).ownBlock ∧ some k_ ≠ (.slice Ao59 t415.length co59 : Value).ownBlock ∧ some k_ ≠ (.slice Ao60 t418.length co60 : Value).ownBlock) (Kd.Q_keptB (HO_412003.out) hkp (fun k_ hk_ hs_ => Or.elim hs_ (fun e_ => (hk_.1.1.2.2.1) e_) (fun e_ => (hk_.1.1.2.2.2.1) e_))) (fun k_ hk_ => ⟨hk_.1.1.1.1, hk_.1.1.1.2.1, hk_.1.1.1.2.2.1, hk_.1.1.1.2.2.2.1, hk_.1.1.1.2.2.2.2, hk_.1.1.2, hk_.1.2⟩)); replace BK361 := am (blk_kept (pkK BK361.out) hkp (fun hs_ => Or.elim hs_ (fun e_ => (fun e_ => (Kd.Q_ne HO_399002.out BK361.out (by decide)) e_) e_) (fun e_ => (fun e_ => (Kd.Q_ne HO_399003.out BK361.out (by decide)) e_) e_))); replace BK386 := am (blk_kept (pkK BK386.out) hkp (fun hs_ => Or.elim hs_ (fun e_ => (fun e_ => (Kd.Q_ne HO_399002.out BK386.out (by decide)) e_) e_) (fun e_ => (fun e_ => (Kd.Q_ne HO_399003.out BK386.out (by decide)) e_) e_))); replace BK398 := am (blk_kept (pkK BK398.out) hkp (fun hs_ => Or.elim hs_ (fun e_ => (fun e_ => (Kd.Q_ne HO_399002.out BK398.out (by decide)) e_) e_) (fun e_ => (fun e_ => (Kd.Q_ne HO_399003.out BK398.out (by decide)) e_) e_))); replace BK411 := am (blk_kept (pkK BK411.out) hkp (fun hs_ => Or.elim hs_ (fun e_ => (fun e_ => (Kd.Q_ne HO_399002.out BK411.out (by decide)) e_) e_) (fun e_ => (fun e_ => (Kd.Q_ne HO_399003.out BK411.out (by decide)) e_) e_))); replace HO_399002 := am (Kd.Q_reok rfl hy0 (fun k_ e_ => HO_399002.out.1 k_ e_)); replace HO_399003 := am (Kd.Q_reok rfl hy1 (fun k_ e_ => HO_399003.out.1 k_ e_)); replace HO417 := am (Kd.R_mono (ok' := fun k_ => some k_ ≠ (.slice Ao23 t376.length co23 : Value).ownBlock ∧ some k_ ≠ (.slice Ao24 t379.length co24 : Value).ownBlock ∧ some k_ ≠ (.slice Ao31 t389.length co31 : Value).ownBlock ∧ some k_ ≠ (.slice Ao32 t392.length co32 : Value).ownBlock ∧ some k_ ≠ (.slice Ao39 t401.length co39 : Value).ownBlock ∧ some k_ ≠ (.slice Ao40 t404.length co40 : Value).ownBlock ∧ some k_ ≠ (.slice Ao60 t418.length co60 : Value).ownBlock) (Kd.R_keptB (HO417.out) hkp (fun k_ hk_ hs_ => Or.elim hs_ (fun e_ => (hk_.1.1.1.2) e_) (fun e_ => (hk_.1.1.2) e_))) (fun k_ hk_ => ⟨hk_.1.1.1.1.1.1.2, hk_.1.1.1.1.1.2, hk_.1.1.1.1.2, hk_.1.1.1.2, hk_.1.1.2, hk_.1.2, hk_.1.1.1.1.1.1.1⟩)); replace HO420 := am (Kd.R_mono (ok' := fun k_ => some k_ ≠ (.slice Ao23 t376.length co23 : Value).ownBlock ∧ some k_ ≠ (.slice Ao24 t379.length co24 : Value).ownBlock ∧ some k_ ≠ (.slice Ao31 t389.length co31 : Value).ownBlock ∧ some k_ ≠ (.slice Ao32 t392.length co32 : Value).ownBlock ∧ some k_ ≠ (.slice Ao39 t401.length co39 : Value).ownBlock ∧ some k_ ≠ (.slice Ao40 t404.length co40 : Value).ownBlock ∧ some k_ ≠ (.slice Ao59 t415.length co59 : Value).ownBlock) (Kd.R_keptB (HO420.out) hkp (fun k_ hk_ hs_ => Or.elim hs_ (fun e_ => (hk_.1.1.1.2) e_) (fun e_ => (hk_.1.1.2) e_))) (fun k_ hk_ => ⟨hk_.1.1.1.1.1.1.2, hk_.1.1.1.1.1.2, hk_.1.1.1.1.2, hk_.1.1.1.2, hk_.1.1.2, hk_.1.2, hk_.1.1.1.1.1.1.1⟩)); replace HB := am (hb); (try clear hb); (try clear hkp); (try clear hy0); (try clear hy1)))
      (try simp only [Act.put, List.setIfInBounds_toArray, List.set_cons_zero, List.set_cons_succ])
      go_cut [61] (fun v61 wc => ∃ (kq : Nat) (x61_55 : Bool), v61 = .bool x61_55 ∧ Aside0 (laws_FnExactReset.j1 kq t385 x61_55 a0_0 a0_1 l0_2 l0_3 a0_4 a0_5 a0_6 t374 t375 t376 t379 t382 t383 t384 t399 t400 t401 t404 t407 t408 t409 = some r) ∧ Aside0 (kq ≤ kj10) ∧ Aside0 (Kd.R (Kd.int .i64) 3 wc w.heap.size (fun k_ => some k_ ≠ ((.slice Ao24 t379.length co24) : Value).ownBlock ∧ some k_ ≠ ((.slice Ao31 t389.length co31) : Value).ownBlock ∧ some k_ ≠ ((.slice Ao32 t392.length co32) : Value).ownBlock ∧ some k_ ≠ ((.slice Ao39 t401.length co39) : Value).ownBlock ∧ some k_ ≠ ((.slice Ao40 t404.length co40) : Value).ownBlock) (.slice Ao23 t376.length co23) t376) ∧ Aside0 (Kd.R (Kd.int .i64) 3 wc w.heap.size (fun k_ => some k_ ≠ ((.slice Ao23 t376.length co23) : Value).ownBlock ∧ some k_ ≠ ((.slice Ao31 t389.length co31) : Value).ownBlock ∧ some k_ ≠ ((.slice Ao32 t392.length co32) : Value).ownBlock ∧ some k_ ≠ ((.slice Ao39 t401.length co39) : Value).ownBlock ∧ some k_ ≠ ((.slice Ao40 t404.length co40) : Value).ownBlock) (.slice Ao24 t379.length co24) t379) ∧ Aside0 (Kd.Q (Kd.int .i64) 3 wc w.heap.size (fun k_ => some k_ ≠ ((.slice Ao23 t376.length co23) : Value).ownBlock ∧ some k_ ≠ ((.slice Ao24 t379.length co24) : Value).ownBlock ∧ some k_ ≠ ((.slice Ao32 t392.length co32) : Value).ownBlock ∧ some k_ ≠ ((.slice Ao39 t401.length co39) : Value).ownBlock ∧ some k_ ≠ ((.slice Ao40 t404.length co40) : Value).ownBlock) (.slice Ao31 t389.length co31) t426) ∧ Aside0 (Kd.Q (Kd.int .i64) 3 wc w.heap.size (fun k_ => some k_ ≠ ((.slice Ao23 t376.length co23) : Value).ownBlock ∧ some k_ ≠ ((.slice Ao24 t379.length co24) : Value).ownBlock ∧ some k_ ≠ ((.slice Ao31 t389.length co31) : Value).ownBlock ∧ some k_ ≠ ((.slice Ao39 t401.length co39) : Value).ownBlock ∧ some k_ ≠ ((.slice Ao40 t404.length co40) : Value).ownBlock) (.slice Ao32 t392.length co32) t427) ∧ Aside0 (Kd.Q (Kd.int .i64) 3 wc w.heap.size (fun k_ => some k_ ≠ ((.slice Ao23 t376.length co23) : Value).ownBlock ∧ some k_ ≠ ((.slice Ao24 t379.length co24) : Value).ownBlock ∧ some k_ ≠ ((.slice Ao31 t389.length co31) : Value).ownBlock ∧ some k_ ≠ ((.slice Ao32 t392.length co32) : Value).ownBlock ∧ some k_ ≠ ((.slice Ao40 t404.length co40) : Value).ownBlock) (.slice Ao39 t401.length co39) t401) ∧ Aside0 (Kd.Q (Kd.int .i64) 3 wc w.heap.size (fun k_ => some k_ ≠ ((.slice Ao23 t376.length co23) : Value).ownBlock ∧ some k_ ≠ ((.slice Ao24 t379.length co24) : Value).ownBlock ∧ some k_ ≠ ((.slice Ao31 t389.length co31) : Value).ownBlock ∧ some k_ ≠ ((.slice Ao32 t392.length co32) : Value).ownBlock ∧ some k_ ≠ ((.slice Ao39 t401.length co39) : Value).ownBlock) (.slice Ao40 t404.length co40) t404) ∧ Aside0 (wc.heap[gb361]? = some (.cells #[.bool a0_0, .bool a0_1, (.slice A0_2 l0_2.length c0_2), (.slice A0_3 l0_3.length c0_3), .int .i64 a0_4, .int .i64 a0_5, .int .i64 a0_6] 24 (0, 0))) ∧ Aside0 (wc.heap[gb386]? = some (.cells #[.bool t374, .bool t375, (.slice Ao23 t376.length co23), (.slice Ao24 t379.length co24), .int .i64 t382, .int .i64 t383, .int .i64 t384] 27 (0, 0))) ∧ Aside0 (wc.heap[gb398]? = some (.cells #[.bool t387, .bool t388, (.slice Ao31 t389.length co31), (.slice Ao32 t392.length co32), .int .i64 t395, .int .i64 t396, .int .i64 t397] 27 (0, 0))) ∧ Aside0 (wc.heap[gb411]? = some (.cells #[.bool t399, .bool t400, (.slice Ao39 t401.length co39), (.slice Ao40 t404.length co40), .int .i64 t407, .int .i64 t408, .int .i64 t409] 27 (0, 0))) ∧ Aside0 (Below w.heap.size w wc))
      case first =>
       have H := HC56.out
       clear HC56
       by_cases c67 : t425 < 0
       ·rw [if_pos c67] at H
        have c67b0 : decide (t425 < 0) = true := decide_eq_true c67
        clear c67
        (first | rw [c67b0] | (simp only [i64_w, i32_w]; rw [c67b0]) | skip)
        cases kj10 with
        | zero => exact absurd H (by simp [laws_FnExactReset.j1])
        | succ k_ => (simp only [laws_FnExactReset.j1, if_pos] at H; exact absurd (Option.some.inj H) (by rw [HQ_.out]; simp))
       ·rw [if_neg c67] at H
        have c67b0 : decide (t425 < 0) = false := decide_eq_false c67
        clear c67
        (first | rw [c67b0] | (simp only [i64_w, i32_w]; rw [c67b0]) | skip)
        replace H := Option.bind_eq_some_iff.mp H
        obtain ⟨t428, A680, H⟩ := H
        replace H : (if t428 = true then (laws_FnExactReset.j1 kj10 t385 (t410 != t385) a0_0 a0_1 l0_2 l0_3 a0_4 a0_5 a0_6 t374 t375 t376 t379 t382 t383 t384 t399 t400 t401 t404 t407 t408 t409) else (laws_FnExactReset.j1 kj10 t385 true a0_0 a0_1 l0_2 l0_3 a0_4 a0_5 a0_6 t374 t375 t376 t379 t382 t383 t384 t399 t400 t401 t404 t407 t408 t409)) = some r := H
        have A68 := am A680
        clear A680
        by_cases c69 : t428 = true
        ·subst c69
         replace H : (laws_FnExactReset.j1 kj10 t385 (t410 != t385) a0_0 a0_1 l0_2 l0_3 a0_4 a0_5 a0_6 t374 t375 t376 t379 t382 t383 t384 t399 t400 t401 t404 t407 t408 t409) = some r := by rw [if_pos rfl] at H; exact H
         have H' := am H
         clear H
         have hnb70 := NB411_361.out
         have hnc70 := NB361_411.out
         have hnb71 := NB411_386.out
         have hnc71 := NB386_411.out
         have hnb72 := NB411_398.out
         have hnc72 := NB398_411.out
         obtain ⟨hcz73_0, hcz73_1, hcz73_2, hcz73_3, hcz73_4, hcz73_5, hcz73_6, hfz73_0, hfz73_1, hfz73_2, hfz73_3, hfz73_4, hfz73_5, hfz73_6⟩ := bk7 BK411.out
         have hnb74 := NB386_361.out
         have hnc74 := NB361_386.out
         have hnb75 := NB386_398.out
         have hnc75 := NB398_386.out
         obtain ⟨hcz76_0, hcz76_1, hcz76_2, hcz76_3, hcz76_4, hcz76_5, hcz76_6, hfz76_0, hfz76_1, hfz76_2, hfz76_3, hfz76_4, hfz76_5, hfz76_6⟩ := bk7 BK386.out
         go_wp2_with (first | (go_at_call 18; (with_reducible refine (laws_eqEvent.calls kj10 t399 t400 _ _ t401 _ _ t404 t407 t408 t409 t374 t375 _ _ t376 _ _ t379 t382 t383 t384 true _ ?side1 ?side2 ?side3 ?side4 ?side5 ?side6 ?side7 ?side8 A68.out).mono ?_); (case side1 => repeat (first | exact (Kd.Q_reads' HO_412002.out).2.2 | (with_reducible refine Kd.C_alloc ?_ _) | (with_reducible refine Kd.C_drewN ?_ _) | (with_reducible refine Kd.C_drew ?_))); (case side2 => exact (Kd.Q_reads' HO_412002.out).2.1); (case side3 => repeat (first | exact (Kd.Q_reads' HO_412003.out).2.2 | (with_reducible refine Kd.C_alloc ?_ _) | (with_reducible refine Kd.C_drewN ?_ _) | (with_reducible refine Kd.C_drew ?_))); (case side4 => exact (Kd.Q_reads' HO_412003.out).2.1); (case side5 => exact pkC (Kd.R_reads' HO_387002.out).2.2); (case side6 => exact (Kd.R_reads' HO_387002.out).2.1); (case side7 => exact pkC (Kd.R_reads' HO_387003.out).2.2); (case side8 => exact (Kd.R_reads' HO_387003.out).2.1); rintro e w77 ⟨rfl, hb⟩; replace HO_387002 := am (Kd.R_below (pkR HO_387002.out) hb); replace HO_387003 := am (Kd.R_below (pkR HO_387003.out) hb); replace HO_399002 := am (Kd.Q_below (pkQ HO_399002.out) hb); replace HO_399003 := am (Kd.Q_below (pkQ HO_399003.out) hb); replace HO_412002 := am (Kd.Q_below (pkQ HO_412002.out) hb); replace HO_412003 := am (Kd.Q_below (pkQ HO_412003.out) hb); replace HO417 := am (Kd.R_below (pkR HO417.out) hb); replace HO420 := am (Kd.R_below (pkR HO420.out) hb); replace BK361 := am (blk_below (pkK BK361.out) hb); replace BK386 := am (blk_below (pkK BK386.out) hb); replace BK398 := am (blk_below (pkK BK398.out) hb); replace BK411 := am (blk_below (pkK BK411.out) hb); replace HB := am (below_step (pkW HB.out) hb); (try clear hb)))
         go_meet
         case rel => exact ⟨_, ((t410 != t385)), rfx, H', ⟨by have := HJ10.out; first | omega | exact Nat.le_refl _⟩, ⟨by (with_reducible repeat (first | apply Kd.R_alloc | apply Kd.R_drewN | apply Kd.R_drew)); exact Kd.R_mono HO_387002.out (fun _ hk => ⟨hk.1, ⟨hk.2.1, ⟨hk.2.2.1, ⟨hk.2.2.2.1, hk.2.2.2.2.1⟩⟩⟩⟩)⟩, ⟨by (with_reducible repeat (first | apply Kd.R_alloc | apply Kd.R_drewN | apply Kd.R_drew)); exact Kd.R_mono HO_387003.out (fun _ hk => ⟨hk.1, ⟨hk.2.1, ⟨hk.2.2.1, ⟨hk.2.2.2.1, hk.2.2.2.2.1⟩⟩⟩⟩)⟩, ⟨by (with_reducible repeat (first | apply Kd.Q_alloc | apply Kd.Q_drewN | apply Kd.Q_drew)); exact Kd.Q_mono HO_399002.out (fun _ hk => ⟨hk.1.1.1, ⟨hk.1.1.2.1, ⟨hk.1.1.2.2.1, ⟨hk.1.1.2.2.2.1, hk.1.1.2.2.2.2⟩⟩⟩⟩)⟩, ⟨by (with_reducible repeat (first | apply Kd.Q_alloc | apply Kd.Q_drewN | apply Kd.Q_drew)); exact Kd.Q_mono HO_399003.out (fun _ hk => ⟨hk.1.1.1, ⟨hk.1.1.2.1, ⟨hk.1.1.2.2.1, ⟨hk.1.1.2.2.2.1, hk.1.1.2.2.2.2⟩⟩⟩⟩)⟩, ⟨by (with_reducible repeat (first | apply Kd.Q_alloc | apply Kd.Q_drewN | apply Kd.Q_drew)); exact Kd.Q_mono HO_412002.out (fun _ hk => ⟨hk.1, ⟨hk.2.1, ⟨hk.2.2.1, ⟨hk.2.2.2.1, hk.2.2.2.2.1⟩⟩⟩⟩)⟩, ⟨by (with_reducible repeat (first | apply Kd.Q_alloc | apply Kd.Q_drewN | apply Kd.Q_drew)); exact Kd.Q_mono HO_412003.out (fun _ hk => ⟨hk.1, ⟨hk.2.1, ⟨hk.2.2.1, ⟨hk.2.2.2.1, hk.2.2.2.2.1⟩⟩⟩⟩)⟩, ⟨pkK BK361.out⟩, ⟨pkK BK386.out⟩, ⟨pkK BK398.out⟩, ⟨pkK BK411.out⟩, ⟨pkW HB.out⟩⟩
        ·replace c69 := Bool.eq_false_iff.mpr c69
         subst c69
         replace H : (laws_FnExactReset.j1 kj10 t385 true a0_0 a0_1 l0_2 l0_3 a0_4 a0_5 a0_6 t374 t375 t376 t379 t382 t383 t384 t399 t400 t401 t404 t407 t408 t409) = some r := by rw [if_neg (show ¬ (false = true) by decide)] at H; exact H
         cases kj10 with
         | zero => exact absurd H (by simp [laws_FnExactReset.j1])
         | succ k_ => (simp only [laws_FnExactReset.j1, if_pos] at H; exact absurd (Option.some.inj H) (by rw [HQ_.out]; simp))
      case rest =>
       clear HC56
       try clear c1
       try clear c2
       try clear p2
       try clear c3
       try clear c3b0
       try clear c4
       try clear c5
       try clear c6
       try clear c7
       try clear c14
       try clear c16
       try clear c18
       try clear c21
       try clear c24
       try clear c25
       try clear c26
       try clear c28
       try clear c29
       try clear c35
       try clear c36
       try clear c37
       try clear c42
       try clear c43
       try clear c44
       try clear c45
       try clear c47
       try clear c48
       try clear c51
       try clear c54
       try clear c62
       try clear c63
       try clear c64
       try clear c67
       try clear c67b0
       try clear c69
       try clear c70
       try clear c71
       try clear c72
       try clear c74
       try clear c75
       try clear hcz13_0
       try clear hcz13_1
       try clear hcz13_2
       try clear hcz13_3
       try clear hcz13_4
       try clear hcz13_5
       try clear hcz13_6
       try clear hcz15_0
       try clear hcz15_1
       try clear hcz15_2
       try clear hcz15_3
       try clear hcz15_4
       try clear hcz15_5
       try clear hcz15_6
       try clear hcz22_0
       try clear hcz22_1
       try clear hcz22_2
       try clear hcz22_3
       try clear hcz22_4
       try clear hcz22_5
       try clear hcz22_6
       try clear hcz25_0
       try clear hcz25_1
       try clear hcz25_2
       try clear hcz25_3
       try clear hcz25_4
       try clear hcz25_5
       try clear hcz25_6
       try clear hcz30_0
       try clear hcz30_1
       try clear hcz30_2
       try clear hcz30_3
       try clear hcz30_4
       try clear hcz30_5
       try clear hcz30_6
       try clear hcz38_0
       try clear hcz38_1
       try clear hcz38_2
       try clear hcz38_3
       try clear hcz38_4
       try clear hcz38_5
       try clear hcz38_6
       try clear hcz46_0
       try clear hcz46_1
       try clear hcz46_2
       try clear hcz46_3
       try clear hcz46_4
       try clear hcz46_5
       try clear hcz46_6
       try clear hcz49_0
       try clear hcz49_1
       try clear hcz49_2
       try clear hcz49_3
       try clear hcz49_4
       try clear hcz49_5
       try clear hcz49_6
       try clear hcz5_0
       try clear hcz5_1
       try clear hcz5_2
       try clear hcz5_3
       try clear hcz5_4
       try clear hcz5_5
       try clear hcz5_6
       try clear hcz65_0
       try clear hcz65_1
       try clear hcz65_2
       try clear hcz65_3
       try clear hcz65_4
       try clear hcz65_5
       try clear hcz65_6
       try clear hcz73_0
       try clear hcz73_1
       try clear hcz73_2
       try clear hcz73_3
       try clear hcz73_4
       try clear hcz73_5
       try clear hcz73_6
       try clear hcz76_0
       try clear hcz76_1
       try clear hcz76_2
       try clear hcz76_3
       try clear hcz76_4
       try clear hcz76_5
       try clear hcz76_6
       try clear hfz13_0
       try clear hfz13_1
       try clear hfz13_2
       try clear hfz13_3
       try clear hfz13_4
       try clear hfz13_5
       try clear hfz13_6
       try clear hfz15_0
       try clear hfz15_1
       try clear hfz15_2
       try clear hfz15_3
       try clear hfz15_4
       try clear hfz15_5
       try clear hfz15_6
       try clear hfz22_0
       try clear hfz22_1
       try clear hfz22_2
       try clear hfz22_3
       try clear hfz22_4
       try clear hfz22_5
       try clear hfz22_6
       try clear hfz25_0
       try clear hfz25_1
       try clear hfz25_2
       try clear hfz25_3
       try clear hfz25_4
       try clear hfz25_5
       try clear hfz25_6
       try clear hfz30_0
       try clear hfz30_1
       try clear hfz30_2
       try clear hfz30_3
       try clear hfz30_4
       try clear hfz30_5
       try clear hfz30_6
       try clear hfz38_0
       try clear hfz38_1
       try clear hfz38_2
       try clear hfz38_3
       try clear hfz38_4
       try clear hfz38_5
       try clear hfz38_6
       try clear hfz46_0
       try clear hfz46_1
       try clear hfz46_2
       try clear hfz46_3
       try clear hfz46_4
       try clear hfz46_5
       try clear hfz46_6
       try clear hfz49_0
       try clear hfz49_1
       try clear hfz49_2
       try clear hfz49_3
       try clear hfz49_4
       try clear hfz49_5
       try clear hfz49_6
       try clear hfz5_0
       try clear hfz5_1
       try clear hfz5_2
       try clear hfz5_3
       try clear hfz5_4
       try clear hfz5_5
       try clear hfz5_6
       try clear hfz65_0
       try clear hfz65_1
       try clear hfz65_2
       try clear hfz65_3
       try clear hfz65_4
       try clear hfz65_5
       try clear hfz65_6
       try clear hfz73_0
       try clear hfz73_1
       try clear hfz73_2
       try clear hfz73_3
       try clear hfz73_4
       try clear hfz73_5
       try clear hfz73_6
       try clear hfz76_0
       try clear hfz76_1
       try clear hfz76_2
       try clear hfz76_3
       try clear hfz76_4
       try clear hfz76_5
       try clear hfz76_6
       try clear p2
       obtain ⟨kq, x61_55, rfl, HA, HJ55, HO_387002, HO_387003, HO_399002, HO_399003, HO_412002, HO_412003, BK361, BK386, BK398, BK411, HB⟩ := hcut
       have hl399002_55 := (Kd.Q_reads' HO_399002.out).1
       rw [hl399002_55] at HO_399002
       (try simp only [hl399002_55])
       (try simp only [hl399002_55] at BK361)
       (try simp only [hl399002_55] at BK386)
       (try simp only [hl399002_55] at BK398)
       (try simp only [hl399002_55] at BK411)
       (try simp only [hl399002_55] at HO_387002)
       (try simp only [hl399002_55] at HO_387003)
       (try simp only [hl399002_55] at HO_399003)
       (try simp only [hl399002_55] at HO_412002)
       (try simp only [hl399002_55] at HO_412003)
       have hl399003_55 := (Kd.Q_reads' HO_399003.out).1
       rw [hl399003_55] at HO_399003
       (try simp only [hl399003_55])
       (try simp only [hl399003_55] at BK361)
       (try simp only [hl399003_55] at BK386)
       (try simp only [hl399003_55] at BK398)
       (try simp only [hl399003_55] at BK411)
       (try simp only [hl399003_55] at HO_387002)
       (try simp only [hl399003_55] at HO_387003)
       (try simp only [hl399003_55] at HO_399002)
       (try simp only [hl399003_55] at HO_412002)
       (try simp only [hl399003_55] at HO_412003)
       cases kq with
       | zero => exact absurd HA.out (by simp [laws_FnExactReset.j1])
       | succ kj55 =>
        have H := HA.out
        clear HA
        simp only [laws_FnExactReset.j1] at H
        by_cases c78 : x61_55 = true
        ·subst c78
         replace H : (some false) = some r := by rw [if_pos rfl] at H; exact H
         exact absurd (Option.some.inj H) (by rw [HQ_.out]; simp)
        ·replace c78 := Bool.eq_false_iff.mpr c78
         subst c78
         replace H : ((laws_markEvent.f kj55 t399 t400 t401 t404 t407 t408 t409 1).bind fun bt429 => ((laws_heldEvent.f kj55 t399 t400 bt429.2.1 bt429.2.2 t407 t408 t409 1).bind fun t432 => (if t432 < 0 then (some false) else (if t432 = bt429.1 then ((laws_toEvent.f kj55 a0_0 a0_1 l0_2 l0_3 a0_4 a0_5 a0_6).bind fun bt433 => ((impl_Reset.f kj55 bt433.1 bt433.2.1 bt433.2.2.1 bt433.2.2.2.1 bt433.2.2.2.2.1 bt433.2.2.2.2.2.1 bt433.2.2.2.2.2.2).bind fun bt444 => ((laws_eqEvent.f kj55 bt444.1 bt444.2.1 bt444.2.2.1 bt444.2.2.2.1 bt444.2.2.2.2.1 bt444.2.2.2.2.2.1 bt444.2.2.2.2.2.2.1 t374 t375 t376 t379 t382 t383 t384).bind fun t457 => (if t457 = true then (laws_FnExactReset.j2 kj55 bt429.1 (bt444.2.2.2.2.2.2.2 != t385) t399 t400 bt429.2.1 bt429.2.2 t407 t408 t409) else (laws_FnExactReset.j2 kj55 bt429.1 true t399 t400 bt429.2.1 bt429.2.2 t407 t408 t409))))) else (some false))))) = some r := by rw [if_neg (show ¬ (false = true) by decide)] at H; exact H
         replace H := Option.bind_eq_some_iff.mp H
         obtain ⟨⟨t429, t430, t431⟩, A790, H⟩ := H
         replace H : ((laws_heldEvent.f kj55 t399 t400 t430 t431 t407 t408 t409 1).bind fun t432 => (if t432 < 0 then (some false) else (if t432 = t429 then ((laws_toEvent.f kj55 a0_0 a0_1 l0_2 l0_3 a0_4 a0_5 a0_6).bind fun bt433 => ((impl_Reset.f kj55 bt433.1 bt433.2.1 bt433.2.2.1 bt433.2.2.2.1 bt433.2.2.2.2.1 bt433.2.2.2.2.2.1 bt433.2.2.2.2.2.2).bind fun bt444 => ((laws_eqEvent.f kj55 bt444.1 bt444.2.1 bt444.2.2.1 bt444.2.2.2.1 bt444.2.2.2.2.1 bt444.2.2.2.2.2.1 bt444.2.2.2.2.2.2.1 t374 t375 t376 t379 t382 t383 t384).bind fun t457 => (if t457 = true then (laws_FnExactReset.j2 kj55 t429 (bt444.2.2.2.2.2.2.2 != t385) t399 t400 t430 t431 t407 t408 t409) else (laws_FnExactReset.j2 kj55 t429 true t399 t400 t430 t431 t407 t408 t409))))) else (some false)))) = some r := H
         have A79 := am A790
         clear A790
         replace H := Option.bind_eq_some_iff.mp H
         obtain ⟨t432, A800, H⟩ := H
         replace H : (if t432 < 0 then (some false) else (if t432 = t429 then ((laws_toEvent.f kj55 a0_0 a0_1 l0_2 l0_3 a0_4 a0_5 a0_6).bind fun bt433 => ((impl_Reset.f kj55 bt433.1 bt433.2.1 bt433.2.2.1 bt433.2.2.2.1 bt433.2.2.2.2.1 bt433.2.2.2.2.2.1 bt433.2.2.2.2.2.2).bind fun bt444 => ((laws_eqEvent.f kj55 bt444.1 bt444.2.1 bt444.2.2.1 bt444.2.2.2.1 bt444.2.2.2.2.1 bt444.2.2.2.2.2.1 bt444.2.2.2.2.2.2.1 t374 t375 t376 t379 t382 t383 t384).bind fun t457 => (if t457 = true then (laws_FnExactReset.j2 kj55 t429 (bt444.2.2.2.2.2.2.2 != t385) t399 t400 t430 t431 t407 t408 t409) else (laws_FnExactReset.j2 kj55 t429 true t399 t400 t430 t431 t407 t408 t409))))) else (some false))) = some r := H
         have A80 := am A800
         clear A800
         by_cases c81 : t432 < 0
         ·rw [if_pos c81] at H
          have c81b0 : decide (t432 < 0) = true := decide_eq_true c81
          clear c81
          exact absurd (Option.some.inj H) (by rw [HQ_.out]; simp)
         ·rw [if_neg c81] at H
          have c81b0 : decide (t432 < 0) = false := decide_eq_false c81
          clear c81
          by_cases c82 : t432 = t429
          ·rw [if_pos c82] at H
           have c82b0 : (t432 == t429) = true := beq_iff_eq.mpr c82
           have c82b1 : (t432 != t429) = false := bne_eq_false_iff_eq.mpr c82
           clear c82
           replace H := Option.bind_eq_some_iff.mp H
           obtain ⟨⟨t433, t434, t435, t438, t441, t442, t443⟩, A830, H⟩ := H
           replace H : ((impl_Reset.f kj55 t433 t434 t435 t438 t441 t442 t443).bind fun bt444 => ((laws_eqEvent.f kj55 bt444.1 bt444.2.1 bt444.2.2.1 bt444.2.2.2.1 bt444.2.2.2.2.1 bt444.2.2.2.2.2.1 bt444.2.2.2.2.2.2.1 t374 t375 t376 t379 t382 t383 t384).bind fun t457 => (if t457 = true then (laws_FnExactReset.j2 kj55 t429 (bt444.2.2.2.2.2.2.2 != t385) t399 t400 t430 t431 t407 t408 t409) else (laws_FnExactReset.j2 kj55 t429 true t399 t400 t430 t431 t407 t408 t409)))) = some r := H
           have A83 := am A830
           clear A830
           replace H := Option.bind_eq_some_iff.mp H
           obtain ⟨⟨t444, t445, t446, t449, t452, t453, t454, t455⟩, A840, H⟩ := H
           replace H : ((laws_eqEvent.f kj55 t444 t445 t446 t449 t452 t453 t454 t374 t375 t376 t379 t382 t383 t384).bind fun t457 => (if t457 = true then (laws_FnExactReset.j2 kj55 t429 (t455 != t385) t399 t400 t430 t431 t407 t408 t409) else (laws_FnExactReset.j2 kj55 t429 true t399 t400 t430 t431 t407 t408 t409))) = some r := H
           have A84 := am A840
           clear A840
           have HC85 := am H
           clear H
           have hnb86 := NB411_361.out
           have hnc86 := NB361_411.out
           have hnb87 := NB411_386.out
           have hnc87 := NB386_411.out
           have hnb88 := NB411_398.out
           have hnc88 := NB398_411.out
           obtain ⟨hcz89_0, hcz89_1, hcz89_2, hcz89_3, hcz89_4, hcz89_5, hcz89_6, hfz89_0, hfz89_1, hfz89_2, hfz89_3, hfz89_4, hfz89_5, hfz89_6⟩ := bk7 BK411.out
           go_upto_region 25 with (first | ((with_reducible refine gate_callee (f := 26) rfl ?_); refine goesL_ (some 64) rfl rfl Try.func26 (by kernel_rfl) rfl #[.agg #[.bool t399, .bool t400, .slice Ao39 t401.length co39, .slice Ao40 t404.length co40, .int .i64 t407, .int .i64 t408, .int .i64 t409], .int .i64 1] rfl mpx ?_; (with_reducible refine (laws_markEvent.calls kj55 t399 t400 (fun k_ => some k_ = (.slice Ao39 t401.length co39 : Value).ownBlock) (.slice Ao39 t401.length co39) t401 (fun k_ => some k_ = (.slice Ao40 t404.length co40 : Value).ownBlock) (.slice Ao40 t404.length co40) t404 t407 t408 t409 1 t429 t430 t431 w _ ?side1 ?side2 ?side3 ?side4 ?side5 A79.out).mono ?_); (case side1 => repeat (first | (with_reducible first | exact HB.out | apply below_alloc | apply pw_below_drewN | apply below_drew1 | refine below_set ?_ GE361.out | refine below_set ?_ GE386.out | refine below_set ?_ GE398.out | refine below_set ?_ GE411.out) | exact HB.out)); (case side2 => exact Kd.Q_tight rfl HO_412002.out); (case side3 => exact fun k_ e_ => (HO_412002.out.1 k_ e_.symm).2.2.2.2); (case side4 => exact Kd.Q_tight rfl HO_412003.out); (case side5 => exact fun k_ e_ => (HO_412003.out.1 k_ e_.symm).2.2.2.2); rintro e w90 ⟨rfl, hy0, hy1, hb, hkp⟩; refine ⟨_, rfl, ?_⟩; replace HO_387002 := am (Kd.R_mono (ok' := fun k_ => some k_ ≠ (.slice Ao24 t379.length co24 : Value).ownBlock ∧ some k_ ≠ (.slice Ao31 t426.length co31 : Value).ownBlock ∧ some k_ ≠ (.slice Ao32 t427.length co32 : Value).ownBlock ∧ some k_ ≠ (.slice Ao39 t401.length co39 : Value).ownBlock ∧ some k_ ≠ (.slice Ao40 t404.length co40 : Value).ownBlock) (Kd.R_keptB (HO_387002.out) hkp (fun k_ hk_ hs_ => Or.elim hs_ (fun e_ => (hk_.2.2.2.1) e_) (fun e_ => (hk_.2.2.2.2) e_))) (fun k_ hk_ => ⟨hk_.1.1, hk_.1.2.1, hk_.1.2.2.1, hk_.1.2.2.2.1, hk_.1.2.2.2.2⟩)); replace HO_387003 := am (Kd.R_mono (ok' := fun k_ => some k_ ≠ (.slice Ao23 t376.length co23 : Value).ownBlock ∧ some k_ ≠ (.slice Ao31 t426.length co31 : Value).ownBlock ∧ some k_ ≠ (.slice Ao32 t427.length co32 : Value).ownBlock ∧ some k_ ≠ (.slice Ao39 t401.length co39 : Value).ownBlock ∧ some k_ ≠ (.slice Ao40 t404.length co40 : Value).ownBlock) (Kd.R_keptB (HO_387003.out) hkp (fun k_ hk_ hs_ => Or.elim hs_ (fun e_ => (hk_.2.2.2.1) e_) (fun e_ => (hk_.2.2.2.2) e_))) (fun k_ hk_ => ⟨hk_.1.1, hk_.1.2.1, hk_.1.2.2.1, hk_.1.2.2.2.1, hk_.1.2.2.2.2⟩)); replace HO_399002 := am (Kd.Q_mono (ok' := fun k_ => some k_ ≠ (.slice Ao23 t376.length co23 : Value).ownBlock ∧ some k_ ≠ (.slice Ao24 t379.length co24 : Value).ownBlock ∧ some k_ ≠ (.slice Ao32 t427.length co32 : Value).ownBlock ∧ some k_ ≠ (.slice Ao39 t401.length co39 : Value).ownBlock ∧ some k_ ≠ (.slice Ao40 t404.length co40 : Value).ownBlock) (Kd.Q_keptB (HO_399002.out) hkp (fun k_ hk_ hs_ => Or.elim hs_ (fun e_ => (hk_.2.2.2.1) e_) (fun e_ => (hk_.2.2.2.2) e_))) (fun k_ hk_ => ⟨hk_.1.1, hk_.1.2.1, hk_.1.2.2.1, hk_.1.2.2.2.1, hk_.1.2.2.2.2⟩)); replace HO_399003 := am (Kd.Q_mono (ok' := fun k_ => some k_ ≠ (.slice Ao23 t376.length co23 : Value).ownBlock ∧ some k_ ≠ (.slice Ao24 t379.length co24 : Value).ownBlock ∧ some k_ ≠ (.slice Ao31 t426.length co31 : Value).ownBlock ∧ some k_ ≠ (.slice Ao39 t401.length co39 : Value).ownBlock ∧ some k_ ≠ (.slice Ao40 t404.length co40 : Value).ownBlock) (Kd.Q_keptB (HO_399003.out) hkp (fun k_ hk_ hs_ => Or.elim hs_ (fun e_ => (hk_.2.2.2.1) e_) (fun e_ => (hk_.2.2.2.2) e_))) (fun k_ hk_ => ⟨hk_.1.1, hk_.1.2.1, hk_.1.2.2.1, hk_.1.2.2.2.1, hk_.1.2.2.2.2⟩)); replace BK361 := am (blk_kept (pkK BK361.out) hkp (fun hs_ => Or.elim hs_ (fun e_ => (fun e_ => (Kd.Q_ne HO_412002.out BK361.out (by decide)) e_) e_) (fun e_ => (fun e_ => (Kd.Q_ne HO_412003.out BK361.out (by decide)) e_) e_))); replace BK386 := am (blk_kept (pkK BK386.out) hkp (fun hs_ => Or.elim hs_ (fun e_ => (fun e_ => (Kd.Q_ne HO_412002.out BK386.out (by decide)) e_) e_) (fun e_ => (fun e_ => (Kd.Q_ne HO_412003.out BK386.out (by decide)) e_) e_))); replace BK398 := am (blk_kept (pkK BK398.out) hkp (fun hs_ => Or.elim hs_ (fun e_ => (fun e_ => (Kd.Q_ne HO_412002.out BK398.out (by decide)) e_) e_) (fun e_ => (fun e_ => (Kd.Q_ne HO_412003.out BK398.out (by decide)) e_) e_))); replace BK411 := am (blk_kept (pkK BK411.out) hkp (fun hs_ => Or.elim hs_ (fun e_ => (fun e_ => (Kd.Q_ne HO_412002.out BK411.out (by decide)) e_) e_) (fun e_ => (fun e_ => (Kd.Q_ne HO_412003.out BK411.out (by decide)) e_) e_))); replace HO_412002 := am (Kd.Q_reok rfl hy0 (fun k_ e_ => HO_412002.out.1 k_ e_)); replace HO_412003 := am (Kd.Q_reok rfl hy1 (fun k_ e_ => HO_412003.out.1 k_ e_)); replace HB := am (hb); (try clear hb); (try clear hkp); (try clear hy0); (try clear hy1); obtain ⟨hcz91_0, hcz91_1, hcz91_2, hcz91_3, hcz91_4, hcz91_5, hcz91_6, hfz91_0, hfz91_1, hfz91_2, hfz91_3, hfz91_4, hfz91_5, hfz91_6⟩ := bk7 BK411.out) | ((with_reducible refine gate_callee (f := 27) rfl ?_); refine goesL_ (some 67) rfl rfl Try.func27 (by kernel_rfl) rfl #[.agg #[.bool t399, .bool t400, .slice Ao39 t430.length co39, .slice Ao40 t431.length co40, .int .i64 t407, .int .i64 t408, .int .i64 t409], .int .i64 1] rfl (by (try simp only [List.map_toArray, List.map_cons, List.map_nil]); first | done | (rw [show t430.length = t401.length from (Kd.Q_reads' HO_412002.out).1.symm, show t431.length = t404.length from (Kd.Q_reads' HO_412003.out).1.symm] <;> rfl) | rfl | (simp only [List.length_drop, List.length_take]; rfl) | (go_simp; done) | (simp [*]; done)) ?_; (with_reducible refine (laws_heldEvent.calls kj55 t399 t400 _ _ t430 _ _ t431 t407 t408 t409 1 t432 _ ?side1 ?side2 ?side3 ?side4 A80.out).mono ?_); (case side1 => repeat (first | exact (Kd.Q_reads' HO_412002.out).2.2 | (with_reducible refine Kd.C_alloc ?_ _) | (with_reducible refine Kd.C_drewN ?_ _) | (with_reducible refine Kd.C_drew ?_))); (case side2 => rw [show t430.length = t401.length from (Kd.Q_reads' HO_412002.out).1.symm]; exact (Kd.Q_reads' HO_412002.out).2.1); (case side3 => repeat (first | exact (Kd.Q_reads' HO_412003.out).2.2 | (with_reducible refine Kd.C_alloc ?_ _) | (with_reducible refine Kd.C_drewN ?_ _) | (with_reducible refine Kd.C_drew ?_))); (case side4 => rw [show t431.length = t404.length from (Kd.Q_reads' HO_412003.out).1.symm]; exact (Kd.Q_reads' HO_412003.out).2.1); rintro e w92 ⟨rfl, hb⟩; refine ⟨_, rfl, ?_⟩; replace HO_387002 := am (Kd.R_below (pkR HO_387002.out) hb); replace HO_387003 := am (Kd.R_below (pkR HO_387003.out) hb); replace HO_399002 := am (Kd.Q_below (pkQ HO_399002.out) hb); replace HO_399003 := am (Kd.Q_below (pkQ HO_399003.out) hb); replace HO_412002 := am (Kd.Q_below (pkQ HO_412002.out) hb); replace HO_412003 := am (Kd.Q_below (pkQ HO_412003.out) hb); replace BK361 := am (blk_below (pkK BK361.out) hb); replace BK386 := am (blk_below (pkK BK386.out) hb); replace BK398 := am (blk_below (pkK BK398.out) hb); replace BK411 := am (blk_below (pkK BK411.out) hb); replace HB := am (below_step (pkW HB.out) hb); (try clear hb); have hnb93 := NB361_386.out; have hnc93 := NB386_361.out; have hnb94 := NB361_398.out; have hnc94 := NB398_361.out; obtain ⟨hcz95_0, hcz95_1, hcz95_2, hcz95_3, hcz95_4, hcz95_5, hcz95_6, hfz95_0, hfz95_1, hfz95_2, hfz95_3, hfz95_4, hfz95_5, hfz95_6⟩ := bk7 BK361.out) | ((with_reducible refine gate_callee (f := 16) rfl ?_); refine goesL_ (some 75) rfl rfl Try.func16 (by kernel_rfl) rfl #[.agg #[.bool a0_0, .bool a0_1, .slice A0_2 l0_2.length c0_2, .slice A0_3 l0_3.length c0_3, .int .i64 a0_4, .int .i64 a0_5, .int .i64 a0_6]] rfl mpx ?_; (with_reducible refine (laws_toEvent.calls kj55 a0_0 a0_1 _ _ l0_2 _ _ l0_3 a0_4 a0_5 a0_6 t433 t434 t435 t438 t441 t442 t443 _ ?side1 ?side2 ?side3 ?side4 A83.out).mono ?_); (case side1 => exact pkC (Kd.C_below HR0_2.out HB.out)); (case side2 => exact HC0_2.out); (case side3 => exact pkC (Kd.C_below HR0_3.out HB.out)); (case side4 => exact HC0_3.out); rintro e w96 ⟨v436, v439, rfl, ho0, ho1, hb⟩; refine ⟨_, rfl, ?_⟩; have HO437 := am (Kd.R_lower (Kd.R_new' (Kd.R_new' (Kd.R_new' (Kd.R_new' (Kd.R_new' (Kd.R_new' ho0 (Kd.R_lt (pkR HO_387002.out))) (Kd.R_lt (pkR HO_387003.out))) (Kd.Q_lt (pkQ HO_399002.out))) (Kd.Q_lt (pkQ HO_399003.out))) (Kd.Q_lt (pkQ HO_412002.out))) (Kd.Q_lt (pkQ HO_412003.out))) (below_size (pkW HB.out))); have HO440 := am (Kd.R_lower (Kd.R_new' (Kd.R_new' (Kd.R_new' (Kd.R_new' (Kd.R_new' (Kd.R_new' ho1 (Kd.R_lt (pkR HO_387002.out))) (Kd.R_lt (pkR HO_387003.out))) (Kd.Q_lt (pkQ HO_399002.out))) (Kd.Q_lt (pkQ HO_399003.out))) (Kd.Q_lt (pkQ HO_412002.out))) (Kd.Q_lt (pkQ HO_412003.out))) (below_size (pkW HB.out))); replace HO_387002 := am (Kd.R_mono (Kd.R_told (Kd.R_told (Kd.R_old (pkR HO_387002.out) hb) (Kd.R_base ho0)) (Kd.R_base ho1)) (fun _ h_ => h_.1)); replace HO_387003 := am (Kd.R_mono (Kd.R_told (Kd.R_told (Kd.R_old (pkR HO_387003.out) hb) (Kd.R_base ho0)) (Kd.R_base ho1)) (fun _ h_ => h_.1)); replace HO_399002 := am (Kd.Q_mono (Kd.Q_told (Kd.Q_told (Kd.Q_old (pkQ HO_399002.out) hb) (Kd.R_base ho0)) (Kd.R_base ho1)) (fun _ h_ => h_.1)); replace HO_399003 := am (Kd.Q_mono (Kd.Q_told (Kd.Q_told (Kd.Q_old (pkQ HO_399003.out) hb) (Kd.R_base ho0)) (Kd.R_base ho1)) (fun _ h_ => h_.1)); replace HO_412002 := am (Kd.Q_mono (Kd.Q_told (Kd.Q_told (Kd.Q_old (pkQ HO_412002.out) hb) (Kd.R_base ho0)) (Kd.R_base ho1)) (fun _ h_ => h_.1)); replace HO_412003 := am (Kd.Q_mono (Kd.Q_told (Kd.Q_told (Kd.Q_old (pkQ HO_412003.out) hb) (Kd.R_base ho0)) (Kd.R_base ho1)) (fun _ h_ => h_.1)); replace BK361 := am (blk_below (pkK BK361.out) hb); replace BK386 := am (blk_below (pkK BK386.out) hb); replace BK398 := am (blk_below (pkK BK398.out) hb); replace BK411 := am (blk_below (pkK BK411.out) hb); replace HB := am (below_step (pkW HB.out) hb); (try clear hb ho0 ho1); obtain ⟨Ao97, co97, eo97⟩ := Kd.R_slice HO437.out; subst eo97; obtain ⟨Ao98, co98, eo98⟩ := Kd.R_slice HO440.out; subst eo98) | ((with_reducible refine gate_callee (f := 25) rfl ?_); refine goesL_ (some 76) rfl rfl Try.func25 (by kernel_rfl) rfl #[.agg #[.bool t433, .bool t434, .slice Ao97 t435.length co97, .slice Ao98 t438.length co98, .int .i64 t441, .int .i64 t442, .int .i64 t443]] rfl mpx ?_; (with_reducible refine (impl_Reset.calls kj55 t433 t434 _ _ t435 _ _ t438 t441 t442 t443 t444 t445 t446 t449 t452 t453 t454 t455 _ ?side1 ?side2 ?side3 ?side4 A84.out).mono ?_); (case side1 => exact pkC (Kd.R_reads' HO437.out).2.2); (case side2 => exact (Kd.R_reads' HO437.out).2.1); (case side3 => exact pkC (Kd.R_reads' HO440.out).2.2); (case side4 => exact (Kd.R_reads' HO440.out).2.1); rintro e w99 ⟨v447, v450, rfl, ho0, ho1, hb⟩; refine ⟨_, rfl, ?_⟩; have HO448 := am (Kd.R_lower (Kd.R_new' (Kd.R_new' (Kd.R_new' (Kd.R_new' (Kd.R_new' (Kd.R_new' (Kd.R_new' (Kd.R_new' ho0 (Kd.R_lt (pkR HO_387002.out))) (Kd.R_lt (pkR HO_387003.out))) (Kd.Q_lt (pkQ HO_399002.out))) (Kd.Q_lt (pkQ HO_399003.out))) (Kd.Q_lt (pkQ HO_412002.out))) (Kd.Q_lt (pkQ HO_412003.out))) (Kd.R_lt (pkR HO437.out))) (Kd.R_lt (pkR HO440.out))) (below_size (pkW HB.out))); have HO451 := am (Kd.R_lower (Kd.R_new' (Kd.R_new' (Kd.R_new' (Kd.R_new' (Kd.R_new' (Kd.R_new' (Kd.R_new' (Kd.R_new' ho1 (Kd.R_lt (pkR HO_387002.out))) (Kd.R_lt (pkR HO_387003.out))) (Kd.Q_lt (pkQ HO_399002.out))) (Kd.Q_lt (pkQ HO_399003.out))) (Kd.Q_lt (pkQ HO_412002.out))) (Kd.Q_lt (pkQ HO_412003.out))) (Kd.R_lt (pkR HO437.out))) (Kd.R_lt (pkR HO440.out))) (below_size (pkW HB.out))); replace HO_387002 := am (Kd.R_mono (Kd.R_told (Kd.R_told (Kd.R_old (pkR HO_387002.out) hb) (Kd.R_base ho0)) (Kd.R_base ho1)) (fun _ h_ => h_.1)); replace HO_387003 := am (Kd.R_mono (Kd.R_told (Kd.R_told (Kd.R_old (pkR HO_387003.out) hb) (Kd.R_base ho0)) (Kd.R_base ho1)) (fun _ h_ => h_.1)); replace HO_399002 := am (Kd.Q_mono (Kd.Q_told (Kd.Q_told (Kd.Q_old (pkQ HO_399002.out) hb) (Kd.R_base ho0)) (Kd.R_base ho1)) (fun _ h_ => h_.1)); replace HO_399003 := am (Kd.Q_mono (Kd.Q_told (Kd.Q_told (Kd.Q_old (pkQ HO_399003.out) hb) (Kd.R_base ho0)) (Kd.R_base ho1)) (fun _ h_ => h_.1)); replace HO_412002 := am (Kd.Q_mono (Kd.Q_told (Kd.Q_told (Kd.Q_old (pkQ HO_412002.out) hb) (Kd.R_base ho0)) (Kd.R_base ho1)) (fun _ h_ => h_.1)); replace HO_412003 := am (Kd.Q_mono (Kd.Q_told (Kd.Q_told (Kd.Q_old (pkQ HO_412003.out) hb) (Kd.R_base ho0)) (Kd.R_base ho1)) (fun _ h_ => h_.1)); replace HO437 := am (Kd.R_mono (Kd.R_told (Kd.R_told (Kd.R_old (pkR HO437.out) hb) (Kd.R_base ho0)) (Kd.R_base ho1)) (fun _ h_ => h_.1)); replace HO440 := am (Kd.R_mono (Kd.R_told (Kd.R_told (Kd.R_old (pkR HO440.out) hb) (Kd.R_base ho0)) (Kd.R_base ho1)) (fun _ h_ => h_.1)); replace BK361 := am (blk_below (pkK BK361.out) hb); replace BK386 := am (blk_below (pkK BK386.out) hb); replace BK398 := am (blk_below (pkK BK398.out) hb); replace BK411 := am (blk_below (pkK BK411.out) hb); replace HB := am (below_step (pkW HB.out) hb); (try clear hb ho0 ho1)) | ((with_reducible refine gate_dst (N := 12) rfl ?_); refine box_event ?hg (N := 12) ?hd (cs := #[.bool false, .bool false, .slice none 0 0, .slice none 0 0, .int .i64 0, .int .i64 0, .int .i64 0]) (t := 27) ?hr ?_; (case hd => rfl); (case hg => rfl); (case hr => first | (go_simp; done) | (go_simp; rfl)); intro gb456 hg w100 hbox hb; replace HO_387002 := am (Kd.R_below (pkR HO_387002.out) hb); replace HO_387003 := am (Kd.R_below (pkR HO_387003.out) hb); replace HO_399002 := am (Kd.Q_below (pkQ HO_399002.out) hb); replace HO_399003 := am (Kd.Q_below (pkQ HO_399003.out) hb); replace HO_412002 := am (Kd.Q_below (pkQ HO_412002.out) hb); replace HO_412003 := am (Kd.Q_below (pkQ HO_412003.out) hb); replace HO437 := am (Kd.R_below (pkR HO437.out) hb); replace HO440 := am (Kd.R_below (pkR HO440.out) hb); replace HO448 := am (Kd.R_below (pkR HO448.out) hb); replace HO451 := am (Kd.R_below (pkR HO451.out) hb); have BK456 := am (hbox); have GW456 := am ((by rw [hg]; exact (below_size (pkW HB.out)) : w.heap.size ≤ gb456)); have GE456 := am ((by rw [hg]; exact (below_size (pkW HB.out)) : w.heap.size ≤ gb456)); replace HB := am (below_step (pkW HB.out) hb); have NB361_456 := am ((by rw [hg]; exact Nat.ne_of_lt (blk_lt (g := gb361) (o := .cells #[.bool a0_0, .bool a0_1, .slice A0_2 l0_2.length c0_2, .slice A0_3 l0_3.length c0_3, .int .i64 a0_4, .int .i64 a0_5, .int .i64 a0_6] 24 (0, 0)) (pkK BK361.out)) : gb361 ≠ gb456)); have NB456_361 := am ((by rw [hg]; exact Nat.ne_of_gt (blk_lt (g := gb361) (o := .cells #[.bool a0_0, .bool a0_1, .slice A0_2 l0_2.length c0_2, .slice A0_3 l0_3.length c0_3, .int .i64 a0_4, .int .i64 a0_5, .int .i64 a0_6] 24 (0, 0)) (pkK BK361.out)) : gb456 ≠ gb361)); replace BK361 := am (blk_below (pkK BK361.out) hb); have NB386_456 := am ((by rw [hg]; exact Nat.ne_of_lt (blk_lt (g := gb386) (o := .cells #[.bool t374, .bool t375, .slice Ao23 t376.length co23, .slice Ao24 t379.length co24, .int .i64 t382, .int .i64 t383, .int .i64 t384] 27 (0, 0)) (pkK BK386.out)) : gb386 ≠ gb456)); have NB456_386 := am ((by rw [hg]; exact Nat.ne_of_gt (blk_lt (g := gb386) (o := .cells #[.bool t374, .bool t375, .slice Ao23 t376.length co23, .slice Ao24 t379.length co24, .int .i64 t382, .int .i64 t383, .int .i64 t384] 27 (0, 0)) (pkK BK386.out)) : gb456 ≠ gb386)); replace BK386 := am (blk_below (pkK BK386.out) hb); have NB398_456 := am ((by rw [hg]; exact Nat.ne_of_lt (blk_lt (g := gb398) (o := .cells #[.bool t387, .bool t388, .slice Ao31 t426.length co31, .slice Ao32 t427.length co32, .int .i64 t395, .int .i64 t396, .int .i64 t397] 27 (0, 0)) (pkK BK398.out)) : gb398 ≠ gb456)); have NB456_398 := am ((by rw [hg]; exact Nat.ne_of_gt (blk_lt (g := gb398) (o := .cells #[.bool t387, .bool t388, .slice Ao31 t426.length co31, .slice Ao32 t427.length co32, .int .i64 t395, .int .i64 t396, .int .i64 t397] 27 (0, 0)) (pkK BK398.out)) : gb456 ≠ gb398)); replace BK398 := am (blk_below (pkK BK398.out) hb); have NB411_456 := am ((by rw [hg]; exact Nat.ne_of_lt (blk_lt (g := gb411) (o := .cells #[.bool t399, .bool t400, .slice Ao39 t401.length co39, .slice Ao40 t404.length co40, .int .i64 t407, .int .i64 t408, .int .i64 t409] 27 (0, 0)) (pkK BK411.out)) : gb411 ≠ gb456)); have NB456_411 := am ((by rw [hg]; exact Nat.ne_of_gt (blk_lt (g := gb411) (o := .cells #[.bool t399, .bool t400, .slice Ao39 t401.length co39, .slice Ao40 t404.length co40, .int .i64 t407, .int .i64 t408, .int .i64 t409] 27 (0, 0)) (pkK BK411.out)) : gb456 ≠ gb411)); replace BK411 := am (blk_below (pkK BK411.out) hb); clear hb hbox hg; have hnb101 := NB456_361.out; have hnc101 := NB361_456.out; have hnb102 := NB456_386.out; have hnc102 := NB386_456.out; have hnb103 := NB456_398.out; have hnc103 := NB398_456.out; have hnb104 := NB456_411.out; have hnc104 := NB411_456.out; obtain ⟨hcz105_0, hcz105_1, hcz105_2, hcz105_3, hcz105_4, hcz105_5, hcz105_6, hfz105_0, hfz105_1, hfz105_2, hfz105_3, hfz105_4, hfz105_5, hfz105_6⟩ := bk7 BK456.out; obtain ⟨Ao106, co106, eo106⟩ := Kd.R_slice HO448.out; subst eo106; obtain ⟨Ao107, co107, eo107⟩ := Kd.R_slice HO451.out; subst eo107))
           (try simp only [Act.put, List.setIfInBounds_toArray, List.set_cons_zero, List.set_cons_succ])
           go_cut [87] (fun v87 wc => ∃ (kq : Nat) (x87_84 : Bool), v87 = .bool x87_84 ∧ Aside0 (laws_FnExactReset.j2 kq t429 x87_84 t399 t400 t430 t431 t407 t408 t409 = some r) ∧ Aside0 (kq ≤ kj55) ∧ Aside0 (Kd.R (Kd.int .i64) 3 wc w.heap.size (fun k_ => some k_ ≠ ((.slice Ao24 t379.length co24) : Value).ownBlock ∧ some k_ ≠ ((.slice Ao31 t426.length co31) : Value).ownBlock ∧ some k_ ≠ ((.slice Ao32 t427.length co32) : Value).ownBlock ∧ some k_ ≠ ((.slice Ao39 t401.length co39) : Value).ownBlock ∧ some k_ ≠ ((.slice Ao40 t404.length co40) : Value).ownBlock ∧ some k_ ≠ ((.slice Ao106 t446.length co106) : Value).ownBlock ∧ some k_ ≠ ((.slice Ao107 t449.length co107) : Value).ownBlock) (.slice Ao23 t376.length co23) t376) ∧ Aside0 (Kd.R (Kd.int .i64) 3 wc w.heap.size (fun k_ => some k_ ≠ ((.slice Ao23 t376.length co23) : Value).ownBlock ∧ some k_ ≠ ((.slice Ao31 t426.length co31) : Value).ownBlock ∧ some k_ ≠ ((.slice Ao32 t427.length co32) : Value).ownBlock ∧ some k_ ≠ ((.slice Ao39 t401.length co39) : Value).ownBlock ∧ some k_ ≠ ((.slice Ao40 t404.length co40) : Value).ownBlock ∧ some k_ ≠ ((.slice Ao106 t446.length co106) : Value).ownBlock ∧ some k_ ≠ ((.slice Ao107 t449.length co107) : Value).ownBlock) (.slice Ao24 t379.length co24) t379) ∧ Aside0 (Kd.Q (Kd.int .i64) 3 wc w.heap.size (fun k_ => some k_ ≠ ((.slice Ao23 t376.length co23) : Value).ownBlock ∧ some k_ ≠ ((.slice Ao24 t379.length co24) : Value).ownBlock ∧ some k_ ≠ ((.slice Ao32 t427.length co32) : Value).ownBlock ∧ some k_ ≠ ((.slice Ao39 t401.length co39) : Value).ownBlock ∧ some k_ ≠ ((.slice Ao40 t404.length co40) : Value).ownBlock ∧ some k_ ≠ ((.slice Ao106 t446.length co106) : Value).ownBlock ∧ some k_ ≠ ((.slice Ao107 t449.length co107) : Value).ownBlock) (.slice Ao31 t426.length co31) t426) ∧ Aside0 (Kd.Q (Kd.int .i64) 3 wc w.heap.size (fun k_ => some k_ ≠ ((.slice Ao23 t376.length co23) : Value).ownBlock ∧ some k_ ≠ ((.slice Ao24 t379.length co24) : Value).ownBlock ∧ some k_ ≠ ((.slice Ao31 t426.length co31) : Value).ownBlock ∧ some k_ ≠ ((.slice Ao39 t401.length co39) : Value).ownBlock ∧ some k_ ≠ ((.slice Ao40 t404.length co40) : Value).ownBlock ∧ some k_ ≠ ((.slice Ao106 t446.length co106) : Value).ownBlock ∧ some k_ ≠ ((.slice Ao107 t449.length co107) : Value).ownBlock) (.slice Ao32 t427.length co32) t427) ∧ Aside0 (Kd.Q (Kd.int .i64) 3 wc w.heap.size (fun k_ => some k_ ≠ ((.slice Ao23 t376.length co23) : Value).ownBlock ∧ some k_ ≠ ((.slice Ao24 t379.length co24) : Value).ownBlock ∧ some k_ ≠ ((.slice Ao31 t426.length co31) : Value).ownBlock ∧ some k_ ≠ ((.slice Ao32 t427.length co32) : Value).ownBlock ∧ some k_ ≠ ((.slice Ao40 t404.length co40) : Value).ownBlock ∧ some k_ ≠ ((.slice Ao106 t446.length co106) : Value).ownBlock ∧ some k_ ≠ ((.slice Ao107 t449.length co107) : Value).ownBlock) (.slice Ao39 t401.length co39) t430) ∧ Aside0 (Kd.Q (Kd.int .i64) 3 wc w.heap.size (fun k_ => some k_ ≠ ((.slice Ao23 t376.length co23) : Value).ownBlock ∧ some k_ ≠ ((.slice Ao24 t379.length co24) : Value).ownBlock ∧ some k_ ≠ ((.slice Ao31 t426.length co31) : Value).ownBlock ∧ some k_ ≠ ((.slice Ao32 t427.length co32) : Value).ownBlock ∧ some k_ ≠ ((.slice Ao39 t401.length co39) : Value).ownBlock ∧ some k_ ≠ ((.slice Ao106 t446.length co106) : Value).ownBlock ∧ some k_ ≠ ((.slice Ao107 t449.length co107) : Value).ownBlock) (.slice Ao40 t404.length co40) t431) ∧ Aside0 (Kd.R (Kd.int .i64) 3 wc w.heap.size (fun k_ => some k_ ≠ ((.slice Ao23 t376.length co23) : Value).ownBlock ∧ some k_ ≠ ((.slice Ao24 t379.length co24) : Value).ownBlock ∧ some k_ ≠ ((.slice Ao31 t426.length co31) : Value).ownBlock ∧ some k_ ≠ ((.slice Ao32 t427.length co32) : Value).ownBlock ∧ some k_ ≠ ((.slice Ao39 t401.length co39) : Value).ownBlock ∧ some k_ ≠ ((.slice Ao40 t404.length co40) : Value).ownBlock ∧ some k_ ≠ ((.slice Ao107 t449.length co107) : Value).ownBlock) (.slice Ao106 t446.length co106) t446) ∧ Aside0 (Kd.R (Kd.int .i64) 3 wc w.heap.size (fun k_ => some k_ ≠ ((.slice Ao23 t376.length co23) : Value).ownBlock ∧ some k_ ≠ ((.slice Ao24 t379.length co24) : Value).ownBlock ∧ some k_ ≠ ((.slice Ao31 t426.length co31) : Value).ownBlock ∧ some k_ ≠ ((.slice Ao32 t427.length co32) : Value).ownBlock ∧ some k_ ≠ ((.slice Ao39 t401.length co39) : Value).ownBlock ∧ some k_ ≠ ((.slice Ao40 t404.length co40) : Value).ownBlock ∧ some k_ ≠ ((.slice Ao106 t446.length co106) : Value).ownBlock) (.slice Ao107 t449.length co107) t449) ∧ Aside0 (wc.heap[gb361]? = some (.cells #[.bool a0_0, .bool a0_1, (.slice A0_2 l0_2.length c0_2), (.slice A0_3 l0_3.length c0_3), .int .i64 a0_4, .int .i64 a0_5, .int .i64 a0_6] 24 (0, 0))) ∧ Aside0 (wc.heap[gb386]? = some (.cells #[.bool t374, .bool t375, (.slice Ao23 t376.length co23), (.slice Ao24 t379.length co24), .int .i64 t382, .int .i64 t383, .int .i64 t384] 27 (0, 0))) ∧ Aside0 (wc.heap[gb398]? = some (.cells #[.bool t387, .bool t388, (.slice Ao31 t426.length co31), (.slice Ao32 t427.length co32), .int .i64 t395, .int .i64 t396, .int .i64 t397] 27 (0, 0))) ∧ Aside0 (wc.heap[gb411]? = some (.cells #[.bool t399, .bool t400, (.slice Ao39 t401.length co39), (.slice Ao40 t404.length co40), .int .i64 t407, .int .i64 t408, .int .i64 t409] 27 (0, 0))) ∧ Aside0 (wc.heap[gb456]? = some (.cells #[.bool t444, .bool t445, (.slice Ao106 t446.length co106), (.slice Ao107 t449.length co107), .int .i64 t452, .int .i64 t453, .int .i64 t454] 27 (0, 0))) ∧ Aside0 (Below w.heap.size w wc))
           case first =>
            have H := HC85.out
            clear HC85
            replace H := Option.bind_eq_some_iff.mp H
            obtain ⟨t457, A1080, H⟩ := H
            replace H : (if t457 = true then (laws_FnExactReset.j2 kj55 t429 (t455 != t385) t399 t400 t430 t431 t407 t408 t409) else (laws_FnExactReset.j2 kj55 t429 true t399 t400 t430 t431 t407 t408 t409)) = some r := H
            have A108 := am A1080
            clear A1080
            by_cases c109 : t457 = true
            ·subst c109
             replace H : (laws_FnExactReset.j2 kj55 t429 (t455 != t385) t399 t400 t430 t431 t407 t408 t409) = some r := by rw [if_pos rfl] at H; exact H
             have H' := am H
             clear H
             have hnb110 := NB456_361.out
             have hnc110 := NB361_456.out
             have hnb111 := NB456_386.out
             have hnc111 := NB386_456.out
             have hnb112 := NB456_398.out
             have hnc112 := NB398_456.out
             have hnb113 := NB456_411.out
             have hnc113 := NB411_456.out
             obtain ⟨hcz114_0, hcz114_1, hcz114_2, hcz114_3, hcz114_4, hcz114_5, hcz114_6, hfz114_0, hfz114_1, hfz114_2, hfz114_3, hfz114_4, hfz114_5, hfz114_6⟩ := bk7 BK456.out
             have hnb115 := NB386_361.out
             have hnc115 := NB361_386.out
             have hnb116 := NB386_398.out
             have hnc116 := NB398_386.out
             have hnb117 := NB386_411.out
             have hnc117 := NB411_386.out
             obtain ⟨hcz118_0, hcz118_1, hcz118_2, hcz118_3, hcz118_4, hcz118_5, hcz118_6, hfz118_0, hfz118_1, hfz118_2, hfz118_3, hfz118_4, hfz118_5, hfz118_6⟩ := bk7 BK386.out
             go_wp2_with (first | ((with_reducible refine gate_callee (f := 18) rfl ?_); refine goesL_ (some 81) rfl rfl Try.func18 (by kernel_rfl) rfl #[.agg #[.bool t444, .bool t445, .slice Ao106 t446.length co106, .slice Ao107 t449.length co107, .int .i64 t452, .int .i64 t453, .int .i64 t454], .agg #[.bool t374, .bool t375, .slice Ao23 t376.length co23, .slice Ao24 t379.length co24, .int .i64 t382, .int .i64 t383, .int .i64 t384]] rfl mpx ?_; (with_reducible refine (laws_eqEvent.calls kj55 t444 t445 _ _ t446 _ _ t449 t452 t453 t454 t374 t375 _ _ t376 _ _ t379 t382 t383 t384 true _ ?side1 ?side2 ?side3 ?side4 ?side5 ?side6 ?side7 ?side8 A108.out).mono ?_); (case side1 => refine (Kd.R_reads' (e := 3) (base := w.heap.size) (ok := fun k_ => ((((((((some k_ ≠ (.slice Ao107 t449.length co107 : Value).ownBlock ∧ some k_ ≠ (.slice Ao23 t376.length co23 : Value).ownBlock) ∧ some k_ ≠ (.slice Ao24 t379.length co24 : Value).ownBlock) ∧ some k_ ≠ (.slice Ao31 t426.length co31 : Value).ownBlock) ∧ some k_ ≠ (.slice Ao32 t427.length co32 : Value).ownBlock) ∧ some k_ ≠ (.slice Ao39 t401.length co39 : Value).ownBlock) ∧ some k_ ≠ (.slice Ao40 t404.length co40 : Value).ownBlock) ∧ some k_ ≠ (.slice Ao97 t435.length co97 : Value).ownBlock) ∧ some k_ ≠ (.slice Ao98 t438.length co98 : Value).ownBlock)) (n := t446.length) (c := co106) ?_).2.2; exact (by (with_reducible repeat (first | apply Kd.R_alloc | apply Kd.R_drewN | apply Kd.R_drew)); exact (Kd.R_mono (Kd.R_far (p := ⟨gb456, 6, none⟩) (Kd.R_far (p := ⟨gb456, 5, none⟩) (Kd.R_far (p := ⟨gb456, 4, none⟩) (Kd.R_far (p := ⟨gb456, 3, none⟩) (Kd.R_far (p := ⟨gb456, 2, none⟩) (Kd.R_far (p := ⟨gb456, 1, none⟩) (Kd.R_far (p := ⟨gb456, 0, none⟩) (Kd.R_types HO448.out BK456.out (by decide)) (fun _ hk => hk.2) (.bool t444)) (fun _ hk => hk.2) (.bool t445)) (fun _ hk => hk.2) (.slice Ao106 t446.length co106)) (fun _ hk => hk.2) (.slice Ao107 t449.length co107)) (fun _ hk => hk.2) (.int .i64 t452)) (fun _ hk => hk.2) (.int .i64 t453)) (fun _ hk => hk.2) (.int .i64 t454)) (fun _ h_ => h_.1)))); (case side2 => exact (Kd.R_reads' HO448.out).2.1); (case side3 => refine (Kd.R_reads' (e := 3) (base := w.heap.size) (ok := fun k_ => ((((((((some k_ ≠ (.slice Ao106 t446.length co106 : Value).ownBlock ∧ some k_ ≠ (.slice Ao23 t376.length co23 : Value).ownBlock) ∧ some k_ ≠ (.slice Ao24 t379.length co24 : Value).ownBlock) ∧ some k_ ≠ (.slice Ao31 t426.length co31 : Value).ownBlock) ∧ some k_ ≠ (.slice Ao32 t427.length co32 : Value).ownBlock) ∧ some k_ ≠ (.slice Ao39 t401.length co39 : Value).ownBlock) ∧ some k_ ≠ (.slice Ao40 t404.length co40 : Value).ownBlock) ∧ some k_ ≠ (.slice Ao97 t435.length co97 : Value).ownBlock) ∧ some k_ ≠ (.slice Ao98 t438.length co98 : Value).ownBlock)) (n := t449.length) (c := co107) ?_).2.2; exact (by (with_reducible repeat (first | apply Kd.R_alloc | apply Kd.R_drewN | apply Kd.R_drew)); exact (Kd.R_mono (Kd.R_far (p := ⟨gb456, 6, none⟩) (Kd.R_far (p := ⟨gb456, 5, none⟩) (Kd.R_far (p := ⟨gb456, 4, none⟩) (Kd.R_far (p := ⟨gb456, 3, none⟩) (Kd.R_far (p := ⟨gb456, 2, none⟩) (Kd.R_far (p := ⟨gb456, 1, none⟩) (Kd.R_far (p := ⟨gb456, 0, none⟩) (Kd.R_types HO451.out BK456.out (by decide)) (fun _ hk => hk.2) (.bool t444)) (fun _ hk => hk.2) (.bool t445)) (fun _ hk => hk.2) (.slice Ao106 t446.length co106)) (fun _ hk => hk.2) (.slice Ao107 t449.length co107)) (fun _ hk => hk.2) (.int .i64 t452)) (fun _ hk => hk.2) (.int .i64 t453)) (fun _ hk => hk.2) (.int .i64 t454)) (fun _ h_ => h_.1)))); (case side4 => exact (Kd.R_reads' HO451.out).2.1); (case side5 => refine (Kd.R_reads' (e := 3) (base := w.heap.size) (ok := fun k_ => (((((some k_ ≠ (.slice Ao24 t379.length co24 : Value).ownBlock ∧ (some k_ ≠ (.slice Ao31 t426.length co31 : Value).ownBlock ∧ (some k_ ≠ (.slice Ao32 t427.length co32 : Value).ownBlock ∧ (some k_ ≠ (.slice Ao39 t401.length co39 : Value).ownBlock ∧ some k_ ≠ (.slice Ao40 t404.length co40 : Value).ownBlock)))) ∧ some k_ ≠ (.slice Ao97 t435.length co97 : Value).ownBlock) ∧ some k_ ≠ (.slice Ao98 t438.length co98 : Value).ownBlock) ∧ some k_ ≠ (.slice Ao106 t446.length co106 : Value).ownBlock) ∧ some k_ ≠ (.slice Ao107 t449.length co107 : Value).ownBlock)) (n := t376.length) (c := co23) ?_).2.2; exact (by (with_reducible repeat (first | apply Kd.R_alloc | apply Kd.R_drewN | apply Kd.R_drew)); exact (Kd.R_mono (Kd.R_far (p := ⟨gb456, 6, none⟩) (Kd.R_far (p := ⟨gb456, 5, none⟩) (Kd.R_far (p := ⟨gb456, 4, none⟩) (Kd.R_far (p := ⟨gb456, 3, none⟩) (Kd.R_far (p := ⟨gb456, 2, none⟩) (Kd.R_far (p := ⟨gb456, 1, none⟩) (Kd.R_far (p := ⟨gb456, 0, none⟩) (Kd.R_types HO_387002.out BK456.out (by decide)) (fun _ hk => hk.2) (.bool t444)) (fun _ hk => hk.2) (.bool t445)) (fun _ hk => hk.2) (.slice Ao106 t446.length co106)) (fun _ hk => hk.2) (.slice Ao107 t449.length co107)) (fun _ hk => hk.2) (.int .i64 t452)) (fun _ hk => hk.2) (.int .i64 t453)) (fun _ hk => hk.2) (.int .i64 t454)) (fun _ h_ => h_.1)))); (case side6 => exact (Kd.R_reads' HO_387002.out).2.1); (case side7 => refine (Kd.R_reads' (e := 3) (base := w.heap.size) (ok := fun k_ => (((((some k_ ≠ (.slice Ao23 t376.length co23 : Value).ownBlock ∧ (some k_ ≠ (.slice Ao31 t426.length co31 : Value).ownBlock ∧ (some k_ ≠ (.slice Ao32 t427.length co32 : Value).ownBlock ∧ (some k_ ≠ (.slice Ao39 t401.length co39 : Value).ownBlock ∧ some k_ ≠ (.slice Ao40 t404.length co40 : Value).ownBlock)))) ∧ some k_ ≠ (.slice Ao97 t435.length co97 : Value).ownBlock) ∧ some k_ ≠ (.slice Ao98 t438.length co98 : Value).ownBlock) ∧ some k_ ≠ (.slice Ao106 t446.length co106 : Value).ownBlock) ∧ some k_ ≠ (.slice Ao107 t449.length co107 : Value).ownBlock)) (n := t379.length) (c := co24) ?_).2.2; exact (by (with_reducible repeat (first | apply Kd.R_alloc | apply Kd.R_drewN | apply Kd.R_drew)); exact (Kd.R_mono (Kd.R_far (p := ⟨gb456, 6, none⟩) (Kd.R_far (p := ⟨gb456, 5, none⟩) (Kd.R_far (p := ⟨gb456, 4, none⟩) (Kd.R_far (p := ⟨gb456, 3, none⟩) (Kd.R_far (p := ⟨gb456, 2, none⟩) (Kd.R_far (p := ⟨gb456, 1, none⟩) (Kd.R_far (p := ⟨gb456, 0, none⟩) (Kd.R_types HO_387003.out BK456.out (by decide)) (fun _ hk => hk.2) (.bool t444)) (fun _ hk => hk.2) (.bool t445)) (fun _ hk => hk.2) (.slice Ao106 t446.length co106)) (fun _ hk => hk.2) (.slice Ao107 t449.length co107)) (fun _ hk => hk.2) (.int .i64 t452)) (fun _ hk => hk.2) (.int .i64 t453)) (fun _ hk => hk.2) (.int .i64 t454)) (fun _ h_ => h_.1)))); (case side8 => exact (Kd.R_reads' HO_387003.out).2.1); rintro e w119 ⟨rfl, hb⟩; refine ⟨_, rfl, ?_⟩; replace HO_387002 := am (Kd.R_below (by (with_reducible repeat (first | apply Kd.R_alloc | apply Kd.R_drewN | apply Kd.R_drew)); exact (Kd.R_mono (Kd.R_far (p := ⟨gb456, 6, none⟩) (Kd.R_far (p := ⟨gb456, 5, none⟩) (Kd.R_far (p := ⟨gb456, 4, none⟩) (Kd.R_far (p := ⟨gb456, 3, none⟩) (Kd.R_far (p := ⟨gb456, 2, none⟩) (Kd.R_far (p := ⟨gb456, 1, none⟩) (Kd.R_far (p := ⟨gb456, 0, none⟩) (Kd.R_types HO_387002.out BK456.out (by decide)) (fun _ hk => hk.2) (.bool t444)) (fun _ hk => hk.2) (.bool t445)) (fun _ hk => hk.2) (.slice Ao106 t446.length co106)) (fun _ hk => hk.2) (.slice Ao107 t449.length co107)) (fun _ hk => hk.2) (.int .i64 t452)) (fun _ hk => hk.2) (.int .i64 t453)) (fun _ hk => hk.2) (.int .i64 t454)) (fun _ h_ => h_.1))) hb); replace HO_387003 := am (Kd.R_below (by (with_reducible repeat (first | apply Kd.R_alloc | apply Kd.R_drewN | apply Kd.R_drew)); exact (Kd.R_mono (Kd.R_far (p := ⟨gb456, 6, none⟩) (Kd.R_far (p := ⟨gb456, 5, none⟩) (Kd.R_far (p := ⟨gb456, 4, none⟩) (Kd.R_far (p := ⟨gb456, 3, none⟩) (Kd.R_far (p := ⟨gb456, 2, none⟩) (Kd.R_far (p := ⟨gb456, 1, none⟩) (Kd.R_far (p := ⟨gb456, 0, none⟩) (Kd.R_types HO_387003.out BK456.out (by decide)) (fun _ hk => hk.2) (.bool t444)) (fun _ hk => hk.2) (.bool t445)) (fun _ hk => hk.2) (.slice Ao106 t446.length co106)) (fun _ hk => hk.2) (.slice Ao107 t449.length co107)) (fun _ hk => hk.2) (.int .i64 t452)) (fun _ hk => hk.2) (.int .i64 t453)) (fun _ hk => hk.2) (.int .i64 t454)) (fun _ h_ => h_.1))) hb); replace HO_399002 := am (Kd.Q_below (by (with_reducible repeat (first | apply Kd.Q_alloc | apply Kd.Q_drewN | apply Kd.Q_drew)); exact (Kd.Q_mono (Kd.Q_far (p := ⟨gb456, 6, none⟩) (Kd.Q_far (p := ⟨gb456, 5, none⟩) (Kd.Q_far (p := ⟨gb456, 4, none⟩) (Kd.Q_far (p := ⟨gb456, 3, none⟩) (Kd.Q_far (p := ⟨gb456, 2, none⟩) (Kd.Q_far (p := ⟨gb456, 1, none⟩) (Kd.Q_far (p := ⟨gb456, 0, none⟩) (Kd.Q_types HO_399002.out BK456.out (by decide)) (fun _ hk => hk.2) (.bool t444)) (fun _ hk => hk.2) (.bool t445)) (fun _ hk => hk.2) (.slice Ao106 t446.length co106)) (fun _ hk => hk.2) (.slice Ao107 t449.length co107)) (fun _ hk => hk.2) (.int .i64 t452)) (fun _ hk => hk.2) (.int .i64 t453)) (fun _ hk => hk.2) (.int .i64 t454)) (fun _ h_ => h_.1))) hb); replace HO_399003 := am (Kd.Q_below (by (with_reducible repeat (first | apply Kd.Q_alloc | apply Kd.Q_drewN | apply Kd.Q_drew)); exact (Kd.Q_mono (Kd.Q_far (p := ⟨gb456, 6, none⟩) (Kd.Q_far (p := ⟨gb456, 5, none⟩) (Kd.Q_far (p := ⟨gb456, 4, none⟩) (Kd.Q_far (p := ⟨gb456, 3, none⟩) (Kd.Q_far (p := ⟨gb456, 2, none⟩) (Kd.Q_far (p := ⟨gb456, 1, none⟩) (Kd.Q_far (p := ⟨gb456, 0, none⟩) (Kd.Q_types HO_399003.out BK456.out (by decide)) (fun _ hk => hk.2) (.bool t444)) (fun _ hk => hk.2) (.bool t445)) (fun _ hk => hk.2) (.slice Ao106 t446.length co106)) (fun _ hk => hk.2) (.slice Ao107 t449.length co107)) (fun _ hk => hk.2) (.int .i64 t452)) (fun _ hk => hk.2) (.int .i64 t453)) (fun _ hk => hk.2) (.int .i64 t454)) (fun _ h_ => h_.1))) hb); replace HO_412002 := am (Kd.Q_below (by (with_reducible repeat (first | apply Kd.Q_alloc | apply Kd.Q_drewN | apply Kd.Q_drew)); exact (Kd.Q_mono (Kd.Q_far (p := ⟨gb456, 6, none⟩) (Kd.Q_far (p := ⟨gb456, 5, none⟩) (Kd.Q_far (p := ⟨gb456, 4, none⟩) (Kd.Q_far (p := ⟨gb456, 3, none⟩) (Kd.Q_far (p := ⟨gb456, 2, none⟩) (Kd.Q_far (p := ⟨gb456, 1, none⟩) (Kd.Q_far (p := ⟨gb456, 0, none⟩) (Kd.Q_types HO_412002.out BK456.out (by decide)) (fun _ hk => hk.2) (.bool t444)) (fun _ hk => hk.2) (.bool t445)) (fun _ hk => hk.2) (.slice Ao106 t446.length co106)) (fun _ hk => hk.2) (.slice Ao107 t449.length co107)) (fun _ hk => hk.2) (.int .i64 t452)) (fun _ hk => hk.2) (.int .i64 t453)) (fun _ hk => hk.2) (.int .i64 t454)) (fun _ h_ => h_.1))) hb); replace HO_412003 := am (Kd.Q_below (by (with_reducible repeat (first | apply Kd.Q_alloc | apply Kd.Q_drewN | apply Kd.Q_drew)); exact (Kd.Q_mono (Kd.Q_far (p := ⟨gb456, 6, none⟩) (Kd.Q_far (p := ⟨gb456, 5, none⟩) (Kd.Q_far (p := ⟨gb456, 4, none⟩) (Kd.Q_far (p := ⟨gb456, 3, none⟩) (Kd.Q_far (p := ⟨gb456, 2, none⟩) (Kd.Q_far (p := ⟨gb456, 1, none⟩) (Kd.Q_far (p := ⟨gb456, 0, none⟩) (Kd.Q_types HO_412003.out BK456.out (by decide)) (fun _ hk => hk.2) (.bool t444)) (fun _ hk => hk.2) (.bool t445)) (fun _ hk => hk.2) (.slice Ao106 t446.length co106)) (fun _ hk => hk.2) (.slice Ao107 t449.length co107)) (fun _ hk => hk.2) (.int .i64 t452)) (fun _ hk => hk.2) (.int .i64 t453)) (fun _ hk => hk.2) (.int .i64 t454)) (fun _ h_ => h_.1))) hb); replace HO437 := am (Kd.R_below (by (with_reducible repeat (first | apply Kd.R_alloc | apply Kd.R_drewN | apply Kd.R_drew)); exact (Kd.R_mono (Kd.R_far (p := ⟨gb456, 6, none⟩) (Kd.R_far (p := ⟨gb456, 5, none⟩) (Kd.R_far (p := ⟨gb456, 4, none⟩) (Kd.R_far (p := ⟨gb456, 3, none⟩) (Kd.R_far (p := ⟨gb456, 2, none⟩) (Kd.R_far (p := ⟨gb456, 1, none⟩) (Kd.R_far (p := ⟨gb456, 0, none⟩) (Kd.R_types HO437.out BK456.out (by decide)) (fun _ hk => hk.2) (.bool t444)) (fun _ hk => hk.2) (.bool t445)) (fun _ hk => hk.2) (.slice Ao106 t446.length co106)) (fun _ hk => hk.2) (.slice Ao107 t449.length co107)) (fun _ hk => hk.2) (.int .i64 t452)) (fun _ hk => hk.2) (.int .i64 t453)) (fun _ hk => hk.2) (.int .i64 t454)) (fun _ h_ => h_.1))) hb); replace HO440 := am (Kd.R_below (by (with_reducible repeat (first | apply Kd.R_alloc | apply Kd.R_drewN | apply Kd.R_drew)); exact (Kd.R_mono (Kd.R_far (p := ⟨gb456, 6, none⟩) (Kd.R_far (p := ⟨gb456, 5, none⟩) (Kd.R_far (p := ⟨gb456, 4, none⟩) (Kd.R_far (p := ⟨gb456, 3, none⟩) (Kd.R_far (p := ⟨gb456, 2, none⟩) (Kd.R_far (p := ⟨gb456, 1, none⟩) (Kd.R_far (p := ⟨gb456, 0, none⟩) (Kd.R_types HO440.out BK456.out (by decide)) (fun _ hk => hk.2) (.bool t444)) (fun _ hk => hk.2) (.bool t445)) (fun _ hk => hk.2) (.slice Ao106 t446.length co106)) (fun _ hk => hk.2) (.slice Ao107 t449.length co107)) (fun _ hk => hk.2) (.int .i64 t452)) (fun _ hk => hk.2) (.int .i64 t453)) (fun _ hk => hk.2) (.int .i64 t454)) (fun _ h_ => h_.1))) hb); replace HO448 := am (Kd.R_below (by (with_reducible repeat (first | apply Kd.R_alloc | apply Kd.R_drewN | apply Kd.R_drew)); exact (Kd.R_mono (Kd.R_far (p := ⟨gb456, 6, none⟩) (Kd.R_far (p := ⟨gb456, 5, none⟩) (Kd.R_far (p := ⟨gb456, 4, none⟩) (Kd.R_far (p := ⟨gb456, 3, none⟩) (Kd.R_far (p := ⟨gb456, 2, none⟩) (Kd.R_far (p := ⟨gb456, 1, none⟩) (Kd.R_far (p := ⟨gb456, 0, none⟩) (Kd.R_types HO448.out BK456.out (by decide)) (fun _ hk => hk.2) (.bool t444)) (fun _ hk => hk.2) (.bool t445)) (fun _ hk => hk.2) (.slice Ao106 t446.length co106)) (fun _ hk => hk.2) (.slice Ao107 t449.length co107)) (fun _ hk => hk.2) (.int .i64 t452)) (fun _ hk => hk.2) (.int .i64 t453)) (fun _ hk => hk.2) (.int .i64 t454)) (fun _ h_ => h_.1))) hb); replace HO451 := am (Kd.R_below (by (with_reducible repeat (first | apply Kd.R_alloc | apply Kd.R_drewN | apply Kd.R_drew)); exact (Kd.R_mono (Kd.R_far (p := ⟨gb456, 6, none⟩) (Kd.R_far (p := ⟨gb456, 5, none⟩) (Kd.R_far (p := ⟨gb456, 4, none⟩) (Kd.R_far (p := ⟨gb456, 3, none⟩) (Kd.R_far (p := ⟨gb456, 2, none⟩) (Kd.R_far (p := ⟨gb456, 1, none⟩) (Kd.R_far (p := ⟨gb456, 0, none⟩) (Kd.R_types HO451.out BK456.out (by decide)) (fun _ hk => hk.2) (.bool t444)) (fun _ hk => hk.2) (.bool t445)) (fun _ hk => hk.2) (.slice Ao106 t446.length co106)) (fun _ hk => hk.2) (.slice Ao107 t449.length co107)) (fun _ hk => hk.2) (.int .i64 t452)) (fun _ hk => hk.2) (.int .i64 t453)) (fun _ hk => hk.2) (.int .i64 t454)) (fun _ h_ => h_.1))) hb); replace BK361 := am (blk_below (g := gb361) (o := .cells #[.bool a0_0, .bool a0_1, .slice A0_2 l0_2.length c0_2, .slice A0_3 l0_3.length c0_3, .int .i64 a0_4, .int .i64 a0_5, .int .i64 a0_6] 24 (0, 0)) (by (with_reducible repeat (first | refine blk_drewN ?_ _ | refine blk_drew ?_ | refine blk_alloc ?_ _)); refine blk_far ?_ NB361_456.out _; (with_reducible repeat (first | refine blk_drewN ?_ _ | refine blk_drew ?_ | refine blk_alloc ?_ _)); refine blk_far ?_ NB361_456.out _; (with_reducible repeat (first | refine blk_drewN ?_ _ | refine blk_drew ?_ | refine blk_alloc ?_ _)); refine blk_far ?_ NB361_456.out _; (with_reducible repeat (first | refine blk_drewN ?_ _ | refine blk_drew ?_ | refine blk_alloc ?_ _)); refine blk_far ?_ NB361_456.out _; (with_reducible repeat (first | refine blk_drewN ?_ _ | refine blk_drew ?_ | refine blk_alloc ?_ _)); refine blk_far ?_ NB361_456.out _; (with_reducible repeat (first | refine blk_drewN ?_ _ | refine blk_drew ?_ | refine blk_alloc ?_ _)); refine blk_far ?_ NB361_456.out _; (with_reducible repeat (first | refine blk_drewN ?_ _ | refine blk_drew ?_ | refine blk_alloc ?_ _)); refine blk_far ?_ NB361_456.out _; exact pkK BK361.out) hb); replace BK386 := am (blk_below (g := gb386) (o := .cells #[.bool t374, .bool t375, .slice Ao23 t376.length co23, .slice Ao24 t379.length co24, .int .i64 t382, .int .i64 t383, .int .i64 t384] 27 (0, 0)) (by (with_reducible repeat (first | refine blk_drewN ?_ _ | refine blk_drew ?_ | refine blk_alloc ?_ _)); refine blk_far ?_ NB386_456.out _; (with_reducible repeat (first | refine blk_drewN ?_ _ | refine blk_drew ?_ | refine blk_alloc ?_ _)); refine blk_far ?_ NB386_456.out _; (with_reducible repeat (first | refine blk_drewN ?_ _ | refine blk_drew ?_ | refine blk_alloc ?_ _)); refine blk_far ?_ NB386_456.out _; (with_reducible repeat (first | refine blk_drewN ?_ _ | refine blk_drew ?_ | refine blk_alloc ?_ _)); refine blk_far ?_ NB386_456.out _; (with_reducible repeat (first | refine blk_drewN ?_ _ | refine blk_drew ?_ | refine blk_alloc ?_ _)); refine blk_far ?_ NB386_456.out _; (with_reducible repeat (first | refine blk_drewN ?_ _ | refine blk_drew ?_ | refine blk_alloc ?_ _)); refine blk_far ?_ NB386_456.out _; (with_reducible repeat (first | refine blk_drewN ?_ _ | refine blk_drew ?_ | refine blk_alloc ?_ _)); refine blk_far ?_ NB386_456.out _; exact pkK BK386.out) hb); replace BK398 := am (blk_below (g := gb398) (o := .cells #[.bool t387, .bool t388, .slice Ao31 t426.length co31, .slice Ao32 t427.length co32, .int .i64 t395, .int .i64 t396, .int .i64 t397] 27 (0, 0)) (by (with_reducible repeat (first | refine blk_drewN ?_ _ | refine blk_drew ?_ | refine blk_alloc ?_ _)); refine blk_far ?_ NB398_456.out _; (with_reducible repeat (first | refine blk_drewN ?_ _ | refine blk_drew ?_ | refine blk_alloc ?_ _)); refine blk_far ?_ NB398_456.out _; (with_reducible repeat (first | refine blk_drewN ?_ _ | refine blk_drew ?_ | refine blk_alloc ?_ _)); refine blk_far ?_ NB398_456.out _; (with_reducible repeat (first | refine blk_drewN ?_ _ | refine blk_drew ?_ | refine blk_alloc ?_ _)); refine blk_far ?_ NB398_456.out _; (with_reducible repeat (first | refine blk_drewN ?_ _ | refine blk_drew ?_ | refine blk_alloc ?_ _)); refine blk_far ?_ NB398_456.out _; (with_reducible repeat (first | refine blk_drewN ?_ _ | refine blk_drew ?_ | refine blk_alloc ?_ _)); refine blk_far ?_ NB398_456.out _; (with_reducible repeat (first | refine blk_drewN ?_ _ | refine blk_drew ?_ | refine blk_alloc ?_ _)); refine blk_far ?_ NB398_456.out _; exact pkK BK398.out) hb); replace BK411 := am (blk_below (g := gb411) (o := .cells #[.bool t399, .bool t400, .slice Ao39 t401.length co39, .slice Ao40 t404.length co40, .int .i64 t407, .int .i64 t408, .int .i64 t409] 27 (0, 0)) (by (with_reducible repeat (first | refine blk_drewN ?_ _ | refine blk_drew ?_ | refine blk_alloc ?_ _)); refine blk_far ?_ NB411_456.out _; (with_reducible repeat (first | refine blk_drewN ?_ _ | refine blk_drew ?_ | refine blk_alloc ?_ _)); refine blk_far ?_ NB411_456.out _; (with_reducible repeat (first | refine blk_drewN ?_ _ | refine blk_drew ?_ | refine blk_alloc ?_ _)); refine blk_far ?_ NB411_456.out _; (with_reducible repeat (first | refine blk_drewN ?_ _ | refine blk_drew ?_ | refine blk_alloc ?_ _)); refine blk_far ?_ NB411_456.out _; (with_reducible repeat (first | refine blk_drewN ?_ _ | refine blk_drew ?_ | refine blk_alloc ?_ _)); refine blk_far ?_ NB411_456.out _; (with_reducible repeat (first | refine blk_drewN ?_ _ | refine blk_drew ?_ | refine blk_alloc ?_ _)); refine blk_far ?_ NB411_456.out _; (with_reducible repeat (first | refine blk_drewN ?_ _ | refine blk_drew ?_ | refine blk_alloc ?_ _)); refine blk_far ?_ NB411_456.out _; exact pkK BK411.out) hb); replace BK456 := am (blk_below (g := gb456) (o := .cells #[.bool t444, .bool t445, .slice Ao106 t446.length co106, .slice Ao107 t449.length co107, .int .i64 t452, .int .i64 t453, .int .i64 t454] 27 (0, 0)) (by (with_reducible repeat (first | refine blk_drewN ?_ _ | refine blk_drew ?_ | refine blk_alloc ?_ _)); refine blk_put (cs := #[.bool t444, .bool t445, .slice Ao106 t446.length co106, .slice Ao107 t449.length co107, .int .i64 t452, .int .i64 t453, .int .i64 0]) ?_ 6 _ rfl; (with_reducible repeat (first | refine blk_drewN ?_ _ | refine blk_drew ?_ | refine blk_alloc ?_ _)); refine blk_put (cs := #[.bool t444, .bool t445, .slice Ao106 t446.length co106, .slice Ao107 t449.length co107, .int .i64 t452, .int .i64 0, .int .i64 0]) ?_ 5 _ rfl; (with_reducible repeat (first | refine blk_drewN ?_ _ | refine blk_drew ?_ | refine blk_alloc ?_ _)); refine blk_put (cs := #[.bool t444, .bool t445, .slice Ao106 t446.length co106, .slice Ao107 t449.length co107, .int .i64 0, .int .i64 0, .int .i64 0]) ?_ 4 _ rfl; (with_reducible repeat (first | refine blk_drewN ?_ _ | refine blk_drew ?_ | refine blk_alloc ?_ _)); refine blk_put (cs := #[.bool t444, .bool t445, .slice Ao106 t446.length co106, .slice none 0 0, .int .i64 0, .int .i64 0, .int .i64 0]) ?_ 3 _ rfl; (with_reducible repeat (first | refine blk_drewN ?_ _ | refine blk_drew ?_ | refine blk_alloc ?_ _)); refine blk_put (cs := #[.bool t444, .bool t445, .slice none 0 0, .slice none 0 0, .int .i64 0, .int .i64 0, .int .i64 0]) ?_ 2 _ rfl; (with_reducible repeat (first | refine blk_drewN ?_ _ | refine blk_drew ?_ | refine blk_alloc ?_ _)); refine blk_put (cs := #[.bool t444, .bool false, .slice none 0 0, .slice none 0 0, .int .i64 0, .int .i64 0, .int .i64 0]) ?_ 1 _ rfl; (with_reducible repeat (first | refine blk_drewN ?_ _ | refine blk_drew ?_ | refine blk_alloc ?_ _)); refine blk_put (cs := #[.bool false, .bool false, .slice none 0 0, .slice none 0 0, .int .i64 0, .int .i64 0, .int .i64 0]) ?_ 0 _ rfl; exact pkK BK456.out) hb); replace HB := am (below_step (pkW HB.out) hb); (try clear hb)))
             go_meet
             case rel => exact ⟨_, ((t455 != t385)), rfx, H', ⟨by have := HJ10.out; have := HJ55.out; first | omega | exact Nat.le_refl _⟩, ⟨by (try simp only [hl399002_55]); (try simp only [hl399003_55]); (with_reducible repeat (first | apply Kd.R_alloc | apply Kd.R_drewN | apply Kd.R_drew)); exact Kd.R_mono HO_387002.out (fun _ hk => ⟨hk.1.1.1.1.1, ⟨hk.1.1.1.1.2.1, ⟨hk.1.1.1.1.2.2.1, ⟨hk.1.1.1.1.2.2.2.1, ⟨hk.1.1.1.1.2.2.2.2, ⟨hk.1.2, hk.2⟩⟩⟩⟩⟩⟩)⟩, ⟨by (try simp only [hl399002_55]); (try simp only [hl399003_55]); (with_reducible repeat (first | apply Kd.R_alloc | apply Kd.R_drewN | apply Kd.R_drew)); exact Kd.R_mono HO_387003.out (fun _ hk => ⟨hk.1.1.1.1.1, ⟨hk.1.1.1.1.2.1, ⟨hk.1.1.1.1.2.2.1, ⟨hk.1.1.1.1.2.2.2.1, ⟨hk.1.1.1.1.2.2.2.2, ⟨hk.1.2, hk.2⟩⟩⟩⟩⟩⟩)⟩, ⟨by (try simp only [hl399002_55]); (try simp only [hl399003_55]); (with_reducible repeat (first | apply Kd.Q_alloc | apply Kd.Q_drewN | apply Kd.Q_drew)); exact Kd.Q_mono HO_399002.out (fun _ hk => ⟨hk.1.1.1.1.1, ⟨hk.1.1.1.1.2.1, ⟨hk.1.1.1.1.2.2.1, ⟨hk.1.1.1.1.2.2.2.1, ⟨hk.1.1.1.1.2.2.2.2, ⟨hk.1.2, hk.2⟩⟩⟩⟩⟩⟩)⟩, ⟨by (try simp only [hl399002_55]); (try simp only [hl399003_55]); (with_reducible repeat (first | apply Kd.Q_alloc | apply Kd.Q_drewN | apply Kd.Q_drew)); exact Kd.Q_mono HO_399003.out (fun _ hk => ⟨hk.1.1.1.1.1, ⟨hk.1.1.1.1.2.1, ⟨hk.1.1.1.1.2.2.1, ⟨hk.1.1.1.1.2.2.2.1, ⟨hk.1.1.1.1.2.2.2.2, ⟨hk.1.2, hk.2⟩⟩⟩⟩⟩⟩)⟩, ⟨by (try simp only [hl399002_55]); (try simp only [hl399003_55]); (with_reducible repeat (first | apply Kd.Q_alloc | apply Kd.Q_drewN | apply Kd.Q_drew)); exact Kd.Q_mono HO_412002.out (fun _ hk => ⟨hk.1.1.1.1.1, ⟨hk.1.1.1.1.2.1, ⟨hk.1.1.1.1.2.2.1, ⟨hk.1.1.1.1.2.2.2.1, ⟨hk.1.1.1.1.2.2.2.2, ⟨hk.1.2, hk.2⟩⟩⟩⟩⟩⟩)⟩, ⟨by (try simp only [hl399002_55]); (try simp only [hl399003_55]); (with_reducible repeat (first | apply Kd.Q_alloc | apply Kd.Q_drewN | apply Kd.Q_drew)); exact Kd.Q_mono HO_412003.out (fun _ hk => ⟨hk.1.1.1.1.1, ⟨hk.1.1.1.1.2.1, ⟨hk.1.1.1.1.2.2.1, ⟨hk.1.1.1.1.2.2.2.1, ⟨hk.1.1.1.1.2.2.2.2, ⟨hk.1.2, hk.2⟩⟩⟩⟩⟩⟩)⟩, ⟨by (try simp only [hl399002_55]); (try simp only [hl399003_55]); (with_reducible repeat (first | apply Kd.R_alloc | apply Kd.R_drewN | apply Kd.R_drew)); exact Kd.R_mono HO448.out (fun _ hk => ⟨hk.1.1.1.1.1.1.1.2, ⟨hk.1.1.1.1.1.1.2, ⟨hk.1.1.1.1.1.2, ⟨hk.1.1.1.1.2, ⟨hk.1.1.1.2, ⟨hk.1.1.2, hk.1.1.1.1.1.1.1.1⟩⟩⟩⟩⟩⟩)⟩, ⟨by (try simp only [hl399002_55]); (try simp only [hl399003_55]); (with_reducible repeat (first | apply Kd.R_alloc | apply Kd.R_drewN | apply Kd.R_drew)); exact Kd.R_mono HO451.out (fun _ hk => ⟨hk.1.1.1.1.1.1.1.2, ⟨hk.1.1.1.1.1.1.2, ⟨hk.1.1.1.1.1.2, ⟨hk.1.1.1.1.2, ⟨hk.1.1.1.2, ⟨hk.1.1.2, hk.1.1.1.1.1.1.1.1⟩⟩⟩⟩⟩⟩)⟩, ⟨by (try simp only [hl399002_55]); (try simp only [hl399003_55]); exact pkK BK361.out⟩, ⟨by (try simp only [hl399002_55]); (try simp only [hl399003_55]); exact pkK BK386.out⟩, ⟨by (try simp only [hl399002_55]); (try simp only [hl399003_55]); exact pkK BK398.out⟩, ⟨by (try simp only [hl399002_55]); (try simp only [hl399003_55]); exact pkK BK411.out⟩, ⟨by (try simp only [hl399002_55]); (try simp only [hl399003_55]); exact pkK BK456.out⟩, ⟨pkW HB.out⟩⟩
            ·replace c109 := Bool.eq_false_iff.mpr c109
             subst c109
             replace H : (laws_FnExactReset.j2 kj55 t429 true t399 t400 t430 t431 t407 t408 t409) = some r := by rw [if_neg (show ¬ (false = true) by decide)] at H; exact H
             cases kj55 with
             | zero => exact absurd H (by simp [laws_FnExactReset.j2])
             | succ k_ => (simp only [laws_FnExactReset.j2, if_pos] at H; exact absurd (Option.some.inj H) (by rw [HQ_.out]; simp))
           case rest =>
            clear HC85
            try clear c1
            try clear c2
            try clear p2
            try clear c3
            try clear c3b0
            try clear c4
            try clear c5
            try clear c6
            try clear c7
            try clear c8
            try clear c9
            try clear c10
            try clear c11
            try clear c14
            try clear c16
            try clear c18
            try clear c21
            try clear c24
            try clear c25
            try clear c26
            try clear c27
            try clear c28
            try clear c29
            try clear c35
            try clear c36
            try clear c37
            try clear c42
            try clear c43
            try clear c44
            try clear c45
            try clear c47
            try clear c48
            try clear c51
            try clear c54
            try clear c62
            try clear c63
            try clear c64
            try clear c67
            try clear c67b0
            try clear c69
            try clear c70
            try clear c71
            try clear c72
            try clear c74
            try clear c75
            try clear c78
            try clear c81
            try clear c81b0
            try clear c82
            try clear c82b0
            try clear c82b1
            try clear c86
            try clear c87
            try clear c88
            try clear c93
            try clear c94
            try clear c101
            try clear c102
            try clear c103
            try clear c104
            try clear c109
            try clear c110
            try clear c111
            try clear c112
            try clear c113
            try clear c115
            try clear c116
            try clear c117
            try clear hcz105_0
            try clear hcz105_1
            try clear hcz105_2
            try clear hcz105_3
            try clear hcz105_4
            try clear hcz105_5
            try clear hcz105_6
            try clear hcz114_0
            try clear hcz114_1
            try clear hcz114_2
            try clear hcz114_3
            try clear hcz114_4
            try clear hcz114_5
            try clear hcz114_6
            try clear hcz118_0
            try clear hcz118_1
            try clear hcz118_2
            try clear hcz118_3
            try clear hcz118_4
            try clear hcz118_5
            try clear hcz118_6
            try clear hcz13_0
            try clear hcz13_1
            try clear hcz13_2
            try clear hcz13_3
            try clear hcz13_4
            try clear hcz13_5
            try clear hcz13_6
            try clear hcz15_0
            try clear hcz15_1
            try clear hcz15_2
            try clear hcz15_3
            try clear hcz15_4
            try clear hcz15_5
            try clear hcz15_6
            try clear hcz22_0
            try clear hcz22_1
            try clear hcz22_2
            try clear hcz22_3
            try clear hcz22_4
            try clear hcz22_5
            try clear hcz22_6
            try clear hcz25_0
            try clear hcz25_1
            try clear hcz25_2
            try clear hcz25_3
            try clear hcz25_4
            try clear hcz25_5
            try clear hcz25_6
            try clear hcz30_0
            try clear hcz30_1
            try clear hcz30_2
            try clear hcz30_3
            try clear hcz30_4
            try clear hcz30_5
            try clear hcz30_6
            try clear hcz38_0
            try clear hcz38_1
            try clear hcz38_2
            try clear hcz38_3
            try clear hcz38_4
            try clear hcz38_5
            try clear hcz38_6
            try clear hcz46_0
            try clear hcz46_1
            try clear hcz46_2
            try clear hcz46_3
            try clear hcz46_4
            try clear hcz46_5
            try clear hcz46_6
            try clear hcz49_0
            try clear hcz49_1
            try clear hcz49_2
            try clear hcz49_3
            try clear hcz49_4
            try clear hcz49_5
            try clear hcz49_6
            try clear hcz5_0
            try clear hcz5_1
            try clear hcz5_2
            try clear hcz5_3
            try clear hcz5_4
            try clear hcz5_5
            try clear hcz5_6
            try clear hcz65_0
            try clear hcz65_1
            try clear hcz65_2
            try clear hcz65_3
            try clear hcz65_4
            try clear hcz65_5
            try clear hcz65_6
            try clear hcz73_0
            try clear hcz73_1
            try clear hcz73_2
            try clear hcz73_3
            try clear hcz73_4
            try clear hcz73_5
            try clear hcz73_6
            try clear hcz76_0
            try clear hcz76_1
            try clear hcz76_2
            try clear hcz76_3
            try clear hcz76_4
            try clear hcz76_5
            try clear hcz76_6
            try clear hcz89_0
            try clear hcz89_1
            try clear hcz89_2
            try clear hcz89_3
            try clear hcz89_4
            try clear hcz89_5
            try clear hcz89_6
            try clear hcz91_0
            try clear hcz91_1
            try clear hcz91_2
            try clear hcz91_3
            try clear hcz91_4
            try clear hcz91_5
            try clear hcz91_6
            try clear hcz95_0
            try clear hcz95_1
            try clear hcz95_2
            try clear hcz95_3
            try clear hcz95_4
            try clear hcz95_5
            try clear hcz95_6
            try clear hfz105_0
            try clear hfz105_1
            try clear hfz105_2
            try clear hfz105_3
            try clear hfz105_4
            try clear hfz105_5
            try clear hfz105_6
            try clear hfz114_0
            try clear hfz114_1
            try clear hfz114_2
            try clear hfz114_3
            try clear hfz114_4
            try clear hfz114_5
            try clear hfz114_6
            try clear hfz118_0
            try clear hfz118_1
            try clear hfz118_2
            try clear hfz118_3
            try clear hfz118_4
            try clear hfz118_5
            try clear hfz118_6
            try clear hfz13_0
            try clear hfz13_1
            try clear hfz13_2
            try clear hfz13_3
            try clear hfz13_4
            try clear hfz13_5
            try clear hfz13_6
            try clear hfz15_0
            try clear hfz15_1
            try clear hfz15_2
            try clear hfz15_3
            try clear hfz15_4
            try clear hfz15_5
            try clear hfz15_6
            try clear hfz22_0
            try clear hfz22_1
            try clear hfz22_2
            try clear hfz22_3
            try clear hfz22_4
            try clear hfz22_5
            try clear hfz22_6
            try clear hfz25_0
            try clear hfz25_1
            try clear hfz25_2
            try clear hfz25_3
            try clear hfz25_4
            try clear hfz25_5
            try clear hfz25_6
            try clear hfz30_0
            try clear hfz30_1
            try clear hfz30_2
            try clear hfz30_3
            try clear hfz30_4
            try clear hfz30_5
            try clear hfz30_6
            try clear hfz38_0
            try clear hfz38_1
            try clear hfz38_2
            try clear hfz38_3
            try clear hfz38_4
            try clear hfz38_5
            try clear hfz38_6
            try clear hfz46_0
            try clear hfz46_1
            try clear hfz46_2
            try clear hfz46_3
            try clear hfz46_4
            try clear hfz46_5
            try clear hfz46_6
            try clear hfz49_0
            try clear hfz49_1
            try clear hfz49_2
            try clear hfz49_3
            try clear hfz49_4
            try clear hfz49_5
            try clear hfz49_6
            try clear hfz5_0
            try clear hfz5_1
            try clear hfz5_2
            try clear hfz5_3
            try clear hfz5_4
            try clear hfz5_5
            try clear hfz5_6
            try clear hfz65_0
            try clear hfz65_1
            try clear hfz65_2
            try clear hfz65_3
            try clear hfz65_4
            try clear hfz65_5
            try clear hfz65_6
            try clear hfz73_0
            try clear hfz73_1
            try clear hfz73_2
            try clear hfz73_3
            try clear hfz73_4
            try clear hfz73_5
            try clear hfz73_6
            try clear hfz76_0
            try clear hfz76_1
            try clear hfz76_2
            try clear hfz76_3
            try clear hfz76_4
            try clear hfz76_5
            try clear hfz76_6
            try clear hfz89_0
            try clear hfz89_1
            try clear hfz89_2
            try clear hfz89_3
            try clear hfz89_4
            try clear hfz89_5
            try clear hfz89_6
            try clear hfz91_0
            try clear hfz91_1
            try clear hfz91_2
            try clear hfz91_3
            try clear hfz91_4
            try clear hfz91_5
            try clear hfz91_6
            try clear hfz95_0
            try clear hfz95_1
            try clear hfz95_2
            try clear hfz95_3
            try clear hfz95_4
            try clear hfz95_5
            try clear hfz95_6
            try clear p2
            obtain ⟨kq, x87_84, rfl, HA, HJ84, HO_387002, HO_387003, HO_399002, HO_399003, HO_412002, HO_412003, HO_457002, HO_457003, BK361, BK386, BK398, BK411, BK456, HB⟩ := hcut
            have hl412002_84 := (Kd.Q_reads' HO_412002.out).1
            rw [hl412002_84] at HO_412002
            (try simp only [hl412002_84])
            (try simp only [hl412002_84] at BK361)
            (try simp only [hl412002_84] at BK386)
            (try simp only [hl412002_84] at BK398)
            (try simp only [hl412002_84] at BK411)
            (try simp only [hl412002_84] at BK456)
            (try simp only [hl412002_84] at HO_387002)
            (try simp only [hl412002_84] at HO_387003)
            (try simp only [hl412002_84] at HO_399002)
            (try simp only [hl412002_84] at HO_399003)
            (try simp only [hl412002_84] at HO_412003)
            (try simp only [hl412002_84] at HO_457002)
            (try simp only [hl412002_84] at HO_457003)
            have hl412003_84 := (Kd.Q_reads' HO_412003.out).1
            rw [hl412003_84] at HO_412003
            (try simp only [hl412003_84])
            (try simp only [hl412003_84] at BK361)
            (try simp only [hl412003_84] at BK386)
            (try simp only [hl412003_84] at BK398)
            (try simp only [hl412003_84] at BK411)
            (try simp only [hl412003_84] at BK456)
            (try simp only [hl412003_84] at HO_387002)
            (try simp only [hl412003_84] at HO_387003)
            (try simp only [hl412003_84] at HO_399002)
            (try simp only [hl412003_84] at HO_399003)
            (try simp only [hl412003_84] at HO_412002)
            (try simp only [hl412003_84] at HO_457002)
            (try simp only [hl412003_84] at HO_457003)
            cases kq with
            | zero => exact absurd HA.out (by simp [laws_FnExactReset.j2])
            | succ kj84 =>
             have H := HA.out
             clear HA
             simp only [laws_FnExactReset.j2] at H
             by_cases c120 : x87_84 = true
             ·subst c120
              replace H : (some false) = some r := by rw [if_pos rfl] at H; exact H
              exact absurd (Option.some.inj H) (by rw [HQ_.out]; simp)
             ·replace c120 := Bool.eq_false_iff.mpr c120
              subst c120
              replace H : ((laws_heldEvent.f kj84 t399 t400 t430 t431 t407 t408 t409 1).bind fun t458 => (if t458 < 0 then (some false) else (if t458 = t429 then (some true) else (some false)))) = some r := by rw [if_neg (show ¬ (false = true) by decide)] at H; exact H
              replace H := Option.bind_eq_some_iff.mp H
              obtain ⟨t458, A1210, H⟩ := H
              replace H : (if t458 < 0 then (some false) else (if t458 = t429 then (some true) else (some false))) = some r := H
              have A121 := am A1210
              clear A1210
              by_cases c122 : t458 < 0
              ·rw [if_pos c122] at H
               have c122b0 : decide (t458 < 0) = true := decide_eq_true c122
               clear c122
               exact absurd (Option.some.inj H) (by rw [HQ_.out]; simp)
              ·rw [if_neg c122] at H
               have c122b0 : decide (t458 < 0) = false := decide_eq_false c122
               clear c122
               by_cases c123 : t458 = t429
               ·rw [if_pos c123] at H
                have c123b0 : (t458 == t429) = true := beq_iff_eq.mpr c123
                have c123b1 : (t458 != t429) = false := bne_eq_false_iff_eq.mpr c123
                clear c123
                obtain rfl := Option.some.inj H
                have hnb124 := NB411_361.out
                have hnc124 := NB361_411.out
                have hnb125 := NB411_386.out
                have hnc125 := NB386_411.out
                have hnb126 := NB411_398.out
                have hnc126 := NB398_411.out
                have hnb127 := NB411_456.out
                have hnc127 := NB456_411.out
                obtain ⟨hcz128_0, hcz128_1, hcz128_2, hcz128_3, hcz128_4, hcz128_5, hcz128_6, hfz128_0, hfz128_1, hfz128_2, hfz128_3, hfz128_4, hfz128_5, hfz128_6⟩ := bk7 BK411.out
                go_wp2_with (first | ((with_reducible refine gate_callee (f := 27) rfl ?_); refine goesL_ (some 90) rfl rfl Try.func27 (by kernel_rfl) rfl #[.agg #[.bool t399, .bool t400, .slice Ao39 t430.length co39, .slice Ao40 t431.length co40, .int .i64 t407, .int .i64 t408, .int .i64 t409], .int .i64 1] rfl mpx ?_; (with_reducible refine (laws_heldEvent.calls kj84 t399 t400 _ _ t430 _ _ t431 t407 t408 t409 1 t458 _ ?side1 ?side2 ?side3 ?side4 A121.out).mono ?_); (case side1 => repeat (first | exact (Kd.Q_reads' HO_412002.out).2.2 | (with_reducible refine Kd.C_alloc ?_ _) | (with_reducible refine Kd.C_drewN ?_ _) | (with_reducible refine Kd.C_drew ?_))); (case side2 => exact (Kd.Q_reads' HO_412002.out).2.1); (case side3 => repeat (first | exact (Kd.Q_reads' HO_412003.out).2.2 | (with_reducible refine Kd.C_alloc ?_ _) | (with_reducible refine Kd.C_drewN ?_ _) | (with_reducible refine Kd.C_drew ?_))); (case side4 => exact (Kd.Q_reads' HO_412003.out).2.1); rintro e w129 ⟨rfl, hb⟩; refine ⟨_, rfl, ?_⟩; replace HO_387002 := am (Kd.R_below (pkR HO_387002.out) hb); replace HO_387003 := am (Kd.R_below (pkR HO_387003.out) hb); replace HO_399002 := am (Kd.Q_below (pkQ HO_399002.out) hb); replace HO_399003 := am (Kd.Q_below (pkQ HO_399003.out) hb); replace HO_412002 := am (Kd.Q_below (pkQ HO_412002.out) hb); replace HO_412003 := am (Kd.Q_below (pkQ HO_412003.out) hb); replace HO_457002 := am (Kd.R_below (pkR HO_457002.out) hb); replace HO_457003 := am (Kd.R_below (pkR HO_457003.out) hb); replace BK361 := am (blk_below (pkK BK361.out) hb); replace BK386 := am (blk_below (pkK BK386.out) hb); replace BK398 := am (blk_below (pkK BK398.out) hb); replace BK411 := am (blk_below (pkK BK411.out) hb); replace BK456 := am (blk_below (pkK BK456.out) hb); replace HB := am (below_step (pkW HB.out) hb); (try clear hb)))
                go_ret
                exact ⟨rfe, pkW HB.out⟩
               ·rw [if_neg c123] at H
                have c123b0 : (t458 == t429) = false := beq_eq_false_iff_ne.mpr c123
                have c123b1 : (t458 != t429) = true := bne_iff_ne.mpr c123
                exact absurd (Option.some.inj H) (by rw [HQ_.out]; simp)
          ·rw [if_neg c82] at H
           have c82b0 : (t432 == t429) = false := beq_eq_false_iff_ne.mpr c82
           have c82b1 : (t432 != t429) = true := bne_iff_ne.mpr c82
           exact absurd (Option.some.inj H) (by rw [HQ_.out]; simp)
     ·replace c54 := Bool.eq_false_iff.mpr c54
      subst c54
      replace H : (some false) = some r := by rw [if_neg (show ¬ (false = true) by decide)] at H; exact H
      exact absurd (Option.some.inj H) (by rw [HQ_.out]; simp)
end Go.Proofs.Ytdagpmnadapbjaa.Z
