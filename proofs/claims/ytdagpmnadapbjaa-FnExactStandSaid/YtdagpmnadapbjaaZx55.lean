/- The Go functions laws_FnExactStand as Lean functions, each with a proof that its code comes to just these answers; conditions: those of each theorem. -/
import Derived.Test.YtdagpmnadapbjaaZx0
import Derived.Test.YtdagpmnadapbjaaZx1
import Derived.Test.YtdagpmnadapbjaaZx6
import Derived.Test.YtdagpmnadapbjaaZx13
import Derived.Test.YtdagpmnadapbjaaZx24
import Derived.Test.YtdagpmnadapbjaaZx25
import Derived.Test.YtdagpmnadapbjaaZx26
import Derived.Test.YtdagpmnadapbjaaZx27
namespace Go.Proofs.Ytdagpmnadapbjaa.Z
open Go.RowKit Go.Proofs.YtdagpmnadapbjaaW.PrintWords Go.Proofs.YtdagpmnadapbjaaW.PrintLast Go.Proofs.YtdagpmnadapbjaaW.PrintMore
attribute [local go_sem] max2_int min2_int max_two min_two max_three min_three max_four min_four   -- for this text's walks alone
set_option linter.unusedVariables false
set_option linter.unusedSimpArgs false
mutual
def laws_FnExactStand.j0 : Nat → Int → Int → Int → Bool → Bool → Bool → List Int → List Int → Int → Int → Int → Bool → Bool → List Int → List Int → Int → Int → Int → Bool → Bool → List Int → List Int → Int → Int → Int → Bool → Bool → List Int → List Int → Int → Int → Int → Option (Bool)
 | 0, _, _, _, _, _, _, _, _, _, _, _, _, _, _, _, _, _, _, _, _, _, _, _, _, _, _, _, _, _, _, _, _ => none
 | k + 1, x1, x7, x10, x44, x502000, x502001, x502002, x502003, x502004, x502005, x502006, x527000, x527001, x527002, x527003, x527004, x527005, x527006, x539000, x539001, x539002, x539003, x539004, x539005, x539006, x552000, x552001, x552002, x552003, x552004, x552005, x552006 => if x44 = true then (some false) else ((laws_toEvent.f k x502000 x502001 x502002 x502003 x502004 x502005 x502006).bind fun bt553 => ((laws_eqEvent.f k x539000 x539001 x539002 x539003 x539004 x539005 x539006 bt553.1 bt553.2.1 bt553.2.2.1 bt553.2.2.2.1 bt553.2.2.2.2.1 bt553.2.2.2.2.2.1 bt553.2.2.2.2.2.2).bind fun t564 => (if t564 = true then ((laws_markEvent.f k x539000 x539001 x539002 x539003 x539004 x539005 x539006 1).bind fun bt565 => (if bt565.1 < 0 then (laws_FnExactStand.j1 k x1 x7 true x502000 x502001 x502002 x502003 x502004 x502005 x502006 x527000 x527001 x527002 x527003 x527004 x527005 x527006 x552000 x552001 x552002 x552003 x552004 x552005 x552006) else ((laws_eqEvent.f k x552000 x552001 x552002 x552003 x552004 x552005 x552006 x527000 x527001 x527002 x527003 x527004 x527005 x527006).bind fun t568 => (if t568 = true then (laws_FnExactStand.j1 k x1 x7 (x10 != x7) x502000 x502001 x502002 x502003 x502004 x502005 x502006 x527000 x527001 x527002 x527003 x527004 x527005 x527006 x552000 x552001 x552002 x552003 x552004 x552005 x552006) else (laws_FnExactStand.j1 k x1 x7 true x502000 x502001 x502002 x502003 x502004 x502005 x502006 x527000 x527001 x527002 x527003 x527004 x527005 x527006 x552000 x552001 x552002 x552003 x552004 x552005 x552006))))) else (some false))))
def laws_FnExactStand.j1 : Nat → Int → Int → Bool → Bool → Bool → List Int → List Int → Int → Int → Int → Bool → Bool → List Int → List Int → Int → Int → Int → Bool → Bool → List Int → List Int → Int → Int → Int → Option (Bool)
 | 0, _, _, _, _, _, _, _, _, _, _, _, _, _, _, _, _, _, _, _, _, _, _, _, _ => none
 | k + 1, x1, x7, x65, x502000, x502001, x502002, x502003, x502004, x502005, x502006, x527000, x527001, x527002, x527003, x527004, x527005, x527006, x552000, x552001, x552002, x552003, x552004, x552005, x552006 => if x65 = true then (some false) else ((laws_markEvent.f k x552000 x552001 x552002 x552003 x552004 x552005 x552006 1).bind fun bt569 => ((laws_heldEvent.f k x552000 x552001 bt569.2.1 bt569.2.2 x552004 x552005 x552006 1).bind fun t572 => (if t572 < 0 then (some false) else (if t572 = bt569.1 then ((laws_toEvent.f k x502000 x502001 x502002 x502003 x502004 x502005 x502006).bind fun bt573 => ((impl_Stand.f k bt573.1 bt573.2.1 bt573.2.2.1 bt573.2.2.2.1 bt573.2.2.2.2.1 bt573.2.2.2.2.2.1 bt573.2.2.2.2.2.2 x1).bind fun bt584 => ((laws_eqEvent.f k bt584.1 bt584.2.1 bt584.2.2.1 bt584.2.2.2.1 bt584.2.2.2.2.1 bt584.2.2.2.2.2.1 bt584.2.2.2.2.2.2.1 x527000 x527001 x527002 x527003 x527004 x527005 x527006).bind fun t597 => (if t597 = true then (laws_FnExactStand.j2 k bt569.1 (bt584.2.2.2.2.2.2.2 != x7) x552000 x552001 bt569.2.1 bt569.2.2 x552004 x552005 x552006) else (laws_FnExactStand.j2 k bt569.1 true x552000 x552001 bt569.2.1 bt569.2.2 x552004 x552005 x552006))))) else (some false)))))
def laws_FnExactStand.j2 : Nat → Int → Bool → Bool → Bool → List Int → List Int → Int → Int → Int → Option (Bool)
 | 0, _, _, _, _, _, _, _, _, _ => none
 | k + 1, x12, x92, x552000, x552001, x552002, x552003, x552004, x552005, x552006 => if x92 = true then (some false) else ((laws_heldEvent.f k x552000 x552001 x552002 x552003 x552004 x552005 x552006 1).bind fun t598 => (if t598 < 0 then (some false) else (if t598 = x12 then (some true) else (some false))))
end
def laws_FnExactStand.f (k : Nat) (a0_0 : Bool) (a0_1 : Bool) (l0_2 : List Int) (l0_3 : List Int) (a0_4 : Int) (a0_5 : Int) (a0_6 : Int) (a1 : Int) : Option (Bool) := (laws_szEvent.f a0_0 a0_1 l0_2 l0_3 a0_4 a0_5 a0_6 1048576).bind fun t502 => (if t502 < 0 then (some true) else ((laws_toEvent.f k a0_0 a0_1 l0_2 l0_3 a0_4 a0_5 a0_6).bind fun bt503 => ((spec_Stand.f k bt503.1 bt503.2.1 bt503.2.2.1 bt503.2.2.2.1 bt503.2.2.2.2.1 bt503.2.2.2.2.2.1 bt503.2.2.2.2.2.2 a1).bind fun bt514 => ((laws_toEvent.f k a0_0 a0_1 l0_2 l0_3 a0_4 a0_5 a0_6).bind fun bt527 => ((impl_Stand.f k bt527.1 bt527.2.1 bt527.2.2.1 bt527.2.2.2.1 bt527.2.2.2.2.1 bt527.2.2.2.2.2.1 bt527.2.2.2.2.2.2 a1).bind fun bt539 => ((laws_eqEvent.f k bt539.1 bt539.2.1 bt539.2.2.1 bt539.2.2.2.1 bt539.2.2.2.2.1 bt539.2.2.2.2.2.1 bt539.2.2.2.2.2.2.1 bt514.1 bt514.2.1 bt514.2.2.1 bt514.2.2.2.1 bt514.2.2.2.2.1 bt514.2.2.2.2.2.1 bt514.2.2.2.2.2.2.1).bind fun t552 => (if t552 = true then (laws_FnExactStand.j0 k a1 bt514.2.2.2.2.2.2.2 bt539.2.2.2.2.2.2.2 (bt539.2.2.2.2.2.2.2 != bt514.2.2.2.2.2.2.2) a0_0 a0_1 l0_2 l0_3 a0_4 a0_5 a0_6 bt514.1 bt514.2.1 bt514.2.2.1 bt514.2.2.2.1 bt514.2.2.2.2.1 bt514.2.2.2.2.2.1 bt514.2.2.2.2.2.2.1 bt527.1 bt527.2.1 bt527.2.2.1 bt527.2.2.2.1 bt527.2.2.2.2.1 bt527.2.2.2.2.2.1 bt527.2.2.2.2.2.2 bt539.1 bt539.2.1 bt539.2.2.1 bt539.2.2.2.1 bt539.2.2.2.2.1 bt539.2.2.2.2.2.1 bt539.2.2.2.2.2.2.1) else (laws_FnExactStand.j0 k a1 bt514.2.2.2.2.2.2.2 bt539.2.2.2.2.2.2.2 true a0_0 a0_1 l0_2 l0_3 a0_4 a0_5 a0_6 bt514.1 bt514.2.1 bt514.2.2.1 bt514.2.2.2.1 bt514.2.2.2.2.1 bt514.2.2.2.2.2.1 bt514.2.2.2.2.2.2.1 bt527.1 bt527.2.1 bt527.2.2.1 bt527.2.2.2.1 bt527.2.2.2.2.1 bt527.2.2.2.2.2.1 bt527.2.2.2.2.2.2 bt539.1 bt539.2.1 bt539.2.2.1 bt539.2.2.2.1 bt539.2.2.2.2.1 bt539.2.2.2.2.2.1 bt539.2.2.2.2.2.2.1))))))))
theorem laws_FnExactStand.mono_l : ∀ k, (∀ y0 y1 y2 y3 y4 y5 y6 y7 y8 y9 y10 y11 y12 y13 y14 y15 y16 y17 y18 y19 y20 y21 y22 y23 y24 y25 y26 y27 y28 y29 y30 y31, LeO (laws_FnExactStand.j0 k y0 y1 y2 y3 y4 y5 y6 y7 y8 y9 y10 y11 y12 y13 y14 y15 y16 y17 y18 y19 y20 y21 y22 y23 y24 y25 y26 y27 y28 y29 y30 y31) (laws_FnExactStand.j0 (k + 1) y0 y1 y2 y3 y4 y5 y6 y7 y8 y9 y10 y11 y12 y13 y14 y15 y16 y17 y18 y19 y20 y21 y22 y23 y24 y25 y26 y27 y28 y29 y30 y31)) ∧ (∀ y0 y1 y2 y3 y4 y5 y6 y7 y8 y9 y10 y11 y12 y13 y14 y15 y16 y17 y18 y19 y20 y21 y22 y23, LeO (laws_FnExactStand.j1 k y0 y1 y2 y3 y4 y5 y6 y7 y8 y9 y10 y11 y12 y13 y14 y15 y16 y17 y18 y19 y20 y21 y22 y23) (laws_FnExactStand.j1 (k + 1) y0 y1 y2 y3 y4 y5 y6 y7 y8 y9 y10 y11 y12 y13 y14 y15 y16 y17 y18 y19 y20 y21 y22 y23)) ∧ (∀ y0 y1 y2 y3 y4 y5 y6 y7 y8, LeO (laws_FnExactStand.j2 k y0 y1 y2 y3 y4 y5 y6 y7 y8) (laws_FnExactStand.j2 (k + 1) y0 y1 y2 y3 y4 y5 y6 y7 y8))
 | 0 => ⟨fun _ _ _ _ _ _ _ _ _ _ _ _ _ _ _ _ _ _ _ _ _ _ _ _ _ _ _ _ _ _ _ _ r h => by simp [laws_FnExactStand.j0] at h, fun _ _ _ _ _ _ _ _ _ _ _ _ _ _ _ _ _ _ _ _ _ _ _ _ r h => by simp [laws_FnExactStand.j1] at h, fun _ _ _ _ _ _ _ _ _ r h => by simp [laws_FnExactStand.j2] at h⟩
 | k + 1 => by
  obtain ⟨ih0, ih1, ih2⟩ := laws_FnExactStand.mono_l k
  refine ⟨?_, ?_, ?_⟩
  ·intro y0 y1 y2 y3 y4 y5 y6 y7 y8 y9 y10 y11 y12 y13 y14 y15 y16 y17 y18 y19 y20 y21 y22 y23 y24 y25 y26 y27 y28 y29 y30 y31
   unfold laws_FnExactStand.j0
   repeat' first
   | (with_reducible exact ih0 _ _ _ _ _ _ _ _ _ _ _ _ _ _ _ _ _ _ _ _ _ _ _ _ _ _ _ _ _ _ _ _)
   | (with_reducible exact ih1 _ _ _ _ _ _ _ _ _ _ _ _ _ _ _ _ _ _ _ _ _ _ _ _)
   | (with_reducible exact ih2 _ _ _ _ _ _ _ _ _)
   | (with_reducible exact impl_Stand.mono _ _ _ _ _ _ _ _ _)
   | (with_reducible exact laws_eqEvent.mono _ _ _ _ _ _ _ _ _ _ _ _ _ _ _)
   | (with_reducible exact laws_heldEvent.mono _ _ _ _ _ _ _ _ _)
   | (with_reducible exact laws_markEvent.mono _ _ _ _ _ _ _ _ _)
   | (with_reducible exact laws_toEvent.mono _ _ _ _ _ _ _ _)
   | (with_reducible exact spec_Stand.mono _ _ _ _ _ _ _ _ _)
   | (with_reducible exact LeO.refl _)
   | (with_reducible exact LeO.none _)
   | (with_reducible refine LeO.ite ?_ ?_)
   | (with_reducible refine LeO.bind ?_ (fun _ => ?_))
  ·intro y0 y1 y2 y3 y4 y5 y6 y7 y8 y9 y10 y11 y12 y13 y14 y15 y16 y17 y18 y19 y20 y21 y22 y23
   unfold laws_FnExactStand.j1
   repeat' first
   | (with_reducible exact ih0 _ _ _ _ _ _ _ _ _ _ _ _ _ _ _ _ _ _ _ _ _ _ _ _ _ _ _ _ _ _ _ _)
   | (with_reducible exact ih1 _ _ _ _ _ _ _ _ _ _ _ _ _ _ _ _ _ _ _ _ _ _ _ _)
   | (with_reducible exact ih2 _ _ _ _ _ _ _ _ _)
   | (with_reducible exact impl_Stand.mono _ _ _ _ _ _ _ _ _)
   | (with_reducible exact laws_eqEvent.mono _ _ _ _ _ _ _ _ _ _ _ _ _ _ _)
   | (with_reducible exact laws_heldEvent.mono _ _ _ _ _ _ _ _ _)
   | (with_reducible exact laws_markEvent.mono _ _ _ _ _ _ _ _ _)
   | (with_reducible exact laws_toEvent.mono _ _ _ _ _ _ _ _)
   | (with_reducible exact spec_Stand.mono _ _ _ _ _ _ _ _ _)
   | (with_reducible exact LeO.refl _)
   | (with_reducible exact LeO.none _)
   | (with_reducible refine LeO.ite ?_ ?_)
   | (with_reducible refine LeO.bind ?_ (fun _ => ?_))
  ·intro y0 y1 y2 y3 y4 y5 y6 y7 y8
   unfold laws_FnExactStand.j2
   repeat' first
   | (with_reducible exact ih0 _ _ _ _ _ _ _ _ _ _ _ _ _ _ _ _ _ _ _ _ _ _ _ _ _ _ _ _ _ _ _ _)
   | (with_reducible exact ih1 _ _ _ _ _ _ _ _ _ _ _ _ _ _ _ _ _ _ _ _ _ _ _ _)
   | (with_reducible exact ih2 _ _ _ _ _ _ _ _ _)
   | (with_reducible exact impl_Stand.mono _ _ _ _ _ _ _ _ _)
   | (with_reducible exact laws_eqEvent.mono _ _ _ _ _ _ _ _ _ _ _ _ _ _ _)
   | (with_reducible exact laws_heldEvent.mono _ _ _ _ _ _ _ _ _)
   | (with_reducible exact laws_markEvent.mono _ _ _ _ _ _ _ _ _)
   | (with_reducible exact laws_toEvent.mono _ _ _ _ _ _ _ _)
   | (with_reducible exact spec_Stand.mono _ _ _ _ _ _ _ _ _)
   | (with_reducible exact LeO.refl _)
   | (with_reducible exact LeO.none _)
   | (with_reducible refine LeO.ite ?_ ?_)
   | (with_reducible refine LeO.bind ?_ (fun _ => ?_))
theorem laws_FnExactStand.mono : ∀ a0 a1 a2 a3 a4 a5 a6 a7 k, LeO (laws_FnExactStand.f k a0 a1 a2 a3 a4 a5 a6 a7) (laws_FnExactStand.f (k + 1) a0 a1 a2 a3 a4 a5 a6 a7) := by
 intro a0 a1 a2 a3 a4 a5 a6 a7 k
 obtain ⟨ih0, ih1, ih2⟩ := laws_FnExactStand.mono_l k
 unfold laws_FnExactStand.f
 repeat' first
   | (with_reducible exact ih0 _ _ _ _ _ _ _ _ _ _ _ _ _ _ _ _ _ _ _ _ _ _ _ _ _ _ _ _ _ _ _ _)
   | (with_reducible exact ih1 _ _ _ _ _ _ _ _ _ _ _ _ _ _ _ _ _ _ _ _ _ _ _ _)
   | (with_reducible exact ih2 _ _ _ _ _ _ _ _ _)
   | (with_reducible exact impl_Stand.mono _ _ _ _ _ _ _ _ _)
   | (with_reducible exact laws_eqEvent.mono _ _ _ _ _ _ _ _ _ _ _ _ _ _ _)
   | (with_reducible exact laws_heldEvent.mono _ _ _ _ _ _ _ _ _)
   | (with_reducible exact laws_markEvent.mono _ _ _ _ _ _ _ _ _)
   | (with_reducible exact laws_toEvent.mono _ _ _ _ _ _ _ _)
   | (with_reducible exact spec_Stand.mono _ _ _ _ _ _ _ _ _)
   | (with_reducible exact LeO.refl _)
   | (with_reducible exact LeO.none _)
   | (with_reducible refine LeO.ite ?_ ?_)
   | (with_reducible refine LeO.bind ?_ (fun _ => ?_))
set_option maxHeartbeats 8000000 in
set_option maxRecDepth 100000 in
theorem laws_FnExactStand.calls (k : Nat) (a0_0 : Bool) (a0_1 : Bool) (A0_2 : Option Addr) (c0_2 : Nat) (l0_2 : List Int) (A0_3 : Option Addr) (c0_3 : Nat) (l0_3 : List Int) (a0_4 : Int) (a0_5 : Int) (a0_6 : Int) (a1 : Int) (r : Bool) (w : World) (hr0_2 : Kd.C (Kd.int .i64) w A0_2 l0_2.length l0_2) (hc0_2 : l0_2.length ≤ c0_2) (hr0_3 : Kd.C (Kd.int .i64) w A0_3 l0_3.length l0_3) (hc0_3 : l0_3.length ≤ c0_3) (HQ_ : Aside0 (r = true)) (h : laws_FnExactStand.f k a0_0 a0_1 l0_2 l0_3 a0_4 a0_5 a0_6 a1 = some r) :
  Calls Try.prog 6 #[.agg #[.bool a0_0, .bool a0_1, .slice A0_2 l0_2.length c0_2, .slice A0_3 l0_3.length c0_3, .int .i64 a0_4, .int .i64 a0_5, .int .i64 a0_6], .int .i64 a1] w fun e w' => e = .returned (.bool r) ∧ Below w.heap.size w w' := by
 have hu24 := Try.underlying24
 have hu27 := Try.underlying27
 have HR0_2 := am hr0_2
 have HC0_2 := am hc0_2
 clear hr0_2 hc0_2
 have HR0_3 := am hr0_3
 have HC0_3 := am hc0_3
 clear hr0_3 hc0_3
 have HB := am (Below.refl w.heap.size w)
 have H : ((laws_szEvent.f a0_0 a0_1 l0_2 l0_3 a0_4 a0_5 a0_6 1048576).bind fun t502 => (if t502 < 0 then (some true) else ((laws_toEvent.f k a0_0 a0_1 l0_2 l0_3 a0_4 a0_5 a0_6).bind fun bt503 => ((spec_Stand.f k bt503.1 bt503.2.1 bt503.2.2.1 bt503.2.2.2.1 bt503.2.2.2.2.1 bt503.2.2.2.2.2.1 bt503.2.2.2.2.2.2 a1).bind fun bt514 => ((laws_toEvent.f k a0_0 a0_1 l0_2 l0_3 a0_4 a0_5 a0_6).bind fun bt527 => ((impl_Stand.f k bt527.1 bt527.2.1 bt527.2.2.1 bt527.2.2.2.1 bt527.2.2.2.2.1 bt527.2.2.2.2.2.1 bt527.2.2.2.2.2.2 a1).bind fun bt539 => ((laws_eqEvent.f k bt539.1 bt539.2.1 bt539.2.2.1 bt539.2.2.2.1 bt539.2.2.2.2.1 bt539.2.2.2.2.2.1 bt539.2.2.2.2.2.2.1 bt514.1 bt514.2.1 bt514.2.2.1 bt514.2.2.2.1 bt514.2.2.2.2.1 bt514.2.2.2.2.2.1 bt514.2.2.2.2.2.2.1).bind fun t552 => (if t552 = true then (laws_FnExactStand.j0 k a1 bt514.2.2.2.2.2.2.2 bt539.2.2.2.2.2.2.2 (bt539.2.2.2.2.2.2.2 != bt514.2.2.2.2.2.2.2) a0_0 a0_1 l0_2 l0_3 a0_4 a0_5 a0_6 bt514.1 bt514.2.1 bt514.2.2.1 bt514.2.2.2.1 bt514.2.2.2.2.1 bt514.2.2.2.2.2.1 bt514.2.2.2.2.2.2.1 bt527.1 bt527.2.1 bt527.2.2.1 bt527.2.2.2.1 bt527.2.2.2.2.1 bt527.2.2.2.2.2.1 bt527.2.2.2.2.2.2 bt539.1 bt539.2.1 bt539.2.2.1 bt539.2.2.2.1 bt539.2.2.2.2.1 bt539.2.2.2.2.2.1 bt539.2.2.2.2.2.2.1) else (laws_FnExactStand.j0 k a1 bt514.2.2.2.2.2.2.2 bt539.2.2.2.2.2.2.2 true a0_0 a0_1 l0_2 l0_3 a0_4 a0_5 a0_6 bt514.1 bt514.2.1 bt514.2.2.1 bt514.2.2.2.1 bt514.2.2.2.2.1 bt514.2.2.2.2.2.1 bt514.2.2.2.2.2.2.1 bt527.1 bt527.2.1 bt527.2.2.1 bt527.2.2.2.1 bt527.2.2.2.2.1 bt527.2.2.2.2.2.1 bt527.2.2.2.2.2.2 bt539.1 bt539.2.1 bt539.2.2.1 bt539.2.2.2.1 bt539.2.2.2.2.1 bt539.2.2.2.2.2.1 bt539.2.2.2.2.2.2.1))))))))) = some r := h
 clear h
 replace H := Option.bind_eq_some_iff.mp H
 obtain ⟨t502, A30, H⟩ := H
 replace H : (if t502 < 0 then (some true) else ((laws_toEvent.f k a0_0 a0_1 l0_2 l0_3 a0_4 a0_5 a0_6).bind fun bt503 => ((spec_Stand.f k bt503.1 bt503.2.1 bt503.2.2.1 bt503.2.2.2.1 bt503.2.2.2.2.1 bt503.2.2.2.2.2.1 bt503.2.2.2.2.2.2 a1).bind fun bt514 => ((laws_toEvent.f k a0_0 a0_1 l0_2 l0_3 a0_4 a0_5 a0_6).bind fun bt527 => ((impl_Stand.f k bt527.1 bt527.2.1 bt527.2.2.1 bt527.2.2.2.1 bt527.2.2.2.2.1 bt527.2.2.2.2.2.1 bt527.2.2.2.2.2.2 a1).bind fun bt539 => ((laws_eqEvent.f k bt539.1 bt539.2.1 bt539.2.2.1 bt539.2.2.2.1 bt539.2.2.2.2.1 bt539.2.2.2.2.2.1 bt539.2.2.2.2.2.2.1 bt514.1 bt514.2.1 bt514.2.2.1 bt514.2.2.2.1 bt514.2.2.2.2.1 bt514.2.2.2.2.2.1 bt514.2.2.2.2.2.2.1).bind fun t552 => (if t552 = true then (laws_FnExactStand.j0 k a1 bt514.2.2.2.2.2.2.2 bt539.2.2.2.2.2.2.2 (bt539.2.2.2.2.2.2.2 != bt514.2.2.2.2.2.2.2) a0_0 a0_1 l0_2 l0_3 a0_4 a0_5 a0_6 bt514.1 bt514.2.1 bt514.2.2.1 bt514.2.2.2.1 bt514.2.2.2.2.1 bt514.2.2.2.2.2.1 bt514.2.2.2.2.2.2.1 bt527.1 bt527.2.1 bt527.2.2.1 bt527.2.2.2.1 bt527.2.2.2.2.1 bt527.2.2.2.2.2.1 bt527.2.2.2.2.2.2 bt539.1 bt539.2.1 bt539.2.2.1 bt539.2.2.2.1 bt539.2.2.2.2.1 bt539.2.2.2.2.2.1 bt539.2.2.2.2.2.2.1) else (laws_FnExactStand.j0 k a1 bt514.2.2.2.2.2.2.2 bt539.2.2.2.2.2.2.2 true a0_0 a0_1 l0_2 l0_3 a0_4 a0_5 a0_6 bt514.1 bt514.2.1 bt514.2.2.1 bt514.2.2.2.1 bt514.2.2.2.2.1 bt514.2.2.2.2.2.1 bt514.2.2.2.2.2.2.1 bt527.1 bt527.2.1 bt527.2.2.1 bt527.2.2.2.1 bt527.2.2.2.2.1 bt527.2.2.2.2.2.1 bt527.2.2.2.2.2.2 bt539.1 bt539.2.1 bt539.2.2.1 bt539.2.2.2.1 bt539.2.2.2.2.1 bt539.2.2.2.2.2.1 bt539.2.2.2.2.2.2.1)))))))) = some r := H
 have A3 := am A30
 clear A30
 by_cases c4 : t502 < 0
 ·rw [if_pos c4] at H
  have c4b0 : decide (t502 < 0) = true := decide_eq_true c4
  clear c4
  obtain rfl := Option.some.inj H
  go_enter Try.func6, Try.ntmps6
  go_wp2_with (first | ((with_reducible refine gate_dst (N := 2) rfl ?_); refine box_event ?hg (N := 2) ?hd (cs := #[.bool a0_0, .bool a0_1, .slice A0_2 l0_2.length c0_2, .slice A0_3 l0_3.length c0_3, .int .i64 a0_4, .int .i64 a0_5, .int .i64 a0_6]) (t := 24) ?hr ?_; (case hd => rfl); (case hg => rfl); (case hr => first | (go_simp; done) | (go_simp; rfl)); intro gb501 hg w5 hbox hb; have BK501 := am (hbox); have GW501 := am ((by rw [hg]; exact (below_size (pkB HB.out)) : w.heap.size ≤ gb501)); have GE501 := am ((by rw [hg]; exact (below_size (pkB HB.out)) : w.heap.size ≤ gb501)); replace HB := am (below_step (pkB HB.out) hb); clear hb hbox hg; obtain ⟨hcz6_0, hcz6_1, hcz6_2, hcz6_3, hcz6_4, hcz6_5, hcz6_6, hfz6_0, hfz6_1, hfz6_2, hfz6_3, hfz6_4, hfz6_5, hfz6_6⟩ := bk7 BK501.out) | ((with_reducible refine gate_callee (f := 14) rfl ?_); refine goesL_ (some 18) rfl rfl Try.func14 (by kernel_rfl) rfl #[.agg #[.bool a0_0, .bool a0_1, .slice A0_2 l0_2.length c0_2, .slice A0_3 l0_3.length c0_3, .int .i64 a0_4, .int .i64 a0_5, .int .i64 a0_6], .int .i64 1048576] rfl mpx ?_; (with_reducible refine (laws_szEvent.calls a0_0 a0_1 _ _ l0_2 _ _ l0_3 a0_4 a0_5 a0_6 1048576 t502 _ ?side1 ?side2 ?side3 ?side4 A3.out).mono ?_); (case side1 => exact pkC (Kd.C_below HR0_2.out HB.out)); (case side2 => exact HC0_2.out); (case side3 => exact pkC (Kd.C_below HR0_3.out HB.out)); (case side4 => exact HC0_3.out); rintro e w7 ⟨rfl, hb⟩; refine ⟨_, rfl, ?_⟩; replace BK501 := am (blk_below (pkK BK501.out) hb); replace HB := am (below_step (pkW HB.out) hb); (try clear hb)))
  go_ret
  exact ⟨rfe, pkW HB.out⟩
 ·rw [if_neg c4] at H
  have c4b0 : decide (t502 < 0) = false := decide_eq_false c4
  clear c4
  replace H := Option.bind_eq_some_iff.mp H
  obtain ⟨⟨t503, t504, t505, t508, t511, t512, t513⟩, A80, H⟩ := H
  replace H : ((spec_Stand.f k t503 t504 t505 t508 t511 t512 t513 a1).bind fun bt514 => ((laws_toEvent.f k a0_0 a0_1 l0_2 l0_3 a0_4 a0_5 a0_6).bind fun bt527 => ((impl_Stand.f k bt527.1 bt527.2.1 bt527.2.2.1 bt527.2.2.2.1 bt527.2.2.2.2.1 bt527.2.2.2.2.2.1 bt527.2.2.2.2.2.2 a1).bind fun bt539 => ((laws_eqEvent.f k bt539.1 bt539.2.1 bt539.2.2.1 bt539.2.2.2.1 bt539.2.2.2.2.1 bt539.2.2.2.2.2.1 bt539.2.2.2.2.2.2.1 bt514.1 bt514.2.1 bt514.2.2.1 bt514.2.2.2.1 bt514.2.2.2.2.1 bt514.2.2.2.2.2.1 bt514.2.2.2.2.2.2.1).bind fun t552 => (if t552 = true then (laws_FnExactStand.j0 k a1 bt514.2.2.2.2.2.2.2 bt539.2.2.2.2.2.2.2 (bt539.2.2.2.2.2.2.2 != bt514.2.2.2.2.2.2.2) a0_0 a0_1 l0_2 l0_3 a0_4 a0_5 a0_6 bt514.1 bt514.2.1 bt514.2.2.1 bt514.2.2.2.1 bt514.2.2.2.2.1 bt514.2.2.2.2.2.1 bt514.2.2.2.2.2.2.1 bt527.1 bt527.2.1 bt527.2.2.1 bt527.2.2.2.1 bt527.2.2.2.2.1 bt527.2.2.2.2.2.1 bt527.2.2.2.2.2.2 bt539.1 bt539.2.1 bt539.2.2.1 bt539.2.2.2.1 bt539.2.2.2.2.1 bt539.2.2.2.2.2.1 bt539.2.2.2.2.2.2.1) else (laws_FnExactStand.j0 k a1 bt514.2.2.2.2.2.2.2 bt539.2.2.2.2.2.2.2 true a0_0 a0_1 l0_2 l0_3 a0_4 a0_5 a0_6 bt514.1 bt514.2.1 bt514.2.2.1 bt514.2.2.2.1 bt514.2.2.2.2.1 bt514.2.2.2.2.2.1 bt514.2.2.2.2.2.2.1 bt527.1 bt527.2.1 bt527.2.2.1 bt527.2.2.2.1 bt527.2.2.2.2.1 bt527.2.2.2.2.2.1 bt527.2.2.2.2.2.2 bt539.1 bt539.2.1 bt539.2.2.1 bt539.2.2.2.1 bt539.2.2.2.2.1 bt539.2.2.2.2.2.1 bt539.2.2.2.2.2.2.1)))))) = some r := H
  have A8 := am A80
  clear A80
  replace H := Option.bind_eq_some_iff.mp H
  obtain ⟨⟨t514, t515, t516, t519, t522, t523, t524, t525⟩, A90, H⟩ := H
  replace H : ((laws_toEvent.f k a0_0 a0_1 l0_2 l0_3 a0_4 a0_5 a0_6).bind fun bt527 => ((impl_Stand.f k bt527.1 bt527.2.1 bt527.2.2.1 bt527.2.2.2.1 bt527.2.2.2.2.1 bt527.2.2.2.2.2.1 bt527.2.2.2.2.2.2 a1).bind fun bt539 => ((laws_eqEvent.f k bt539.1 bt539.2.1 bt539.2.2.1 bt539.2.2.2.1 bt539.2.2.2.2.1 bt539.2.2.2.2.2.1 bt539.2.2.2.2.2.2.1 t514 t515 t516 t519 t522 t523 t524).bind fun t552 => (if t552 = true then (laws_FnExactStand.j0 k a1 t525 bt539.2.2.2.2.2.2.2 (bt539.2.2.2.2.2.2.2 != t525) a0_0 a0_1 l0_2 l0_3 a0_4 a0_5 a0_6 t514 t515 t516 t519 t522 t523 t524 bt527.1 bt527.2.1 bt527.2.2.1 bt527.2.2.2.1 bt527.2.2.2.2.1 bt527.2.2.2.2.2.1 bt527.2.2.2.2.2.2 bt539.1 bt539.2.1 bt539.2.2.1 bt539.2.2.2.1 bt539.2.2.2.2.1 bt539.2.2.2.2.2.1 bt539.2.2.2.2.2.2.1) else (laws_FnExactStand.j0 k a1 t525 bt539.2.2.2.2.2.2.2 true a0_0 a0_1 l0_2 l0_3 a0_4 a0_5 a0_6 t514 t515 t516 t519 t522 t523 t524 bt527.1 bt527.2.1 bt527.2.2.1 bt527.2.2.2.1 bt527.2.2.2.2.1 bt527.2.2.2.2.2.1 bt527.2.2.2.2.2.2 bt539.1 bt539.2.1 bt539.2.2.1 bt539.2.2.2.1 bt539.2.2.2.2.1 bt539.2.2.2.2.2.1 bt539.2.2.2.2.2.2.1))))) = some r := H
  have A9 := am A90
  clear A90
  replace H := Option.bind_eq_some_iff.mp H
  obtain ⟨⟨t527, t528, t529, t532, t535, t536, t537⟩, A100, H⟩ := H
  replace H : ((impl_Stand.f k t527 t528 t529 t532 t535 t536 t537 a1).bind fun bt539 => ((laws_eqEvent.f k bt539.1 bt539.2.1 bt539.2.2.1 bt539.2.2.2.1 bt539.2.2.2.2.1 bt539.2.2.2.2.2.1 bt539.2.2.2.2.2.2.1 t514 t515 t516 t519 t522 t523 t524).bind fun t552 => (if t552 = true then (laws_FnExactStand.j0 k a1 t525 bt539.2.2.2.2.2.2.2 (bt539.2.2.2.2.2.2.2 != t525) a0_0 a0_1 l0_2 l0_3 a0_4 a0_5 a0_6 t514 t515 t516 t519 t522 t523 t524 t527 t528 t529 t532 t535 t536 t537 bt539.1 bt539.2.1 bt539.2.2.1 bt539.2.2.2.1 bt539.2.2.2.2.1 bt539.2.2.2.2.2.1 bt539.2.2.2.2.2.2.1) else (laws_FnExactStand.j0 k a1 t525 bt539.2.2.2.2.2.2.2 true a0_0 a0_1 l0_2 l0_3 a0_4 a0_5 a0_6 t514 t515 t516 t519 t522 t523 t524 t527 t528 t529 t532 t535 t536 t537 bt539.1 bt539.2.1 bt539.2.2.1 bt539.2.2.2.1 bt539.2.2.2.2.1 bt539.2.2.2.2.2.1 bt539.2.2.2.2.2.2.1)))) = some r := H
  have A10 := am A100
  clear A100
  replace H := Option.bind_eq_some_iff.mp H
  obtain ⟨⟨t539, t540, t541, t544, t547, t548, t549, t550⟩, A110, H⟩ := H
  replace H : ((laws_eqEvent.f k t539 t540 t541 t544 t547 t548 t549 t514 t515 t516 t519 t522 t523 t524).bind fun t552 => (if t552 = true then (laws_FnExactStand.j0 k a1 t525 t550 (t550 != t525) a0_0 a0_1 l0_2 l0_3 a0_4 a0_5 a0_6 t514 t515 t516 t519 t522 t523 t524 t527 t528 t529 t532 t535 t536 t537 t539 t540 t541 t544 t547 t548 t549) else (laws_FnExactStand.j0 k a1 t525 t550 true a0_0 a0_1 l0_2 l0_3 a0_4 a0_5 a0_6 t514 t515 t516 t519 t522 t523 t524 t527 t528 t529 t532 t535 t536 t537 t539 t540 t541 t544 t547 t548 t549))) = some r := H
  have A11 := am A110
  clear A110
  have HC12 := am H
  clear H
  go_enter Try.func6, Try.ntmps6
  go_upto_region 8 with (first | ((with_reducible refine gate_dst (N := 2) rfl ?_); refine box_event ?hg (N := 2) ?hd (cs := #[.bool a0_0, .bool a0_1, .slice A0_2 l0_2.length c0_2, .slice A0_3 l0_3.length c0_3, .int .i64 a0_4, .int .i64 a0_5, .int .i64 a0_6]) (t := 24) ?hr ?_; (case hd => rfl); (case hg => rfl); (case hr => first | (go_simp; done) | (go_simp; rfl)); intro gb501 hg w13 hbox hb; have BK501 := am (hbox); have GW501 := am ((by rw [hg]; exact (below_size (pkB HB.out)) : w.heap.size ≤ gb501)); have GE501 := am ((by rw [hg]; exact (below_size (pkB HB.out)) : w.heap.size ≤ gb501)); replace HB := am (below_step (pkB HB.out) hb); clear hb hbox hg; obtain ⟨hcz14_0, hcz14_1, hcz14_2, hcz14_3, hcz14_4, hcz14_5, hcz14_6, hfz14_0, hfz14_1, hfz14_2, hfz14_3, hfz14_4, hfz14_5, hfz14_6⟩ := bk7 BK501.out) | ((with_reducible refine gate_callee (f := 14) rfl ?_); refine goesL_ (some 18) rfl rfl Try.func14 (by kernel_rfl) rfl #[.agg #[.bool a0_0, .bool a0_1, .slice A0_2 l0_2.length c0_2, .slice A0_3 l0_3.length c0_3, .int .i64 a0_4, .int .i64 a0_5, .int .i64 a0_6], .int .i64 1048576] rfl mpx ?_; (with_reducible refine (laws_szEvent.calls a0_0 a0_1 _ _ l0_2 _ _ l0_3 a0_4 a0_5 a0_6 1048576 t502 _ ?side1 ?side2 ?side3 ?side4 A3.out).mono ?_); (case side1 => exact pkC (Kd.C_below HR0_2.out HB.out)); (case side2 => exact HC0_2.out); (case side3 => exact pkC (Kd.C_below HR0_3.out HB.out)); (case side4 => exact HC0_3.out); rintro e w15 ⟨rfl, hb⟩; refine ⟨_, rfl, ?_⟩; replace BK501 := am (blk_below (pkK BK501.out) hb); replace HB := am (below_step (pkW HB.out) hb); (try clear hb); obtain ⟨hcz16_0, hcz16_1, hcz16_2, hcz16_3, hcz16_4, hcz16_5, hcz16_6, hfz16_0, hfz16_1, hfz16_2, hfz16_3, hfz16_4, hfz16_5, hfz16_6⟩ := bk7 BK501.out) | ((with_reducible refine gate_callee (f := 16) rfl ?_); refine goesL_ (some 23) rfl rfl Try.func16 (by kernel_rfl) rfl #[.agg #[.bool a0_0, .bool a0_1, .slice A0_2 l0_2.length c0_2, .slice A0_3 l0_3.length c0_3, .int .i64 a0_4, .int .i64 a0_5, .int .i64 a0_6]] rfl mpx ?_; (with_reducible refine (laws_toEvent.calls k a0_0 a0_1 _ _ l0_2 _ _ l0_3 a0_4 a0_5 a0_6 t503 t504 t505 t508 t511 t512 t513 _ ?side1 ?side2 ?side3 ?side4 A8.out).mono ?_); (case side1 => exact pkC (Kd.C_below HR0_2.out HB.out)); (case side2 => exact HC0_2.out); (case side3 => exact pkC (Kd.C_below HR0_3.out HB.out)); (case side4 => exact HC0_3.out); rintro e w17 ⟨v506, v509, rfl, ho0, ho1, hb⟩; refine ⟨_, rfl, ?_⟩; have HO507 := am (Kd.R_lower ho0 (below_size (pkW HB.out))); have HO510 := am (Kd.R_lower ho1 (below_size (pkW HB.out))); replace BK501 := am (blk_below (pkK BK501.out) hb); replace HB := am (below_step (pkW HB.out) hb); (try clear hb ho0 ho1); obtain ⟨Ao18, co18, eo18⟩ := Kd.R_slice HO507.out; subst eo18; obtain ⟨Ao19, co19, eo19⟩ := Kd.R_slice HO510.out; subst eo19) | ((with_reducible refine gate_callee (f := 28) rfl ?_); refine goesL_ (some 25) rfl rfl Try.func28 (by kernel_rfl) rfl #[.agg #[.bool t503, .bool t504, .slice Ao18 t505.length co18, .slice Ao19 t508.length co19, .int .i64 t511, .int .i64 t512, .int .i64 t513], .int .i64 a1] rfl mpx ?_; (with_reducible refine (spec_Stand.calls k t503 t504 _ _ t505 _ _ t508 t511 t512 t513 a1 t514 t515 t516 t519 t522 t523 t524 t525 _ ?side1 ?side2 ?side3 ?side4 A9.out).mono ?_); (case side1 => exact pkC (Kd.R_reads' HO507.out).2.2); (case side2 => exact (Kd.R_reads' HO507.out).2.1); (case side3 => exact pkC (Kd.R_reads' HO510.out).2.2); (case side4 => exact (Kd.R_reads' HO510.out).2.1); rintro e w20 ⟨v517, v520, rfl, ho0, ho1, hb⟩; refine ⟨_, rfl, ?_⟩; have HO518 := am (Kd.R_lower (Kd.R_new' (Kd.R_new' ho0 (Kd.R_lt (pkR HO507.out))) (Kd.R_lt (pkR HO510.out))) (below_size (pkW HB.out))); have HO521 := am (Kd.R_lower (Kd.R_new' (Kd.R_new' ho1 (Kd.R_lt (pkR HO507.out))) (Kd.R_lt (pkR HO510.out))) (below_size (pkW HB.out))); replace HO507 := am (Kd.R_mono (Kd.R_told (Kd.R_told (Kd.R_old (pkR HO507.out) hb) (Kd.R_base ho0)) (Kd.R_base ho1)) (fun _ h_ => h_.1)); replace HO510 := am (Kd.R_mono (Kd.R_told (Kd.R_told (Kd.R_old (pkR HO510.out) hb) (Kd.R_base ho0)) (Kd.R_base ho1)) (fun _ h_ => h_.1)); replace BK501 := am (blk_below (pkK BK501.out) hb); replace HB := am (below_step (pkW HB.out) hb); (try clear hb ho0 ho1)) | ((with_reducible refine gate_dst (N := 6) rfl ?_); refine box_event ?hg (N := 6) ?hd (cs := #[.bool false, .bool false, .slice none 0 0, .slice none 0 0, .int .i64 0, .int .i64 0, .int .i64 0]) (t := 27) ?hr ?_; (case hd => rfl); (case hg => rfl); (case hr => first | (go_simp; done) | (go_simp; rfl)); intro gb526 hg w21 hbox hb; replace HO507 := am (Kd.R_below (pkR HO507.out) hb); replace HO510 := am (Kd.R_below (pkR HO510.out) hb); replace HO518 := am (Kd.R_below (pkR HO518.out) hb); replace HO521 := am (Kd.R_below (pkR HO521.out) hb); have BK526 := am (hbox); have GW526 := am ((by rw [hg]; exact (below_size (pkW HB.out)) : w.heap.size ≤ gb526)); have GE526 := am ((by rw [hg]; exact (below_size (pkW HB.out)) : w.heap.size ≤ gb526)); replace HB := am (below_step (pkW HB.out) hb); have NB501_526 := am ((by rw [hg]; exact Nat.ne_of_lt (blk_lt (g := gb501) (o := .cells #[.bool a0_0, .bool a0_1, .slice A0_2 l0_2.length c0_2, .slice A0_3 l0_3.length c0_3, .int .i64 a0_4, .int .i64 a0_5, .int .i64 a0_6] 24 (0, 0)) (pkK BK501.out)) : gb501 ≠ gb526)); have NB526_501 := am ((by rw [hg]; exact Nat.ne_of_gt (blk_lt (g := gb501) (o := .cells #[.bool a0_0, .bool a0_1, .slice A0_2 l0_2.length c0_2, .slice A0_3 l0_3.length c0_3, .int .i64 a0_4, .int .i64 a0_5, .int .i64 a0_6] 24 (0, 0)) (pkK BK501.out)) : gb526 ≠ gb501)); replace BK501 := am (blk_below (pkK BK501.out) hb); clear hb hbox hg; have hnb22 := NB526_501.out; have hnc22 := NB501_526.out; obtain ⟨hcz23_0, hcz23_1, hcz23_2, hcz23_3, hcz23_4, hcz23_5, hcz23_6, hfz23_0, hfz23_1, hfz23_2, hfz23_3, hfz23_4, hfz23_5, hfz23_6⟩ := bk7 BK526.out; obtain ⟨Ao24, co24, eo24⟩ := Kd.R_slice HO518.out; subst eo24; obtain ⟨Ao25, co25, eo25⟩ := Kd.R_slice HO521.out; subst eo25; obtain ⟨hcz26_0, hcz26_1, hcz26_2, hcz26_3, hcz26_4, hcz26_5, hcz26_6, hfz26_0, hfz26_1, hfz26_2, hfz26_3, hfz26_4, hfz26_5, hfz26_6⟩ := bk7 BK501.out) | ((with_reducible refine gate_callee (f := 16) rfl ?_); refine goesL_ (some 29) rfl rfl Try.func16 (by kernel_rfl) rfl #[.agg #[.bool a0_0, .bool a0_1, .slice A0_2 l0_2.length c0_2, .slice A0_3 l0_3.length c0_3, .int .i64 a0_4, .int .i64 a0_5, .int .i64 a0_6]] rfl mpx ?_; (with_reducible refine (laws_toEvent.calls k a0_0 a0_1 _ _ l0_2 _ _ l0_3 a0_4 a0_5 a0_6 t527 t528 t529 t532 t535 t536 t537 _ ?side1 ?side2 ?side3 ?side4 A10.out).mono ?_); (case side1 => exact Kd.C_below HR0_2.out (pkW HB.out)); (case side2 => exact HC0_2.out); (case side3 => exact Kd.C_below HR0_3.out (pkW HB.out)); (case side4 => exact HC0_3.out); rintro e w27 ⟨v530, v533, rfl, ho0, ho1, hb⟩; refine ⟨_, rfl, ?_⟩; have HO531 := am (Kd.R_lower (Kd.R_new' (Kd.R_new' (Kd.R_new' (Kd.R_new' ho0 (Kd.R_lt (by (with_reducible repeat (first | apply Kd.R_alloc | apply Kd.R_drewN | apply Kd.R_drew)); exact (Kd.R_mono (Kd.R_far (p := ⟨gb526, 6, none⟩) (Kd.R_far (p := ⟨gb526, 5, none⟩) (Kd.R_far (p := ⟨gb526, 4, none⟩) (Kd.R_far (p := ⟨gb526, 3, none⟩) (Kd.R_far (p := ⟨gb526, 2, none⟩) (Kd.R_far (p := ⟨gb526, 1, none⟩) (Kd.R_far (p := ⟨gb526, 0, none⟩) (Kd.R_types HO507.out BK526.out (by decide)) (fun _ hk => hk.2) (.bool t514)) (fun _ hk => hk.2) (.bool t515)) (fun _ hk => hk.2) (.slice Ao24 t516.length co24)) (fun _ hk => hk.2) (.slice Ao25 t519.length co25)) (fun _ hk => hk.2) (.int .i64 t522)) (fun _ hk => hk.2) (.int .i64 t523)) (fun _ hk => hk.2) (.int .i64 t524)) (fun _ h_ => h_.1))))) (Kd.R_lt (by (with_reducible repeat (first | apply Kd.R_alloc | apply Kd.R_drewN | apply Kd.R_drew)); exact (Kd.R_mono (Kd.R_far (p := ⟨gb526, 6, none⟩) (Kd.R_far (p := ⟨gb526, 5, none⟩) (Kd.R_far (p := ⟨gb526, 4, none⟩) (Kd.R_far (p := ⟨gb526, 3, none⟩) (Kd.R_far (p := ⟨gb526, 2, none⟩) (Kd.R_far (p := ⟨gb526, 1, none⟩) (Kd.R_far (p := ⟨gb526, 0, none⟩) (Kd.R_types HO510.out BK526.out (by decide)) (fun _ hk => hk.2) (.bool t514)) (fun _ hk => hk.2) (.bool t515)) (fun _ hk => hk.2) (.slice Ao24 t516.length co24)) (fun _ hk => hk.2) (.slice Ao25 t519.length co25)) (fun _ hk => hk.2) (.int .i64 t522)) (fun _ hk => hk.2) (.int .i64 t523)) (fun _ hk => hk.2) (.int .i64 t524)) (fun _ h_ => h_.1))))) (Kd.R_lt (by (with_reducible repeat (first | apply Kd.R_alloc | apply Kd.R_drewN | apply Kd.R_drew)); exact (Kd.R_mono (Kd.R_far (p := ⟨gb526, 6, none⟩) (Kd.R_far (p := ⟨gb526, 5, none⟩) (Kd.R_far (p := ⟨gb526, 4, none⟩) (Kd.R_far (p := ⟨gb526, 3, none⟩) (Kd.R_far (p := ⟨gb526, 2, none⟩) (Kd.R_far (p := ⟨gb526, 1, none⟩) (Kd.R_far (p := ⟨gb526, 0, none⟩) (Kd.R_types HO518.out BK526.out (by decide)) (fun _ hk => hk.2) (.bool t514)) (fun _ hk => hk.2) (.bool t515)) (fun _ hk => hk.2) (.slice Ao24 t516.length co24)) (fun _ hk => hk.2) (.slice Ao25 t519.length co25)) (fun _ hk => hk.2) (.int .i64 t522)) (fun _ hk => hk.2) (.int .i64 t523)) (fun _ hk => hk.2) (.int .i64 t524)) (fun _ h_ => h_.1))))) (Kd.R_lt (by (with_reducible repeat (first | apply Kd.R_alloc | apply Kd.R_drewN | apply Kd.R_drew)); exact (Kd.R_mono (Kd.R_far (p := ⟨gb526, 6, none⟩) (Kd.R_far (p := ⟨gb526, 5, none⟩) (Kd.R_far (p := ⟨gb526, 4, none⟩) (Kd.R_far (p := ⟨gb526, 3, none⟩) (Kd.R_far (p := ⟨gb526, 2, none⟩) (Kd.R_far (p := ⟨gb526, 1, none⟩) (Kd.R_far (p := ⟨gb526, 0, none⟩) (Kd.R_types HO521.out BK526.out (by decide)) (fun _ hk => hk.2) (.bool t514)) (fun _ hk => hk.2) (.bool t515)) (fun _ hk => hk.2) (.slice Ao24 t516.length co24)) (fun _ hk => hk.2) (.slice Ao25 t519.length co25)) (fun _ hk => hk.2) (.int .i64 t522)) (fun _ hk => hk.2) (.int .i64 t523)) (fun _ hk => hk.2) (.int .i64 t524)) (fun _ h_ => h_.1))))) (below_size (pkW HB.out))); have HO534 := am (Kd.R_lower (Kd.R_new' (Kd.R_new' (Kd.R_new' (Kd.R_new' ho1 (Kd.R_lt (by (with_reducible repeat (first | apply Kd.R_alloc | apply Kd.R_drewN | apply Kd.R_drew)); exact (Kd.R_mono (Kd.R_far (p := ⟨gb526, 6, none⟩) (Kd.R_far (p := ⟨gb526, 5, none⟩) (Kd.R_far (p := ⟨gb526, 4, none⟩) (Kd.R_far (p := ⟨gb526, 3, none⟩) (Kd.R_far (p := ⟨gb526, 2, none⟩) (Kd.R_far (p := ⟨gb526, 1, none⟩) (Kd.R_far (p := ⟨gb526, 0, none⟩) (Kd.R_types HO507.out BK526.out (by decide)) (fun _ hk => hk.2) (.bool t514)) (fun _ hk => hk.2) (.bool t515)) (fun _ hk => hk.2) (.slice Ao24 t516.length co24)) (fun _ hk => hk.2) (.slice Ao25 t519.length co25)) (fun _ hk => hk.2) (.int .i64 t522)) (fun _ hk => hk.2) (.int .i64 t523)) (fun _ hk => hk.2) (.int .i64 t524)) (fun _ h_ => h_.1))))) (Kd.R_lt (by (with_reducible repeat (first | apply Kd.R_alloc | apply Kd.R_drewN | apply Kd.R_drew)); exact (Kd.R_mono (Kd.R_far (p := ⟨gb526, 6, none⟩) (Kd.R_far (p := ⟨gb526, 5, none⟩) (Kd.R_far (p := ⟨gb526, 4, none⟩) (Kd.R_far (p := ⟨gb526, 3, none⟩) (Kd.R_far (p := ⟨gb526, 2, none⟩) (Kd.R_far (p := ⟨gb526, 1, none⟩) (Kd.R_far (p := ⟨gb526, 0, none⟩) (Kd.R_types HO510.out BK526.out (by decide)) (fun _ hk => hk.2) (.bool t514)) (fun _ hk => hk.2) (.bool t515)) (fun _ hk => hk.2) (.slice Ao24 t516.length co24)) (fun _ hk => hk.2) (.slice Ao25 t519.length co25)) (fun _ hk => hk.2) (.int .i64 t522)) (fun _ hk => hk.2) (.int .i64 t523)) (fun _ hk => hk.2) (.int .i64 t524)) (fun _ h_ => h_.1))))) (Kd.R_lt (by (with_reducible repeat (first | apply Kd.R_alloc | apply Kd.R_drewN | apply Kd.R_drew)); exact (Kd.R_mono (Kd.R_far (p := ⟨gb526, 6, none⟩) (Kd.R_far (p := ⟨gb526, 5, none⟩) (Kd.R_far (p := ⟨gb526, 4, none⟩) (Kd.R_far (p := ⟨gb526, 3, none⟩) (Kd.R_far (p := ⟨gb526, 2, none⟩) (Kd.R_far (p := ⟨gb526, 1, none⟩) (Kd.R_far (p := ⟨gb526, 0, none⟩) (Kd.R_types HO518.out BK526.out (by decide)) (fun _ hk => hk.2) (.bool t514)) (fun _ hk => hk.2) (.bool t515)) (fun _ hk => hk.2) (.slice Ao24 t516.length co24)) (fun _ hk => hk.2) (.slice Ao25 t519.length co25)) (fun _ hk => hk.2) (.int .i64 t522)) (fun _ hk => hk.2) (.int .i64 t523)) (fun _ hk => hk.2) (.int .i64 t524)) (fun _ h_ => h_.1))))) (Kd.R_lt (by (with_reducible repeat (first | apply Kd.R_alloc | apply Kd.R_drewN | apply Kd.R_drew)); exact (Kd.R_mono (Kd.R_far (p := ⟨gb526, 6, none⟩) (Kd.R_far (p := ⟨gb526, 5, none⟩) (Kd.R_far (p := ⟨gb526, 4, none⟩) (Kd.R_far (p := ⟨gb526, 3, none⟩) (Kd.R_far (p := ⟨gb526, 2, none⟩) (Kd.R_far (p := ⟨gb526, 1, none⟩) (Kd.R_far (p := ⟨gb526, 0, none⟩) (Kd.R_types HO521.out BK526.out (by decide)) (fun _ hk => hk.2) (.bool t514)) (fun _ hk => hk.2) (.bool t515)) (fun _ hk => hk.2) (.slice Ao24 t516.length co24)) (fun _ hk => hk.2) (.slice Ao25 t519.length co25)) (fun _ hk => hk.2) (.int .i64 t522)) (fun _ hk => hk.2) (.int .i64 t523)) (fun _ hk => hk.2) (.int .i64 t524)) (fun _ h_ => h_.1))))) (below_size (pkW HB.out))); replace HO507 := am (Kd.R_mono (Kd.R_told (Kd.R_told (Kd.R_old (by (with_reducible repeat (first | apply Kd.R_alloc | apply Kd.R_drewN | apply Kd.R_drew)); exact (Kd.R_mono (Kd.R_far (p := ⟨gb526, 6, none⟩) (Kd.R_far (p := ⟨gb526, 5, none⟩) (Kd.R_far (p := ⟨gb526, 4, none⟩) (Kd.R_far (p := ⟨gb526, 3, none⟩) (Kd.R_far (p := ⟨gb526, 2, none⟩) (Kd.R_far (p := ⟨gb526, 1, none⟩) (Kd.R_far (p := ⟨gb526, 0, none⟩) (Kd.R_types HO507.out BK526.out (by decide)) (fun _ hk => hk.2) (.bool t514)) (fun _ hk => hk.2) (.bool t515)) (fun _ hk => hk.2) (.slice Ao24 t516.length co24)) (fun _ hk => hk.2) (.slice Ao25 t519.length co25)) (fun _ hk => hk.2) (.int .i64 t522)) (fun _ hk => hk.2) (.int .i64 t523)) (fun _ hk => hk.2) (.int .i64 t524)) (fun _ h_ => h_.1))) hb) (Kd.R_base ho0)) (Kd.R_base ho1)) (fun _ h_ => h_.1)); replace HO510 := am (Kd.R_mono (Kd.R_told (Kd.R_told (Kd.R_old (by (with_reducible repeat (first | apply Kd.R_alloc | apply Kd.R_drewN | apply Kd.R_drew)); exact (Kd.R_mono (Kd.R_far (p := ⟨gb526, 6, none⟩) (Kd.R_far (p := ⟨gb526, 5, none⟩) (Kd.R_far (p := ⟨gb526, 4, none⟩) (Kd.R_far (p := ⟨gb526, 3, none⟩) (Kd.R_far (p := ⟨gb526, 2, none⟩) (Kd.R_far (p := ⟨gb526, 1, none⟩) (Kd.R_far (p := ⟨gb526, 0, none⟩) (Kd.R_types HO510.out BK526.out (by decide)) (fun _ hk => hk.2) (.bool t514)) (fun _ hk => hk.2) (.bool t515)) (fun _ hk => hk.2) (.slice Ao24 t516.length co24)) (fun _ hk => hk.2) (.slice Ao25 t519.length co25)) (fun _ hk => hk.2) (.int .i64 t522)) (fun _ hk => hk.2) (.int .i64 t523)) (fun _ hk => hk.2) (.int .i64 t524)) (fun _ h_ => h_.1))) hb) (Kd.R_base ho0)) (Kd.R_base ho1)) (fun _ h_ => h_.1)); replace HO518 := am (Kd.R_mono (Kd.R_told (Kd.R_told (Kd.R_old (by (with_reducible repeat (first | apply Kd.R_alloc | apply Kd.R_drewN | apply Kd.R_drew)); exact (Kd.R_mono (Kd.R_far (p := ⟨gb526, 6, none⟩) (Kd.R_far (p := ⟨gb526, 5, none⟩) (Kd.R_far (p := ⟨gb526, 4, none⟩) (Kd.R_far (p := ⟨gb526, 3, none⟩) (Kd.R_far (p := ⟨gb526, 2, none⟩) (Kd.R_far (p := ⟨gb526, 1, none⟩) (Kd.R_far (p := ⟨gb526, 0, none⟩) (Kd.R_types HO518.out BK526.out (by decide)) (fun _ hk => hk.2) (.bool t514)) (fun _ hk => hk.2) (.bool t515)) (fun _ hk => hk.2) (.slice Ao24 t516.length co24)) (fun _ hk => hk.2) (.slice Ao25 t519.length co25)) (fun _ hk => hk.2) (.int .i64 t522)) (fun _ hk => hk.2) (.int .i64 t523)) (fun _ hk => hk.2) (.int .i64 t524)) (fun _ h_ => h_.1))) hb) (Kd.R_base ho0)) (Kd.R_base ho1)) (fun _ h_ => h_.1)); replace HO521 := am (Kd.R_mono (Kd.R_told (Kd.R_told (Kd.R_old (by (with_reducible repeat (first | apply Kd.R_alloc | apply Kd.R_drewN | apply Kd.R_drew)); exact (Kd.R_mono (Kd.R_far (p := ⟨gb526, 6, none⟩) (Kd.R_far (p := ⟨gb526, 5, none⟩) (Kd.R_far (p := ⟨gb526, 4, none⟩) (Kd.R_far (p := ⟨gb526, 3, none⟩) (Kd.R_far (p := ⟨gb526, 2, none⟩) (Kd.R_far (p := ⟨gb526, 1, none⟩) (Kd.R_far (p := ⟨gb526, 0, none⟩) (Kd.R_types HO521.out BK526.out (by decide)) (fun _ hk => hk.2) (.bool t514)) (fun _ hk => hk.2) (.bool t515)) (fun _ hk => hk.2) (.slice Ao24 t516.length co24)) (fun _ hk => hk.2) (.slice Ao25 t519.length co25)) (fun _ hk => hk.2) (.int .i64 t522)) (fun _ hk => hk.2) (.int .i64 t523)) (fun _ hk => hk.2) (.int .i64 t524)) (fun _ h_ => h_.1))) hb) (Kd.R_base ho0)) (Kd.R_base ho1)) (fun _ h_ => h_.1)); replace BK501 := am (blk_below (g := gb501) (o := .cells #[.bool a0_0, .bool a0_1, .slice A0_2 l0_2.length c0_2, .slice A0_3 l0_3.length c0_3, .int .i64 a0_4, .int .i64 a0_5, .int .i64 a0_6] 24 (0, 0)) (by (with_reducible repeat (first | refine blk_drewN ?_ _ | refine blk_drew ?_ | refine blk_alloc ?_ _)); refine blk_far ?_ NB501_526.out _; (with_reducible repeat (first | refine blk_drewN ?_ _ | refine blk_drew ?_ | refine blk_alloc ?_ _)); refine blk_far ?_ NB501_526.out _; (with_reducible repeat (first | refine blk_drewN ?_ _ | refine blk_drew ?_ | refine blk_alloc ?_ _)); refine blk_far ?_ NB501_526.out _; (with_reducible repeat (first | refine blk_drewN ?_ _ | refine blk_drew ?_ | refine blk_alloc ?_ _)); refine blk_far ?_ NB501_526.out _; (with_reducible repeat (first | refine blk_drewN ?_ _ | refine blk_drew ?_ | refine blk_alloc ?_ _)); refine blk_far ?_ NB501_526.out _; (with_reducible repeat (first | refine blk_drewN ?_ _ | refine blk_drew ?_ | refine blk_alloc ?_ _)); refine blk_far ?_ NB501_526.out _; (with_reducible repeat (first | refine blk_drewN ?_ _ | refine blk_drew ?_ | refine blk_alloc ?_ _)); refine blk_far ?_ NB501_526.out _; exact pkK BK501.out) hb); replace BK526 := am (blk_below (g := gb526) (o := .cells #[.bool t514, .bool t515, .slice Ao24 t516.length co24, .slice Ao25 t519.length co25, .int .i64 t522, .int .i64 t523, .int .i64 t524] 27 (0, 0)) (by (with_reducible repeat (first | refine blk_drewN ?_ _ | refine blk_drew ?_ | refine blk_alloc ?_ _)); refine blk_put (cs := #[.bool t514, .bool t515, .slice Ao24 t516.length co24, .slice Ao25 t519.length co25, .int .i64 t522, .int .i64 t523, .int .i64 0]) ?_ 6 _ rfl; (with_reducible repeat (first | refine blk_drewN ?_ _ | refine blk_drew ?_ | refine blk_alloc ?_ _)); refine blk_put (cs := #[.bool t514, .bool t515, .slice Ao24 t516.length co24, .slice Ao25 t519.length co25, .int .i64 t522, .int .i64 0, .int .i64 0]) ?_ 5 _ rfl; (with_reducible repeat (first | refine blk_drewN ?_ _ | refine blk_drew ?_ | refine blk_alloc ?_ _)); refine blk_put (cs := #[.bool t514, .bool t515, .slice Ao24 t516.length co24, .slice Ao25 t519.length co25, .int .i64 0, .int .i64 0, .int .i64 0]) ?_ 4 _ rfl; (with_reducible repeat (first | refine blk_drewN ?_ _ | refine blk_drew ?_ | refine blk_alloc ?_ _)); refine blk_put (cs := #[.bool t514, .bool t515, .slice Ao24 t516.length co24, .slice none 0 0, .int .i64 0, .int .i64 0, .int .i64 0]) ?_ 3 _ rfl; (with_reducible repeat (first | refine blk_drewN ?_ _ | refine blk_drew ?_ | refine blk_alloc ?_ _)); refine blk_put (cs := #[.bool t514, .bool t515, .slice none 0 0, .slice none 0 0, .int .i64 0, .int .i64 0, .int .i64 0]) ?_ 2 _ rfl; (with_reducible repeat (first | refine blk_drewN ?_ _ | refine blk_drew ?_ | refine blk_alloc ?_ _)); refine blk_put (cs := #[.bool t514, .bool false, .slice none 0 0, .slice none 0 0, .int .i64 0, .int .i64 0, .int .i64 0]) ?_ 1 _ rfl; (with_reducible repeat (first | refine blk_drewN ?_ _ | refine blk_drew ?_ | refine blk_alloc ?_ _)); refine blk_put (cs := #[.bool false, .bool false, .slice none 0 0, .slice none 0 0, .int .i64 0, .int .i64 0, .int .i64 0]) ?_ 0 _ rfl; exact pkK BK526.out) hb); replace HB := am (below_step (pkW HB.out) hb); (try clear hb ho0 ho1)) | ((with_reducible refine gate_dst (N := 8) rfl ?_); refine box_event ?hg (N := 8) ?hd (cs := #[.bool false, .bool false, .slice none 0 0, .slice none 0 0, .int .i64 0, .int .i64 0, .int .i64 0]) (t := 27) ?hr ?_; (case hd => rfl); (case hg => rfl); (case hr => first | (go_simp; done) | (go_simp; rfl)); intro gb538 hg w28 hbox hb; replace HO507 := am (Kd.R_below (pkR HO507.out) hb); replace HO510 := am (Kd.R_below (pkR HO510.out) hb); replace HO518 := am (Kd.R_below (pkR HO518.out) hb); replace HO521 := am (Kd.R_below (pkR HO521.out) hb); replace HO531 := am (Kd.R_below (pkR HO531.out) hb); replace HO534 := am (Kd.R_below (pkR HO534.out) hb); have BK538 := am (hbox); have GW538 := am ((by rw [hg]; exact (below_size (pkW HB.out)) : w.heap.size ≤ gb538)); have GE538 := am ((by rw [hg]; exact (below_size (pkW HB.out)) : w.heap.size ≤ gb538)); replace HB := am (below_step (pkW HB.out) hb); have NB501_538 := am ((by rw [hg]; exact Nat.ne_of_lt (blk_lt (g := gb501) (o := .cells #[.bool a0_0, .bool a0_1, .slice A0_2 l0_2.length c0_2, .slice A0_3 l0_3.length c0_3, .int .i64 a0_4, .int .i64 a0_5, .int .i64 a0_6] 24 (0, 0)) (pkK BK501.out)) : gb501 ≠ gb538)); have NB538_501 := am ((by rw [hg]; exact Nat.ne_of_gt (blk_lt (g := gb501) (o := .cells #[.bool a0_0, .bool a0_1, .slice A0_2 l0_2.length c0_2, .slice A0_3 l0_3.length c0_3, .int .i64 a0_4, .int .i64 a0_5, .int .i64 a0_6] 24 (0, 0)) (pkK BK501.out)) : gb538 ≠ gb501)); replace BK501 := am (blk_below (pkK BK501.out) hb); have NB526_538 := am ((by rw [hg]; exact Nat.ne_of_lt (blk_lt (g := gb526) (o := .cells #[.bool t514, .bool t515, .slice Ao24 t516.length co24, .slice Ao25 t519.length co25, .int .i64 t522, .int .i64 t523, .int .i64 t524] 27 (0, 0)) (pkK BK526.out)) : gb526 ≠ gb538)); have NB538_526 := am ((by rw [hg]; exact Nat.ne_of_gt (blk_lt (g := gb526) (o := .cells #[.bool t514, .bool t515, .slice Ao24 t516.length co24, .slice Ao25 t519.length co25, .int .i64 t522, .int .i64 t523, .int .i64 t524] 27 (0, 0)) (pkK BK526.out)) : gb538 ≠ gb526)); replace BK526 := am (blk_below (pkK BK526.out) hb); clear hb hbox hg; have hnb29 := NB538_501.out; have hnc29 := NB501_538.out; have hnb30 := NB538_526.out; have hnc30 := NB526_538.out; obtain ⟨hcz31_0, hcz31_1, hcz31_2, hcz31_3, hcz31_4, hcz31_5, hcz31_6, hfz31_0, hfz31_1, hfz31_2, hfz31_3, hfz31_4, hfz31_5, hfz31_6⟩ := bk7 BK538.out; obtain ⟨Ao32, co32, eo32⟩ := Kd.R_slice HO531.out; subst eo32; obtain ⟨Ao33, co33, eo33⟩ := Kd.R_slice HO534.out; subst eo33) | ((with_reducible refine gate_callee (f := 29) rfl ?_); refine goesL_ (some 33) rfl rfl Try.func29 (by kernel_rfl) rfl #[.agg #[.bool t527, .bool t528, .slice Ao32 t529.length co32, .slice Ao33 t532.length co33, .int .i64 t535, .int .i64 t536, .int .i64 t537], .int .i64 a1] rfl mpx ?_; (with_reducible refine (impl_Stand.calls k t527 t528 _ _ t529 _ _ t532 t535 t536 t537 a1 t539 t540 t541 t544 t547 t548 t549 t550 _ ?side1 ?side2 ?side3 ?side4 A11.out).mono ?_); (case side1 => refine (Kd.R_reads' (e := 3) (base := w.heap.size) (ok := fun k_ => ((((some k_ ≠ (.slice Ao33 t532.length co33 : Value).ownBlock ∧ some k_ ≠ (.slice Ao18 t505.length co18 : Value).ownBlock) ∧ some k_ ≠ (.slice Ao19 t508.length co19 : Value).ownBlock) ∧ some k_ ≠ (.slice Ao24 t516.length co24 : Value).ownBlock) ∧ some k_ ≠ (.slice Ao25 t519.length co25 : Value).ownBlock)) (n := t529.length) (c := co32) ?_).2.2; exact (by (with_reducible repeat (first | apply Kd.R_alloc | apply Kd.R_drewN | apply Kd.R_drew)); exact (Kd.R_mono (Kd.R_far (p := ⟨gb538, 6, none⟩) (Kd.R_far (p := ⟨gb538, 5, none⟩) (Kd.R_far (p := ⟨gb538, 4, none⟩) (Kd.R_far (p := ⟨gb538, 3, none⟩) (Kd.R_far (p := ⟨gb538, 2, none⟩) (Kd.R_far (p := ⟨gb538, 1, none⟩) (Kd.R_far (p := ⟨gb538, 0, none⟩) (Kd.R_types HO531.out BK538.out (by decide)) (fun _ hk => hk.2) (.bool t527)) (fun _ hk => hk.2) (.bool t528)) (fun _ hk => hk.2) (.slice Ao32 t529.length co32)) (fun _ hk => hk.2) (.slice Ao33 t532.length co33)) (fun _ hk => hk.2) (.int .i64 t535)) (fun _ hk => hk.2) (.int .i64 t536)) (fun _ hk => hk.2) (.int .i64 t537)) (fun _ h_ => h_.1)))); (case side2 => exact (Kd.R_reads' HO531.out).2.1); (case side3 => refine (Kd.R_reads' (e := 3) (base := w.heap.size) (ok := fun k_ => ((((some k_ ≠ (.slice Ao32 t529.length co32 : Value).ownBlock ∧ some k_ ≠ (.slice Ao18 t505.length co18 : Value).ownBlock) ∧ some k_ ≠ (.slice Ao19 t508.length co19 : Value).ownBlock) ∧ some k_ ≠ (.slice Ao24 t516.length co24 : Value).ownBlock) ∧ some k_ ≠ (.slice Ao25 t519.length co25 : Value).ownBlock)) (n := t532.length) (c := co33) ?_).2.2; exact (by (with_reducible repeat (first | apply Kd.R_alloc | apply Kd.R_drewN | apply Kd.R_drew)); exact (Kd.R_mono (Kd.R_far (p := ⟨gb538, 6, none⟩) (Kd.R_far (p := ⟨gb538, 5, none⟩) (Kd.R_far (p := ⟨gb538, 4, none⟩) (Kd.R_far (p := ⟨gb538, 3, none⟩) (Kd.R_far (p := ⟨gb538, 2, none⟩) (Kd.R_far (p := ⟨gb538, 1, none⟩) (Kd.R_far (p := ⟨gb538, 0, none⟩) (Kd.R_types HO534.out BK538.out (by decide)) (fun _ hk => hk.2) (.bool t527)) (fun _ hk => hk.2) (.bool t528)) (fun _ hk => hk.2) (.slice Ao32 t529.length co32)) (fun _ hk => hk.2) (.slice Ao33 t532.length co33)) (fun _ hk => hk.2) (.int .i64 t535)) (fun _ hk => hk.2) (.int .i64 t536)) (fun _ hk => hk.2) (.int .i64 t537)) (fun _ h_ => h_.1)))); (case side4 => exact (Kd.R_reads' HO534.out).2.1); rintro e w34 ⟨v542, v545, rfl, ho0, ho1, hb⟩; refine ⟨_, rfl, ?_⟩; have HO543 := am (Kd.R_lower (Kd.R_new' (Kd.R_new' (Kd.R_new' (Kd.R_new' (Kd.R_new' (Kd.R_new' ho0 (Kd.R_lt (by (with_reducible repeat (first | apply Kd.R_alloc | apply Kd.R_drewN | apply Kd.R_drew)); exact (Kd.R_mono (Kd.R_far (p := ⟨gb538, 6, none⟩) (Kd.R_far (p := ⟨gb538, 5, none⟩) (Kd.R_far (p := ⟨gb538, 4, none⟩) (Kd.R_far (p := ⟨gb538, 3, none⟩) (Kd.R_far (p := ⟨gb538, 2, none⟩) (Kd.R_far (p := ⟨gb538, 1, none⟩) (Kd.R_far (p := ⟨gb538, 0, none⟩) (Kd.R_types HO507.out BK538.out (by decide)) (fun _ hk => hk.2) (.bool t527)) (fun _ hk => hk.2) (.bool t528)) (fun _ hk => hk.2) (.slice Ao32 t529.length co32)) (fun _ hk => hk.2) (.slice Ao33 t532.length co33)) (fun _ hk => hk.2) (.int .i64 t535)) (fun _ hk => hk.2) (.int .i64 t536)) (fun _ hk => hk.2) (.int .i64 t537)) (fun _ h_ => h_.1))))) (Kd.R_lt (by (with_reducible repeat (first | apply Kd.R_alloc | apply Kd.R_drewN | apply Kd.R_drew)); exact (Kd.R_mono (Kd.R_far (p := ⟨gb538, 6, none⟩) (Kd.R_far (p := ⟨gb538, 5, none⟩) (Kd.R_far (p := ⟨gb538, 4, none⟩) (Kd.R_far (p := ⟨gb538, 3, none⟩) (Kd.R_far (p := ⟨gb538, 2, none⟩) (Kd.R_far (p := ⟨gb538, 1, none⟩) (Kd.R_far (p := ⟨gb538, 0, none⟩) (Kd.R_types HO510.out BK538.out (by decide)) (fun _ hk => hk.2) (.bool t527)) (fun _ hk => hk.2) (.bool t528)) (fun _ hk => hk.2) (.slice Ao32 t529.length co32)) (fun _ hk => hk.2) (.slice Ao33 t532.length co33)) (fun _ hk => hk.2) (.int .i64 t535)) (fun _ hk => hk.2) (.int .i64 t536)) (fun _ hk => hk.2) (.int .i64 t537)) (fun _ h_ => h_.1))))) (Kd.R_lt (by (with_reducible repeat (first | apply Kd.R_alloc | apply Kd.R_drewN | apply Kd.R_drew)); exact (Kd.R_mono (Kd.R_far (p := ⟨gb538, 6, none⟩) (Kd.R_far (p := ⟨gb538, 5, none⟩) (Kd.R_far (p := ⟨gb538, 4, none⟩) (Kd.R_far (p := ⟨gb538, 3, none⟩) (Kd.R_far (p := ⟨gb538, 2, none⟩) (Kd.R_far (p := ⟨gb538, 1, none⟩) (Kd.R_far (p := ⟨gb538, 0, none⟩) (Kd.R_types HO518.out BK538.out (by decide)) (fun _ hk => hk.2) (.bool t527)) (fun _ hk => hk.2) (.bool t528)) (fun _ hk => hk.2) (.slice Ao32 t529.length co32)) (fun _ hk => hk.2) (.slice Ao33 t532.length co33)) (fun _ hk => hk.2) (.int .i64 t535)) (fun _ hk => hk.2) (.int .i64 t536)) (fun _ hk => hk.2) (.int .i64 t537)) (fun _ h_ => h_.1))))) (Kd.R_lt (by (with_reducible repeat (first | apply Kd.R_alloc | apply Kd.R_drewN | apply Kd.R_drew)); exact (Kd.R_mono (Kd.R_far (p := ⟨gb538, 6, none⟩) (Kd.R_far (p := ⟨gb538, 5, none⟩) (Kd.R_far (p := ⟨gb538, 4, none⟩) (Kd.R_far (p := ⟨gb538, 3, none⟩) (Kd.R_far (p := ⟨gb538, 2, none⟩) (Kd.R_far (p := ⟨gb538, 1, none⟩) (Kd.R_far (p := ⟨gb538, 0, none⟩) (Kd.R_types HO521.out BK538.out (by decide)) (fun _ hk => hk.2) (.bool t527)) (fun _ hk => hk.2) (.bool t528)) (fun _ hk => hk.2) (.slice Ao32 t529.length co32)) (fun _ hk => hk.2) (.slice Ao33 t532.length co33)) (fun _ hk => hk.2) (.int .i64 t535)) (fun _ hk => hk.2) (.int .i64 t536)) (fun _ hk => hk.2) (.int .i64 t537)) (fun _ h_ => h_.1))))) (Kd.R_lt (by (with_reducible repeat (first | apply Kd.R_alloc | apply Kd.R_drewN | apply Kd.R_drew)); exact (Kd.R_mono (Kd.R_far (p := ⟨gb538, 6, none⟩) (Kd.R_far (p := ⟨gb538, 5, none⟩) (Kd.R_far (p := ⟨gb538, 4, none⟩) (Kd.R_far (p := ⟨gb538, 3, none⟩) (Kd.R_far (p := ⟨gb538, 2, none⟩) (Kd.R_far (p := ⟨gb538, 1, none⟩) (Kd.R_far (p := ⟨gb538, 0, none⟩) (Kd.R_types HO531.out BK538.out (by decide)) (fun _ hk => hk.2) (.bool t527)) (fun _ hk => hk.2) (.bool t528)) (fun _ hk => hk.2) (.slice Ao32 t529.length co32)) (fun _ hk => hk.2) (.slice Ao33 t532.length co33)) (fun _ hk => hk.2) (.int .i64 t535)) (fun _ hk => hk.2) (.int .i64 t536)) (fun _ hk => hk.2) (.int .i64 t537)) (fun _ h_ => h_.1))))) (Kd.R_lt (by (with_reducible repeat (first | apply Kd.R_alloc | apply Kd.R_drewN | apply Kd.R_drew)); exact (Kd.R_mono (Kd.R_far (p := ⟨gb538, 6, none⟩) (Kd.R_far (p := ⟨gb538, 5, none⟩) (Kd.R_far (p := ⟨gb538, 4, none⟩) (Kd.R_far (p := ⟨gb538, 3, none⟩) (Kd.R_far (p := ⟨gb538, 2, none⟩) (Kd.R_far (p := ⟨gb538, 1, none⟩) (Kd.R_far (p := ⟨gb538, 0, none⟩) (Kd.R_types HO534.out BK538.out (by decide)) (fun _ hk => hk.2) (.bool t527)) (fun _ hk => hk.2) (.bool t528)) (fun _ hk => hk.2) (.slice Ao32 t529.length co32)) (fun _ hk => hk.2) (.slice Ao33 t532.length co33)) (fun _ hk => hk.2) (.int .i64 t535)) (fun _ hk => hk.2) (.int .i64 t536)) (fun _ hk => hk.2) (.int .i64 t537)) (fun _ h_ => h_.1))))) (below_size (pkW HB.out))); have HO546 := am (Kd.R_lower (Kd.R_new' (Kd.R_new' (Kd.R_new' (Kd.R_new' (Kd.R_new' (Kd.R_new' ho1 (Kd.R_lt (by (with_reducible repeat (first | apply Kd.R_alloc | apply Kd.R_drewN | apply Kd.R_drew)); exact (Kd.R_mono (Kd.R_far (p := ⟨gb538, 6, none⟩) (Kd.R_far (p := ⟨gb538, 5, none⟩) (Kd.R_far (p := ⟨gb538, 4, none⟩) (Kd.R_far (p := ⟨gb538, 3, none⟩) (Kd.R_far (p := ⟨gb538, 2, none⟩) (Kd.R_far (p := ⟨gb538, 1, none⟩) (Kd.R_far (p := ⟨gb538, 0, none⟩) (Kd.R_types HO507.out BK538.out (by decide)) (fun _ hk => hk.2) (.bool t527)) (fun _ hk => hk.2) (.bool t528)) (fun _ hk => hk.2) (.slice Ao32 t529.length co32)) (fun _ hk => hk.2) (.slice Ao33 t532.length co33)) (fun _ hk => hk.2) (.int .i64 t535)) (fun _ hk => hk.2) (.int .i64 t536)) (fun _ hk => hk.2) (.int .i64 t537)) (fun _ h_ => h_.1))))) (Kd.R_lt (by (with_reducible repeat (first | apply Kd.R_alloc | apply Kd.R_drewN | apply Kd.R_drew)); exact (Kd.R_mono (Kd.R_far (p := ⟨gb538, 6, none⟩) (Kd.R_far (p := ⟨gb538, 5, none⟩) (Kd.R_far (p := ⟨gb538, 4, none⟩) (Kd.R_far (p := ⟨gb538, 3, none⟩) (Kd.R_far (p := ⟨gb538, 2, none⟩) (Kd.R_far (p := ⟨gb538, 1, none⟩) (Kd.R_far (p := ⟨gb538, 0, none⟩) (Kd.R_types HO510.out BK538.out (by decide)) (fun _ hk => hk.2) (.bool t527)) (fun _ hk => hk.2) (.bool t528)) (fun _ hk => hk.2) (.slice Ao32 t529.length co32)) (fun _ hk => hk.2) (.slice Ao33 t532.length co33)) (fun _ hk => hk.2) (.int .i64 t535)) (fun _ hk => hk.2) (.int .i64 t536)) (fun _ hk => hk.2) (.int .i64 t537)) (fun _ h_ => h_.1))))) (Kd.R_lt (by (with_reducible repeat (first | apply Kd.R_alloc | apply Kd.R_drewN | apply Kd.R_drew)); exact (Kd.R_mono (Kd.R_far (p := ⟨gb538, 6, none⟩) (Kd.R_far (p := ⟨gb538, 5, none⟩) (Kd.R_far (p := ⟨gb538, 4, none⟩) (Kd.R_far (p := ⟨gb538, 3, none⟩) (Kd.R_far (p := ⟨gb538, 2, none⟩) (Kd.R_far (p := ⟨gb538, 1, none⟩) (Kd.R_far (p := ⟨gb538, 0, none⟩) (Kd.R_types HO518.out BK538.out (by decide)) (fun _ hk => hk.2) (.bool t527)) (fun _ hk => hk.2) (.bool t528)) (fun _ hk => hk.2) (.slice Ao32 t529.length co32)) (fun _ hk => hk.2) (.slice Ao33 t532.length co33)) (fun _ hk => hk.2) (.int .i64 t535)) (fun _ hk => hk.2) (.int .i64 t536)) (fun _ hk => hk.2) (.int .i64 t537)) (fun _ h_ => h_.1))))) (Kd.R_lt (by (with_reducible repeat (first | apply Kd.R_alloc | apply Kd.R_drewN | apply Kd.R_drew)); exact (Kd.R_mono (Kd.R_far (p := ⟨gb538, 6, none⟩) (Kd.R_far (p := ⟨gb538, 5, none⟩) (Kd.R_far (p := ⟨gb538, 4, none⟩) (Kd.R_far (p := ⟨gb538, 3, none⟩) (Kd.R_far (p := ⟨gb538, 2, none⟩) (Kd.R_far (p := ⟨gb538, 1, none⟩) (Kd.R_far (p := ⟨gb538, 0, none⟩) (Kd.R_types HO521.out BK538.out (by decide)) (fun _ hk => hk.2) (.bool t527)) (fun _ hk => hk.2) (.bool t528)) (fun _ hk => hk.2) (.slice Ao32 t529.length co32)) (fun _ hk => hk.2) (.slice Ao33 t532.length co33)) (fun _ hk => hk.2) (.int .i64 t535)) (fun _ hk => hk.2) (.int .i64 t536)) (fun _ hk => hk.2) (.int .i64 t537)) (fun _ h_ => h_.1))))) (Kd.R_lt (by (with_reducible repeat (first | apply Kd.R_alloc | apply Kd.R_drewN | apply Kd.R_drew)); exact (Kd.R_mono (Kd.R_far (p := ⟨gb538, 6, none⟩) (Kd.R_far (p := ⟨gb538, 5, none⟩) (Kd.R_far (p := ⟨gb538, 4, none⟩) (Kd.R_far (p := ⟨gb538, 3, none⟩) (Kd.R_far (p := ⟨gb538, 2, none⟩) (Kd.R_far (p := ⟨gb538, 1, none⟩) (Kd.R_far (p := ⟨gb538, 0, none⟩) (Kd.R_types HO531.out BK538.out (by decide)) (fun _ hk => hk.2) (.bool t527)) (fun _ hk => hk.2) (.bool t528)) (fun _ hk => hk.2) (.slice Ao32 t529.length co32)) (fun _ hk => hk.2) (.slice Ao33 t532.length co33)) (fun _ hk => hk.2) (.int .i64 t535)) (fun _ hk => hk.2) (.int .i64 t536)) (fun _ hk => hk.2) (.int .i64 t537)) (fun _ h_ => h_.1))))) (Kd.R_lt (by (with_reducible repeat (first | apply Kd.R_alloc | apply Kd.R_drewN | apply Kd.R_drew)); exact (Kd.R_mono (Kd.R_far (p := ⟨gb538, 6, none⟩) (Kd.R_far (p := ⟨gb538, 5, none⟩) (Kd.R_far (p := ⟨gb538, 4, none⟩) (Kd.R_far (p := ⟨gb538, 3, none⟩) (Kd.R_far (p := ⟨gb538, 2, none⟩) (Kd.R_far (p := ⟨gb538, 1, none⟩) (Kd.R_far (p := ⟨gb538, 0, none⟩) (Kd.R_types HO534.out BK538.out (by decide)) (fun _ hk => hk.2) (.bool t527)) (fun _ hk => hk.2) (.bool t528)) (fun _ hk => hk.2) (.slice Ao32 t529.length co32)) (fun _ hk => hk.2) (.slice Ao33 t532.length co33)) (fun _ hk => hk.2) (.int .i64 t535)) (fun _ hk => hk.2) (.int .i64 t536)) (fun _ hk => hk.2) (.int .i64 t537)) (fun _ h_ => h_.1))))) (below_size (pkW HB.out))); replace HO507 := am (Kd.R_mono (Kd.R_told (Kd.R_told (Kd.R_old (by (with_reducible repeat (first | apply Kd.R_alloc | apply Kd.R_drewN | apply Kd.R_drew)); exact (Kd.R_mono (Kd.R_far (p := ⟨gb538, 6, none⟩) (Kd.R_far (p := ⟨gb538, 5, none⟩) (Kd.R_far (p := ⟨gb538, 4, none⟩) (Kd.R_far (p := ⟨gb538, 3, none⟩) (Kd.R_far (p := ⟨gb538, 2, none⟩) (Kd.R_far (p := ⟨gb538, 1, none⟩) (Kd.R_far (p := ⟨gb538, 0, none⟩) (Kd.R_types HO507.out BK538.out (by decide)) (fun _ hk => hk.2) (.bool t527)) (fun _ hk => hk.2) (.bool t528)) (fun _ hk => hk.2) (.slice Ao32 t529.length co32)) (fun _ hk => hk.2) (.slice Ao33 t532.length co33)) (fun _ hk => hk.2) (.int .i64 t535)) (fun _ hk => hk.2) (.int .i64 t536)) (fun _ hk => hk.2) (.int .i64 t537)) (fun _ h_ => h_.1))) hb) (Kd.R_base ho0)) (Kd.R_base ho1)) (fun _ h_ => h_.1)); replace HO510 := am (Kd.R_mono (Kd.R_told (Kd.R_told (Kd.R_old (by (with_reducible repeat (first | apply Kd.R_alloc | apply Kd.R_drewN | apply Kd.R_drew)); exact (Kd.R_mono (Kd.R_far (p := ⟨gb538, 6, none⟩) (Kd.R_far (p := ⟨gb538, 5, none⟩) (Kd.R_far (p := ⟨gb538, 4, none⟩) (Kd.R_far (p := ⟨gb538, 3, none⟩) (Kd.R_far (p := ⟨gb538, 2, none⟩) (Kd.R_far (p := ⟨gb538, 1, none⟩) (Kd.R_far (p := ⟨gb538, 0, none⟩) (Kd.R_types HO510.out BK538.out (by decide)) (fun _ hk => hk.2) (.bool t527)) (fun _ hk => hk.2) (.bool t528)) (fun _ hk => hk.2) (.slice Ao32 t529.length co32)) (fun _ hk => hk.2) (.slice Ao33 t532.length co33)) (fun _ hk => hk.2) (.int .i64 t535)) (fun _ hk => hk.2) (.int .i64 t536)) (fun _ hk => hk.2) (.int .i64 t537)) (fun _ h_ => h_.1))) hb) (Kd.R_base ho0)) (Kd.R_base ho1)) (fun _ h_ => h_.1)); replace HO518 := am (Kd.R_mono (Kd.R_told (Kd.R_told (Kd.R_old (by (with_reducible repeat (first | apply Kd.R_alloc | apply Kd.R_drewN | apply Kd.R_drew)); exact (Kd.R_mono (Kd.R_far (p := ⟨gb538, 6, none⟩) (Kd.R_far (p := ⟨gb538, 5, none⟩) (Kd.R_far (p := ⟨gb538, 4, none⟩) (Kd.R_far (p := ⟨gb538, 3, none⟩) (Kd.R_far (p := ⟨gb538, 2, none⟩) (Kd.R_far (p := ⟨gb538, 1, none⟩) (Kd.R_far (p := ⟨gb538, 0, none⟩) (Kd.R_types HO518.out BK538.out (by decide)) (fun _ hk => hk.2) (.bool t527)) (fun _ hk => hk.2) (.bool t528)) (fun _ hk => hk.2) (.slice Ao32 t529.length co32)) (fun _ hk => hk.2) (.slice Ao33 t532.length co33)) (fun _ hk => hk.2) (.int .i64 t535)) (fun _ hk => hk.2) (.int .i64 t536)) (fun _ hk => hk.2) (.int .i64 t537)) (fun _ h_ => h_.1))) hb) (Kd.R_base ho0)) (Kd.R_base ho1)) (fun _ h_ => h_.1)); replace HO521 := am (Kd.R_mono (Kd.R_told (Kd.R_told (Kd.R_old (by (with_reducible repeat (first | apply Kd.R_alloc | apply Kd.R_drewN | apply Kd.R_drew)); exact (Kd.R_mono (Kd.R_far (p := ⟨gb538, 6, none⟩) (Kd.R_far (p := ⟨gb538, 5, none⟩) (Kd.R_far (p := ⟨gb538, 4, none⟩) (Kd.R_far (p := ⟨gb538, 3, none⟩) (Kd.R_far (p := ⟨gb538, 2, none⟩) (Kd.R_far (p := ⟨gb538, 1, none⟩) (Kd.R_far (p := ⟨gb538, 0, none⟩) (Kd.R_types HO521.out BK538.out (by decide)) (fun _ hk => hk.2) (.bool t527)) (fun _ hk => hk.2) (.bool t528)) (fun _ hk => hk.2) (.slice Ao32 t529.length co32)) (fun _ hk => hk.2) (.slice Ao33 t532.length co33)) (fun _ hk => hk.2) (.int .i64 t535)) (fun _ hk => hk.2) (.int .i64 t536)) (fun _ hk => hk.2) (.int .i64 t537)) (fun _ h_ => h_.1))) hb) (Kd.R_base ho0)) (Kd.R_base ho1)) (fun _ h_ => h_.1)); replace HO531 := am (Kd.R_mono (Kd.R_told (Kd.R_told (Kd.R_old (by (with_reducible repeat (first | apply Kd.R_alloc | apply Kd.R_drewN | apply Kd.R_drew)); exact (Kd.R_mono (Kd.R_far (p := ⟨gb538, 6, none⟩) (Kd.R_far (p := ⟨gb538, 5, none⟩) (Kd.R_far (p := ⟨gb538, 4, none⟩) (Kd.R_far (p := ⟨gb538, 3, none⟩) (Kd.R_far (p := ⟨gb538, 2, none⟩) (Kd.R_far (p := ⟨gb538, 1, none⟩) (Kd.R_far (p := ⟨gb538, 0, none⟩) (Kd.R_types HO531.out BK538.out (by decide)) (fun _ hk => hk.2) (.bool t527)) (fun _ hk => hk.2) (.bool t528)) (fun _ hk => hk.2) (.slice Ao32 t529.length co32)) (fun _ hk => hk.2) (.slice Ao33 t532.length co33)) (fun _ hk => hk.2) (.int .i64 t535)) (fun _ hk => hk.2) (.int .i64 t536)) (fun _ hk => hk.2) (.int .i64 t537)) (fun _ h_ => h_.1))) hb) (Kd.R_base ho0)) (Kd.R_base ho1)) (fun _ h_ => h_.1)); replace HO534 := am (Kd.R_mono (Kd.R_told (Kd.R_told (Kd.R_old (by (with_reducible repeat (first | apply Kd.R_alloc | apply Kd.R_drewN | apply Kd.R_drew)); exact (Kd.R_mono (Kd.R_far (p := ⟨gb538, 6, none⟩) (Kd.R_far (p := ⟨gb538, 5, none⟩) (Kd.R_far (p := ⟨gb538, 4, none⟩) (Kd.R_far (p := ⟨gb538, 3, none⟩) (Kd.R_far (p := ⟨gb538, 2, none⟩) (Kd.R_far (p := ⟨gb538, 1, none⟩) (Kd.R_far (p := ⟨gb538, 0, none⟩) (Kd.R_types HO534.out BK538.out (by decide)) (fun _ hk => hk.2) (.bool t527)) (fun _ hk => hk.2) (.bool t528)) (fun _ hk => hk.2) (.slice Ao32 t529.length co32)) (fun _ hk => hk.2) (.slice Ao33 t532.length co33)) (fun _ hk => hk.2) (.int .i64 t535)) (fun _ hk => hk.2) (.int .i64 t536)) (fun _ hk => hk.2) (.int .i64 t537)) (fun _ h_ => h_.1))) hb) (Kd.R_base ho0)) (Kd.R_base ho1)) (fun _ h_ => h_.1)); replace BK501 := am (blk_below (g := gb501) (o := .cells #[.bool a0_0, .bool a0_1, .slice A0_2 l0_2.length c0_2, .slice A0_3 l0_3.length c0_3, .int .i64 a0_4, .int .i64 a0_5, .int .i64 a0_6] 24 (0, 0)) (by (with_reducible repeat (first | refine blk_drewN ?_ _ | refine blk_drew ?_ | refine blk_alloc ?_ _)); refine blk_far ?_ NB501_538.out _; (with_reducible repeat (first | refine blk_drewN ?_ _ | refine blk_drew ?_ | refine blk_alloc ?_ _)); refine blk_far ?_ NB501_538.out _; (with_reducible repeat (first | refine blk_drewN ?_ _ | refine blk_drew ?_ | refine blk_alloc ?_ _)); refine blk_far ?_ NB501_538.out _; (with_reducible repeat (first | refine blk_drewN ?_ _ | refine blk_drew ?_ | refine blk_alloc ?_ _)); refine blk_far ?_ NB501_538.out _; (with_reducible repeat (first | refine blk_drewN ?_ _ | refine blk_drew ?_ | refine blk_alloc ?_ _)); refine blk_far ?_ NB501_538.out _; (with_reducible repeat (first | refine blk_drewN ?_ _ | refine blk_drew ?_ | refine blk_alloc ?_ _)); refine blk_far ?_ NB501_538.out _; (with_reducible repeat (first | refine blk_drewN ?_ _ | refine blk_drew ?_ | refine blk_alloc ?_ _)); refine blk_far ?_ NB501_538.out _; exact pkK BK501.out) hb); replace BK526 := am (blk_below (g := gb526) (o := .cells #[.bool t514, .bool t515, .slice Ao24 t516.length co24, .slice Ao25 t519.length co25, .int .i64 t522, .int .i64 t523, .int .i64 t524] 27 (0, 0)) (by (with_reducible repeat (first | refine blk_drewN ?_ _ | refine blk_drew ?_ | refine blk_alloc ?_ _)); refine blk_far ?_ NB526_538.out _; (with_reducible repeat (first | refine blk_drewN ?_ _ | refine blk_drew ?_ | refine blk_alloc ?_ _)); refine blk_far ?_ NB526_538.out _; (with_reducible repeat (first | refine blk_drewN ?_ _ | refine blk_drew ?_ | refine blk_alloc ?_ _)); refine blk_far ?_ NB526_538.out _; (with_reducible repeat (first | refine blk_drewN ?_ _ | refine blk_drew ?_ | refine blk_alloc ?_ _)); refine blk_far ?_ NB526_538.out _; (with_reducible repeat (first | refine blk_drewN ?_ _ | refine blk_drew ?_ | refine blk_alloc ?_ _)); refine blk_far ?_ NB526_538.out _; (with_reducible repeat (first | refine blk_drewN ?_ _ | refine blk_drew ?_ | refine blk_alloc ?_ _)); refine blk_far ?_ NB526_538.out _; (with_reducible repeat (first | refine blk_drewN ?_ _ | refine blk_drew ?_ | refine blk_alloc ?_ _)); refine blk_far ?_ NB526_538.out _; exact pkK BK526.out) hb); replace BK538 := am (blk_below (g := gb538) (o := .cells #[.bool t527, .bool t528, .slice Ao32 t529.length co32, .slice Ao33 t532.length co33, .int .i64 t535, .int .i64 t536, .int .i64 t537] 27 (0, 0)) (by (with_reducible repeat (first | refine blk_drewN ?_ _ | refine blk_drew ?_ | refine blk_alloc ?_ _)); refine blk_put (cs := #[.bool t527, .bool t528, .slice Ao32 t529.length co32, .slice Ao33 t532.length co33, .int .i64 t535, .int .i64 t536, .int .i64 0]) ?_ 6 _ rfl; (with_reducible repeat (first | refine blk_drewN ?_ _ | refine blk_drew ?_ | refine blk_alloc ?_ _)); refine blk_put (cs := #[.bool t527, .bool t528, .slice Ao32 t529.length co32, .slice Ao33 t532.length co33, .int .i64 t535, .int .i64 0, .int .i64 0]) ?_ 5 _ rfl; (with_reducible repeat (first | refine blk_drewN ?_ _ | refine blk_drew ?_ | refine blk_alloc ?_ _)); refine blk_put (cs := #[.bool t527, .bool t528, .slice Ao32 t529.length co32, .slice Ao33 t532.length co33, .int .i64 0, .int .i64 0, .int .i64 0]) ?_ 4 _ rfl; (with_reducible repeat (first | refine blk_drewN ?_ _ | refine blk_drew ?_ | refine blk_alloc ?_ _)); refine blk_put (cs := #[.bool t527, .bool t528, .slice Ao32 t529.length co32, .slice none 0 0, .int .i64 0, .int .i64 0, .int .i64 0]) ?_ 3 _ rfl; (with_reducible repeat (first | refine blk_drewN ?_ _ | refine blk_drew ?_ | refine blk_alloc ?_ _)); refine blk_put (cs := #[.bool t527, .bool t528, .slice none 0 0, .slice none 0 0, .int .i64 0, .int .i64 0, .int .i64 0]) ?_ 2 _ rfl; (with_reducible repeat (first | refine blk_drewN ?_ _ | refine blk_drew ?_ | refine blk_alloc ?_ _)); refine blk_put (cs := #[.bool t527, .bool false, .slice none 0 0, .slice none 0 0, .int .i64 0, .int .i64 0, .int .i64 0]) ?_ 1 _ rfl; (with_reducible repeat (first | refine blk_drewN ?_ _ | refine blk_drew ?_ | refine blk_alloc ?_ _)); refine blk_put (cs := #[.bool false, .bool false, .slice none 0 0, .slice none 0 0, .int .i64 0, .int .i64 0, .int .i64 0]) ?_ 0 _ rfl; exact pkK BK538.out) hb); replace HB := am (below_step (pkW HB.out) hb); (try clear hb ho0 ho1)) | ((with_reducible refine gate_dst (N := 9) rfl ?_); refine box_event ?hg (N := 9) ?hd (cs := #[.bool false, .bool false, .slice none 0 0, .slice none 0 0, .int .i64 0, .int .i64 0, .int .i64 0]) (t := 27) ?hr ?_; (case hd => rfl); (case hg => rfl); (case hr => first | (go_simp; done) | (go_simp; rfl)); intro gb551 hg w35 hbox hb; replace HO507 := am (Kd.R_below (pkR HO507.out) hb); replace HO510 := am (Kd.R_below (pkR HO510.out) hb); replace HO518 := am (Kd.R_below (pkR HO518.out) hb); replace HO521 := am (Kd.R_below (pkR HO521.out) hb); replace HO531 := am (Kd.R_below (pkR HO531.out) hb); replace HO534 := am (Kd.R_below (pkR HO534.out) hb); replace HO543 := am (Kd.R_below (pkR HO543.out) hb); replace HO546 := am (Kd.R_below (pkR HO546.out) hb); have BK551 := am (hbox); have GW551 := am ((by rw [hg]; exact (below_size (pkW HB.out)) : w.heap.size ≤ gb551)); have GE551 := am ((by rw [hg]; exact (below_size (pkW HB.out)) : w.heap.size ≤ gb551)); replace HB := am (below_step (pkW HB.out) hb); have NB501_551 := am ((by rw [hg]; exact Nat.ne_of_lt (blk_lt (g := gb501) (o := .cells #[.bool a0_0, .bool a0_1, .slice A0_2 l0_2.length c0_2, .slice A0_3 l0_3.length c0_3, .int .i64 a0_4, .int .i64 a0_5, .int .i64 a0_6] 24 (0, 0)) (pkK BK501.out)) : gb501 ≠ gb551)); have NB551_501 := am ((by rw [hg]; exact Nat.ne_of_gt (blk_lt (g := gb501) (o := .cells #[.bool a0_0, .bool a0_1, .slice A0_2 l0_2.length c0_2, .slice A0_3 l0_3.length c0_3, .int .i64 a0_4, .int .i64 a0_5, .int .i64 a0_6] 24 (0, 0)) (pkK BK501.out)) : gb551 ≠ gb501)); replace BK501 := am (blk_below (pkK BK501.out) hb); have NB526_551 := am ((by rw [hg]; exact Nat.ne_of_lt (blk_lt (g := gb526) (o := .cells #[.bool t514, .bool t515, .slice Ao24 t516.length co24, .slice Ao25 t519.length co25, .int .i64 t522, .int .i64 t523, .int .i64 t524] 27 (0, 0)) (pkK BK526.out)) : gb526 ≠ gb551)); have NB551_526 := am ((by rw [hg]; exact Nat.ne_of_gt (blk_lt (g := gb526) (o := .cells #[.bool t514, .bool t515, .slice Ao24 t516.length co24, .slice Ao25 t519.length co25, .int .i64 t522, .int .i64 t523, .int .i64 t524] 27 (0, 0)) (pkK BK526.out)) : gb551 ≠ gb526)); replace BK526 := am (blk_below (pkK BK526.out) hb); have NB538_551 := am ((by rw [hg]; exact Nat.ne_of_lt (blk_lt (g := gb538) (o := .cells #[.bool t527, .bool t528, .slice Ao32 t529.length co32, .slice Ao33 t532.length co33, .int .i64 t535, .int .i64 t536, .int .i64 t537] 27 (0, 0)) (pkK BK538.out)) : gb538 ≠ gb551)); have NB551_538 := am ((by rw [hg]; exact Nat.ne_of_gt (blk_lt (g := gb538) (o := .cells #[.bool t527, .bool t528, .slice Ao32 t529.length co32, .slice Ao33 t532.length co33, .int .i64 t535, .int .i64 t536, .int .i64 t537] 27 (0, 0)) (pkK BK538.out)) : gb551 ≠ gb538)); replace BK538 := am (blk_below (pkK BK538.out) hb); clear hb hbox hg; have hnb36 := NB551_501.out; have hnc36 := NB501_551.out; have hnb37 := NB551_526.out; have hnc37 := NB526_551.out; have hnb38 := NB551_538.out; have hnc38 := NB538_551.out; obtain ⟨hcz39_0, hcz39_1, hcz39_2, hcz39_3, hcz39_4, hcz39_5, hcz39_6, hfz39_0, hfz39_1, hfz39_2, hfz39_3, hfz39_4, hfz39_5, hfz39_6⟩ := bk7 BK551.out; obtain ⟨Ao40, co40, eo40⟩ := Kd.R_slice HO543.out; subst eo40; obtain ⟨Ao41, co41, eo41⟩ := Kd.R_slice HO546.out; subst eo41))
  (try simp only [Act.put, List.setIfInBounds_toArray, List.set_cons_zero, List.set_cons_succ])
  go_cut [44] (fun v44 wc => ∃ (kq : Nat) (x44_11 : Bool), v44 = .bool x44_11 ∧ Aside0 (laws_FnExactStand.j0 kq a1 t525 t550 x44_11 a0_0 a0_1 l0_2 l0_3 a0_4 a0_5 a0_6 t514 t515 t516 t519 t522 t523 t524 t527 t528 t529 t532 t535 t536 t537 t539 t540 t541 t544 t547 t548 t549 = some r) ∧ Aside0 (kq ≤ k) ∧ Aside0 (Kd.R (Kd.int .i64) 3 wc w.heap.size (fun k_ => some k_ ≠ ((.slice Ao25 t519.length co25) : Value).ownBlock ∧ some k_ ≠ ((.slice Ao32 t529.length co32) : Value).ownBlock ∧ some k_ ≠ ((.slice Ao33 t532.length co33) : Value).ownBlock ∧ some k_ ≠ ((.slice Ao40 t541.length co40) : Value).ownBlock ∧ some k_ ≠ ((.slice Ao41 t544.length co41) : Value).ownBlock) (.slice Ao24 t516.length co24) t516) ∧ Aside0 (Kd.R (Kd.int .i64) 3 wc w.heap.size (fun k_ => some k_ ≠ ((.slice Ao24 t516.length co24) : Value).ownBlock ∧ some k_ ≠ ((.slice Ao32 t529.length co32) : Value).ownBlock ∧ some k_ ≠ ((.slice Ao33 t532.length co33) : Value).ownBlock ∧ some k_ ≠ ((.slice Ao40 t541.length co40) : Value).ownBlock ∧ some k_ ≠ ((.slice Ao41 t544.length co41) : Value).ownBlock) (.slice Ao25 t519.length co25) t519) ∧ Aside0 (Kd.Q (Kd.int .i64) 3 wc w.heap.size (fun k_ => some k_ ≠ ((.slice Ao24 t516.length co24) : Value).ownBlock ∧ some k_ ≠ ((.slice Ao25 t519.length co25) : Value).ownBlock ∧ some k_ ≠ ((.slice Ao33 t532.length co33) : Value).ownBlock ∧ some k_ ≠ ((.slice Ao40 t541.length co40) : Value).ownBlock ∧ some k_ ≠ ((.slice Ao41 t544.length co41) : Value).ownBlock) (.slice Ao32 t529.length co32) t529) ∧ Aside0 (Kd.Q (Kd.int .i64) 3 wc w.heap.size (fun k_ => some k_ ≠ ((.slice Ao24 t516.length co24) : Value).ownBlock ∧ some k_ ≠ ((.slice Ao25 t519.length co25) : Value).ownBlock ∧ some k_ ≠ ((.slice Ao32 t529.length co32) : Value).ownBlock ∧ some k_ ≠ ((.slice Ao40 t541.length co40) : Value).ownBlock ∧ some k_ ≠ ((.slice Ao41 t544.length co41) : Value).ownBlock) (.slice Ao33 t532.length co33) t532) ∧ Aside0 (Kd.Q (Kd.int .i64) 3 wc w.heap.size (fun k_ => some k_ ≠ ((.slice Ao24 t516.length co24) : Value).ownBlock ∧ some k_ ≠ ((.slice Ao25 t519.length co25) : Value).ownBlock ∧ some k_ ≠ ((.slice Ao32 t529.length co32) : Value).ownBlock ∧ some k_ ≠ ((.slice Ao33 t532.length co33) : Value).ownBlock ∧ some k_ ≠ ((.slice Ao41 t544.length co41) : Value).ownBlock) (.slice Ao40 t541.length co40) t541) ∧ Aside0 (Kd.Q (Kd.int .i64) 3 wc w.heap.size (fun k_ => some k_ ≠ ((.slice Ao24 t516.length co24) : Value).ownBlock ∧ some k_ ≠ ((.slice Ao25 t519.length co25) : Value).ownBlock ∧ some k_ ≠ ((.slice Ao32 t529.length co32) : Value).ownBlock ∧ some k_ ≠ ((.slice Ao33 t532.length co33) : Value).ownBlock ∧ some k_ ≠ ((.slice Ao40 t541.length co40) : Value).ownBlock) (.slice Ao41 t544.length co41) t544) ∧ Aside0 (wc.heap[gb501]? = some (.cells #[.bool a0_0, .bool a0_1, (.slice A0_2 l0_2.length c0_2), (.slice A0_3 l0_3.length c0_3), .int .i64 a0_4, .int .i64 a0_5, .int .i64 a0_6] 24 (0, 0))) ∧ Aside0 (wc.heap[gb526]? = some (.cells #[.bool t514, .bool t515, (.slice Ao24 t516.length co24), (.slice Ao25 t519.length co25), .int .i64 t522, .int .i64 t523, .int .i64 t524] 27 (0, 0))) ∧ Aside0 (wc.heap[gb538]? = some (.cells #[.bool t527, .bool t528, (.slice Ao32 t529.length co32), (.slice Ao33 t532.length co33), .int .i64 t535, .int .i64 t536, .int .i64 t537] 27 (0, 0))) ∧ Aside0 (wc.heap[gb551]? = some (.cells #[.bool t539, .bool t540, (.slice Ao40 t541.length co40), (.slice Ao41 t544.length co41), .int .i64 t547, .int .i64 t548, .int .i64 t549] 27 (0, 0))) ∧ Aside0 (Below w.heap.size w wc))
  case first =>
   have H := HC12.out
   clear HC12
   replace H := Option.bind_eq_some_iff.mp H
   obtain ⟨t552, A420, H⟩ := H
   replace H : (if t552 = true then (laws_FnExactStand.j0 k a1 t525 t550 (t550 != t525) a0_0 a0_1 l0_2 l0_3 a0_4 a0_5 a0_6 t514 t515 t516 t519 t522 t523 t524 t527 t528 t529 t532 t535 t536 t537 t539 t540 t541 t544 t547 t548 t549) else (laws_FnExactStand.j0 k a1 t525 t550 true a0_0 a0_1 l0_2 l0_3 a0_4 a0_5 a0_6 t514 t515 t516 t519 t522 t523 t524 t527 t528 t529 t532 t535 t536 t537 t539 t540 t541 t544 t547 t548 t549)) = some r := H
   have A42 := am A420
   clear A420
   by_cases c43 : t552 = true
   ·subst c43
    replace H : (laws_FnExactStand.j0 k a1 t525 t550 (t550 != t525) a0_0 a0_1 l0_2 l0_3 a0_4 a0_5 a0_6 t514 t515 t516 t519 t522 t523 t524 t527 t528 t529 t532 t535 t536 t537 t539 t540 t541 t544 t547 t548 t549) = some r := by rw [if_pos rfl] at H; exact H
    have H' := am H
    clear H
    have hnb44 := NB551_501.out
    have hnc44 := NB501_551.out
    have hnb45 := NB551_526.out
    have hnc45 := NB526_551.out
    have hnb46 := NB551_538.out
    have hnc46 := NB538_551.out
    obtain ⟨hcz47_0, hcz47_1, hcz47_2, hcz47_3, hcz47_4, hcz47_5, hcz47_6, hfz47_0, hfz47_1, hfz47_2, hfz47_3, hfz47_4, hfz47_5, hfz47_6⟩ := bk7 BK551.out
    have hnb48 := NB526_501.out
    have hnc48 := NB501_526.out
    have hnb49 := NB526_538.out
    have hnc49 := NB538_526.out
    obtain ⟨hcz50_0, hcz50_1, hcz50_2, hcz50_3, hcz50_4, hcz50_5, hcz50_6, hfz50_0, hfz50_1, hfz50_2, hfz50_3, hfz50_4, hfz50_5, hfz50_6⟩ := bk7 BK526.out
    go_wp2_with (first | ((with_reducible refine gate_callee (f := 18) rfl ?_); refine goesL_ (some 38) rfl rfl Try.func18 (by kernel_rfl) rfl #[.agg #[.bool t539, .bool t540, .slice Ao40 t541.length co40, .slice Ao41 t544.length co41, .int .i64 t547, .int .i64 t548, .int .i64 t549], .agg #[.bool t514, .bool t515, .slice Ao24 t516.length co24, .slice Ao25 t519.length co25, .int .i64 t522, .int .i64 t523, .int .i64 t524]] rfl mpx ?_; (with_reducible refine (laws_eqEvent.calls k t539 t540 _ _ t541 _ _ t544 t547 t548 t549 t514 t515 _ _ t516 _ _ t519 t522 t523 t524 true _ ?side1 ?side2 ?side3 ?side4 ?side5 ?side6 ?side7 ?side8 A42.out).mono ?_); (case side1 => refine (Kd.R_reads' (e := 3) (base := w.heap.size) (ok := fun k_ => ((((((some k_ ≠ (.slice Ao41 t544.length co41 : Value).ownBlock ∧ some k_ ≠ (.slice Ao18 t505.length co18 : Value).ownBlock) ∧ some k_ ≠ (.slice Ao19 t508.length co19 : Value).ownBlock) ∧ some k_ ≠ (.slice Ao24 t516.length co24 : Value).ownBlock) ∧ some k_ ≠ (.slice Ao25 t519.length co25 : Value).ownBlock) ∧ some k_ ≠ (.slice Ao32 t529.length co32 : Value).ownBlock) ∧ some k_ ≠ (.slice Ao33 t532.length co33 : Value).ownBlock)) (n := t541.length) (c := co40) ?_).2.2; exact (by (with_reducible repeat (first | apply Kd.R_alloc | apply Kd.R_drewN | apply Kd.R_drew)); exact (Kd.R_mono (Kd.R_far (p := ⟨gb551, 6, none⟩) (Kd.R_far (p := ⟨gb551, 5, none⟩) (Kd.R_far (p := ⟨gb551, 4, none⟩) (Kd.R_far (p := ⟨gb551, 3, none⟩) (Kd.R_far (p := ⟨gb551, 2, none⟩) (Kd.R_far (p := ⟨gb551, 1, none⟩) (Kd.R_far (p := ⟨gb551, 0, none⟩) (Kd.R_types HO543.out BK551.out (by decide)) (fun _ hk => hk.2) (.bool t539)) (fun _ hk => hk.2) (.bool t540)) (fun _ hk => hk.2) (.slice Ao40 t541.length co40)) (fun _ hk => hk.2) (.slice Ao41 t544.length co41)) (fun _ hk => hk.2) (.int .i64 t547)) (fun _ hk => hk.2) (.int .i64 t548)) (fun _ hk => hk.2) (.int .i64 t549)) (fun _ h_ => h_.1)))); (case side2 => exact (Kd.R_reads' HO543.out).2.1); (case side3 => refine (Kd.R_reads' (e := 3) (base := w.heap.size) (ok := fun k_ => ((((((some k_ ≠ (.slice Ao40 t541.length co40 : Value).ownBlock ∧ some k_ ≠ (.slice Ao18 t505.length co18 : Value).ownBlock) ∧ some k_ ≠ (.slice Ao19 t508.length co19 : Value).ownBlock) ∧ some k_ ≠ (.slice Ao24 t516.length co24 : Value).ownBlock) ∧ some k_ ≠ (.slice Ao25 t519.length co25 : Value).ownBlock) ∧ some k_ ≠ (.slice Ao32 t529.length co32 : Value).ownBlock) ∧ some k_ ≠ (.slice Ao33 t532.length co33 : Value).ownBlock)) (n := t544.length) (c := co41) ?_).2.2; exact (by (with_reducible repeat (first | apply Kd.R_alloc | apply Kd.R_drewN | apply Kd.R_drew)); exact (Kd.R_mono (Kd.R_far (p := ⟨gb551, 6, none⟩) (Kd.R_far (p := ⟨gb551, 5, none⟩) (Kd.R_far (p := ⟨gb551, 4, none⟩) (Kd.R_far (p := ⟨gb551, 3, none⟩) (Kd.R_far (p := ⟨gb551, 2, none⟩) (Kd.R_far (p := ⟨gb551, 1, none⟩) (Kd.R_far (p := ⟨gb551, 0, none⟩) (Kd.R_types HO546.out BK551.out (by decide)) (fun _ hk => hk.2) (.bool t539)) (fun _ hk => hk.2) (.bool t540)) (fun _ hk => hk.2) (.slice Ao40 t541.length co40)) (fun _ hk => hk.2) (.slice Ao41 t544.length co41)) (fun _ hk => hk.2) (.int .i64 t547)) (fun _ hk => hk.2) (.int .i64 t548)) (fun _ hk => hk.2) (.int .i64 t549)) (fun _ h_ => h_.1)))); (case side4 => exact (Kd.R_reads' HO546.out).2.1); (case side5 => refine (Kd.R_reads' (e := 3) (base := w.heap.size) (ok := fun k_ => ((((((some k_ ≠ (.slice Ao25 t519.length co25 : Value).ownBlock ∧ some k_ ≠ (.slice Ao18 t505.length co18 : Value).ownBlock) ∧ some k_ ≠ (.slice Ao19 t508.length co19 : Value).ownBlock) ∧ some k_ ≠ (.slice Ao32 t529.length co32 : Value).ownBlock) ∧ some k_ ≠ (.slice Ao33 t532.length co33 : Value).ownBlock) ∧ some k_ ≠ (.slice Ao40 t541.length co40 : Value).ownBlock) ∧ some k_ ≠ (.slice Ao41 t544.length co41 : Value).ownBlock)) (n := t516.length) (c := co24) ?_).2.2; exact (by (with_reducible repeat (first | apply Kd.R_alloc | apply Kd.R_drewN | apply Kd.R_drew)); exact (Kd.R_mono (Kd.R_far (p := ⟨gb551, 6, none⟩) (Kd.R_far (p := ⟨gb551, 5, none⟩) (Kd.R_far (p := ⟨gb551, 4, none⟩) (Kd.R_far (p := ⟨gb551, 3, none⟩) (Kd.R_far (p := ⟨gb551, 2, none⟩) (Kd.R_far (p := ⟨gb551, 1, none⟩) (Kd.R_far (p := ⟨gb551, 0, none⟩) (Kd.R_types HO518.out BK551.out (by decide)) (fun _ hk => hk.2) (.bool t539)) (fun _ hk => hk.2) (.bool t540)) (fun _ hk => hk.2) (.slice Ao40 t541.length co40)) (fun _ hk => hk.2) (.slice Ao41 t544.length co41)) (fun _ hk => hk.2) (.int .i64 t547)) (fun _ hk => hk.2) (.int .i64 t548)) (fun _ hk => hk.2) (.int .i64 t549)) (fun _ h_ => h_.1)))); (case side6 => exact (Kd.R_reads' HO518.out).2.1); (case side7 => refine (Kd.R_reads' (e := 3) (base := w.heap.size) (ok := fun k_ => ((((((some k_ ≠ (.slice Ao24 t516.length co24 : Value).ownBlock ∧ some k_ ≠ (.slice Ao18 t505.length co18 : Value).ownBlock) ∧ some k_ ≠ (.slice Ao19 t508.length co19 : Value).ownBlock) ∧ some k_ ≠ (.slice Ao32 t529.length co32 : Value).ownBlock) ∧ some k_ ≠ (.slice Ao33 t532.length co33 : Value).ownBlock) ∧ some k_ ≠ (.slice Ao40 t541.length co40 : Value).ownBlock) ∧ some k_ ≠ (.slice Ao41 t544.length co41 : Value).ownBlock)) (n := t519.length) (c := co25) ?_).2.2; exact (by (with_reducible repeat (first | apply Kd.R_alloc | apply Kd.R_drewN | apply Kd.R_drew)); exact (Kd.R_mono (Kd.R_far (p := ⟨gb551, 6, none⟩) (Kd.R_far (p := ⟨gb551, 5, none⟩) (Kd.R_far (p := ⟨gb551, 4, none⟩) (Kd.R_far (p := ⟨gb551, 3, none⟩) (Kd.R_far (p := ⟨gb551, 2, none⟩) (Kd.R_far (p := ⟨gb551, 1, none⟩) (Kd.R_far (p := ⟨gb551, 0, none⟩) (Kd.R_types HO521.out BK551.out (by decide)) (fun _ hk => hk.2) (.bool t539)) (fun _ hk => hk.2) (.bool t540)) (fun _ hk => hk.2) (.slice Ao40 t541.length co40)) (fun _ hk => hk.2) (.slice Ao41 t544.length co41)) (fun _ hk => hk.2) (.int .i64 t547)) (fun _ hk => hk.2) (.int .i64 t548)) (fun _ hk => hk.2) (.int .i64 t549)) (fun _ h_ => h_.1)))); (case side8 => exact (Kd.R_reads' HO521.out).2.1); rintro e w51 ⟨rfl, hb⟩; refine ⟨_, rfl, ?_⟩; replace HO507 := am (Kd.R_below (by (with_reducible repeat (first | apply Kd.R_alloc | apply Kd.R_drewN | apply Kd.R_drew)); exact (Kd.R_mono (Kd.R_far (p := ⟨gb551, 6, none⟩) (Kd.R_far (p := ⟨gb551, 5, none⟩) (Kd.R_far (p := ⟨gb551, 4, none⟩) (Kd.R_far (p := ⟨gb551, 3, none⟩) (Kd.R_far (p := ⟨gb551, 2, none⟩) (Kd.R_far (p := ⟨gb551, 1, none⟩) (Kd.R_far (p := ⟨gb551, 0, none⟩) (Kd.R_types HO507.out BK551.out (by decide)) (fun _ hk => hk.2) (.bool t539)) (fun _ hk => hk.2) (.bool t540)) (fun _ hk => hk.2) (.slice Ao40 t541.length co40)) (fun _ hk => hk.2) (.slice Ao41 t544.length co41)) (fun _ hk => hk.2) (.int .i64 t547)) (fun _ hk => hk.2) (.int .i64 t548)) (fun _ hk => hk.2) (.int .i64 t549)) (fun _ h_ => h_.1))) hb); replace HO510 := am (Kd.R_below (by (with_reducible repeat (first | apply Kd.R_alloc | apply Kd.R_drewN | apply Kd.R_drew)); exact (Kd.R_mono (Kd.R_far (p := ⟨gb551, 6, none⟩) (Kd.R_far (p := ⟨gb551, 5, none⟩) (Kd.R_far (p := ⟨gb551, 4, none⟩) (Kd.R_far (p := ⟨gb551, 3, none⟩) (Kd.R_far (p := ⟨gb551, 2, none⟩) (Kd.R_far (p := ⟨gb551, 1, none⟩) (Kd.R_far (p := ⟨gb551, 0, none⟩) (Kd.R_types HO510.out BK551.out (by decide)) (fun _ hk => hk.2) (.bool t539)) (fun _ hk => hk.2) (.bool t540)) (fun _ hk => hk.2) (.slice Ao40 t541.length co40)) (fun _ hk => hk.2) (.slice Ao41 t544.length co41)) (fun _ hk => hk.2) (.int .i64 t547)) (fun _ hk => hk.2) (.int .i64 t548)) (fun _ hk => hk.2) (.int .i64 t549)) (fun _ h_ => h_.1))) hb); replace HO518 := am (Kd.R_below (by (with_reducible repeat (first | apply Kd.R_alloc | apply Kd.R_drewN | apply Kd.R_drew)); exact (Kd.R_mono (Kd.R_far (p := ⟨gb551, 6, none⟩) (Kd.R_far (p := ⟨gb551, 5, none⟩) (Kd.R_far (p := ⟨gb551, 4, none⟩) (Kd.R_far (p := ⟨gb551, 3, none⟩) (Kd.R_far (p := ⟨gb551, 2, none⟩) (Kd.R_far (p := ⟨gb551, 1, none⟩) (Kd.R_far (p := ⟨gb551, 0, none⟩) (Kd.R_types HO518.out BK551.out (by decide)) (fun _ hk => hk.2) (.bool t539)) (fun _ hk => hk.2) (.bool t540)) (fun _ hk => hk.2) (.slice Ao40 t541.length co40)) (fun _ hk => hk.2) (.slice Ao41 t544.length co41)) (fun _ hk => hk.2) (.int .i64 t547)) (fun _ hk => hk.2) (.int .i64 t548)) (fun _ hk => hk.2) (.int .i64 t549)) (fun _ h_ => h_.1))) hb); replace HO521 := am (Kd.R_below (by (with_reducible repeat (first | apply Kd.R_alloc | apply Kd.R_drewN | apply Kd.R_drew)); exact (Kd.R_mono (Kd.R_far (p := ⟨gb551, 6, none⟩) (Kd.R_far (p := ⟨gb551, 5, none⟩) (Kd.R_far (p := ⟨gb551, 4, none⟩) (Kd.R_far (p := ⟨gb551, 3, none⟩) (Kd.R_far (p := ⟨gb551, 2, none⟩) (Kd.R_far (p := ⟨gb551, 1, none⟩) (Kd.R_far (p := ⟨gb551, 0, none⟩) (Kd.R_types HO521.out BK551.out (by decide)) (fun _ hk => hk.2) (.bool t539)) (fun _ hk => hk.2) (.bool t540)) (fun _ hk => hk.2) (.slice Ao40 t541.length co40)) (fun _ hk => hk.2) (.slice Ao41 t544.length co41)) (fun _ hk => hk.2) (.int .i64 t547)) (fun _ hk => hk.2) (.int .i64 t548)) (fun _ hk => hk.2) (.int .i64 t549)) (fun _ h_ => h_.1))) hb); replace HO531 := am (Kd.R_below (by (with_reducible repeat (first | apply Kd.R_alloc | apply Kd.R_drewN | apply Kd.R_drew)); exact (Kd.R_mono (Kd.R_far (p := ⟨gb551, 6, none⟩) (Kd.R_far (p := ⟨gb551, 5, none⟩) (Kd.R_far (p := ⟨gb551, 4, none⟩) (Kd.R_far (p := ⟨gb551, 3, none⟩) (Kd.R_far (p := ⟨gb551, 2, none⟩) (Kd.R_far (p := ⟨gb551, 1, none⟩) (Kd.R_far (p := ⟨gb551, 0, none⟩) (Kd.R_types HO531.out BK551.out (by decide)) (fun _ hk => hk.2) (.bool t539)) (fun _ hk => hk.2) (.bool t540)) (fun _ hk => hk.2) (.slice Ao40 t541.length co40)) (fun _ hk => hk.2) (.slice Ao41 t544.length co41)) (fun _ hk => hk.2) (.int .i64 t547)) (fun _ hk => hk.2) (.int .i64 t548)) (fun _ hk => hk.2) (.int .i64 t549)) (fun _ h_ => h_.1))) hb); replace HO534 := am (Kd.R_below (by (with_reducible repeat (first | apply Kd.R_alloc | apply Kd.R_drewN | apply Kd.R_drew)); exact (Kd.R_mono (Kd.R_far (p := ⟨gb551, 6, none⟩) (Kd.R_far (p := ⟨gb551, 5, none⟩) (Kd.R_far (p := ⟨gb551, 4, none⟩) (Kd.R_far (p := ⟨gb551, 3, none⟩) (Kd.R_far (p := ⟨gb551, 2, none⟩) (Kd.R_far (p := ⟨gb551, 1, none⟩) (Kd.R_far (p := ⟨gb551, 0, none⟩) (Kd.R_types HO534.out BK551.out (by decide)) (fun _ hk => hk.2) (.bool t539)) (fun _ hk => hk.2) (.bool t540)) (fun _ hk => hk.2) (.slice Ao40 t541.length co40)) (fun _ hk => hk.2) (.slice Ao41 t544.length co41)) (fun _ hk => hk.2) (.int .i64 t547)) (fun _ hk => hk.2) (.int .i64 t548)) (fun _ hk => hk.2) (.int .i64 t549)) (fun _ h_ => h_.1))) hb); replace HO543 := am (Kd.R_below (by (with_reducible repeat (first | apply Kd.R_alloc | apply Kd.R_drewN | apply Kd.R_drew)); exact (Kd.R_mono (Kd.R_far (p := ⟨gb551, 6, none⟩) (Kd.R_far (p := ⟨gb551, 5, none⟩) (Kd.R_far (p := ⟨gb551, 4, none⟩) (Kd.R_far (p := ⟨gb551, 3, none⟩) (Kd.R_far (p := ⟨gb551, 2, none⟩) (Kd.R_far (p := ⟨gb551, 1, none⟩) (Kd.R_far (p := ⟨gb551, 0, none⟩) (Kd.R_types HO543.out BK551.out (by decide)) (fun _ hk => hk.2) (.bool t539)) (fun _ hk => hk.2) (.bool t540)) (fun _ hk => hk.2) (.slice Ao40 t541.length co40)) (fun _ hk => hk.2) (.slice Ao41 t544.length co41)) (fun _ hk => hk.2) (.int .i64 t547)) (fun _ hk => hk.2) (.int .i64 t548)) (fun _ hk => hk.2) (.int .i64 t549)) (fun _ h_ => h_.1))) hb); replace HO546 := am (Kd.R_below (by (with_reducible repeat (first | apply Kd.R_alloc | apply Kd.R_drewN | apply Kd.R_drew)); exact (Kd.R_mono (Kd.R_far (p := ⟨gb551, 6, none⟩) (Kd.R_far (p := ⟨gb551, 5, none⟩) (Kd.R_far (p := ⟨gb551, 4, none⟩) (Kd.R_far (p := ⟨gb551, 3, none⟩) (Kd.R_far (p := ⟨gb551, 2, none⟩) (Kd.R_far (p := ⟨gb551, 1, none⟩) (Kd.R_far (p := ⟨gb551, 0, none⟩) (Kd.R_types HO546.out BK551.out (by decide)) (fun _ hk => hk.2) (.bool t539)) (fun _ hk => hk.2) (.bool t540)) (fun _ hk => hk.2) (.slice Ao40 t541.length co40)) (fun _ hk => hk.2) (.slice Ao41 t544.length co41)) (fun _ hk => hk.2) (.int .i64 t547)) (fun _ hk => hk.2) (.int .i64 t548)) (fun _ hk => hk.2) (.int .i64 t549)) (fun _ h_ => h_.1))) hb); replace BK501 := am (blk_below (g := gb501) (o := .cells #[.bool a0_0, .bool a0_1, .slice A0_2 l0_2.length c0_2, .slice A0_3 l0_3.length c0_3, .int .i64 a0_4, .int .i64 a0_5, .int .i64 a0_6] 24 (0, 0)) (by (with_reducible repeat (first | refine blk_drewN ?_ _ | refine blk_drew ?_ | refine blk_alloc ?_ _)); refine blk_far ?_ NB501_551.out _; (with_reducible repeat (first | refine blk_drewN ?_ _ | refine blk_drew ?_ | refine blk_alloc ?_ _)); refine blk_far ?_ NB501_551.out _; (with_reducible repeat (first | refine blk_drewN ?_ _ | refine blk_drew ?_ | refine blk_alloc ?_ _)); refine blk_far ?_ NB501_551.out _; (with_reducible repeat (first | refine blk_drewN ?_ _ | refine blk_drew ?_ | refine blk_alloc ?_ _)); refine blk_far ?_ NB501_551.out _; (with_reducible repeat (first | refine blk_drewN ?_ _ | refine blk_drew ?_ | refine blk_alloc ?_ _)); refine blk_far ?_ NB501_551.out _; (with_reducible repeat (first | refine blk_drewN ?_ _ | refine blk_drew ?_ | refine blk_alloc ?_ _)); refine blk_far ?_ NB501_551.out _; (with_reducible repeat (first | refine blk_drewN ?_ _ | refine blk_drew ?_ | refine blk_alloc ?_ _)); refine blk_far ?_ NB501_551.out _; exact pkK BK501.out) hb); replace BK526 := am (blk_below (g := gb526) (o := .cells #[.bool t514, .bool t515, .slice Ao24 t516.length co24, .slice Ao25 t519.length co25, .int .i64 t522, .int .i64 t523, .int .i64 t524] 27 (0, 0)) (by (with_reducible repeat (first | refine blk_drewN ?_ _ | refine blk_drew ?_ | refine blk_alloc ?_ _)); refine blk_far ?_ NB526_551.out _; (with_reducible repeat (first | refine blk_drewN ?_ _ | refine blk_drew ?_ | refine blk_alloc ?_ _)); refine blk_far ?_ NB526_551.out _; (with_reducible repeat (first | refine blk_drewN ?_ _ | refine blk_drew ?_ | refine blk_alloc ?_ _)); refine blk_far ?_ NB526_551.out _; (with_reducible repeat (first | refine blk_drewN ?_ _ | refine blk_drew ?_ | refine blk_alloc ?_ _)); refine blk_far ?_ NB526_551.out _; (with_reducible repeat (first | refine blk_drewN ?_ _ | refine blk_drew ?_ | refine blk_alloc ?_ _)); refine blk_far ?_ NB526_551.out _; (with_reducible repeat (first | refine blk_drewN ?_ _ | refine blk_drew ?_ | refine blk_alloc ?_ _)); refine blk_far ?_ NB526_551.out _; (with_reducible repeat (first | refine blk_drewN ?_ _ | refine blk_drew ?_ | refine blk_alloc ?_ _)); refine blk_far ?_ NB526_551.out _; exact pkK BK526.out) hb); replace BK538 := am (blk_below (g := gb538) (o := .cells #[.bool t527, .bool t528, .slice Ao32 t529.length co32, .slice Ao33 t532.length co33, .int .i64 t535, .int .i64 t536, .int .i64 t537] 27 (0, 0)) (by (with_reducible repeat (first | refine blk_drewN ?_ _ | refine blk_drew ?_ | refine blk_alloc ?_ _)); refine blk_far ?_ NB538_551.out _; (with_reducible repeat (first | refine blk_drewN ?_ _ | refine blk_drew ?_ | refine blk_alloc ?_ _)); refine blk_far ?_ NB538_551.out _; (with_reducible repeat (first | refine blk_drewN ?_ _ | refine blk_drew ?_ | refine blk_alloc ?_ _)); refine blk_far ?_ NB538_551.out _; (with_reducible repeat (first | refine blk_drewN ?_ _ | refine blk_drew ?_ | refine blk_alloc ?_ _)); refine blk_far ?_ NB538_551.out _; (with_reducible repeat (first | refine blk_drewN ?_ _ | refine blk_drew ?_ | refine blk_alloc ?_ _)); refine blk_far ?_ NB538_551.out _; (with_reducible repeat (first | refine blk_drewN ?_ _ | refine blk_drew ?_ | refine blk_alloc ?_ _)); refine blk_far ?_ NB538_551.out _; (with_reducible repeat (first | refine blk_drewN ?_ _ | refine blk_drew ?_ | refine blk_alloc ?_ _)); refine blk_far ?_ NB538_551.out _; exact pkK BK538.out) hb); replace BK551 := am (blk_below (g := gb551) (o := .cells #[.bool t539, .bool t540, .slice Ao40 t541.length co40, .slice Ao41 t544.length co41, .int .i64 t547, .int .i64 t548, .int .i64 t549] 27 (0, 0)) (by (with_reducible repeat (first | refine blk_drewN ?_ _ | refine blk_drew ?_ | refine blk_alloc ?_ _)); refine blk_put (cs := #[.bool t539, .bool t540, .slice Ao40 t541.length co40, .slice Ao41 t544.length co41, .int .i64 t547, .int .i64 t548, .int .i64 0]) ?_ 6 _ rfl; (with_reducible repeat (first | refine blk_drewN ?_ _ | refine blk_drew ?_ | refine blk_alloc ?_ _)); refine blk_put (cs := #[.bool t539, .bool t540, .slice Ao40 t541.length co40, .slice Ao41 t544.length co41, .int .i64 t547, .int .i64 0, .int .i64 0]) ?_ 5 _ rfl; (with_reducible repeat (first | refine blk_drewN ?_ _ | refine blk_drew ?_ | refine blk_alloc ?_ _)); refine blk_put (cs := #[.bool t539, .bool t540, .slice Ao40 t541.length co40, .slice Ao41 t544.length co41, .int .i64 0, .int .i64 0, .int .i64 0]) ?_ 4 _ rfl; (with_reducible repeat (first | refine blk_drewN ?_ _ | refine blk_drew ?_ | refine blk_alloc ?_ _)); refine blk_put (cs := #[.bool t539, .bool t540, .slice Ao40 t541.length co40, .slice none 0 0, .int .i64 0, .int .i64 0, .int .i64 0]) ?_ 3 _ rfl; (with_reducible repeat (first | refine blk_drewN ?_ _ | refine blk_drew ?_ | refine blk_alloc ?_ _)); refine blk_put (cs := #[.bool t539, .bool t540, .slice none 0 0, .slice none 0 0, .int .i64 0, .int .i64 0, .int .i64 0]) ?_ 2 _ rfl; (with_reducible repeat (first | refine blk_drewN ?_ _ | refine blk_drew ?_ | refine blk_alloc ?_ _)); refine blk_put (cs := #[.bool t539, .bool false, .slice none 0 0, .slice none 0 0, .int .i64 0, .int .i64 0, .int .i64 0]) ?_ 1 _ rfl; (with_reducible repeat (first | refine blk_drewN ?_ _ | refine blk_drew ?_ | refine blk_alloc ?_ _)); refine blk_put (cs := #[.bool false, .bool false, .slice none 0 0, .slice none 0 0, .int .i64 0, .int .i64 0, .int .i64 0]) ?_ 0 _ rfl; exact pkK BK551.out) hb); replace HB := am (below_step (pkW HB.out) hb); (try clear hb)))
    go_meet
    case rel => exact ⟨_, ((t550 != t525)), rfx, H', ⟨by first | omega | exact Nat.le_refl _⟩, ⟨by (with_reducible repeat (first | apply Kd.R_alloc | apply Kd.R_drewN | apply Kd.R_drew)); exact Kd.R_mono HO518.out (fun _ hk => ⟨hk.1.1.1.1.1.1, ⟨hk.1.1.1.2, ⟨hk.1.1.2, ⟨hk.1.2, hk.2⟩⟩⟩⟩)⟩, ⟨by (with_reducible repeat (first | apply Kd.R_alloc | apply Kd.R_drewN | apply Kd.R_drew)); exact Kd.R_mono HO521.out (fun _ hk => ⟨hk.1.1.1.1.1.1, ⟨hk.1.1.1.2, ⟨hk.1.1.2, ⟨hk.1.2, hk.2⟩⟩⟩⟩)⟩, ⟨Kd.Q_of_R (by (with_reducible repeat (first | apply Kd.R_alloc | apply Kd.R_drewN | apply Kd.R_drew)); exact Kd.R_mono HO531.out (fun _ hk => ⟨hk.1.1.1.2, ⟨hk.1.1.2, ⟨hk.1.1.1.1.1.1, ⟨hk.1.2, hk.2⟩⟩⟩⟩))⟩, ⟨Kd.Q_of_R (by (with_reducible repeat (first | apply Kd.R_alloc | apply Kd.R_drewN | apply Kd.R_drew)); exact Kd.R_mono HO534.out (fun _ hk => ⟨hk.1.1.1.2, ⟨hk.1.1.2, ⟨hk.1.1.1.1.1.1, ⟨hk.1.2, hk.2⟩⟩⟩⟩))⟩, ⟨Kd.Q_of_R (by (with_reducible repeat (first | apply Kd.R_alloc | apply Kd.R_drewN | apply Kd.R_drew)); exact Kd.R_mono HO543.out (fun _ hk => ⟨hk.1.1.1.2, ⟨hk.1.1.2, ⟨hk.1.2, ⟨hk.2, hk.1.1.1.1.1.1⟩⟩⟩⟩))⟩, ⟨Kd.Q_of_R (by (with_reducible repeat (first | apply Kd.R_alloc | apply Kd.R_drewN | apply Kd.R_drew)); exact Kd.R_mono HO546.out (fun _ hk => ⟨hk.1.1.1.2, ⟨hk.1.1.2, ⟨hk.1.2, ⟨hk.2, hk.1.1.1.1.1.1⟩⟩⟩⟩))⟩, ⟨pkK BK501.out⟩, ⟨pkK BK526.out⟩, ⟨pkK BK538.out⟩, ⟨pkK BK551.out⟩, ⟨pkW HB.out⟩⟩
   ·replace c43 := Bool.eq_false_iff.mpr c43
    subst c43
    replace H : (laws_FnExactStand.j0 k a1 t525 t550 true a0_0 a0_1 l0_2 l0_3 a0_4 a0_5 a0_6 t514 t515 t516 t519 t522 t523 t524 t527 t528 t529 t532 t535 t536 t537 t539 t540 t541 t544 t547 t548 t549) = some r := by rw [if_neg (show ¬ (false = true) by decide)] at H; exact H
    cases k with
    | zero => exact absurd H (by simp [laws_FnExactStand.j0])
    | succ k_ => (simp only [laws_FnExactStand.j0, if_pos] at H; exact absurd (Option.some.inj H) (by rw [HQ_.out]; simp))
  case rest =>
   clear HC12
   try clear c1
   try clear c2
   try clear p2
   try clear c3
   try clear c4
   try clear c4b0
   try clear c6
   try clear c14
   try clear c16
   try clear c18
   try clear c22
   try clear c28
   try clear c29
   try clear c30
   try clear c36
   try clear c37
   try clear c38
   try clear c43
   try clear c44
   try clear c45
   try clear c46
   try clear c48
   try clear c49
   try clear hcz14_0
   try clear hcz14_1
   try clear hcz14_2
   try clear hcz14_3
   try clear hcz14_4
   try clear hcz14_5
   try clear hcz14_6
   try clear hcz16_0
   try clear hcz16_1
   try clear hcz16_2
   try clear hcz16_3
   try clear hcz16_4
   try clear hcz16_5
   try clear hcz16_6
   try clear hcz23_0
   try clear hcz23_1
   try clear hcz23_2
   try clear hcz23_3
   try clear hcz23_4
   try clear hcz23_5
   try clear hcz23_6
   try clear hcz26_0
   try clear hcz26_1
   try clear hcz26_2
   try clear hcz26_3
   try clear hcz26_4
   try clear hcz26_5
   try clear hcz26_6
   try clear hcz31_0
   try clear hcz31_1
   try clear hcz31_2
   try clear hcz31_3
   try clear hcz31_4
   try clear hcz31_5
   try clear hcz31_6
   try clear hcz39_0
   try clear hcz39_1
   try clear hcz39_2
   try clear hcz39_3
   try clear hcz39_4
   try clear hcz39_5
   try clear hcz39_6
   try clear hcz47_0
   try clear hcz47_1
   try clear hcz47_2
   try clear hcz47_3
   try clear hcz47_4
   try clear hcz47_5
   try clear hcz47_6
   try clear hcz50_0
   try clear hcz50_1
   try clear hcz50_2
   try clear hcz50_3
   try clear hcz50_4
   try clear hcz50_5
   try clear hcz50_6
   try clear hcz6_0
   try clear hcz6_1
   try clear hcz6_2
   try clear hcz6_3
   try clear hcz6_4
   try clear hcz6_5
   try clear hcz6_6
   try clear hfz14_0
   try clear hfz14_1
   try clear hfz14_2
   try clear hfz14_3
   try clear hfz14_4
   try clear hfz14_5
   try clear hfz14_6
   try clear hfz16_0
   try clear hfz16_1
   try clear hfz16_2
   try clear hfz16_3
   try clear hfz16_4
   try clear hfz16_5
   try clear hfz16_6
   try clear hfz23_0
   try clear hfz23_1
   try clear hfz23_2
   try clear hfz23_3
   try clear hfz23_4
   try clear hfz23_5
   try clear hfz23_6
   try clear hfz26_0
   try clear hfz26_1
   try clear hfz26_2
   try clear hfz26_3
   try clear hfz26_4
   try clear hfz26_5
   try clear hfz26_6
   try clear hfz31_0
   try clear hfz31_1
   try clear hfz31_2
   try clear hfz31_3
   try clear hfz31_4
   try clear hfz31_5
   try clear hfz31_6
   try clear hfz39_0
   try clear hfz39_1
   try clear hfz39_2
   try clear hfz39_3
   try clear hfz39_4
   try clear hfz39_5
   try clear hfz39_6
   try clear hfz47_0
   try clear hfz47_1
   try clear hfz47_2
   try clear hfz47_3
   try clear hfz47_4
   try clear hfz47_5
   try clear hfz47_6
   try clear hfz50_0
   try clear hfz50_1
   try clear hfz50_2
   try clear hfz50_3
   try clear hfz50_4
   try clear hfz50_5
   try clear hfz50_6
   try clear hfz6_0
   try clear hfz6_1
   try clear hfz6_2
   try clear hfz6_3
   try clear hfz6_4
   try clear hfz6_5
   try clear hfz6_6
   obtain ⟨kq, x44_11, rfl, HA, HJ11, HO_527002, HO_527003, HO_539002, HO_539003, HO_552002, HO_552003, BK501, BK526, BK538, BK551, HB⟩ := hcut
   cases kq with
   | zero => exact absurd HA.out (by simp [laws_FnExactStand.j0])
   | succ kj11 =>
    have H := HA.out
    clear HA
    simp only [laws_FnExactStand.j0] at H
    by_cases c52 : x44_11 = true
    ·subst c52
     replace H : (some false) = some r := by rw [if_pos rfl] at H; exact H
     exact absurd (Option.some.inj H) (by rw [HQ_.out]; simp)
    ·replace c52 := Bool.eq_false_iff.mpr c52
     subst c52
     replace H : ((laws_toEvent.f kj11 a0_0 a0_1 l0_2 l0_3 a0_4 a0_5 a0_6).bind fun bt553 => ((laws_eqEvent.f kj11 t527 t528 t529 t532 t535 t536 t537 bt553.1 bt553.2.1 bt553.2.2.1 bt553.2.2.2.1 bt553.2.2.2.2.1 bt553.2.2.2.2.2.1 bt553.2.2.2.2.2.2).bind fun t564 => (if t564 = true then ((laws_markEvent.f kj11 t527 t528 t529 t532 t535 t536 t537 1).bind fun bt565 => (if bt565.1 < 0 then (laws_FnExactStand.j1 kj11 a1 t525 true a0_0 a0_1 l0_2 l0_3 a0_4 a0_5 a0_6 t514 t515 t516 t519 t522 t523 t524 t539 t540 t541 t544 t547 t548 t549) else ((laws_eqEvent.f kj11 t539 t540 t541 t544 t547 t548 t549 t514 t515 t516 t519 t522 t523 t524).bind fun t568 => (if t568 = true then (laws_FnExactStand.j1 kj11 a1 t525 (t550 != t525) a0_0 a0_1 l0_2 l0_3 a0_4 a0_5 a0_6 t514 t515 t516 t519 t522 t523 t524 t539 t540 t541 t544 t547 t548 t549) else (laws_FnExactStand.j1 kj11 a1 t525 true a0_0 a0_1 l0_2 l0_3 a0_4 a0_5 a0_6 t514 t515 t516 t519 t522 t523 t524 t539 t540 t541 t544 t547 t548 t549))))) else (some false)))) = some r := by rw [if_neg (show ¬ (false = true) by decide)] at H; exact H
     replace H := Option.bind_eq_some_iff.mp H
     obtain ⟨⟨t553, t554, t555, t558, t561, t562, t563⟩, A530, H⟩ := H
     replace H : ((laws_eqEvent.f kj11 t527 t528 t529 t532 t535 t536 t537 t553 t554 t555 t558 t561 t562 t563).bind fun t564 => (if t564 = true then ((laws_markEvent.f kj11 t527 t528 t529 t532 t535 t536 t537 1).bind fun bt565 => (if bt565.1 < 0 then (laws_FnExactStand.j1 kj11 a1 t525 true a0_0 a0_1 l0_2 l0_3 a0_4 a0_5 a0_6 t514 t515 t516 t519 t522 t523 t524 t539 t540 t541 t544 t547 t548 t549) else ((laws_eqEvent.f kj11 t539 t540 t541 t544 t547 t548 t549 t514 t515 t516 t519 t522 t523 t524).bind fun t568 => (if t568 = true then (laws_FnExactStand.j1 kj11 a1 t525 (t550 != t525) a0_0 a0_1 l0_2 l0_3 a0_4 a0_5 a0_6 t514 t515 t516 t519 t522 t523 t524 t539 t540 t541 t544 t547 t548 t549) else (laws_FnExactStand.j1 kj11 a1 t525 true a0_0 a0_1 l0_2 l0_3 a0_4 a0_5 a0_6 t514 t515 t516 t519 t522 t523 t524 t539 t540 t541 t544 t547 t548 t549))))) else (some false))) = some r := H
     have A53 := am A530
     clear A530
     replace H := Option.bind_eq_some_iff.mp H
     obtain ⟨t564, A540, H⟩ := H
     replace H : (if t564 = true then ((laws_markEvent.f kj11 t527 t528 t529 t532 t535 t536 t537 1).bind fun bt565 => (if bt565.1 < 0 then (laws_FnExactStand.j1 kj11 a1 t525 true a0_0 a0_1 l0_2 l0_3 a0_4 a0_5 a0_6 t514 t515 t516 t519 t522 t523 t524 t539 t540 t541 t544 t547 t548 t549) else ((laws_eqEvent.f kj11 t539 t540 t541 t544 t547 t548 t549 t514 t515 t516 t519 t522 t523 t524).bind fun t568 => (if t568 = true then (laws_FnExactStand.j1 kj11 a1 t525 (t550 != t525) a0_0 a0_1 l0_2 l0_3 a0_4 a0_5 a0_6 t514 t515 t516 t519 t522 t523 t524 t539 t540 t541 t544 t547 t548 t549) else (laws_FnExactStand.j1 kj11 a1 t525 true a0_0 a0_1 l0_2 l0_3 a0_4 a0_5 a0_6 t514 t515 t516 t519 t522 t523 t524 t539 t540 t541 t544 t547 t548 t549))))) else (some false)) = some r := H
     have A54 := am A540
     clear A540
     by_cases c55 : t564 = true
     ·subst c55
      replace H : ((laws_markEvent.f kj11 t527 t528 t529 t532 t535 t536 t537 1).bind fun bt565 => (if bt565.1 < 0 then (laws_FnExactStand.j1 kj11 a1 t525 true a0_0 a0_1 l0_2 l0_3 a0_4 a0_5 a0_6 t514 t515 t516 t519 t522 t523 t524 t539 t540 t541 t544 t547 t548 t549) else ((laws_eqEvent.f kj11 t539 t540 t541 t544 t547 t548 t549 t514 t515 t516 t519 t522 t523 t524).bind fun t568 => (if t568 = true then (laws_FnExactStand.j1 kj11 a1 t525 (t550 != t525) a0_0 a0_1 l0_2 l0_3 a0_4 a0_5 a0_6 t514 t515 t516 t519 t522 t523 t524 t539 t540 t541 t544 t547 t548 t549) else (laws_FnExactStand.j1 kj11 a1 t525 true a0_0 a0_1 l0_2 l0_3 a0_4 a0_5 a0_6 t514 t515 t516 t519 t522 t523 t524 t539 t540 t541 t544 t547 t548 t549))))) = some r := by rw [if_pos rfl] at H; exact H
      replace H := Option.bind_eq_some_iff.mp H
      obtain ⟨⟨t565, t566, t567⟩, A560, H⟩ := H
      replace H : (if t565 < 0 then (laws_FnExactStand.j1 kj11 a1 t525 true a0_0 a0_1 l0_2 l0_3 a0_4 a0_5 a0_6 t514 t515 t516 t519 t522 t523 t524 t539 t540 t541 t544 t547 t548 t549) else ((laws_eqEvent.f kj11 t539 t540 t541 t544 t547 t548 t549 t514 t515 t516 t519 t522 t523 t524).bind fun t568 => (if t568 = true then (laws_FnExactStand.j1 kj11 a1 t525 (t550 != t525) a0_0 a0_1 l0_2 l0_3 a0_4 a0_5 a0_6 t514 t515 t516 t519 t522 t523 t524 t539 t540 t541 t544 t547 t548 t549) else (laws_FnExactStand.j1 kj11 a1 t525 true a0_0 a0_1 l0_2 l0_3 a0_4 a0_5 a0_6 t514 t515 t516 t519 t522 t523 t524 t539 t540 t541 t544 t547 t548 t549)))) = some r := H
      have A56 := am A560
      clear A560
      have HC57 := am H
      clear H
      try go_wp2
      replace HO_527002 := am (Kd.R_drew HO_527002.out)
      replace HO_527003 := am (Kd.R_drew HO_527003.out)
      replace HO_539002 := am (Kd.Q_drew HO_539002.out)
      replace HO_539003 := am (Kd.Q_drew HO_539003.out)
      replace HO_552002 := am (Kd.Q_drew HO_552002.out)
      replace HO_552003 := am (Kd.Q_drew HO_552003.out)
      replace BK501 := am (blk_drew BK501.out)
      replace BK526 := am (blk_drew BK526.out)
      replace BK538 := am (blk_drew BK538.out)
      replace BK551 := am (blk_drew BK551.out)
      replace HB := am (below_drew1 HB.out)
      refine start_ (n := 5) (S := fun w' => w'.cell? ⟨gb538, 0, none⟩ = some (.bool t527) ∧ w'.cell? ⟨gb538, 1, none⟩ = some (.bool t528) ∧ w'.cell? ⟨gb538, 2, none⟩ = some (.slice Ao32 t529.length co32) ∧ w'.cell? ⟨gb538, 3, none⟩ = some (.slice Ao33 t532.length co33) ∧ w'.cell? ⟨gb538, 4, none⟩ = some (.int .i64 t535) ∧ w'.cell? ⟨gb538, 5, none⟩ = some (.int .i64 t536) ∧ w'.cell? ⟨gb538, 6, none⟩ = some (.int .i64 t537) ∧ w'.cell? ⟨gb501, 0, none⟩ = some (.bool a0_0) ∧ w'.cell? ⟨gb501, 1, none⟩ = some (.bool a0_1) ∧ w'.cell? ⟨gb501, 2, none⟩ = some (.slice A0_2 l0_2.length c0_2) ∧ w'.cell? ⟨gb501, 3, none⟩ = some (.slice A0_3 l0_3.length c0_3) ∧ w'.cell? ⟨gb501, 4, none⟩ = some (.int .i64 a0_4) ∧ w'.cell? ⟨gb501, 5, none⟩ = some (.int .i64 a0_5) ∧ w'.cell? ⟨gb501, 6, none⟩ = some (.int .i64 a0_6)) (ds := []) #[false, false, false, false, false] (by kernel_rfl) rfl rfl ⟨(blk_cell BK538.out 0).trans rfl, (blk_cell BK538.out 1).trans rfl, (blk_cell BK538.out 2).trans rfl, (blk_cell BK538.out 3).trans rfl, (blk_cell BK538.out 4).trans rfl, (blk_cell BK538.out 5).trans rfl, (blk_cell BK538.out 6).trans rfl, (blk_cell BK501.out 0).trans rfl, (blk_cell BK501.out 1).trans rfl, (blk_cell BK501.out 2).trans rfl, (blk_cell BK501.out 3).trans rfl, (blk_cell BK501.out 4).trans rfl, (blk_cell BK501.out 5).trans rfl, (blk_cell BK501.out 6).trans rfl⟩ (fun hHeld => ?_)
      generalize wc.drew = w58 at HO_527002 HO_527003 HO_539002 HO_539003 HO_552002 HO_552003 BK501 BK526 BK538 BK551 HB hHeld ⊢
      refine take_ (i := 0) (N := some 45) (v := ?_) (a' := ?_) #[true, false, false, false, false] rfl rfl (by kernel_rfl) (fun _ _ _ h => h) (Or.inl ⟨by rfl, ?_⟩) hHeld ?_ ?_
      rotate_left
      ·rintro w' ⟨s0, s1, s2, s3, s4, s5, s6, s7, s8, s9, s10, s11, s12, s13⟩
       go_simp
       with_reducible rfl
      rotate_left
      ·simp only [Act.put, List.setIfInBounds_toArray, List.set_cons_zero, List.set_cons_succ, i64_w, i32_w]
       rfl
      refine take_ (i := 1) (N := some 46) (v := ?_) (a' := ?_) #[true, true, false, false, false] rfl rfl (by kernel_rfl) (fun _ _ _ h => h) (Or.inl ⟨by rfl, ?_⟩) hHeld ?_ ?_
      rotate_left
      ·rintro w' ⟨s0, s1, s2, s3, s4, s5, s6, s7, s8, s9, s10, s11, s12, s13⟩
       go_simp
       with_reducible rfl
      rotate_left
      ·simp only [Act.put, List.setIfInBounds_toArray, List.set_cons_zero, List.set_cons_succ, i64_w, i32_w]
       rfl
      refine one_ (i := 2) (N := some 47) #[true, true, true, false, false] rfl rfl (by kernel_rfl) (by decide) (fun K hK => ?_)
      refine goes_ Try.func16 (by kernel_rfl) rfl #[.agg #[.bool a0_0, .bool a0_1, .slice A0_2 l0_2.length c0_2, .slice A0_3 l0_3.length c0_3, .int .i64 a0_4, .int .i64 a0_5, .int .i64 a0_6]] (by rfl) rfl rfl mpx ?_
      with_reducible refine (laws_toEvent.calls kj11 a0_0 a0_1 _ _ l0_2 _ _ l0_3 a0_4 a0_5 a0_6 t553 t554 t555 t558 t561 t562 t563 _ ?side1 ?side2 ?side3 ?side4 A53.out).mono ?_
      (case side1 => exact pkC (Kd.C_below HR0_2.out HB.out))
      (case side2 => exact HC0_2.out)
      (case side3 => exact pkC (Kd.C_below HR0_3.out HB.out))
      (case side4 => exact HC0_3.out)
      rintro e w59 ⟨v556, v559, rfl, ho0, ho1, hb⟩
      refine ⟨_, rfl, ?_⟩
      have HO557 := am (Kd.R_lower (Kd.R_new' (Kd.R_new' (Kd.R_new' (Kd.R_new' (Kd.R_new' (Kd.R_new' ho0 (Kd.R_lt (pkR HO_527002.out))) (Kd.R_lt (pkR HO_527003.out))) (Kd.Q_lt (pkQ HO_539002.out))) (Kd.Q_lt (pkQ HO_539003.out))) (Kd.Q_lt (pkQ HO_552002.out))) (Kd.Q_lt (pkQ HO_552003.out))) (below_size (pkW HB.out)))
      have HO560 := am (Kd.R_lower (Kd.R_new' (Kd.R_new' (Kd.R_new' (Kd.R_new' (Kd.R_new' (Kd.R_new' ho1 (Kd.R_lt (pkR HO_527002.out))) (Kd.R_lt (pkR HO_527003.out))) (Kd.Q_lt (pkQ HO_539002.out))) (Kd.Q_lt (pkQ HO_539003.out))) (Kd.Q_lt (pkQ HO_552002.out))) (Kd.Q_lt (pkQ HO_552003.out))) (below_size (pkW HB.out)))
      replace HO_527002 := am (Kd.R_mono (Kd.R_told (Kd.R_told (Kd.R_old (pkR HO_527002.out) hb) (Kd.R_base ho0)) (Kd.R_base ho1)) (fun _ h_ => h_.1))
      replace HO_527003 := am (Kd.R_mono (Kd.R_told (Kd.R_told (Kd.R_old (pkR HO_527003.out) hb) (Kd.R_base ho0)) (Kd.R_base ho1)) (fun _ h_ => h_.1))
      replace HO_539002 := am (Kd.Q_mono (Kd.Q_told (Kd.Q_told (Kd.Q_old (pkQ HO_539002.out) hb) (Kd.R_base ho0)) (Kd.R_base ho1)) (fun _ h_ => h_.1))
      replace HO_539003 := am (Kd.Q_mono (Kd.Q_told (Kd.Q_told (Kd.Q_old (pkQ HO_539003.out) hb) (Kd.R_base ho0)) (Kd.R_base ho1)) (fun _ h_ => h_.1))
      replace HO_552002 := am (Kd.Q_mono (Kd.Q_told (Kd.Q_told (Kd.Q_old (pkQ HO_552002.out) hb) (Kd.R_base ho0)) (Kd.R_base ho1)) (fun _ h_ => h_.1))
      replace HO_552003 := am (Kd.Q_mono (Kd.Q_told (Kd.Q_told (Kd.Q_old (pkQ HO_552003.out) hb) (Kd.R_base ho0)) (Kd.R_base ho1)) (fun _ h_ => h_.1))
      replace BK501 := am (blk_below (pkK BK501.out) hb)
      replace BK526 := am (blk_below (pkK BK526.out) hb)
      replace BK538 := am (blk_below (pkK BK538.out) hb)
      replace BK551 := am (blk_below (pkK BK551.out) hb)
      replace HB := am (below_step (pkW HB.out) hb)
      (try clear hb); (try clear ho0 ho1)
      obtain ⟨Ao60, co60, eo60⟩ := Kd.R_slice HO557.out
      (first | subst eo60 | (injection eo60 with f1_ f2_ f3_; have f4_ := f1_.symm; have f5_ := f3_.symm; clear f1_ f2_ f3_; subst f4_; subst f5_))
      obtain ⟨Ao61, co61, eo61⟩ := Kd.R_slice HO560.out
      (first | subst eo61 | (injection eo61 with f1_ f2_ f3_; have f4_ := f1_.symm; have f5_ := f3_.symm; clear f1_ f2_ f3_; subst f4_; subst f5_))
      refine hK.out _ _ ⟨(blk_cell BK538.out 0).trans rfl, (blk_cell BK538.out 1).trans rfl, (blk_cell BK538.out 2).trans rfl, (blk_cell BK538.out 3).trans rfl, (blk_cell BK538.out 4).trans rfl, (blk_cell BK538.out 5).trans rfl, (blk_cell BK538.out 6).trans rfl, (blk_cell BK501.out 0).trans rfl, (blk_cell BK501.out 1).trans rfl, (blk_cell BK501.out 2).trans rfl, (blk_cell BK501.out 3).trans rfl, (blk_cell BK501.out 4).trans rfl, (blk_cell BK501.out 5).trans rfl, (blk_cell BK501.out 6).trans rfl⟩ (fun hHeld => ?_)
      clear hK K
      refine norm_ (a' := ?_) ?_ ?_
      rotate_left
      ·show Act.put _ (some 47) _ = _
       simp only [Act.put, List.setIfInBounds_toArray, List.set_cons_zero, List.set_cons_succ, i64_w, i32_w]
       rfl
      refine one_ (i := 3) (N := some 48) #[true, true, true, true, false] rfl rfl (by kernel_rfl) (by decide) (fun K hK => ?_)
      refine goes_ Try.func18 (by kernel_rfl) rfl #[.agg #[.bool t527, .bool t528, .slice Ao32 t529.length co32, .slice Ao33 t532.length co33, .int .i64 t535, .int .i64 t536, .int .i64 t537], .agg #[.bool t553, .bool t554, .slice Ao60 t555.length co60, .slice Ao61 t558.length co61, .int .i64 t561, .int .i64 t562, .int .i64 t563]] (by rfl) rfl rfl mpx ?_
      with_reducible refine (laws_eqEvent.calls kj11 t527 t528 _ _ t529 _ _ t532 t535 t536 t537 t553 t554 _ _ t555 _ _ t558 t561 t562 t563 true _ ?side1 ?side2 ?side3 ?side4 ?side5 ?side6 ?side7 ?side8 A54.out).mono ?_
      (case side1 => repeat (first | exact (Kd.Q_reads' HO_539002.out).2.2 | (with_reducible refine Kd.C_alloc ?_ _) | (with_reducible refine Kd.C_drewN ?_ _) | (with_reducible refine Kd.C_drew ?_)))
      (case side2 => exact (Kd.Q_reads' HO_539002.out).2.1)
      (case side3 => repeat (first | exact (Kd.Q_reads' HO_539003.out).2.2 | (with_reducible refine Kd.C_alloc ?_ _) | (with_reducible refine Kd.C_drewN ?_ _) | (with_reducible refine Kd.C_drew ?_)))
      (case side4 => exact (Kd.Q_reads' HO_539003.out).2.1)
      (case side5 => exact pkC (Kd.R_reads' HO557.out).2.2)
      (case side6 => exact (Kd.R_reads' HO557.out).2.1)
      (case side7 => exact pkC (Kd.R_reads' HO560.out).2.2)
      (case side8 => exact (Kd.R_reads' HO560.out).2.1)
      rintro e w62 ⟨rfl, hb⟩
      refine ⟨_, rfl, ?_⟩
      replace HO_527002 := am (Kd.R_below (pkR HO_527002.out) hb)
      replace HO_527003 := am (Kd.R_below (pkR HO_527003.out) hb)
      replace HO_539002 := am (Kd.Q_below (pkQ HO_539002.out) hb)
      replace HO_539003 := am (Kd.Q_below (pkQ HO_539003.out) hb)
      replace HO_552002 := am (Kd.Q_below (pkQ HO_552002.out) hb)
      replace HO_552003 := am (Kd.Q_below (pkQ HO_552003.out) hb)
      replace HO557 := am (Kd.R_below (pkR HO557.out) hb)
      replace HO560 := am (Kd.R_below (pkR HO560.out) hb)
      replace BK501 := am (blk_below (pkK BK501.out) hb)
      replace BK526 := am (blk_below (pkK BK526.out) hb)
      replace BK538 := am (blk_below (pkK BK538.out) hb)
      replace BK551 := am (blk_below (pkK BK551.out) hb)
      replace HB := am (below_step (pkW HB.out) hb)
      (try clear hb)
      refine hK.out _ _ ⟨(blk_cell BK538.out 0).trans rfl, (blk_cell BK538.out 1).trans rfl, (blk_cell BK538.out 2).trans rfl, (blk_cell BK538.out 3).trans rfl, (blk_cell BK538.out 4).trans rfl, (blk_cell BK538.out 5).trans rfl, (blk_cell BK538.out 6).trans rfl, (blk_cell BK501.out 0).trans rfl, (blk_cell BK501.out 1).trans rfl, (blk_cell BK501.out 2).trans rfl, (blk_cell BK501.out 3).trans rfl, (blk_cell BK501.out 4).trans rfl, (blk_cell BK501.out 5).trans rfl, (blk_cell BK501.out 6).trans rfl⟩ (fun hHeld => ?_)
      clear hK K
      refine norm_ (a' := ?_) ?_ ?_
      rotate_left
      ·show Act.put _ (some 48) _ = _
       simp only [Act.put, List.setIfInBounds_toArray, List.set_cons_zero, List.set_cons_succ, i64_w, i32_w]
       rfl
      refine pure_ (i := 4) (N := some 49) (v := ?_) (a' := ?_) #[true, true, true, true, true] rfl rfl (by kernel_rfl) (fun _ _ _ h => h) (Or.inl ⟨by rfl, ?_⟩) ?_ ?_
      rotate_left
      ·intro w'
       go_simp
       with_reducible rfl
      rotate_left
      ·simp only [Act.put, List.setIfInBounds_toArray, List.set_cons_zero, List.set_cons_succ, i64_w, i32_w]
       rfl
      refine done_ (by kernel_rfl) ?_
      have hnb63 := NB538_501.out
      have hnc63 := NB501_538.out
      have hnb64 := NB538_526.out
      have hnc64 := NB526_538.out
      have hnb65 := NB538_551.out
      have hnc65 := NB551_538.out
      obtain ⟨hcz66_0, hcz66_1, hcz66_2, hcz66_3, hcz66_4, hcz66_5, hcz66_6, hfz66_0, hfz66_1, hfz66_2, hfz66_3, hfz66_4, hfz66_5, hfz66_6⟩ := bk7 BK538.out
      go_upto_region 14 with (first | ((with_reducible refine gate_callee (f := 26) rfl ?_); refine goesL_ (some 52) rfl rfl Try.func26 (by kernel_rfl) rfl #[.agg #[.bool t527, .bool t528, .slice Ao32 t529.length co32, .slice Ao33 t532.length co33, .int .i64 t535, .int .i64 t536, .int .i64 t537], .int .i64 1] rfl mpx ?_; (with_reducible refine (laws_markEvent.calls kj11 t527 t528 (fun k_ => some k_ = (.slice Ao32 t529.length co32 : Value).ownBlock) (.slice Ao32 t529.length co32) t529 (fun k_ => some k_ = (.slice Ao33 t532.length co33 : Value).ownBlock) (.slice Ao33 t532.length co33) t532 t535 t536 t537 1 t565 t566 t567 w _ ?side1 ?side2 ?side3 ?side4 ?side5 A56.out).mono ?_); (case side1 => repeat (first | (with_reducible first | exact HB.out | apply below_alloc | apply pw_below_drewN | apply below_drew1 | refine below_set ?_ GE501.out | refine below_set ?_ GE526.out | refine below_set ?_ GE538.out | refine below_set ?_ GE551.out) | exact HB.out)); (case side2 => exact Kd.Q_tight rfl HO_539002.out); (case side3 => exact fun k_ e_ => (HO_539002.out.1 k_ e_.symm).1.1.2.2.1); (case side4 => exact Kd.Q_tight rfl HO_539003.out); (case side5 => exact fun k_ e_ => (HO_539003.out.1 k_ e_.symm).1.1.2.2.1); rintro e w67 ⟨rfl, hy0, hy1, hb, hkp⟩; refine ⟨_, rfl, ?_⟩; replace HO_527002 := am (Kd.R_mono (ok' := fun k_ => some k_ ≠ (.slice Ao25 t519.length co25 : Value).ownBlock ∧ some k_ ≠ (.slice Ao32 t529.length co32 : Value).ownBlock ∧ some k_ ≠ (.slice Ao33 t532.length co33 : Value).ownBlock ∧ some k_ ≠ (.slice Ao40 t541.length co40 : Value).ownBlock ∧ some k_ ≠ (.slice Ao41 t544.length co41 : Value).ownBlock ∧ some k_ ≠ (.slice Ao60 t555.length co60 : Value).ownBlock ∧ some k_ ≠ (.slice Ao61 t558.length co61 : Value).ownBlock) (Kd.R_keptB (HO_527002.out) hkp (fun k_ hk_ hs_ => Or.elim hs_ (fun e_ => (hk_.1.1.2.1) e_) (fun e_ => (hk_.1.1.2.2.1) e_))) (fun k_ hk_ => ⟨hk_.1.1.1.1, hk_.1.1.1.2.1, hk_.1.1.1.2.2.1, hk_.1.1.1.2.2.2.1, hk_.1.1.1.2.2.2.2, hk_.1.1.2, hk_.1.2⟩)); replace HO_527003 := am (Kd.R_mono (ok' := fun k_ => some k_ ≠ (.slice Ao24 t516.length co24 : Value).ownBlock ∧ some k_ ≠ (.slice Ao32 t529.length co32 : Value).ownBlock ∧ some k_ ≠ (.slice Ao33 t532.length co33 : Value).ownBlock ∧ some k_ ≠ (.slice Ao40 t541.length co40 : Value).ownBlock ∧ some k_ ≠ (.slice Ao41 t544.length co41 : Value).ownBlock ∧ some k_ ≠ (.slice Ao60 t555.length co60 : Value).ownBlock ∧ some k_ ≠ (.slice Ao61 t558.length co61 : Value).ownBlock) (Kd.R_keptB (HO_527003.out) hkp (fun k_ hk_ hs_ => Or.elim hs_ (fun e_ => (hk_.1.1.2.1) e_) (fun e_ => (hk_.1.1.2.2.1) e_))) (fun k_ hk_ => ⟨hk_.1.1.1.1, hk_.1.1.1.2.1, hk_.1.1.1.2.2.1, hk_.1.1.1.2.2.2.1, hk_.1.1.1.2.2.2.2, hk_.1.1.2, hk_.1.2⟩)); replace HO_552002 := am (Kd.Q_mono (ok' := fun k_ => some k_ ≠ (.slice Ao24 t516.length co24 : Value).ownBlock ∧ some k_ ≠ (.slice Ao25 t519.length co25 : Value).ownBlock ∧ some k_ ≠ (.slice Ao32 t529.length co32 : Value).ownBlock ∧ some k_ ≠ (.slice Ao33 t532.length co33 : Value).ownBlock ∧ some k_ ≠ (.slice Ao41 t544.length co41 : Value).ownBlock ∧ some k_ ≠ (.slice Ao60 t555.length co60 : Value).ownBlock ∧ some k_ ≠ (.slice Ao61 t558.length co61 : Value).ownBlock) (Kd.Q_keptB (HO_552002.out) hkp (fun k_ hk_ hs_ => Or.elim hs_ (fun e_ => (hk_.1.1.2.2.1) e_) (fun e_ => (hk_.1.1.2.2.2.1) e_))) (fun k_ hk_ => ⟨hk_.1.1.1.1, hk_.1.1.1.2.1, hk_.1.1.1.2.2.1, hk_.1.1.1.2.2.2.1, hk_.1.1.1.2.2.2.2, hk_.1.1.2, hk_.1.2⟩)); replace HO_552003 := am (Kd.Q_mono (ok' := fun k_ => some k_ ≠ (.slice Ao24 t516.length co24 : Value).ownBlock ∧ some k_ ≠ (.slice Ao25 t519.length co25 : Value).ownBlock ∧ some k_ ≠ (.slice Ao32 t529.length co32 : Value).ownBlock ∧ some k_ ≠ (.slice Ao33 t532.length co33 : Value).ownBlock ∧ some k_ ≠ (.slice Ao40 t541.length co40 : Value).ownBlock ∧ some k_ ≠ (.slice Ao60 t555.length co60 : Value).ownBlock ∧ some k_ ≠ (.slice Ao61 t558.length co61 : Value).ownBlock) (Kd.Q_keptB (HO_552003.out) hkp (fun k_ hk_ hs_ => Or.elim hs_ (fun e_ => (hk_.1.1.2.2.1) e_) (fun e_ => (hk_.1.1.2.2.2.1) e_))) (fun k_ hk_ => ⟨hk_.1.1.1.1, hk_.1.1.1.2.1, hk_.1.1.1.2.2.1, hk_.1.1.1.2.2.2.1, hk_.1.1.1.2.2.2.2, hk_.1.1.2, hk_.1.2⟩)); replace BK501 := am (blk_kept (pkK BK501.out) hkp (fun hs_ => Or.elim hs_ (fun e_ => (fun e_ => (Kd.Q_ne HO_539002.out BK501.out (by decide)) e_) e_) (fun e_ => (fun e_ => (Kd.Q_ne HO_539003.out BK501.out (by decide)) e_) e_))); replace BK526 := am (blk_kept (pkK BK526.out) hkp (fun hs_ => Or.elim hs_ (fun e_ => (fun e_ => (Kd.Q_ne HO_539002.out BK526.out (by decide)) e_) e_) (fun e_ => (fun e_ => (Kd.Q_ne HO_539003.out BK526.out (by decide)) e_) e_))); replace BK538 := am (blk_kept (pkK BK538.out) hkp (fun hs_ => Or.elim hs_ (fun e_ => (fun e_ => (Kd.Q_ne HO_539002.out BK538.out (by decide)) e_) e_) (fun e_ => (fun e_ => (Kd.Q_ne HO_539003.out BK538.out (by decide)) e_) e_))); replace BK551 := am (blk_kept (pkK BK551.out) hkp (fun hs_ => Or.elim hs_ (fun e_ => (fun e_ => (Kd.Q_ne HO_539002.out BK551.out (by decide)) e_) e_) (fun e_ => (fun e_ => (Kd.Q_ne HO_539003.out BK551.out (by decide)) e_) e_))); replace HO_539002 := am (Kd.Q_reok rfl hy0 (fun k_ e_ => HO_539002.out.1 k_ e_)); replace HO_539003 := am (Kd.Q_reok rfl hy1 (fun k_ e_ => HO_539003.out.1 k_ e_)); replace HO557 := am (Kd.R_mono (ok' := fun k_ => some k_ ≠ (.slice Ao24 t516.length co24 : Value).ownBlock ∧ some k_ ≠ (.slice Ao25 t519.length co25 : Value).ownBlock ∧ some k_ ≠ (.slice Ao32 t529.length co32 : Value).ownBlock ∧ some k_ ≠ (.slice Ao33 t532.length co33 : Value).ownBlock ∧ some k_ ≠ (.slice Ao40 t541.length co40 : Value).ownBlock ∧ some k_ ≠ (.slice Ao41 t544.length co41 : Value).ownBlock ∧ some k_ ≠ (.slice Ao61 t558.length co61 : Value).ownBlock) (Kd.R_keptB (HO557.out) hkp (fun k_ hk_ hs_ => Or.elim hs_ (fun e_ => (hk_.1.1.1.2) e_) (fun e_ => (hk_.1.1.2) e_))) (fun k_ hk_ => ⟨hk_.1.1.1.1.1.1.2, hk_.1.1.1.1.1.2, hk_.1.1.1.1.2, hk_.1.1.1.2, hk_.1.1.2, hk_.1.2, hk_.1.1.1.1.1.1.1⟩)); replace HO560 := am (Kd.R_mono (ok' := fun k_ => some k_ ≠ (.slice Ao24 t516.length co24 : Value).ownBlock ∧ some k_ ≠ (.slice Ao25 t519.length co25 : Value).ownBlock ∧ some k_ ≠ (.slice Ao32 t529.length co32 : Value).ownBlock ∧ some k_ ≠ (.slice Ao33 t532.length co33 : Value).ownBlock ∧ some k_ ≠ (.slice Ao40 t541.length co40 : Value).ownBlock ∧ some k_ ≠ (.slice Ao41 t544.length co41 : Value).ownBlock ∧ some k_ ≠ (.slice Ao60 t555.length co60 : Value).ownBlock) (Kd.R_keptB (HO560.out) hkp (fun k_ hk_ hs_ => Or.elim hs_ (fun e_ => (hk_.1.1.1.2) e_) (fun e_ => (hk_.1.1.2) e_))) (fun k_ hk_ => ⟨hk_.1.1.1.1.1.1.2, hk_.1.1.1.1.1.2, hk_.1.1.1.1.2, hk_.1.1.1.2, hk_.1.1.2, hk_.1.2, hk_.1.1.1.1.1.1.1⟩)); replace HB := am (hb); (try clear hb); (try clear hkp); (try clear hy0); (try clear hy1)))
      (try simp only [Act.put, List.setIfInBounds_toArray, List.set_cons_zero, List.set_cons_succ])
      go_cut [65] (fun v65 wc => ∃ (kq : Nat) (x65_56 : Bool), v65 = .bool x65_56 ∧ Aside0 (laws_FnExactStand.j1 kq a1 t525 x65_56 a0_0 a0_1 l0_2 l0_3 a0_4 a0_5 a0_6 t514 t515 t516 t519 t522 t523 t524 t539 t540 t541 t544 t547 t548 t549 = some r) ∧ Aside0 (kq ≤ kj11) ∧ Aside0 (Kd.R (Kd.int .i64) 3 wc w.heap.size (fun k_ => some k_ ≠ ((.slice Ao25 t519.length co25) : Value).ownBlock ∧ some k_ ≠ ((.slice Ao32 t529.length co32) : Value).ownBlock ∧ some k_ ≠ ((.slice Ao33 t532.length co33) : Value).ownBlock ∧ some k_ ≠ ((.slice Ao40 t541.length co40) : Value).ownBlock ∧ some k_ ≠ ((.slice Ao41 t544.length co41) : Value).ownBlock) (.slice Ao24 t516.length co24) t516) ∧ Aside0 (Kd.R (Kd.int .i64) 3 wc w.heap.size (fun k_ => some k_ ≠ ((.slice Ao24 t516.length co24) : Value).ownBlock ∧ some k_ ≠ ((.slice Ao32 t529.length co32) : Value).ownBlock ∧ some k_ ≠ ((.slice Ao33 t532.length co33) : Value).ownBlock ∧ some k_ ≠ ((.slice Ao40 t541.length co40) : Value).ownBlock ∧ some k_ ≠ ((.slice Ao41 t544.length co41) : Value).ownBlock) (.slice Ao25 t519.length co25) t519) ∧ Aside0 (Kd.Q (Kd.int .i64) 3 wc w.heap.size (fun k_ => some k_ ≠ ((.slice Ao24 t516.length co24) : Value).ownBlock ∧ some k_ ≠ ((.slice Ao25 t519.length co25) : Value).ownBlock ∧ some k_ ≠ ((.slice Ao33 t532.length co33) : Value).ownBlock ∧ some k_ ≠ ((.slice Ao40 t541.length co40) : Value).ownBlock ∧ some k_ ≠ ((.slice Ao41 t544.length co41) : Value).ownBlock) (.slice Ao32 t529.length co32) t566) ∧ Aside0 (Kd.Q (Kd.int .i64) 3 wc w.heap.size (fun k_ => some k_ ≠ ((.slice Ao24 t516.length co24) : Value).ownBlock ∧ some k_ ≠ ((.slice Ao25 t519.length co25) : Value).ownBlock ∧ some k_ ≠ ((.slice Ao32 t529.length co32) : Value).ownBlock ∧ some k_ ≠ ((.slice Ao40 t541.length co40) : Value).ownBlock ∧ some k_ ≠ ((.slice Ao41 t544.length co41) : Value).ownBlock) (.slice Ao33 t532.length co33) t567) ∧ Aside0 (Kd.Q (Kd.int .i64) 3 wc w.heap.size (fun k_ => some k_ ≠ ((.slice Ao24 t516.length co24) : Value).ownBlock ∧ some k_ ≠ ((.slice Ao25 t519.length co25) : Value).ownBlock ∧ some k_ ≠ ((.slice Ao32 t529.length co32) : Value).ownBlock ∧ some k_ ≠ ((.slice Ao33 t532.length co33) : Value).ownBlock ∧ some k_ ≠ ((.slice Ao41 t544.length co41) : Value).ownBlock) (.slice Ao40 t541.length co40) t541) ∧ Aside0 (Kd.Q (Kd.int .i64) 3 wc w.heap.size (fun k_ => some k_ ≠ ((.slice Ao24 t516.length co24) : Value).ownBlock ∧ some k_ ≠ ((.slice Ao25 t519.length co25) : Value).ownBlock ∧ some k_ ≠ ((.slice Ao32 t529.length co32) : Value).ownBlock ∧ some k_ ≠ ((.slice Ao33 t532.length co33) : Value).ownBlock ∧ some k_ ≠ ((.slice Ao40 t541.length co40) : Value).ownBlock) (.slice Ao41 t544.length co41) t544) ∧ Aside0 (wc.heap[gb501]? = some (.cells #[.bool a0_0, .bool a0_1, (.slice A0_2 l0_2.length c0_2), (.slice A0_3 l0_3.length c0_3), .int .i64 a0_4, .int .i64 a0_5, .int .i64 a0_6] 24 (0, 0))) ∧ Aside0 (wc.heap[gb526]? = some (.cells #[.bool t514, .bool t515, (.slice Ao24 t516.length co24), (.slice Ao25 t519.length co25), .int .i64 t522, .int .i64 t523, .int .i64 t524] 27 (0, 0))) ∧ Aside0 (wc.heap[gb538]? = some (.cells #[.bool t527, .bool t528, (.slice Ao32 t529.length co32), (.slice Ao33 t532.length co33), .int .i64 t535, .int .i64 t536, .int .i64 t537] 27 (0, 0))) ∧ Aside0 (wc.heap[gb551]? = some (.cells #[.bool t539, .bool t540, (.slice Ao40 t541.length co40), (.slice Ao41 t544.length co41), .int .i64 t547, .int .i64 t548, .int .i64 t549] 27 (0, 0))) ∧ Aside0 (Below w.heap.size w wc))
      case first =>
       have H := HC57.out
       clear HC57
       by_cases c68 : t565 < 0
       ·rw [if_pos c68] at H
        have c68b0 : decide (t565 < 0) = true := decide_eq_true c68
        clear c68
        (first | rw [c68b0] | (simp only [i64_w, i32_w]; rw [c68b0]) | skip)
        cases kj11 with
        | zero => exact absurd H (by simp [laws_FnExactStand.j1])
        | succ k_ => (simp only [laws_FnExactStand.j1, if_pos] at H; exact absurd (Option.some.inj H) (by rw [HQ_.out]; simp))
       ·rw [if_neg c68] at H
        have c68b0 : decide (t565 < 0) = false := decide_eq_false c68
        clear c68
        (first | rw [c68b0] | (simp only [i64_w, i32_w]; rw [c68b0]) | skip)
        replace H := Option.bind_eq_some_iff.mp H
        obtain ⟨t568, A690, H⟩ := H
        replace H : (if t568 = true then (laws_FnExactStand.j1 kj11 a1 t525 (t550 != t525) a0_0 a0_1 l0_2 l0_3 a0_4 a0_5 a0_6 t514 t515 t516 t519 t522 t523 t524 t539 t540 t541 t544 t547 t548 t549) else (laws_FnExactStand.j1 kj11 a1 t525 true a0_0 a0_1 l0_2 l0_3 a0_4 a0_5 a0_6 t514 t515 t516 t519 t522 t523 t524 t539 t540 t541 t544 t547 t548 t549)) = some r := H
        have A69 := am A690
        clear A690
        by_cases c70 : t568 = true
        ·subst c70
         replace H : (laws_FnExactStand.j1 kj11 a1 t525 (t550 != t525) a0_0 a0_1 l0_2 l0_3 a0_4 a0_5 a0_6 t514 t515 t516 t519 t522 t523 t524 t539 t540 t541 t544 t547 t548 t549) = some r := by rw [if_pos rfl] at H; exact H
         have H' := am H
         clear H
         have hnb71 := NB551_501.out
         have hnc71 := NB501_551.out
         have hnb72 := NB551_526.out
         have hnc72 := NB526_551.out
         have hnb73 := NB551_538.out
         have hnc73 := NB538_551.out
         obtain ⟨hcz74_0, hcz74_1, hcz74_2, hcz74_3, hcz74_4, hcz74_5, hcz74_6, hfz74_0, hfz74_1, hfz74_2, hfz74_3, hfz74_4, hfz74_5, hfz74_6⟩ := bk7 BK551.out
         have hnb75 := NB526_501.out
         have hnc75 := NB501_526.out
         have hnb76 := NB526_538.out
         have hnc76 := NB538_526.out
         obtain ⟨hcz77_0, hcz77_1, hcz77_2, hcz77_3, hcz77_4, hcz77_5, hcz77_6, hfz77_0, hfz77_1, hfz77_2, hfz77_3, hfz77_4, hfz77_5, hfz77_6⟩ := bk7 BK526.out
         go_wp2_with (first | (go_at_call 18; (with_reducible refine (laws_eqEvent.calls kj11 t539 t540 _ _ t541 _ _ t544 t547 t548 t549 t514 t515 _ _ t516 _ _ t519 t522 t523 t524 true _ ?side1 ?side2 ?side3 ?side4 ?side5 ?side6 ?side7 ?side8 A69.out).mono ?_); (case side1 => repeat (first | exact (Kd.Q_reads' HO_552002.out).2.2 | (with_reducible refine Kd.C_alloc ?_ _) | (with_reducible refine Kd.C_drewN ?_ _) | (with_reducible refine Kd.C_drew ?_))); (case side2 => exact (Kd.Q_reads' HO_552002.out).2.1); (case side3 => repeat (first | exact (Kd.Q_reads' HO_552003.out).2.2 | (with_reducible refine Kd.C_alloc ?_ _) | (with_reducible refine Kd.C_drewN ?_ _) | (with_reducible refine Kd.C_drew ?_))); (case side4 => exact (Kd.Q_reads' HO_552003.out).2.1); (case side5 => exact pkC (Kd.R_reads' HO_527002.out).2.2); (case side6 => exact (Kd.R_reads' HO_527002.out).2.1); (case side7 => exact pkC (Kd.R_reads' HO_527003.out).2.2); (case side8 => exact (Kd.R_reads' HO_527003.out).2.1); rintro e w78 ⟨rfl, hb⟩; replace HO_527002 := am (Kd.R_below (pkR HO_527002.out) hb); replace HO_527003 := am (Kd.R_below (pkR HO_527003.out) hb); replace HO_539002 := am (Kd.Q_below (pkQ HO_539002.out) hb); replace HO_539003 := am (Kd.Q_below (pkQ HO_539003.out) hb); replace HO_552002 := am (Kd.Q_below (pkQ HO_552002.out) hb); replace HO_552003 := am (Kd.Q_below (pkQ HO_552003.out) hb); replace HO557 := am (Kd.R_below (pkR HO557.out) hb); replace HO560 := am (Kd.R_below (pkR HO560.out) hb); replace BK501 := am (blk_below (pkK BK501.out) hb); replace BK526 := am (blk_below (pkK BK526.out) hb); replace BK538 := am (blk_below (pkK BK538.out) hb); replace BK551 := am (blk_below (pkK BK551.out) hb); replace HB := am (below_step (pkW HB.out) hb); (try clear hb)))
         go_meet
         case rel => exact ⟨_, ((t550 != t525)), rfx, H', ⟨by have := HJ11.out; first | omega | exact Nat.le_refl _⟩, ⟨by (with_reducible repeat (first | apply Kd.R_alloc | apply Kd.R_drewN | apply Kd.R_drew)); exact Kd.R_mono HO_527002.out (fun _ hk => ⟨hk.1, ⟨hk.2.1, ⟨hk.2.2.1, ⟨hk.2.2.2.1, hk.2.2.2.2.1⟩⟩⟩⟩)⟩, ⟨by (with_reducible repeat (first | apply Kd.R_alloc | apply Kd.R_drewN | apply Kd.R_drew)); exact Kd.R_mono HO_527003.out (fun _ hk => ⟨hk.1, ⟨hk.2.1, ⟨hk.2.2.1, ⟨hk.2.2.2.1, hk.2.2.2.2.1⟩⟩⟩⟩)⟩, ⟨by (with_reducible repeat (first | apply Kd.Q_alloc | apply Kd.Q_drewN | apply Kd.Q_drew)); exact Kd.Q_mono HO_539002.out (fun _ hk => ⟨hk.1.1.1, ⟨hk.1.1.2.1, ⟨hk.1.1.2.2.1, ⟨hk.1.1.2.2.2.1, hk.1.1.2.2.2.2⟩⟩⟩⟩)⟩, ⟨by (with_reducible repeat (first | apply Kd.Q_alloc | apply Kd.Q_drewN | apply Kd.Q_drew)); exact Kd.Q_mono HO_539003.out (fun _ hk => ⟨hk.1.1.1, ⟨hk.1.1.2.1, ⟨hk.1.1.2.2.1, ⟨hk.1.1.2.2.2.1, hk.1.1.2.2.2.2⟩⟩⟩⟩)⟩, ⟨by (with_reducible repeat (first | apply Kd.Q_alloc | apply Kd.Q_drewN | apply Kd.Q_drew)); exact Kd.Q_mono HO_552002.out (fun _ hk => ⟨hk.1, ⟨hk.2.1, ⟨hk.2.2.1, ⟨hk.2.2.2.1, hk.2.2.2.2.1⟩⟩⟩⟩)⟩, ⟨by (with_reducible repeat (first | apply Kd.Q_alloc | apply Kd.Q_drewN | apply Kd.Q_drew)); exact Kd.Q_mono HO_552003.out (fun _ hk => ⟨hk.1, ⟨hk.2.1, ⟨hk.2.2.1, ⟨hk.2.2.2.1, hk.2.2.2.2.1⟩⟩⟩⟩)⟩, ⟨pkK BK501.out⟩, ⟨pkK BK526.out⟩, ⟨pkK BK538.out⟩, ⟨pkK BK551.out⟩, ⟨pkW HB.out⟩⟩
        ·replace c70 := Bool.eq_false_iff.mpr c70
         subst c70
         replace H : (laws_FnExactStand.j1 kj11 a1 t525 true a0_0 a0_1 l0_2 l0_3 a0_4 a0_5 a0_6 t514 t515 t516 t519 t522 t523 t524 t539 t540 t541 t544 t547 t548 t549) = some r := by rw [if_neg (show ¬ (false = true) by decide)] at H; exact H
         cases kj11 with
         | zero => exact absurd H (by simp [laws_FnExactStand.j1])
         | succ k_ => (simp only [laws_FnExactStand.j1, if_pos] at H; exact absurd (Option.some.inj H) (by rw [HQ_.out]; simp))
      case rest =>
       clear HC57
       try clear c1
       try clear c2
       try clear p2
       try clear c3
       try clear c4
       try clear c4b0
       try clear c5
       try clear c6
       try clear c7
       try clear c14
       try clear c16
       try clear c18
       try clear c22
       try clear c26
       try clear c28
       try clear c29
       try clear c30
       try clear c36
       try clear c37
       try clear c38
       try clear c43
       try clear c44
       try clear c45
       try clear c46
       try clear c48
       try clear c49
       try clear c52
       try clear c55
       try clear c63
       try clear c64
       try clear c65
       try clear c68
       try clear c68b0
       try clear c70
       try clear c71
       try clear c72
       try clear c73
       try clear c75
       try clear c76
       try clear hcz14_0
       try clear hcz14_1
       try clear hcz14_2
       try clear hcz14_3
       try clear hcz14_4
       try clear hcz14_5
       try clear hcz14_6
       try clear hcz16_0
       try clear hcz16_1
       try clear hcz16_2
       try clear hcz16_3
       try clear hcz16_4
       try clear hcz16_5
       try clear hcz16_6
       try clear hcz23_0
       try clear hcz23_1
       try clear hcz23_2
       try clear hcz23_3
       try clear hcz23_4
       try clear hcz23_5
       try clear hcz23_6
       try clear hcz26_0
       try clear hcz26_1
       try clear hcz26_2
       try clear hcz26_3
       try clear hcz26_4
       try clear hcz26_5
       try clear hcz26_6
       try clear hcz31_0
       try clear hcz31_1
       try clear hcz31_2
       try clear hcz31_3
       try clear hcz31_4
       try clear hcz31_5
       try clear hcz31_6
       try clear hcz39_0
       try clear hcz39_1
       try clear hcz39_2
       try clear hcz39_3
       try clear hcz39_4
       try clear hcz39_5
       try clear hcz39_6
       try clear hcz47_0
       try clear hcz47_1
       try clear hcz47_2
       try clear hcz47_3
       try clear hcz47_4
       try clear hcz47_5
       try clear hcz47_6
       try clear hcz50_0
       try clear hcz50_1
       try clear hcz50_2
       try clear hcz50_3
       try clear hcz50_4
       try clear hcz50_5
       try clear hcz50_6
       try clear hcz66_0
       try clear hcz66_1
       try clear hcz66_2
       try clear hcz66_3
       try clear hcz66_4
       try clear hcz66_5
       try clear hcz66_6
       try clear hcz6_0
       try clear hcz6_1
       try clear hcz6_2
       try clear hcz6_3
       try clear hcz6_4
       try clear hcz6_5
       try clear hcz6_6
       try clear hcz74_0
       try clear hcz74_1
       try clear hcz74_2
       try clear hcz74_3
       try clear hcz74_4
       try clear hcz74_5
       try clear hcz74_6
       try clear hcz77_0
       try clear hcz77_1
       try clear hcz77_2
       try clear hcz77_3
       try clear hcz77_4
       try clear hcz77_5
       try clear hcz77_6
       try clear hfz14_0
       try clear hfz14_1
       try clear hfz14_2
       try clear hfz14_3
       try clear hfz14_4
       try clear hfz14_5
       try clear hfz14_6
       try clear hfz16_0
       try clear hfz16_1
       try clear hfz16_2
       try clear hfz16_3
       try clear hfz16_4
       try clear hfz16_5
       try clear hfz16_6
       try clear hfz23_0
       try clear hfz23_1
       try clear hfz23_2
       try clear hfz23_3
       try clear hfz23_4
       try clear hfz23_5
       try clear hfz23_6
       try clear hfz26_0
       try clear hfz26_1
       try clear hfz26_2
       try clear hfz26_3
       try clear hfz26_4
       try clear hfz26_5
       try clear hfz26_6
       try clear hfz31_0
       try clear hfz31_1
       try clear hfz31_2
       try clear hfz31_3
       try clear hfz31_4
       try clear hfz31_5
       try clear hfz31_6
       try clear hfz39_0
       try clear hfz39_1
       try clear hfz39_2
       try clear hfz39_3
       try clear hfz39_4
       try clear hfz39_5
       try clear hfz39_6
       try clear hfz47_0
       try clear hfz47_1
       try clear hfz47_2
       try clear hfz47_3
       try clear hfz47_4
       try clear hfz47_5
       try clear hfz47_6
       try clear hfz50_0
       try clear hfz50_1
       try clear hfz50_2
       try clear hfz50_3
       try clear hfz50_4
       try clear hfz50_5
       try clear hfz50_6
       try clear hfz66_0
       try clear hfz66_1
       try clear hfz66_2
       try clear hfz66_3
       try clear hfz66_4
       try clear hfz66_5
       try clear hfz66_6
       try clear hfz6_0
       try clear hfz6_1
       try clear hfz6_2
       try clear hfz6_3
       try clear hfz6_4
       try clear hfz6_5
       try clear hfz6_6
       try clear hfz74_0
       try clear hfz74_1
       try clear hfz74_2
       try clear hfz74_3
       try clear hfz74_4
       try clear hfz74_5
       try clear hfz74_6
       try clear hfz77_0
       try clear hfz77_1
       try clear hfz77_2
       try clear hfz77_3
       try clear hfz77_4
       try clear hfz77_5
       try clear hfz77_6
       try clear p2
       obtain ⟨kq, x65_56, rfl, HA, HJ56, HO_527002, HO_527003, HO_539002, HO_539003, HO_552002, HO_552003, BK501, BK526, BK538, BK551, HB⟩ := hcut
       have hl539002_56 := (Kd.Q_reads' HO_539002.out).1
       rw [hl539002_56] at HO_539002
       (try simp only [hl539002_56])
       (try simp only [hl539002_56] at BK501)
       (try simp only [hl539002_56] at BK526)
       (try simp only [hl539002_56] at BK538)
       (try simp only [hl539002_56] at BK551)
       (try simp only [hl539002_56] at HO_527002)
       (try simp only [hl539002_56] at HO_527003)
       (try simp only [hl539002_56] at HO_539003)
       (try simp only [hl539002_56] at HO_552002)
       (try simp only [hl539002_56] at HO_552003)
       have hl539003_56 := (Kd.Q_reads' HO_539003.out).1
       rw [hl539003_56] at HO_539003
       (try simp only [hl539003_56])
       (try simp only [hl539003_56] at BK501)
       (try simp only [hl539003_56] at BK526)
       (try simp only [hl539003_56] at BK538)
       (try simp only [hl539003_56] at BK551)
       (try simp only [hl539003_56] at HO_527002)
       (try simp only [hl539003_56] at HO_527003)
       (try simp only [hl539003_56] at HO_539002)
       (try simp only [hl539003_56] at HO_552002)
       (try simp only [hl539003_56] at HO_552003)
       cases kq with
       | zero => exact absurd HA.out (by simp [laws_FnExactStand.j1])
       | succ kj56 =>
        have H := HA.out
        clear HA
        simp only [laws_FnExactStand.j1] at H
        by_cases c79 : x65_56 = true
        ·subst c79
         replace H : (some false) = some r := by rw [if_pos rfl] at H; exact H
         exact absurd (Option.some.inj H) (by rw [HQ_.out]; simp)
        ·replace c79 := Bool.eq_false_iff.mpr c79
         subst c79
         replace H : ((laws_markEvent.f kj56 t539 t540 t541 t544 t547 t548 t549 1).bind fun bt569 => ((laws_heldEvent.f kj56 t539 t540 bt569.2.1 bt569.2.2 t547 t548 t549 1).bind fun t572 => (if t572 < 0 then (some false) else (if t572 = bt569.1 then ((laws_toEvent.f kj56 a0_0 a0_1 l0_2 l0_3 a0_4 a0_5 a0_6).bind fun bt573 => ((impl_Stand.f kj56 bt573.1 bt573.2.1 bt573.2.2.1 bt573.2.2.2.1 bt573.2.2.2.2.1 bt573.2.2.2.2.2.1 bt573.2.2.2.2.2.2 a1).bind fun bt584 => ((laws_eqEvent.f kj56 bt584.1 bt584.2.1 bt584.2.2.1 bt584.2.2.2.1 bt584.2.2.2.2.1 bt584.2.2.2.2.2.1 bt584.2.2.2.2.2.2.1 t514 t515 t516 t519 t522 t523 t524).bind fun t597 => (if t597 = true then (laws_FnExactStand.j2 kj56 bt569.1 (bt584.2.2.2.2.2.2.2 != t525) t539 t540 bt569.2.1 bt569.2.2 t547 t548 t549) else (laws_FnExactStand.j2 kj56 bt569.1 true t539 t540 bt569.2.1 bt569.2.2 t547 t548 t549))))) else (some false))))) = some r := by rw [if_neg (show ¬ (false = true) by decide)] at H; exact H
         replace H := Option.bind_eq_some_iff.mp H
         obtain ⟨⟨t569, t570, t571⟩, A800, H⟩ := H
         replace H : ((laws_heldEvent.f kj56 t539 t540 t570 t571 t547 t548 t549 1).bind fun t572 => (if t572 < 0 then (some false) else (if t572 = t569 then ((laws_toEvent.f kj56 a0_0 a0_1 l0_2 l0_3 a0_4 a0_5 a0_6).bind fun bt573 => ((impl_Stand.f kj56 bt573.1 bt573.2.1 bt573.2.2.1 bt573.2.2.2.1 bt573.2.2.2.2.1 bt573.2.2.2.2.2.1 bt573.2.2.2.2.2.2 a1).bind fun bt584 => ((laws_eqEvent.f kj56 bt584.1 bt584.2.1 bt584.2.2.1 bt584.2.2.2.1 bt584.2.2.2.2.1 bt584.2.2.2.2.2.1 bt584.2.2.2.2.2.2.1 t514 t515 t516 t519 t522 t523 t524).bind fun t597 => (if t597 = true then (laws_FnExactStand.j2 kj56 t569 (bt584.2.2.2.2.2.2.2 != t525) t539 t540 t570 t571 t547 t548 t549) else (laws_FnExactStand.j2 kj56 t569 true t539 t540 t570 t571 t547 t548 t549))))) else (some false)))) = some r := H
         have A80 := am A800
         clear A800
         replace H := Option.bind_eq_some_iff.mp H
         obtain ⟨t572, A810, H⟩ := H
         replace H : (if t572 < 0 then (some false) else (if t572 = t569 then ((laws_toEvent.f kj56 a0_0 a0_1 l0_2 l0_3 a0_4 a0_5 a0_6).bind fun bt573 => ((impl_Stand.f kj56 bt573.1 bt573.2.1 bt573.2.2.1 bt573.2.2.2.1 bt573.2.2.2.2.1 bt573.2.2.2.2.2.1 bt573.2.2.2.2.2.2 a1).bind fun bt584 => ((laws_eqEvent.f kj56 bt584.1 bt584.2.1 bt584.2.2.1 bt584.2.2.2.1 bt584.2.2.2.2.1 bt584.2.2.2.2.2.1 bt584.2.2.2.2.2.2.1 t514 t515 t516 t519 t522 t523 t524).bind fun t597 => (if t597 = true then (laws_FnExactStand.j2 kj56 t569 (bt584.2.2.2.2.2.2.2 != t525) t539 t540 t570 t571 t547 t548 t549) else (laws_FnExactStand.j2 kj56 t569 true t539 t540 t570 t571 t547 t548 t549))))) else (some false))) = some r := H
         have A81 := am A810
         clear A810
         by_cases c82 : t572 < 0
         ·rw [if_pos c82] at H
          have c82b0 : decide (t572 < 0) = true := decide_eq_true c82
          clear c82
          exact absurd (Option.some.inj H) (by rw [HQ_.out]; simp)
         ·rw [if_neg c82] at H
          have c82b0 : decide (t572 < 0) = false := decide_eq_false c82
          clear c82
          by_cases c83 : t572 = t569
          ·rw [if_pos c83] at H
           have c83b0 : (t572 == t569) = true := beq_iff_eq.mpr c83
           have c83b1 : (t572 != t569) = false := bne_eq_false_iff_eq.mpr c83
           clear c83
           replace H := Option.bind_eq_some_iff.mp H
           obtain ⟨⟨t573, t574, t575, t578, t581, t582, t583⟩, A840, H⟩ := H
           replace H : ((impl_Stand.f kj56 t573 t574 t575 t578 t581 t582 t583 a1).bind fun bt584 => ((laws_eqEvent.f kj56 bt584.1 bt584.2.1 bt584.2.2.1 bt584.2.2.2.1 bt584.2.2.2.2.1 bt584.2.2.2.2.2.1 bt584.2.2.2.2.2.2.1 t514 t515 t516 t519 t522 t523 t524).bind fun t597 => (if t597 = true then (laws_FnExactStand.j2 kj56 t569 (bt584.2.2.2.2.2.2.2 != t525) t539 t540 t570 t571 t547 t548 t549) else (laws_FnExactStand.j2 kj56 t569 true t539 t540 t570 t571 t547 t548 t549)))) = some r := H
           have A84 := am A840
           clear A840
           replace H := Option.bind_eq_some_iff.mp H
           obtain ⟨⟨t584, t585, t586, t589, t592, t593, t594, t595⟩, A850, H⟩ := H
           replace H : ((laws_eqEvent.f kj56 t584 t585 t586 t589 t592 t593 t594 t514 t515 t516 t519 t522 t523 t524).bind fun t597 => (if t597 = true then (laws_FnExactStand.j2 kj56 t569 (t595 != t525) t539 t540 t570 t571 t547 t548 t549) else (laws_FnExactStand.j2 kj56 t569 true t539 t540 t570 t571 t547 t548 t549))) = some r := H
           have A85 := am A850
           clear A850
           have HC86 := am H
           clear H
           have hnb87 := NB551_501.out
           have hnc87 := NB501_551.out
           have hnb88 := NB551_526.out
           have hnc88 := NB526_551.out
           have hnb89 := NB551_538.out
           have hnc89 := NB538_551.out
           obtain ⟨hcz90_0, hcz90_1, hcz90_2, hcz90_3, hcz90_4, hcz90_5, hcz90_6, hfz90_0, hfz90_1, hfz90_2, hfz90_3, hfz90_4, hfz90_5, hfz90_6⟩ := bk7 BK551.out
           go_upto_region 25 with (first | ((with_reducible refine gate_callee (f := 26) rfl ?_); refine goesL_ (some 68) rfl rfl Try.func26 (by kernel_rfl) rfl #[.agg #[.bool t539, .bool t540, .slice Ao40 t541.length co40, .slice Ao41 t544.length co41, .int .i64 t547, .int .i64 t548, .int .i64 t549], .int .i64 1] rfl mpx ?_; (with_reducible refine (laws_markEvent.calls kj56 t539 t540 (fun k_ => some k_ = (.slice Ao40 t541.length co40 : Value).ownBlock) (.slice Ao40 t541.length co40) t541 (fun k_ => some k_ = (.slice Ao41 t544.length co41 : Value).ownBlock) (.slice Ao41 t544.length co41) t544 t547 t548 t549 1 t569 t570 t571 w _ ?side1 ?side2 ?side3 ?side4 ?side5 A80.out).mono ?_); (case side1 => repeat (first | (with_reducible first | exact HB.out | apply below_alloc | apply pw_below_drewN | apply below_drew1 | refine below_set ?_ GE501.out | refine below_set ?_ GE526.out | refine below_set ?_ GE538.out | refine below_set ?_ GE551.out) | exact HB.out)); (case side2 => exact Kd.Q_tight rfl HO_552002.out); (case side3 => exact fun k_ e_ => (HO_552002.out.1 k_ e_.symm).2.2.2.2); (case side4 => exact Kd.Q_tight rfl HO_552003.out); (case side5 => exact fun k_ e_ => (HO_552003.out.1 k_ e_.symm).2.2.2.2); rintro e w91 ⟨rfl, hy0, hy1, hb, hkp⟩; refine ⟨_, rfl, ?_⟩; replace HO_527002 := am (Kd.R_mono (ok' := fun k_ => some k_ ≠ (.slice Ao25 t519.length co25 : Value).ownBlock ∧ some k_ ≠ (.slice Ao32 t566.length co32 : Value).ownBlock ∧ some k_ ≠ (.slice Ao33 t567.length co33 : Value).ownBlock ∧ some k_ ≠ (.slice Ao40 t541.length co40 : Value).ownBlock ∧ some k_ ≠ (.slice Ao41 t544.length co41 : Value).ownBlock) (Kd.R_keptB (HO_527002.out) hkp (fun k_ hk_ hs_ => Or.elim hs_ (fun e_ => (hk_.2.2.2.1) e_) (fun e_ => (hk_.2.2.2.2) e_))) (fun k_ hk_ => ⟨hk_.1.1, hk_.1.2.1, hk_.1.2.2.1, hk_.1.2.2.2.1, hk_.1.2.2.2.2⟩)); replace HO_527003 := am (Kd.R_mono (ok' := fun k_ => some k_ ≠ (.slice Ao24 t516.length co24 : Value).ownBlock ∧ some k_ ≠ (.slice Ao32 t566.length co32 : Value).ownBlock ∧ some k_ ≠ (.slice Ao33 t567.length co33 : Value).ownBlock ∧ some k_ ≠ (.slice Ao40 t541.length co40 : Value).ownBlock ∧ some k_ ≠ (.slice Ao41 t544.length co41 : Value).ownBlock) (Kd.R_keptB (HO_527003.out) hkp (fun k_ hk_ hs_ => Or.elim hs_ (fun e_ => (hk_.2.2.2.1) e_) (fun e_ => (hk_.2.2.2.2) e_))) (fun k_ hk_ => ⟨hk_.1.1, hk_.1.2.1, hk_.1.2.2.1, hk_.1.2.2.2.1, hk_.1.2.2.2.2⟩)); replace HO_539002 := am (Kd.Q_mono (ok' := fun k_ => some k_ ≠ (.slice Ao24 t516.length co24 : Value).ownBlock ∧ some k_ ≠ (.slice Ao25 t519.length co25 : Value).ownBlock ∧ some k_ ≠ (.slice Ao33 t567.length co33 : Value).ownBlock ∧ some k_ ≠ (.slice Ao40 t541.length co40 : Value).ownBlock ∧ some k_ ≠ (.slice Ao41 t544.length co41 : Value).ownBlock) (Kd.Q_keptB (HO_539002.out) hkp (fun k_ hk_ hs_ => Or.elim hs_ (fun e_ => (hk_.2.2.2.1) e_) (fun e_ => (hk_.2.2.2.2) e_))) (fun k_ hk_ => ⟨hk_.1.1, hk_.1.2.1, hk_.1.2.2.1, hk_.1.2.2.2.1, hk_.1.2.2.2.2⟩)); replace HO_539003 := am (Kd.Q_mono (ok' := fun k_ => some k_ ≠ (.slice Ao24 t516.length co24 : Value).ownBlock ∧ some k_ ≠ (.slice Ao25 t519.length co25 : Value).ownBlock ∧ some k_ ≠ (.slice Ao32 t566.length co32 : Value).ownBlock ∧ some k_ ≠ (.slice Ao40 t541.length co40 : Value).ownBlock ∧ some k_ ≠ (.slice Ao41 t544.length co41 : Value).ownBlock) (Kd.Q_keptB (HO_539003.out) hkp (fun k_ hk_ hs_ => Or.elim hs_ (fun e_ => (hk_.2.2.2.1) e_) (fun e_ => (hk_.2.2.2.2) e_))) (fun k_ hk_ => ⟨hk_.1.1, hk_.1.2.1, hk_.1.2.2.1, hk_.1.2.2.2.1, hk_.1.2.2.2.2⟩)); replace BK501 := am (blk_kept (pkK BK501.out) hkp (fun hs_ => Or.elim hs_ (fun e_ => (fun e_ => (Kd.Q_ne HO_552002.out BK501.out (by decide)) e_) e_) (fun e_ => (fun e_ => (Kd.Q_ne HO_552003.out BK501.out (by decide)) e_) e_))); replace BK526 := am (blk_kept (pkK BK526.out) hkp (fun hs_ => Or.elim hs_ (fun e_ => (fun e_ => (Kd.Q_ne HO_552002.out BK526.out (by decide)) e_) e_) (fun e_ => (fun e_ => (Kd.Q_ne HO_552003.out BK526.out (by decide)) e_) e_))); replace BK538 := am (blk_kept (pkK BK538.out) hkp (fun hs_ => Or.elim hs_ (fun e_ => (fun e_ => (Kd.Q_ne HO_552002.out BK538.out (by decide)) e_) e_) (fun e_ => (fun e_ => (Kd.Q_ne HO_552003.out BK538.out (by decide)) e_) e_))); replace BK551 := am (blk_kept (pkK BK551.out) hkp (fun hs_ => Or.elim hs_ (fun e_ => (fun e_ => (Kd.Q_ne HO_552002.out BK551.out (by decide)) e_) e_) (fun e_ => (fun e_ => (Kd.Q_ne HO_552003.out BK551.out (by decide)) e_) e_))); replace HO_552002 := am (Kd.Q_reok rfl hy0 (fun k_ e_ => HO_552002.out.1 k_ e_)); replace HO_552003 := am (Kd.Q_reok rfl hy1 (fun k_ e_ => HO_552003.out.1 k_ e_)); replace HB := am (hb); (try clear hb); (try clear hkp); (try clear hy0); (try clear hy1); obtain ⟨hcz92_0, hcz92_1, hcz92_2, hcz92_3, hcz92_4, hcz92_5, hcz92_6, hfz92_0, hfz92_1, hfz92_2, hfz92_3, hfz92_4, hfz92_5, hfz92_6⟩ := bk7 BK551.out) | ((with_reducible refine gate_callee (f := 27) rfl ?_); refine goesL_ (some 71) rfl rfl Try.func27 (by kernel_rfl) rfl #[.agg #[.bool t539, .bool t540, .slice Ao40 t570.length co40, .slice Ao41 t571.length co41, .int .i64 t547, .int .i64 t548, .int .i64 t549], .int .i64 1] rfl (by (try simp only [List.map_toArray, List.map_cons, List.map_nil]); first | done | (rw [show t570.length = t541.length from (Kd.Q_reads' HO_552002.out).1.symm, show t571.length = t544.length from (Kd.Q_reads' HO_552003.out).1.symm] <;> rfl) | rfl | (simp only [List.length_drop, List.length_take]; rfl) | (go_simp; done) | (simp [*]; done)) ?_; (with_reducible refine (laws_heldEvent.calls kj56 t539 t540 _ _ t570 _ _ t571 t547 t548 t549 1 t572 _ ?side1 ?side2 ?side3 ?side4 A81.out).mono ?_); (case side1 => repeat (first | exact (Kd.Q_reads' HO_552002.out).2.2 | (with_reducible refine Kd.C_alloc ?_ _) | (with_reducible refine Kd.C_drewN ?_ _) | (with_reducible refine Kd.C_drew ?_))); (case side2 => rw [show t570.length = t541.length from (Kd.Q_reads' HO_552002.out).1.symm]; exact (Kd.Q_reads' HO_552002.out).2.1); (case side3 => repeat (first | exact (Kd.Q_reads' HO_552003.out).2.2 | (with_reducible refine Kd.C_alloc ?_ _) | (with_reducible refine Kd.C_drewN ?_ _) | (with_reducible refine Kd.C_drew ?_))); (case side4 => rw [show t571.length = t544.length from (Kd.Q_reads' HO_552003.out).1.symm]; exact (Kd.Q_reads' HO_552003.out).2.1); rintro e w93 ⟨rfl, hb⟩; refine ⟨_, rfl, ?_⟩; replace HO_527002 := am (Kd.R_below (pkR HO_527002.out) hb); replace HO_527003 := am (Kd.R_below (pkR HO_527003.out) hb); replace HO_539002 := am (Kd.Q_below (pkQ HO_539002.out) hb); replace HO_539003 := am (Kd.Q_below (pkQ HO_539003.out) hb); replace HO_552002 := am (Kd.Q_below (pkQ HO_552002.out) hb); replace HO_552003 := am (Kd.Q_below (pkQ HO_552003.out) hb); replace BK501 := am (blk_below (pkK BK501.out) hb); replace BK526 := am (blk_below (pkK BK526.out) hb); replace BK538 := am (blk_below (pkK BK538.out) hb); replace BK551 := am (blk_below (pkK BK551.out) hb); replace HB := am (below_step (pkW HB.out) hb); (try clear hb); have hnb94 := NB501_526.out; have hnc94 := NB526_501.out; have hnb95 := NB501_538.out; have hnc95 := NB538_501.out; obtain ⟨hcz96_0, hcz96_1, hcz96_2, hcz96_3, hcz96_4, hcz96_5, hcz96_6, hfz96_0, hfz96_1, hfz96_2, hfz96_3, hfz96_4, hfz96_5, hfz96_6⟩ := bk7 BK501.out) | ((with_reducible refine gate_callee (f := 16) rfl ?_); refine goesL_ (some 79) rfl rfl Try.func16 (by kernel_rfl) rfl #[.agg #[.bool a0_0, .bool a0_1, .slice A0_2 l0_2.length c0_2, .slice A0_3 l0_3.length c0_3, .int .i64 a0_4, .int .i64 a0_5, .int .i64 a0_6]] rfl mpx ?_; (with_reducible refine (laws_toEvent.calls kj56 a0_0 a0_1 _ _ l0_2 _ _ l0_3 a0_4 a0_5 a0_6 t573 t574 t575 t578 t581 t582 t583 _ ?side1 ?side2 ?side3 ?side4 A84.out).mono ?_); (case side1 => exact pkC (Kd.C_below HR0_2.out HB.out)); (case side2 => exact HC0_2.out); (case side3 => exact pkC (Kd.C_below HR0_3.out HB.out)); (case side4 => exact HC0_3.out); rintro e w97 ⟨v576, v579, rfl, ho0, ho1, hb⟩; refine ⟨_, rfl, ?_⟩; have HO577 := am (Kd.R_lower (Kd.R_new' (Kd.R_new' (Kd.R_new' (Kd.R_new' (Kd.R_new' (Kd.R_new' ho0 (Kd.R_lt (pkR HO_527002.out))) (Kd.R_lt (pkR HO_527003.out))) (Kd.Q_lt (pkQ HO_539002.out))) (Kd.Q_lt (pkQ HO_539003.out))) (Kd.Q_lt (pkQ HO_552002.out))) (Kd.Q_lt (pkQ HO_552003.out))) (below_size (pkW HB.out))); have HO580 := am (Kd.R_lower (Kd.R_new' (Kd.R_new' (Kd.R_new' (Kd.R_new' (Kd.R_new' (Kd.R_new' ho1 (Kd.R_lt (pkR HO_527002.out))) (Kd.R_lt (pkR HO_527003.out))) (Kd.Q_lt (pkQ HO_539002.out))) (Kd.Q_lt (pkQ HO_539003.out))) (Kd.Q_lt (pkQ HO_552002.out))) (Kd.Q_lt (pkQ HO_552003.out))) (below_size (pkW HB.out))); replace HO_527002 := am (Kd.R_mono (Kd.R_told (Kd.R_told (Kd.R_old (pkR HO_527002.out) hb) (Kd.R_base ho0)) (Kd.R_base ho1)) (fun _ h_ => h_.1)); replace HO_527003 := am (Kd.R_mono (Kd.R_told (Kd.R_told (Kd.R_old (pkR HO_527003.out) hb) (Kd.R_base ho0)) (Kd.R_base ho1)) (fun _ h_ => h_.1)); replace HO_539002 := am (Kd.Q_mono (Kd.Q_told (Kd.Q_told (Kd.Q_old (pkQ HO_539002.out) hb) (Kd.R_base ho0)) (Kd.R_base ho1)) (fun _ h_ => h_.1)); replace HO_539003 := am (Kd.Q_mono (Kd.Q_told (Kd.Q_told (Kd.Q_old (pkQ HO_539003.out) hb) (Kd.R_base ho0)) (Kd.R_base ho1)) (fun _ h_ => h_.1)); replace HO_552002 := am (Kd.Q_mono (Kd.Q_told (Kd.Q_told (Kd.Q_old (pkQ HO_552002.out) hb) (Kd.R_base ho0)) (Kd.R_base ho1)) (fun _ h_ => h_.1)); replace HO_552003 := am (Kd.Q_mono (Kd.Q_told (Kd.Q_told (Kd.Q_old (pkQ HO_552003.out) hb) (Kd.R_base ho0)) (Kd.R_base ho1)) (fun _ h_ => h_.1)); replace BK501 := am (blk_below (pkK BK501.out) hb); replace BK526 := am (blk_below (pkK BK526.out) hb); replace BK538 := am (blk_below (pkK BK538.out) hb); replace BK551 := am (blk_below (pkK BK551.out) hb); replace HB := am (below_step (pkW HB.out) hb); (try clear hb ho0 ho1); obtain ⟨Ao98, co98, eo98⟩ := Kd.R_slice HO577.out; subst eo98; obtain ⟨Ao99, co99, eo99⟩ := Kd.R_slice HO580.out; subst eo99) | ((with_reducible refine gate_callee (f := 29) rfl ?_); refine goesL_ (some 81) rfl rfl Try.func29 (by kernel_rfl) rfl #[.agg #[.bool t573, .bool t574, .slice Ao98 t575.length co98, .slice Ao99 t578.length co99, .int .i64 t581, .int .i64 t582, .int .i64 t583], .int .i64 a1] rfl mpx ?_; (with_reducible refine (impl_Stand.calls kj56 t573 t574 _ _ t575 _ _ t578 t581 t582 t583 a1 t584 t585 t586 t589 t592 t593 t594 t595 _ ?side1 ?side2 ?side3 ?side4 A85.out).mono ?_); (case side1 => exact pkC (Kd.R_reads' HO577.out).2.2); (case side2 => exact (Kd.R_reads' HO577.out).2.1); (case side3 => exact pkC (Kd.R_reads' HO580.out).2.2); (case side4 => exact (Kd.R_reads' HO580.out).2.1); rintro e w100 ⟨v587, v590, rfl, ho0, ho1, hb⟩; refine ⟨_, rfl, ?_⟩; have HO588 := am (Kd.R_lower (Kd.R_new' (Kd.R_new' (Kd.R_new' (Kd.R_new' (Kd.R_new' (Kd.R_new' (Kd.R_new' (Kd.R_new' ho0 (Kd.R_lt (pkR HO_527002.out))) (Kd.R_lt (pkR HO_527003.out))) (Kd.Q_lt (pkQ HO_539002.out))) (Kd.Q_lt (pkQ HO_539003.out))) (Kd.Q_lt (pkQ HO_552002.out))) (Kd.Q_lt (pkQ HO_552003.out))) (Kd.R_lt (pkR HO577.out))) (Kd.R_lt (pkR HO580.out))) (below_size (pkW HB.out))); have HO591 := am (Kd.R_lower (Kd.R_new' (Kd.R_new' (Kd.R_new' (Kd.R_new' (Kd.R_new' (Kd.R_new' (Kd.R_new' (Kd.R_new' ho1 (Kd.R_lt (pkR HO_527002.out))) (Kd.R_lt (pkR HO_527003.out))) (Kd.Q_lt (pkQ HO_539002.out))) (Kd.Q_lt (pkQ HO_539003.out))) (Kd.Q_lt (pkQ HO_552002.out))) (Kd.Q_lt (pkQ HO_552003.out))) (Kd.R_lt (pkR HO577.out))) (Kd.R_lt (pkR HO580.out))) (below_size (pkW HB.out))); replace HO_527002 := am (Kd.R_mono (Kd.R_told (Kd.R_told (Kd.R_old (pkR HO_527002.out) hb) (Kd.R_base ho0)) (Kd.R_base ho1)) (fun _ h_ => h_.1)); replace HO_527003 := am (Kd.R_mono (Kd.R_told (Kd.R_told (Kd.R_old (pkR HO_527003.out) hb) (Kd.R_base ho0)) (Kd.R_base ho1)) (fun _ h_ => h_.1)); replace HO_539002 := am (Kd.Q_mono (Kd.Q_told (Kd.Q_told (Kd.Q_old (pkQ HO_539002.out) hb) (Kd.R_base ho0)) (Kd.R_base ho1)) (fun _ h_ => h_.1)); replace HO_539003 := am (Kd.Q_mono (Kd.Q_told (Kd.Q_told (Kd.Q_old (pkQ HO_539003.out) hb) (Kd.R_base ho0)) (Kd.R_base ho1)) (fun _ h_ => h_.1)); replace HO_552002 := am (Kd.Q_mono (Kd.Q_told (Kd.Q_told (Kd.Q_old (pkQ HO_552002.out) hb) (Kd.R_base ho0)) (Kd.R_base ho1)) (fun _ h_ => h_.1)); replace HO_552003 := am (Kd.Q_mono (Kd.Q_told (Kd.Q_told (Kd.Q_old (pkQ HO_552003.out) hb) (Kd.R_base ho0)) (Kd.R_base ho1)) (fun _ h_ => h_.1)); replace HO577 := am (Kd.R_mono (Kd.R_told (Kd.R_told (Kd.R_old (pkR HO577.out) hb) (Kd.R_base ho0)) (Kd.R_base ho1)) (fun _ h_ => h_.1)); replace HO580 := am (Kd.R_mono (Kd.R_told (Kd.R_told (Kd.R_old (pkR HO580.out) hb) (Kd.R_base ho0)) (Kd.R_base ho1)) (fun _ h_ => h_.1)); replace BK501 := am (blk_below (pkK BK501.out) hb); replace BK526 := am (blk_below (pkK BK526.out) hb); replace BK538 := am (blk_below (pkK BK538.out) hb); replace BK551 := am (blk_below (pkK BK551.out) hb); replace HB := am (below_step (pkW HB.out) hb); (try clear hb ho0 ho1)) | ((with_reducible refine gate_dst (N := 14) rfl ?_); refine box_event ?hg (N := 14) ?hd (cs := #[.bool false, .bool false, .slice none 0 0, .slice none 0 0, .int .i64 0, .int .i64 0, .int .i64 0]) (t := 27) ?hr ?_; (case hd => rfl); (case hg => rfl); (case hr => first | (go_simp; done) | (go_simp; rfl)); intro gb596 hg w101 hbox hb; replace HO_527002 := am (Kd.R_below (pkR HO_527002.out) hb); replace HO_527003 := am (Kd.R_below (pkR HO_527003.out) hb); replace HO_539002 := am (Kd.Q_below (pkQ HO_539002.out) hb); replace HO_539003 := am (Kd.Q_below (pkQ HO_539003.out) hb); replace HO_552002 := am (Kd.Q_below (pkQ HO_552002.out) hb); replace HO_552003 := am (Kd.Q_below (pkQ HO_552003.out) hb); replace HO577 := am (Kd.R_below (pkR HO577.out) hb); replace HO580 := am (Kd.R_below (pkR HO580.out) hb); replace HO588 := am (Kd.R_below (pkR HO588.out) hb); replace HO591 := am (Kd.R_below (pkR HO591.out) hb); have BK596 := am (hbox); have GW596 := am ((by rw [hg]; exact (below_size (pkW HB.out)) : w.heap.size ≤ gb596)); have GE596 := am ((by rw [hg]; exact (below_size (pkW HB.out)) : w.heap.size ≤ gb596)); replace HB := am (below_step (pkW HB.out) hb); have NB501_596 := am ((by rw [hg]; exact Nat.ne_of_lt (blk_lt (g := gb501) (o := .cells #[.bool a0_0, .bool a0_1, .slice A0_2 l0_2.length c0_2, .slice A0_3 l0_3.length c0_3, .int .i64 a0_4, .int .i64 a0_5, .int .i64 a0_6] 24 (0, 0)) (pkK BK501.out)) : gb501 ≠ gb596)); have NB596_501 := am ((by rw [hg]; exact Nat.ne_of_gt (blk_lt (g := gb501) (o := .cells #[.bool a0_0, .bool a0_1, .slice A0_2 l0_2.length c0_2, .slice A0_3 l0_3.length c0_3, .int .i64 a0_4, .int .i64 a0_5, .int .i64 a0_6] 24 (0, 0)) (pkK BK501.out)) : gb596 ≠ gb501)); replace BK501 := am (blk_below (pkK BK501.out) hb); have NB526_596 := am ((by rw [hg]; exact Nat.ne_of_lt (blk_lt (g := gb526) (o := .cells #[.bool t514, .bool t515, .slice Ao24 t516.length co24, .slice Ao25 t519.length co25, .int .i64 t522, .int .i64 t523, .int .i64 t524] 27 (0, 0)) (pkK BK526.out)) : gb526 ≠ gb596)); have NB596_526 := am ((by rw [hg]; exact Nat.ne_of_gt (blk_lt (g := gb526) (o := .cells #[.bool t514, .bool t515, .slice Ao24 t516.length co24, .slice Ao25 t519.length co25, .int .i64 t522, .int .i64 t523, .int .i64 t524] 27 (0, 0)) (pkK BK526.out)) : gb596 ≠ gb526)); replace BK526 := am (blk_below (pkK BK526.out) hb); have NB538_596 := am ((by rw [hg]; exact Nat.ne_of_lt (blk_lt (g := gb538) (o := .cells #[.bool t527, .bool t528, .slice Ao32 t566.length co32, .slice Ao33 t567.length co33, .int .i64 t535, .int .i64 t536, .int .i64 t537] 27 (0, 0)) (pkK BK538.out)) : gb538 ≠ gb596)); have NB596_538 := am ((by rw [hg]; exact Nat.ne_of_gt (blk_lt (g := gb538) (o := .cells #[.bool t527, .bool t528, .slice Ao32 t566.length co32, .slice Ao33 t567.length co33, .int .i64 t535, .int .i64 t536, .int .i64 t537] 27 (0, 0)) (pkK BK538.out)) : gb596 ≠ gb538)); replace BK538 := am (blk_below (pkK BK538.out) hb); have NB551_596 := am ((by rw [hg]; exact Nat.ne_of_lt (blk_lt (g := gb551) (o := .cells #[.bool t539, .bool t540, .slice Ao40 t541.length co40, .slice Ao41 t544.length co41, .int .i64 t547, .int .i64 t548, .int .i64 t549] 27 (0, 0)) (pkK BK551.out)) : gb551 ≠ gb596)); have NB596_551 := am ((by rw [hg]; exact Nat.ne_of_gt (blk_lt (g := gb551) (o := .cells #[.bool t539, .bool t540, .slice Ao40 t541.length co40, .slice Ao41 t544.length co41, .int .i64 t547, .int .i64 t548, .int .i64 t549] 27 (0, 0)) (pkK BK551.out)) : gb596 ≠ gb551)); replace BK551 := am (blk_below (pkK BK551.out) hb); clear hb hbox hg; have hnb102 := NB596_501.out; have hnc102 := NB501_596.out; have hnb103 := NB596_526.out; have hnc103 := NB526_596.out; have hnb104 := NB596_538.out; have hnc104 := NB538_596.out; have hnb105 := NB596_551.out; have hnc105 := NB551_596.out; obtain ⟨hcz106_0, hcz106_1, hcz106_2, hcz106_3, hcz106_4, hcz106_5, hcz106_6, hfz106_0, hfz106_1, hfz106_2, hfz106_3, hfz106_4, hfz106_5, hfz106_6⟩ := bk7 BK596.out; obtain ⟨Ao107, co107, eo107⟩ := Kd.R_slice HO588.out; subst eo107; obtain ⟨Ao108, co108, eo108⟩ := Kd.R_slice HO591.out; subst eo108))
           (try simp only [Act.put, List.setIfInBounds_toArray, List.set_cons_zero, List.set_cons_succ])
           go_cut [92] (fun v92 wc => ∃ (kq : Nat) (x92_85 : Bool), v92 = .bool x92_85 ∧ Aside0 (laws_FnExactStand.j2 kq t569 x92_85 t539 t540 t570 t571 t547 t548 t549 = some r) ∧ Aside0 (kq ≤ kj56) ∧ Aside0 (Kd.R (Kd.int .i64) 3 wc w.heap.size (fun k_ => some k_ ≠ ((.slice Ao25 t519.length co25) : Value).ownBlock ∧ some k_ ≠ ((.slice Ao32 t566.length co32) : Value).ownBlock ∧ some k_ ≠ ((.slice Ao33 t567.length co33) : Value).ownBlock ∧ some k_ ≠ ((.slice Ao40 t541.length co40) : Value).ownBlock ∧ some k_ ≠ ((.slice Ao41 t544.length co41) : Value).ownBlock ∧ some k_ ≠ ((.slice Ao107 t586.length co107) : Value).ownBlock ∧ some k_ ≠ ((.slice Ao108 t589.length co108) : Value).ownBlock) (.slice Ao24 t516.length co24) t516) ∧ Aside0 (Kd.R (Kd.int .i64) 3 wc w.heap.size (fun k_ => some k_ ≠ ((.slice Ao24 t516.length co24) : Value).ownBlock ∧ some k_ ≠ ((.slice Ao32 t566.length co32) : Value).ownBlock ∧ some k_ ≠ ((.slice Ao33 t567.length co33) : Value).ownBlock ∧ some k_ ≠ ((.slice Ao40 t541.length co40) : Value).ownBlock ∧ some k_ ≠ ((.slice Ao41 t544.length co41) : Value).ownBlock ∧ some k_ ≠ ((.slice Ao107 t586.length co107) : Value).ownBlock ∧ some k_ ≠ ((.slice Ao108 t589.length co108) : Value).ownBlock) (.slice Ao25 t519.length co25) t519) ∧ Aside0 (Kd.Q (Kd.int .i64) 3 wc w.heap.size (fun k_ => some k_ ≠ ((.slice Ao24 t516.length co24) : Value).ownBlock ∧ some k_ ≠ ((.slice Ao25 t519.length co25) : Value).ownBlock ∧ some k_ ≠ ((.slice Ao33 t567.length co33) : Value).ownBlock ∧ some k_ ≠ ((.slice Ao40 t541.length co40) : Value).ownBlock ∧ some k_ ≠ ((.slice Ao41 t544.length co41) : Value).ownBlock ∧ some k_ ≠ ((.slice Ao107 t586.length co107) : Value).ownBlock ∧ some k_ ≠ ((.slice Ao108 t589.length co108) : Value).ownBlock) (.slice Ao32 t566.length co32) t566) ∧ Aside0 (Kd.Q (Kd.int .i64) 3 wc w.heap.size (fun k_ => some k_ ≠ ((.slice Ao24 t516.length co24) : Value).ownBlock ∧ some k_ ≠ ((.slice Ao25 t519.length co25) : Value).ownBlock ∧ some k_ ≠ ((.slice Ao32 t566.length co32) : Value).ownBlock ∧ some k_ ≠ ((.slice Ao40 t541.length co40) : Value).ownBlock ∧ some k_ ≠ ((.slice Ao41 t544.length co41) : Value).ownBlock ∧ some k_ ≠ ((.slice Ao107 t586.length co107) : Value).ownBlock ∧ some k_ ≠ ((.slice Ao108 t589.length co108) : Value).ownBlock) (.slice Ao33 t567.length co33) t567) ∧ Aside0 (Kd.Q (Kd.int .i64) 3 wc w.heap.size (fun k_ => some k_ ≠ ((.slice Ao24 t516.length co24) : Value).ownBlock ∧ some k_ ≠ ((.slice Ao25 t519.length co25) : Value).ownBlock ∧ some k_ ≠ ((.slice Ao32 t566.length co32) : Value).ownBlock ∧ some k_ ≠ ((.slice Ao33 t567.length co33) : Value).ownBlock ∧ some k_ ≠ ((.slice Ao41 t544.length co41) : Value).ownBlock ∧ some k_ ≠ ((.slice Ao107 t586.length co107) : Value).ownBlock ∧ some k_ ≠ ((.slice Ao108 t589.length co108) : Value).ownBlock) (.slice Ao40 t541.length co40) t570) ∧ Aside0 (Kd.Q (Kd.int .i64) 3 wc w.heap.size (fun k_ => some k_ ≠ ((.slice Ao24 t516.length co24) : Value).ownBlock ∧ some k_ ≠ ((.slice Ao25 t519.length co25) : Value).ownBlock ∧ some k_ ≠ ((.slice Ao32 t566.length co32) : Value).ownBlock ∧ some k_ ≠ ((.slice Ao33 t567.length co33) : Value).ownBlock ∧ some k_ ≠ ((.slice Ao40 t541.length co40) : Value).ownBlock ∧ some k_ ≠ ((.slice Ao107 t586.length co107) : Value).ownBlock ∧ some k_ ≠ ((.slice Ao108 t589.length co108) : Value).ownBlock) (.slice Ao41 t544.length co41) t571) ∧ Aside0 (Kd.R (Kd.int .i64) 3 wc w.heap.size (fun k_ => some k_ ≠ ((.slice Ao24 t516.length co24) : Value).ownBlock ∧ some k_ ≠ ((.slice Ao25 t519.length co25) : Value).ownBlock ∧ some k_ ≠ ((.slice Ao32 t566.length co32) : Value).ownBlock ∧ some k_ ≠ ((.slice Ao33 t567.length co33) : Value).ownBlock ∧ some k_ ≠ ((.slice Ao40 t541.length co40) : Value).ownBlock ∧ some k_ ≠ ((.slice Ao41 t544.length co41) : Value).ownBlock ∧ some k_ ≠ ((.slice Ao108 t589.length co108) : Value).ownBlock) (.slice Ao107 t586.length co107) t586) ∧ Aside0 (Kd.R (Kd.int .i64) 3 wc w.heap.size (fun k_ => some k_ ≠ ((.slice Ao24 t516.length co24) : Value).ownBlock ∧ some k_ ≠ ((.slice Ao25 t519.length co25) : Value).ownBlock ∧ some k_ ≠ ((.slice Ao32 t566.length co32) : Value).ownBlock ∧ some k_ ≠ ((.slice Ao33 t567.length co33) : Value).ownBlock ∧ some k_ ≠ ((.slice Ao40 t541.length co40) : Value).ownBlock ∧ some k_ ≠ ((.slice Ao41 t544.length co41) : Value).ownBlock ∧ some k_ ≠ ((.slice Ao107 t586.length co107) : Value).ownBlock) (.slice Ao108 t589.length co108) t589) ∧ Aside0 (wc.heap[gb501]? = some (.cells #[.bool a0_0, .bool a0_1, (.slice A0_2 l0_2.length c0_2), (.slice A0_3 l0_3.length c0_3), .int .i64 a0_4, .int .i64 a0_5, .int .i64 a0_6] 24 (0, 0))) ∧ Aside0 (wc.heap[gb526]? = some (.cells #[.bool t514, .bool t515, (.slice Ao24 t516.length co24), (.slice Ao25 t519.length co25), .int .i64 t522, .int .i64 t523, .int .i64 t524] 27 (0, 0))) ∧ Aside0 (wc.heap[gb538]? = some (.cells #[.bool t527, .bool t528, (.slice Ao32 t566.length co32), (.slice Ao33 t567.length co33), .int .i64 t535, .int .i64 t536, .int .i64 t537] 27 (0, 0))) ∧ Aside0 (wc.heap[gb551]? = some (.cells #[.bool t539, .bool t540, (.slice Ao40 t541.length co40), (.slice Ao41 t544.length co41), .int .i64 t547, .int .i64 t548, .int .i64 t549] 27 (0, 0))) ∧ Aside0 (wc.heap[gb596]? = some (.cells #[.bool t584, .bool t585, (.slice Ao107 t586.length co107), (.slice Ao108 t589.length co108), .int .i64 t592, .int .i64 t593, .int .i64 t594] 27 (0, 0))) ∧ Aside0 (Below w.heap.size w wc))
           case first =>
            have H := HC86.out
            clear HC86
            replace H := Option.bind_eq_some_iff.mp H
            obtain ⟨t597, A1090, H⟩ := H
            replace H : (if t597 = true then (laws_FnExactStand.j2 kj56 t569 (t595 != t525) t539 t540 t570 t571 t547 t548 t549) else (laws_FnExactStand.j2 kj56 t569 true t539 t540 t570 t571 t547 t548 t549)) = some r := H
            have A109 := am A1090
            clear A1090
            by_cases c110 : t597 = true
            ·subst c110
             replace H : (laws_FnExactStand.j2 kj56 t569 (t595 != t525) t539 t540 t570 t571 t547 t548 t549) = some r := by rw [if_pos rfl] at H; exact H
             have H' := am H
             clear H
             have hnb111 := NB596_501.out
             have hnc111 := NB501_596.out
             have hnb112 := NB596_526.out
             have hnc112 := NB526_596.out
             have hnb113 := NB596_538.out
             have hnc113 := NB538_596.out
             have hnb114 := NB596_551.out
             have hnc114 := NB551_596.out
             obtain ⟨hcz115_0, hcz115_1, hcz115_2, hcz115_3, hcz115_4, hcz115_5, hcz115_6, hfz115_0, hfz115_1, hfz115_2, hfz115_3, hfz115_4, hfz115_5, hfz115_6⟩ := bk7 BK596.out
             have hnb116 := NB526_501.out
             have hnc116 := NB501_526.out
             have hnb117 := NB526_538.out
             have hnc117 := NB538_526.out
             have hnb118 := NB526_551.out
             have hnc118 := NB551_526.out
             obtain ⟨hcz119_0, hcz119_1, hcz119_2, hcz119_3, hcz119_4, hcz119_5, hcz119_6, hfz119_0, hfz119_1, hfz119_2, hfz119_3, hfz119_4, hfz119_5, hfz119_6⟩ := bk7 BK526.out
             go_wp2_with (first | ((with_reducible refine gate_callee (f := 18) rfl ?_); refine goesL_ (some 86) rfl rfl Try.func18 (by kernel_rfl) rfl #[.agg #[.bool t584, .bool t585, .slice Ao107 t586.length co107, .slice Ao108 t589.length co108, .int .i64 t592, .int .i64 t593, .int .i64 t594], .agg #[.bool t514, .bool t515, .slice Ao24 t516.length co24, .slice Ao25 t519.length co25, .int .i64 t522, .int .i64 t523, .int .i64 t524]] rfl mpx ?_; (with_reducible refine (laws_eqEvent.calls kj56 t584 t585 _ _ t586 _ _ t589 t592 t593 t594 t514 t515 _ _ t516 _ _ t519 t522 t523 t524 true _ ?side1 ?side2 ?side3 ?side4 ?side5 ?side6 ?side7 ?side8 A109.out).mono ?_); (case side1 => refine (Kd.R_reads' (e := 3) (base := w.heap.size) (ok := fun k_ => ((((((((some k_ ≠ (.slice Ao108 t589.length co108 : Value).ownBlock ∧ some k_ ≠ (.slice Ao24 t516.length co24 : Value).ownBlock) ∧ some k_ ≠ (.slice Ao25 t519.length co25 : Value).ownBlock) ∧ some k_ ≠ (.slice Ao32 t566.length co32 : Value).ownBlock) ∧ some k_ ≠ (.slice Ao33 t567.length co33 : Value).ownBlock) ∧ some k_ ≠ (.slice Ao40 t541.length co40 : Value).ownBlock) ∧ some k_ ≠ (.slice Ao41 t544.length co41 : Value).ownBlock) ∧ some k_ ≠ (.slice Ao98 t575.length co98 : Value).ownBlock) ∧ some k_ ≠ (.slice Ao99 t578.length co99 : Value).ownBlock)) (n := t586.length) (c := co107) ?_).2.2; exact (by (with_reducible repeat (first | apply Kd.R_alloc | apply Kd.R_drewN | apply Kd.R_drew)); exact (Kd.R_mono (Kd.R_far (p := ⟨gb596, 6, none⟩) (Kd.R_far (p := ⟨gb596, 5, none⟩) (Kd.R_far (p := ⟨gb596, 4, none⟩) (Kd.R_far (p := ⟨gb596, 3, none⟩) (Kd.R_far (p := ⟨gb596, 2, none⟩) (Kd.R_far (p := ⟨gb596, 1, none⟩) (Kd.R_far (p := ⟨gb596, 0, none⟩) (Kd.R_types HO588.out BK596.out (by decide)) (fun _ hk => hk.2) (.bool t584)) (fun _ hk => hk.2) (.bool t585)) (fun _ hk => hk.2) (.slice Ao107 t586.length co107)) (fun _ hk => hk.2) (.slice Ao108 t589.length co108)) (fun _ hk => hk.2) (.int .i64 t592)) (fun _ hk => hk.2) (.int .i64 t593)) (fun _ hk => hk.2) (.int .i64 t594)) (fun _ h_ => h_.1)))); (case side2 => exact (Kd.R_reads' HO588.out).2.1); (case side3 => refine (Kd.R_reads' (e := 3) (base := w.heap.size) (ok := fun k_ => ((((((((some k_ ≠ (.slice Ao107 t586.length co107 : Value).ownBlock ∧ some k_ ≠ (.slice Ao24 t516.length co24 : Value).ownBlock) ∧ some k_ ≠ (.slice Ao25 t519.length co25 : Value).ownBlock) ∧ some k_ ≠ (.slice Ao32 t566.length co32 : Value).ownBlock) ∧ some k_ ≠ (.slice Ao33 t567.length co33 : Value).ownBlock) ∧ some k_ ≠ (.slice Ao40 t541.length co40 : Value).ownBlock) ∧ some k_ ≠ (.slice Ao41 t544.length co41 : Value).ownBlock) ∧ some k_ ≠ (.slice Ao98 t575.length co98 : Value).ownBlock) ∧ some k_ ≠ (.slice Ao99 t578.length co99 : Value).ownBlock)) (n := t589.length) (c := co108) ?_).2.2; exact (by (with_reducible repeat (first | apply Kd.R_alloc | apply Kd.R_drewN | apply Kd.R_drew)); exact (Kd.R_mono (Kd.R_far (p := ⟨gb596, 6, none⟩) (Kd.R_far (p := ⟨gb596, 5, none⟩) (Kd.R_far (p := ⟨gb596, 4, none⟩) (Kd.R_far (p := ⟨gb596, 3, none⟩) (Kd.R_far (p := ⟨gb596, 2, none⟩) (Kd.R_far (p := ⟨gb596, 1, none⟩) (Kd.R_far (p := ⟨gb596, 0, none⟩) (Kd.R_types HO591.out BK596.out (by decide)) (fun _ hk => hk.2) (.bool t584)) (fun _ hk => hk.2) (.bool t585)) (fun _ hk => hk.2) (.slice Ao107 t586.length co107)) (fun _ hk => hk.2) (.slice Ao108 t589.length co108)) (fun _ hk => hk.2) (.int .i64 t592)) (fun _ hk => hk.2) (.int .i64 t593)) (fun _ hk => hk.2) (.int .i64 t594)) (fun _ h_ => h_.1)))); (case side4 => exact (Kd.R_reads' HO591.out).2.1); (case side5 => refine (Kd.R_reads' (e := 3) (base := w.heap.size) (ok := fun k_ => (((((some k_ ≠ (.slice Ao25 t519.length co25 : Value).ownBlock ∧ (some k_ ≠ (.slice Ao32 t566.length co32 : Value).ownBlock ∧ (some k_ ≠ (.slice Ao33 t567.length co33 : Value).ownBlock ∧ (some k_ ≠ (.slice Ao40 t541.length co40 : Value).ownBlock ∧ some k_ ≠ (.slice Ao41 t544.length co41 : Value).ownBlock)))) ∧ some k_ ≠ (.slice Ao98 t575.length co98 : Value).ownBlock) ∧ some k_ ≠ (.slice Ao99 t578.length co99 : Value).ownBlock) ∧ some k_ ≠ (.slice Ao107 t586.length co107 : Value).ownBlock) ∧ some k_ ≠ (.slice Ao108 t589.length co108 : Value).ownBlock)) (n := t516.length) (c := co24) ?_).2.2; exact (by (with_reducible repeat (first | apply Kd.R_alloc | apply Kd.R_drewN | apply Kd.R_drew)); exact (Kd.R_mono (Kd.R_far (p := ⟨gb596, 6, none⟩) (Kd.R_far (p := ⟨gb596, 5, none⟩) (Kd.R_far (p := ⟨gb596, 4, none⟩) (Kd.R_far (p := ⟨gb596, 3, none⟩) (Kd.R_far (p := ⟨gb596, 2, none⟩) (Kd.R_far (p := ⟨gb596, 1, none⟩) (Kd.R_far (p := ⟨gb596, 0, none⟩) (Kd.R_types HO_527002.out BK596.out (by decide)) (fun _ hk => hk.2) (.bool t584)) (fun _ hk => hk.2) (.bool t585)) (fun _ hk => hk.2) (.slice Ao107 t586.length co107)) (fun _ hk => hk.2) (.slice Ao108 t589.length co108)) (fun _ hk => hk.2) (.int .i64 t592)) (fun _ hk => hk.2) (.int .i64 t593)) (fun _ hk => hk.2) (.int .i64 t594)) (fun _ h_ => h_.1)))); (case side6 => exact (Kd.R_reads' HO_527002.out).2.1); (case side7 => refine (Kd.R_reads' (e := 3) (base := w.heap.size) (ok := fun k_ => (((((some k_ ≠ (.slice Ao24 t516.length co24 : Value).ownBlock ∧ (some k_ ≠ (.slice Ao32 t566.length co32 : Value).ownBlock ∧ (some k_ ≠ (.slice Ao33 t567.length co33 : Value).ownBlock ∧ (some k_ ≠ (.slice Ao40 t541.length co40 : Value).ownBlock ∧ some k_ ≠ (.slice Ao41 t544.length co41 : Value).ownBlock)))) ∧ some k_ ≠ (.slice Ao98 t575.length co98 : Value).ownBlock) ∧ some k_ ≠ (.slice Ao99 t578.length co99 : Value).ownBlock) ∧ some k_ ≠ (.slice Ao107 t586.length co107 : Value).ownBlock) ∧ some k_ ≠ (.slice Ao108 t589.length co108 : Value).ownBlock)) (n := t519.length) (c := co25) ?_).2.2; exact (by (with_reducible repeat (first | apply Kd.R_alloc | apply Kd.R_drewN | apply Kd.R_drew)); exact (Kd.R_mono (Kd.R_far (p := ⟨gb596, 6, none⟩) (Kd.R_far (p := ⟨gb596, 5, none⟩) (Kd.R_far (p := ⟨gb596, 4, none⟩) (Kd.R_far (p := ⟨gb596, 3, none⟩) (Kd.R_far (p := ⟨gb596, 2, none⟩) (Kd.R_far (p := ⟨gb596, 1, none⟩) (Kd.R_far (p := ⟨gb596, 0, none⟩) (Kd.R_types HO_527003.out BK596.out (by decide)) (fun _ hk => hk.2) (.bool t584)) (fun _ hk => hk.2) (.bool t585)) (fun _ hk => hk.2) (.slice Ao107 t586.length co107)) (fun _ hk => hk.2) (.slice Ao108 t589.length co108)) (fun _ hk => hk.2) (.int .i64 t592)) (fun _ hk => hk.2) (.int .i64 t593)) (fun _ hk => hk.2) (.int .i64 t594)) (fun _ h_ => h_.1)))); (case side8 => exact (Kd.R_reads' HO_527003.out).2.1); rintro e w120 ⟨rfl, hb⟩; refine ⟨_, rfl, ?_⟩; replace HO_527002 := am (Kd.R_below (by (with_reducible repeat (first | apply Kd.R_alloc | apply Kd.R_drewN | apply Kd.R_drew)); exact (Kd.R_mono (Kd.R_far (p := ⟨gb596, 6, none⟩) (Kd.R_far (p := ⟨gb596, 5, none⟩) (Kd.R_far (p := ⟨gb596, 4, none⟩) (Kd.R_far (p := ⟨gb596, 3, none⟩) (Kd.R_far (p := ⟨gb596, 2, none⟩) (Kd.R_far (p := ⟨gb596, 1, none⟩) (Kd.R_far (p := ⟨gb596, 0, none⟩) (Kd.R_types HO_527002.out BK596.out (by decide)) (fun _ hk => hk.2) (.bool t584)) (fun _ hk => hk.2) (.bool t585)) (fun _ hk => hk.2) (.slice Ao107 t586.length co107)) (fun _ hk => hk.2) (.slice Ao108 t589.length co108)) (fun _ hk => hk.2) (.int .i64 t592)) (fun _ hk => hk.2) (.int .i64 t593)) (fun _ hk => hk.2) (.int .i64 t594)) (fun _ h_ => h_.1))) hb); replace HO_527003 := am (Kd.R_below (by (with_reducible repeat (first | apply Kd.R_alloc | apply Kd.R_drewN | apply Kd.R_drew)); exact (Kd.R_mono (Kd.R_far (p := ⟨gb596, 6, none⟩) (Kd.R_far (p := ⟨gb596, 5, none⟩) (Kd.R_far (p := ⟨gb596, 4, none⟩) (Kd.R_far (p := ⟨gb596, 3, none⟩) (Kd.R_far (p := ⟨gb596, 2, none⟩) (Kd.R_far (p := ⟨gb596, 1, none⟩) (Kd.R_far (p := ⟨gb596, 0, none⟩) (Kd.R_types HO_527003.out BK596.out (by decide)) (fun _ hk => hk.2) (.bool t584)) (fun _ hk => hk.2) (.bool t585)) (fun _ hk => hk.2) (.slice Ao107 t586.length co107)) (fun _ hk => hk.2) (.slice Ao108 t589.length co108)) (fun _ hk => hk.2) (.int .i64 t592)) (fun _ hk => hk.2) (.int .i64 t593)) (fun _ hk => hk.2) (.int .i64 t594)) (fun _ h_ => h_.1))) hb); replace HO_539002 := am (Kd.Q_below (by (with_reducible repeat (first | apply Kd.Q_alloc | apply Kd.Q_drewN | apply Kd.Q_drew)); exact (Kd.Q_mono (Kd.Q_far (p := ⟨gb596, 6, none⟩) (Kd.Q_far (p := ⟨gb596, 5, none⟩) (Kd.Q_far (p := ⟨gb596, 4, none⟩) (Kd.Q_far (p := ⟨gb596, 3, none⟩) (Kd.Q_far (p := ⟨gb596, 2, none⟩) (Kd.Q_far (p := ⟨gb596, 1, none⟩) (Kd.Q_far (p := ⟨gb596, 0, none⟩) (Kd.Q_types HO_539002.out BK596.out (by decide)) (fun _ hk => hk.2) (.bool t584)) (fun _ hk => hk.2) (.bool t585)) (fun _ hk => hk.2) (.slice Ao107 t586.length co107)) (fun _ hk => hk.2) (.slice Ao108 t589.length co108)) (fun _ hk => hk.2) (.int .i64 t592)) (fun _ hk => hk.2) (.int .i64 t593)) (fun _ hk => hk.2) (.int .i64 t594)) (fun _ h_ => h_.1))) hb); replace HO_539003 := am (Kd.Q_below (by (with_reducible repeat (first | apply Kd.Q_alloc | apply Kd.Q_drewN | apply Kd.Q_drew)); exact (Kd.Q_mono (Kd.Q_far (p := ⟨gb596, 6, none⟩) (Kd.Q_far (p := ⟨gb596, 5, none⟩) (Kd.Q_far (p := ⟨gb596, 4, none⟩) (Kd.Q_far (p := ⟨gb596, 3, none⟩) (Kd.Q_far (p := ⟨gb596, 2, none⟩) (Kd.Q_far (p := ⟨gb596, 1, none⟩) (Kd.Q_far (p := ⟨gb596, 0, none⟩) (Kd.Q_types HO_539003.out BK596.out (by decide)) (fun _ hk => hk.2) (.bool t584)) (fun _ hk => hk.2) (.bool t585)) (fun _ hk => hk.2) (.slice Ao107 t586.length co107)) (fun _ hk => hk.2) (.slice Ao108 t589.length co108)) (fun _ hk => hk.2) (.int .i64 t592)) (fun _ hk => hk.2) (.int .i64 t593)) (fun _ hk => hk.2) (.int .i64 t594)) (fun _ h_ => h_.1))) hb); replace HO_552002 := am (Kd.Q_below (by (with_reducible repeat (first | apply Kd.Q_alloc | apply Kd.Q_drewN | apply Kd.Q_drew)); exact (Kd.Q_mono (Kd.Q_far (p := ⟨gb596, 6, none⟩) (Kd.Q_far (p := ⟨gb596, 5, none⟩) (Kd.Q_far (p := ⟨gb596, 4, none⟩) (Kd.Q_far (p := ⟨gb596, 3, none⟩) (Kd.Q_far (p := ⟨gb596, 2, none⟩) (Kd.Q_far (p := ⟨gb596, 1, none⟩) (Kd.Q_far (p := ⟨gb596, 0, none⟩) (Kd.Q_types HO_552002.out BK596.out (by decide)) (fun _ hk => hk.2) (.bool t584)) (fun _ hk => hk.2) (.bool t585)) (fun _ hk => hk.2) (.slice Ao107 t586.length co107)) (fun _ hk => hk.2) (.slice Ao108 t589.length co108)) (fun _ hk => hk.2) (.int .i64 t592)) (fun _ hk => hk.2) (.int .i64 t593)) (fun _ hk => hk.2) (.int .i64 t594)) (fun _ h_ => h_.1))) hb); replace HO_552003 := am (Kd.Q_below (by (with_reducible repeat (first | apply Kd.Q_alloc | apply Kd.Q_drewN | apply Kd.Q_drew)); exact (Kd.Q_mono (Kd.Q_far (p := ⟨gb596, 6, none⟩) (Kd.Q_far (p := ⟨gb596, 5, none⟩) (Kd.Q_far (p := ⟨gb596, 4, none⟩) (Kd.Q_far (p := ⟨gb596, 3, none⟩) (Kd.Q_far (p := ⟨gb596, 2, none⟩) (Kd.Q_far (p := ⟨gb596, 1, none⟩) (Kd.Q_far (p := ⟨gb596, 0, none⟩) (Kd.Q_types HO_552003.out BK596.out (by decide)) (fun _ hk => hk.2) (.bool t584)) (fun _ hk => hk.2) (.bool t585)) (fun _ hk => hk.2) (.slice Ao107 t586.length co107)) (fun _ hk => hk.2) (.slice Ao108 t589.length co108)) (fun _ hk => hk.2) (.int .i64 t592)) (fun _ hk => hk.2) (.int .i64 t593)) (fun _ hk => hk.2) (.int .i64 t594)) (fun _ h_ => h_.1))) hb); replace HO577 := am (Kd.R_below (by (with_reducible repeat (first | apply Kd.R_alloc | apply Kd.R_drewN | apply Kd.R_drew)); exact (Kd.R_mono (Kd.R_far (p := ⟨gb596, 6, none⟩) (Kd.R_far (p := ⟨gb596, 5, none⟩) (Kd.R_far (p := ⟨gb596, 4, none⟩) (Kd.R_far (p := ⟨gb596, 3, none⟩) (Kd.R_far (p := ⟨gb596, 2, none⟩) (Kd.R_far (p := ⟨gb596, 1, none⟩) (Kd.R_far (p := ⟨gb596, 0, none⟩) (Kd.R_types HO577.out BK596.out (by decide)) (fun _ hk => hk.2) (.bool t584)) (fun _ hk => hk.2) (.bool t585)) (fun _ hk => hk.2) (.slice Ao107 t586.length co107)) (fun _ hk => hk.2) (.slice Ao108 t589.length co108)) (fun _ hk => hk.2) (.int .i64 t592)) (fun _ hk => hk.2) (.int .i64 t593)) (fun _ hk => hk.2) (.int .i64 t594)) (fun _ h_ => h_.1))) hb); replace HO580 := am (Kd.R_below (by (with_reducible repeat (first | apply Kd.R_alloc | apply Kd.R_drewN | apply Kd.R_drew)); exact (Kd.R_mono (Kd.R_far (p := ⟨gb596, 6, none⟩) (Kd.R_far (p := ⟨gb596, 5, none⟩) (Kd.R_far (p := ⟨gb596, 4, none⟩) (Kd.R_far (p := ⟨gb596, 3, none⟩) (Kd.R_far (p := ⟨gb596, 2, none⟩) (Kd.R_far (p := ⟨gb596, 1, none⟩) (Kd.R_far (p := ⟨gb596, 0, none⟩) (Kd.R_types HO580.out BK596.out (by decide)) (fun _ hk => hk.2) (.bool t584)) (fun _ hk => hk.2) (.bool t585)) (fun _ hk => hk.2) (.slice Ao107 t586.length co107)) (fun _ hk => hk.2) (.slice Ao108 t589.length co108)) (fun _ hk => hk.2) (.int .i64 t592)) (fun _ hk => hk.2) (.int .i64 t593)) (fun _ hk => hk.2) (.int .i64 t594)) (fun _ h_ => h_.1))) hb); replace HO588 := am (Kd.R_below (by (with_reducible repeat (first | apply Kd.R_alloc | apply Kd.R_drewN | apply Kd.R_drew)); exact (Kd.R_mono (Kd.R_far (p := ⟨gb596, 6, none⟩) (Kd.R_far (p := ⟨gb596, 5, none⟩) (Kd.R_far (p := ⟨gb596, 4, none⟩) (Kd.R_far (p := ⟨gb596, 3, none⟩) (Kd.R_far (p := ⟨gb596, 2, none⟩) (Kd.R_far (p := ⟨gb596, 1, none⟩) (Kd.R_far (p := ⟨gb596, 0, none⟩) (Kd.R_types HO588.out BK596.out (by decide)) (fun _ hk => hk.2) (.bool t584)) (fun _ hk => hk.2) (.bool t585)) (fun _ hk => hk.2) (.slice Ao107 t586.length co107)) (fun _ hk => hk.2) (.slice Ao108 t589.length co108)) (fun _ hk => hk.2) (.int .i64 t592)) (fun _ hk => hk.2) (.int .i64 t593)) (fun _ hk => hk.2) (.int .i64 t594)) (fun _ h_ => h_.1))) hb); replace HO591 := am (Kd.R_below (by (with_reducible repeat (first | apply Kd.R_alloc | apply Kd.R_drewN | apply Kd.R_drew)); exact (Kd.R_mono (Kd.R_far (p := ⟨gb596, 6, none⟩) (Kd.R_far (p := ⟨gb596, 5, none⟩) (Kd.R_far (p := ⟨gb596, 4, none⟩) (Kd.R_far (p := ⟨gb596, 3, none⟩) (Kd.R_far (p := ⟨gb596, 2, none⟩) (Kd.R_far (p := ⟨gb596, 1, none⟩) (Kd.R_far (p := ⟨gb596, 0, none⟩) (Kd.R_types HO591.out BK596.out (by decide)) (fun _ hk => hk.2) (.bool t584)) (fun _ hk => hk.2) (.bool t585)) (fun _ hk => hk.2) (.slice Ao107 t586.length co107)) (fun _ hk => hk.2) (.slice Ao108 t589.length co108)) (fun _ hk => hk.2) (.int .i64 t592)) (fun _ hk => hk.2) (.int .i64 t593)) (fun _ hk => hk.2) (.int .i64 t594)) (fun _ h_ => h_.1))) hb); replace BK501 := am (blk_below (g := gb501) (o := .cells #[.bool a0_0, .bool a0_1, .slice A0_2 l0_2.length c0_2, .slice A0_3 l0_3.length c0_3, .int .i64 a0_4, .int .i64 a0_5, .int .i64 a0_6] 24 (0, 0)) (by (with_reducible repeat (first | refine blk_drewN ?_ _ | refine blk_drew ?_ | refine blk_alloc ?_ _)); refine blk_far ?_ NB501_596.out _; (with_reducible repeat (first | refine blk_drewN ?_ _ | refine blk_drew ?_ | refine blk_alloc ?_ _)); refine blk_far ?_ NB501_596.out _; (with_reducible repeat (first | refine blk_drewN ?_ _ | refine blk_drew ?_ | refine blk_alloc ?_ _)); refine blk_far ?_ NB501_596.out _; (with_reducible repeat (first | refine blk_drewN ?_ _ | refine blk_drew ?_ | refine blk_alloc ?_ _)); refine blk_far ?_ NB501_596.out _; (with_reducible repeat (first | refine blk_drewN ?_ _ | refine blk_drew ?_ | refine blk_alloc ?_ _)); refine blk_far ?_ NB501_596.out _; (with_reducible repeat (first | refine blk_drewN ?_ _ | refine blk_drew ?_ | refine blk_alloc ?_ _)); refine blk_far ?_ NB501_596.out _; (with_reducible repeat (first | refine blk_drewN ?_ _ | refine blk_drew ?_ | refine blk_alloc ?_ _)); refine blk_far ?_ NB501_596.out _; exact pkK BK501.out) hb); replace BK526 := am (blk_below (g := gb526) (o := .cells #[.bool t514, .bool t515, .slice Ao24 t516.length co24, .slice Ao25 t519.length co25, .int .i64 t522, .int .i64 t523, .int .i64 t524] 27 (0, 0)) (by (with_reducible repeat (first | refine blk_drewN ?_ _ | refine blk_drew ?_ | refine blk_alloc ?_ _)); refine blk_far ?_ NB526_596.out _; (with_reducible repeat (first | refine blk_drewN ?_ _ | refine blk_drew ?_ | refine blk_alloc ?_ _)); refine blk_far ?_ NB526_596.out _; (with_reducible repeat (first | refine blk_drewN ?_ _ | refine blk_drew ?_ | refine blk_alloc ?_ _)); refine blk_far ?_ NB526_596.out _; (with_reducible repeat (first | refine blk_drewN ?_ _ | refine blk_drew ?_ | refine blk_alloc ?_ _)); refine blk_far ?_ NB526_596.out _; (with_reducible repeat (first | refine blk_drewN ?_ _ | refine blk_drew ?_ | refine blk_alloc ?_ _)); refine blk_far ?_ NB526_596.out _; (with_reducible repeat (first | refine blk_drewN ?_ _ | refine blk_drew ?_ | refine blk_alloc ?_ _)); refine blk_far ?_ NB526_596.out _; (with_reducible repeat (first | refine blk_drewN ?_ _ | refine blk_drew ?_ | refine blk_alloc ?_ _)); refine blk_far ?_ NB526_596.out _; exact pkK BK526.out) hb); replace BK538 := am (blk_below (g := gb538) (o := .cells #[.bool t527, .bool t528, .slice Ao32 t566.length co32, .slice Ao33 t567.length co33, .int .i64 t535, .int .i64 t536, .int .i64 t537] 27 (0, 0)) (by (with_reducible repeat (first | refine blk_drewN ?_ _ | refine blk_drew ?_ | refine blk_alloc ?_ _)); refine blk_far ?_ NB538_596.out _; (with_reducible repeat (first | refine blk_drewN ?_ _ | refine blk_drew ?_ | refine blk_alloc ?_ _)); refine blk_far ?_ NB538_596.out _; (with_reducible repeat (first | refine blk_drewN ?_ _ | refine blk_drew ?_ | refine blk_alloc ?_ _)); refine blk_far ?_ NB538_596.out _; (with_reducible repeat (first | refine blk_drewN ?_ _ | refine blk_drew ?_ | refine blk_alloc ?_ _)); refine blk_far ?_ NB538_596.out _; (with_reducible repeat (first | refine blk_drewN ?_ _ | refine blk_drew ?_ | refine blk_alloc ?_ _)); refine blk_far ?_ NB538_596.out _; (with_reducible repeat (first | refine blk_drewN ?_ _ | refine blk_drew ?_ | refine blk_alloc ?_ _)); refine blk_far ?_ NB538_596.out _; (with_reducible repeat (first | refine blk_drewN ?_ _ | refine blk_drew ?_ | refine blk_alloc ?_ _)); refine blk_far ?_ NB538_596.out _; exact pkK BK538.out) hb); replace BK551 := am (blk_below (g := gb551) (o := .cells #[.bool t539, .bool t540, .slice Ao40 t541.length co40, .slice Ao41 t544.length co41, .int .i64 t547, .int .i64 t548, .int .i64 t549] 27 (0, 0)) (by (with_reducible repeat (first | refine blk_drewN ?_ _ | refine blk_drew ?_ | refine blk_alloc ?_ _)); refine blk_far ?_ NB551_596.out _; (with_reducible repeat (first | refine blk_drewN ?_ _ | refine blk_drew ?_ | refine blk_alloc ?_ _)); refine blk_far ?_ NB551_596.out _; (with_reducible repeat (first | refine blk_drewN ?_ _ | refine blk_drew ?_ | refine blk_alloc ?_ _)); refine blk_far ?_ NB551_596.out _; (with_reducible repeat (first | refine blk_drewN ?_ _ | refine blk_drew ?_ | refine blk_alloc ?_ _)); refine blk_far ?_ NB551_596.out _; (with_reducible repeat (first | refine blk_drewN ?_ _ | refine blk_drew ?_ | refine blk_alloc ?_ _)); refine blk_far ?_ NB551_596.out _; (with_reducible repeat (first | refine blk_drewN ?_ _ | refine blk_drew ?_ | refine blk_alloc ?_ _)); refine blk_far ?_ NB551_596.out _; (with_reducible repeat (first | refine blk_drewN ?_ _ | refine blk_drew ?_ | refine blk_alloc ?_ _)); refine blk_far ?_ NB551_596.out _; exact pkK BK551.out) hb); replace BK596 := am (blk_below (g := gb596) (o := .cells #[.bool t584, .bool t585, .slice Ao107 t586.length co107, .slice Ao108 t589.length co108, .int .i64 t592, .int .i64 t593, .int .i64 t594] 27 (0, 0)) (by (with_reducible repeat (first | refine blk_drewN ?_ _ | refine blk_drew ?_ | refine blk_alloc ?_ _)); refine blk_put (cs := #[.bool t584, .bool t585, .slice Ao107 t586.length co107, .slice Ao108 t589.length co108, .int .i64 t592, .int .i64 t593, .int .i64 0]) ?_ 6 _ rfl; (with_reducible repeat (first | refine blk_drewN ?_ _ | refine blk_drew ?_ | refine blk_alloc ?_ _)); refine blk_put (cs := #[.bool t584, .bool t585, .slice Ao107 t586.length co107, .slice Ao108 t589.length co108, .int .i64 t592, .int .i64 0, .int .i64 0]) ?_ 5 _ rfl; (with_reducible repeat (first | refine blk_drewN ?_ _ | refine blk_drew ?_ | refine blk_alloc ?_ _)); refine blk_put (cs := #[.bool t584, .bool t585, .slice Ao107 t586.length co107, .slice Ao108 t589.length co108, .int .i64 0, .int .i64 0, .int .i64 0]) ?_ 4 _ rfl; (with_reducible repeat (first | refine blk_drewN ?_ _ | refine blk_drew ?_ | refine blk_alloc ?_ _)); refine blk_put (cs := #[.bool t584, .bool t585, .slice Ao107 t586.length co107, .slice none 0 0, .int .i64 0, .int .i64 0, .int .i64 0]) ?_ 3 _ rfl; (with_reducible repeat (first | refine blk_drewN ?_ _ | refine blk_drew ?_ | refine blk_alloc ?_ _)); refine blk_put (cs := #[.bool t584, .bool t585, .slice none 0 0, .slice none 0 0, .int .i64 0, .int .i64 0, .int .i64 0]) ?_ 2 _ rfl; (with_reducible repeat (first | refine blk_drewN ?_ _ | refine blk_drew ?_ | refine blk_alloc ?_ _)); refine blk_put (cs := #[.bool t584, .bool false, .slice none 0 0, .slice none 0 0, .int .i64 0, .int .i64 0, .int .i64 0]) ?_ 1 _ rfl; (with_reducible repeat (first | refine blk_drewN ?_ _ | refine blk_drew ?_ | refine blk_alloc ?_ _)); refine blk_put (cs := #[.bool false, .bool false, .slice none 0 0, .slice none 0 0, .int .i64 0, .int .i64 0, .int .i64 0]) ?_ 0 _ rfl; exact pkK BK596.out) hb); replace HB := am (below_step (pkW HB.out) hb); (try clear hb)))
             go_meet
             case rel => exact ⟨_, ((t595 != t525)), rfx, H', ⟨by have := HJ11.out; have := HJ56.out; first | omega | exact Nat.le_refl _⟩, ⟨by (try simp only [hl539002_56]); (try simp only [hl539003_56]); (with_reducible repeat (first | apply Kd.R_alloc | apply Kd.R_drewN | apply Kd.R_drew)); exact Kd.R_mono HO_527002.out (fun _ hk => ⟨hk.1.1.1.1.1, ⟨hk.1.1.1.1.2.1, ⟨hk.1.1.1.1.2.2.1, ⟨hk.1.1.1.1.2.2.2.1, ⟨hk.1.1.1.1.2.2.2.2, ⟨hk.1.2, hk.2⟩⟩⟩⟩⟩⟩)⟩, ⟨by (try simp only [hl539002_56]); (try simp only [hl539003_56]); (with_reducible repeat (first | apply Kd.R_alloc | apply Kd.R_drewN | apply Kd.R_drew)); exact Kd.R_mono HO_527003.out (fun _ hk => ⟨hk.1.1.1.1.1, ⟨hk.1.1.1.1.2.1, ⟨hk.1.1.1.1.2.2.1, ⟨hk.1.1.1.1.2.2.2.1, ⟨hk.1.1.1.1.2.2.2.2, ⟨hk.1.2, hk.2⟩⟩⟩⟩⟩⟩)⟩, ⟨by (try simp only [hl539002_56]); (try simp only [hl539003_56]); (with_reducible repeat (first | apply Kd.Q_alloc | apply Kd.Q_drewN | apply Kd.Q_drew)); exact Kd.Q_mono HO_539002.out (fun _ hk => ⟨hk.1.1.1.1.1, ⟨hk.1.1.1.1.2.1, ⟨hk.1.1.1.1.2.2.1, ⟨hk.1.1.1.1.2.2.2.1, ⟨hk.1.1.1.1.2.2.2.2, ⟨hk.1.2, hk.2⟩⟩⟩⟩⟩⟩)⟩, ⟨by (try simp only [hl539002_56]); (try simp only [hl539003_56]); (with_reducible repeat (first | apply Kd.Q_alloc | apply Kd.Q_drewN | apply Kd.Q_drew)); exact Kd.Q_mono HO_539003.out (fun _ hk => ⟨hk.1.1.1.1.1, ⟨hk.1.1.1.1.2.1, ⟨hk.1.1.1.1.2.2.1, ⟨hk.1.1.1.1.2.2.2.1, ⟨hk.1.1.1.1.2.2.2.2, ⟨hk.1.2, hk.2⟩⟩⟩⟩⟩⟩)⟩, ⟨by (try simp only [hl539002_56]); (try simp only [hl539003_56]); (with_reducible repeat (first | apply Kd.Q_alloc | apply Kd.Q_drewN | apply Kd.Q_drew)); exact Kd.Q_mono HO_552002.out (fun _ hk => ⟨hk.1.1.1.1.1, ⟨hk.1.1.1.1.2.1, ⟨hk.1.1.1.1.2.2.1, ⟨hk.1.1.1.1.2.2.2.1, ⟨hk.1.1.1.1.2.2.2.2, ⟨hk.1.2, hk.2⟩⟩⟩⟩⟩⟩)⟩, ⟨by (try simp only [hl539002_56]); (try simp only [hl539003_56]); (with_reducible repeat (first | apply Kd.Q_alloc | apply Kd.Q_drewN | apply Kd.Q_drew)); exact Kd.Q_mono HO_552003.out (fun _ hk => ⟨hk.1.1.1.1.1, ⟨hk.1.1.1.1.2.1, ⟨hk.1.1.1.1.2.2.1, ⟨hk.1.1.1.1.2.2.2.1, ⟨hk.1.1.1.1.2.2.2.2, ⟨hk.1.2, hk.2⟩⟩⟩⟩⟩⟩)⟩, ⟨by (try simp only [hl539002_56]); (try simp only [hl539003_56]); (with_reducible repeat (first | apply Kd.R_alloc | apply Kd.R_drewN | apply Kd.R_drew)); exact Kd.R_mono HO588.out (fun _ hk => ⟨hk.1.1.1.1.1.1.1.2, ⟨hk.1.1.1.1.1.1.2, ⟨hk.1.1.1.1.1.2, ⟨hk.1.1.1.1.2, ⟨hk.1.1.1.2, ⟨hk.1.1.2, hk.1.1.1.1.1.1.1.1⟩⟩⟩⟩⟩⟩)⟩, ⟨by (try simp only [hl539002_56]); (try simp only [hl539003_56]); (with_reducible repeat (first | apply Kd.R_alloc | apply Kd.R_drewN | apply Kd.R_drew)); exact Kd.R_mono HO591.out (fun _ hk => ⟨hk.1.1.1.1.1.1.1.2, ⟨hk.1.1.1.1.1.1.2, ⟨hk.1.1.1.1.1.2, ⟨hk.1.1.1.1.2, ⟨hk.1.1.1.2, ⟨hk.1.1.2, hk.1.1.1.1.1.1.1.1⟩⟩⟩⟩⟩⟩)⟩, ⟨by (try simp only [hl539002_56]); (try simp only [hl539003_56]); exact pkK BK501.out⟩, ⟨by (try simp only [hl539002_56]); (try simp only [hl539003_56]); exact pkK BK526.out⟩, ⟨by (try simp only [hl539002_56]); (try simp only [hl539003_56]); exact pkK BK538.out⟩, ⟨by (try simp only [hl539002_56]); (try simp only [hl539003_56]); exact pkK BK551.out⟩, ⟨by (try simp only [hl539002_56]); (try simp only [hl539003_56]); exact pkK BK596.out⟩, ⟨pkW HB.out⟩⟩
            ·replace c110 := Bool.eq_false_iff.mpr c110
             subst c110
             replace H : (laws_FnExactStand.j2 kj56 t569 true t539 t540 t570 t571 t547 t548 t549) = some r := by rw [if_neg (show ¬ (false = true) by decide)] at H; exact H
             cases kj56 with
             | zero => exact absurd H (by simp [laws_FnExactStand.j2])
             | succ k_ => (simp only [laws_FnExactStand.j2, if_pos] at H; exact absurd (Option.some.inj H) (by rw [HQ_.out]; simp))
           case rest =>
            clear HC86
            try clear c1
            try clear c2
            try clear p2
            try clear c3
            try clear c4
            try clear c4b0
            try clear c5
            try clear c6
            try clear c7
            try clear c8
            try clear c9
            try clear c10
            try clear c11
            try clear c14
            try clear c16
            try clear c18
            try clear c22
            try clear c26
            try clear c27
            try clear c28
            try clear c29
            try clear c30
            try clear c36
            try clear c37
            try clear c38
            try clear c43
            try clear c44
            try clear c45
            try clear c46
            try clear c48
            try clear c49
            try clear c52
            try clear c55
            try clear c63
            try clear c64
            try clear c65
            try clear c68
            try clear c68b0
            try clear c70
            try clear c71
            try clear c72
            try clear c73
            try clear c75
            try clear c76
            try clear c79
            try clear c82
            try clear c82b0
            try clear c83
            try clear c83b0
            try clear c83b1
            try clear c87
            try clear c88
            try clear c89
            try clear c94
            try clear c95
            try clear c102
            try clear c103
            try clear c104
            try clear c105
            try clear c110
            try clear c111
            try clear c112
            try clear c113
            try clear c114
            try clear c116
            try clear c117
            try clear c118
            try clear hcz106_0
            try clear hcz106_1
            try clear hcz106_2
            try clear hcz106_3
            try clear hcz106_4
            try clear hcz106_5
            try clear hcz106_6
            try clear hcz115_0
            try clear hcz115_1
            try clear hcz115_2
            try clear hcz115_3
            try clear hcz115_4
            try clear hcz115_5
            try clear hcz115_6
            try clear hcz119_0
            try clear hcz119_1
            try clear hcz119_2
            try clear hcz119_3
            try clear hcz119_4
            try clear hcz119_5
            try clear hcz119_6
            try clear hcz14_0
            try clear hcz14_1
            try clear hcz14_2
            try clear hcz14_3
            try clear hcz14_4
            try clear hcz14_5
            try clear hcz14_6
            try clear hcz16_0
            try clear hcz16_1
            try clear hcz16_2
            try clear hcz16_3
            try clear hcz16_4
            try clear hcz16_5
            try clear hcz16_6
            try clear hcz23_0
            try clear hcz23_1
            try clear hcz23_2
            try clear hcz23_3
            try clear hcz23_4
            try clear hcz23_5
            try clear hcz23_6
            try clear hcz26_0
            try clear hcz26_1
            try clear hcz26_2
            try clear hcz26_3
            try clear hcz26_4
            try clear hcz26_5
            try clear hcz26_6
            try clear hcz31_0
            try clear hcz31_1
            try clear hcz31_2
            try clear hcz31_3
            try clear hcz31_4
            try clear hcz31_5
            try clear hcz31_6
            try clear hcz39_0
            try clear hcz39_1
            try clear hcz39_2
            try clear hcz39_3
            try clear hcz39_4
            try clear hcz39_5
            try clear hcz39_6
            try clear hcz47_0
            try clear hcz47_1
            try clear hcz47_2
            try clear hcz47_3
            try clear hcz47_4
            try clear hcz47_5
            try clear hcz47_6
            try clear hcz50_0
            try clear hcz50_1
            try clear hcz50_2
            try clear hcz50_3
            try clear hcz50_4
            try clear hcz50_5
            try clear hcz50_6
            try clear hcz66_0
            try clear hcz66_1
            try clear hcz66_2
            try clear hcz66_3
            try clear hcz66_4
            try clear hcz66_5
            try clear hcz66_6
            try clear hcz6_0
            try clear hcz6_1
            try clear hcz6_2
            try clear hcz6_3
            try clear hcz6_4
            try clear hcz6_5
            try clear hcz6_6
            try clear hcz74_0
            try clear hcz74_1
            try clear hcz74_2
            try clear hcz74_3
            try clear hcz74_4
            try clear hcz74_5
            try clear hcz74_6
            try clear hcz77_0
            try clear hcz77_1
            try clear hcz77_2
            try clear hcz77_3
            try clear hcz77_4
            try clear hcz77_5
            try clear hcz77_6
            try clear hcz90_0
            try clear hcz90_1
            try clear hcz90_2
            try clear hcz90_3
            try clear hcz90_4
            try clear hcz90_5
            try clear hcz90_6
            try clear hcz92_0
            try clear hcz92_1
            try clear hcz92_2
            try clear hcz92_3
            try clear hcz92_4
            try clear hcz92_5
            try clear hcz92_6
            try clear hcz96_0
            try clear hcz96_1
            try clear hcz96_2
            try clear hcz96_3
            try clear hcz96_4
            try clear hcz96_5
            try clear hcz96_6
            try clear hfz106_0
            try clear hfz106_1
            try clear hfz106_2
            try clear hfz106_3
            try clear hfz106_4
            try clear hfz106_5
            try clear hfz106_6
            try clear hfz115_0
            try clear hfz115_1
            try clear hfz115_2
            try clear hfz115_3
            try clear hfz115_4
            try clear hfz115_5
            try clear hfz115_6
            try clear hfz119_0
            try clear hfz119_1
            try clear hfz119_2
            try clear hfz119_3
            try clear hfz119_4
            try clear hfz119_5
            try clear hfz119_6
            try clear hfz14_0
            try clear hfz14_1
            try clear hfz14_2
            try clear hfz14_3
            try clear hfz14_4
            try clear hfz14_5
            try clear hfz14_6
            try clear hfz16_0
            try clear hfz16_1
            try clear hfz16_2
            try clear hfz16_3
            try clear hfz16_4
            try clear hfz16_5
            try clear hfz16_6
            try clear hfz23_0
            try clear hfz23_1
            try clear hfz23_2
            try clear hfz23_3
            try clear hfz23_4
            try clear hfz23_5
            try clear hfz23_6
            try clear hfz26_0
            try clear hfz26_1
            try clear hfz26_2
            try clear hfz26_3
            try clear hfz26_4
            try clear hfz26_5
            try clear hfz26_6
            try clear hfz31_0
            try clear hfz31_1
            try clear hfz31_2
            try clear hfz31_3
            try clear hfz31_4
            try clear hfz31_5
            try clear hfz31_6
            try clear hfz39_0
            try clear hfz39_1
            try clear hfz39_2
            try clear hfz39_3
            try clear hfz39_4
            try clear hfz39_5
            try clear hfz39_6
            try clear hfz47_0
            try clear hfz47_1
            try clear hfz47_2
            try clear hfz47_3
            try clear hfz47_4
            try clear hfz47_5
            try clear hfz47_6
            try clear hfz50_0
            try clear hfz50_1
            try clear hfz50_2
            try clear hfz50_3
            try clear hfz50_4
            try clear hfz50_5
            try clear hfz50_6
            try clear hfz66_0
            try clear hfz66_1
            try clear hfz66_2
            try clear hfz66_3
            try clear hfz66_4
            try clear hfz66_5
            try clear hfz66_6
            try clear hfz6_0
            try clear hfz6_1
            try clear hfz6_2
            try clear hfz6_3
            try clear hfz6_4
            try clear hfz6_5
            try clear hfz6_6
            try clear hfz74_0
            try clear hfz74_1
            try clear hfz74_2
            try clear hfz74_3
            try clear hfz74_4
            try clear hfz74_5
            try clear hfz74_6
            try clear hfz77_0
            try clear hfz77_1
            try clear hfz77_2
            try clear hfz77_3
            try clear hfz77_4
            try clear hfz77_5
            try clear hfz77_6
            try clear hfz90_0
            try clear hfz90_1
            try clear hfz90_2
            try clear hfz90_3
            try clear hfz90_4
            try clear hfz90_5
            try clear hfz90_6
            try clear hfz92_0
            try clear hfz92_1
            try clear hfz92_2
            try clear hfz92_3
            try clear hfz92_4
            try clear hfz92_5
            try clear hfz92_6
            try clear hfz96_0
            try clear hfz96_1
            try clear hfz96_2
            try clear hfz96_3
            try clear hfz96_4
            try clear hfz96_5
            try clear hfz96_6
            try clear p2
            obtain ⟨kq, x92_85, rfl, HA, HJ85, HO_527002, HO_527003, HO_539002, HO_539003, HO_552002, HO_552003, HO_597002, HO_597003, BK501, BK526, BK538, BK551, BK596, HB⟩ := hcut
            have hl552002_85 := (Kd.Q_reads' HO_552002.out).1
            rw [hl552002_85] at HO_552002
            (try simp only [hl552002_85])
            (try simp only [hl552002_85] at BK501)
            (try simp only [hl552002_85] at BK526)
            (try simp only [hl552002_85] at BK538)
            (try simp only [hl552002_85] at BK551)
            (try simp only [hl552002_85] at BK596)
            (try simp only [hl552002_85] at HO_527002)
            (try simp only [hl552002_85] at HO_527003)
            (try simp only [hl552002_85] at HO_539002)
            (try simp only [hl552002_85] at HO_539003)
            (try simp only [hl552002_85] at HO_552003)
            (try simp only [hl552002_85] at HO_597002)
            (try simp only [hl552002_85] at HO_597003)
            have hl552003_85 := (Kd.Q_reads' HO_552003.out).1
            rw [hl552003_85] at HO_552003
            (try simp only [hl552003_85])
            (try simp only [hl552003_85] at BK501)
            (try simp only [hl552003_85] at BK526)
            (try simp only [hl552003_85] at BK538)
            (try simp only [hl552003_85] at BK551)
            (try simp only [hl552003_85] at BK596)
            (try simp only [hl552003_85] at HO_527002)
            (try simp only [hl552003_85] at HO_527003)
            (try simp only [hl552003_85] at HO_539002)
            (try simp only [hl552003_85] at HO_539003)
            (try simp only [hl552003_85] at HO_552002)
            (try simp only [hl552003_85] at HO_597002)
            (try simp only [hl552003_85] at HO_597003)
            cases kq with
            | zero => exact absurd HA.out (by simp [laws_FnExactStand.j2])
            | succ kj85 =>
             have H := HA.out
             clear HA
             simp only [laws_FnExactStand.j2] at H
             by_cases c121 : x92_85 = true
             ·subst c121
              replace H : (some false) = some r := by rw [if_pos rfl] at H; exact H
              exact absurd (Option.some.inj H) (by rw [HQ_.out]; simp)
             ·replace c121 := Bool.eq_false_iff.mpr c121
              subst c121
              replace H : ((laws_heldEvent.f kj85 t539 t540 t570 t571 t547 t548 t549 1).bind fun t598 => (if t598 < 0 then (some false) else (if t598 = t569 then (some true) else (some false)))) = some r := by rw [if_neg (show ¬ (false = true) by decide)] at H; exact H
              replace H := Option.bind_eq_some_iff.mp H
              obtain ⟨t598, A1220, H⟩ := H
              replace H : (if t598 < 0 then (some false) else (if t598 = t569 then (some true) else (some false))) = some r := H
              have A122 := am A1220
              clear A1220
              by_cases c123 : t598 < 0
              ·rw [if_pos c123] at H
               have c123b0 : decide (t598 < 0) = true := decide_eq_true c123
               clear c123
               exact absurd (Option.some.inj H) (by rw [HQ_.out]; simp)
              ·rw [if_neg c123] at H
               have c123b0 : decide (t598 < 0) = false := decide_eq_false c123
               clear c123
               by_cases c124 : t598 = t569
               ·rw [if_pos c124] at H
                have c124b0 : (t598 == t569) = true := beq_iff_eq.mpr c124
                have c124b1 : (t598 != t569) = false := bne_eq_false_iff_eq.mpr c124
                clear c124
                obtain rfl := Option.some.inj H
                have hnb125 := NB551_501.out
                have hnc125 := NB501_551.out
                have hnb126 := NB551_526.out
                have hnc126 := NB526_551.out
                have hnb127 := NB551_538.out
                have hnc127 := NB538_551.out
                have hnb128 := NB551_596.out
                have hnc128 := NB596_551.out
                obtain ⟨hcz129_0, hcz129_1, hcz129_2, hcz129_3, hcz129_4, hcz129_5, hcz129_6, hfz129_0, hfz129_1, hfz129_2, hfz129_3, hfz129_4, hfz129_5, hfz129_6⟩ := bk7 BK551.out
                go_wp2_with (first | ((with_reducible refine gate_callee (f := 27) rfl ?_); refine goesL_ (some 95) rfl rfl Try.func27 (by kernel_rfl) rfl #[.agg #[.bool t539, .bool t540, .slice Ao40 t570.length co40, .slice Ao41 t571.length co41, .int .i64 t547, .int .i64 t548, .int .i64 t549], .int .i64 1] rfl mpx ?_; (with_reducible refine (laws_heldEvent.calls kj85 t539 t540 _ _ t570 _ _ t571 t547 t548 t549 1 t598 _ ?side1 ?side2 ?side3 ?side4 A122.out).mono ?_); (case side1 => repeat (first | exact (Kd.Q_reads' HO_552002.out).2.2 | (with_reducible refine Kd.C_alloc ?_ _) | (with_reducible refine Kd.C_drewN ?_ _) | (with_reducible refine Kd.C_drew ?_))); (case side2 => exact (Kd.Q_reads' HO_552002.out).2.1); (case side3 => repeat (first | exact (Kd.Q_reads' HO_552003.out).2.2 | (with_reducible refine Kd.C_alloc ?_ _) | (with_reducible refine Kd.C_drewN ?_ _) | (with_reducible refine Kd.C_drew ?_))); (case side4 => exact (Kd.Q_reads' HO_552003.out).2.1); rintro e w130 ⟨rfl, hb⟩; refine ⟨_, rfl, ?_⟩; replace HO_527002 := am (Kd.R_below (pkR HO_527002.out) hb); replace HO_527003 := am (Kd.R_below (pkR HO_527003.out) hb); replace HO_539002 := am (Kd.Q_below (pkQ HO_539002.out) hb); replace HO_539003 := am (Kd.Q_below (pkQ HO_539003.out) hb); replace HO_552002 := am (Kd.Q_below (pkQ HO_552002.out) hb); replace HO_552003 := am (Kd.Q_below (pkQ HO_552003.out) hb); replace HO_597002 := am (Kd.R_below (pkR HO_597002.out) hb); replace HO_597003 := am (Kd.R_below (pkR HO_597003.out) hb); replace BK501 := am (blk_below (pkK BK501.out) hb); replace BK526 := am (blk_below (pkK BK526.out) hb); replace BK538 := am (blk_below (pkK BK538.out) hb); replace BK551 := am (blk_below (pkK BK551.out) hb); replace BK596 := am (blk_below (pkK BK596.out) hb); replace HB := am (below_step (pkW HB.out) hb); (try clear hb)))
                go_ret
                exact ⟨rfe, pkW HB.out⟩
               ·rw [if_neg c124] at H
                have c124b0 : (t598 == t569) = false := beq_eq_false_iff_ne.mpr c124
                have c124b1 : (t598 != t569) = true := bne_iff_ne.mpr c124
                exact absurd (Option.some.inj H) (by rw [HQ_.out]; simp)
          ·rw [if_neg c83] at H
           have c83b0 : (t572 == t569) = false := beq_eq_false_iff_ne.mpr c83
           have c83b1 : (t572 != t569) = true := bne_iff_ne.mpr c83
           exact absurd (Option.some.inj H) (by rw [HQ_.out]; simp)
     ·replace c55 := Bool.eq_false_iff.mpr c55
      subst c55
      replace H : (some false) = some r := by rw [if_neg (show ¬ (false = true) by decide)] at H; exact H
      exact absurd (Option.some.inj H) (by rw [HQ_.out]; simp)
end Go.Proofs.Ytdagpmnadapbjaa.Z
