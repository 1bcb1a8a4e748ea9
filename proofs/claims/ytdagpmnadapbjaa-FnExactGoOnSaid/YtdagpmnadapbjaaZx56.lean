/- The Go functions laws_FnExactGoOn as Lean functions, each with a proof that its code comes to just these answers; conditions: those of each theorem. -/
import Derived.Test.YtdagpmnadapbjaaZx0
import Derived.Test.YtdagpmnadapbjaaZx1
import Derived.Test.YtdagpmnadapbjaaZx6
import Derived.Test.YtdagpmnadapbjaaZx13
import Derived.Test.YtdagpmnadapbjaaZx24
import Derived.Test.YtdagpmnadapbjaaZx25
import Derived.Test.YtdagpmnadapbjaaZx29
import Derived.Test.YtdagpmnadapbjaaZx31
namespace Go.Proofs.Ytdagpmnadapbjaa.Z
open Go.RowKit Go.Proofs.YtdagpmnadapbjaaW.PrintWords Go.Proofs.YtdagpmnadapbjaaW.PrintLast Go.Proofs.YtdagpmnadapbjaaW.PrintMore
attribute [local go_sem] max2_int min2_int max_two min_two max_three min_three max_four min_four   -- for this text's walks alone
set_option linter.unusedVariables false
set_option linter.unusedSimpArgs false
mutual
def laws_FnExactGoOn.j0 : Nat → Int → Int → Int → Bool → Bool → Bool → List Int → List Int → Int → Int → Int → Bool → Bool → List Int → List Int → Int → Int → Int → Bool → Bool → List Int → List Int → Int → Int → Int → Bool → Bool → List Int → List Int → Int → Int → Int → Option (Bool)
 | 0, _, _, _, _, _, _, _, _, _, _, _, _, _, _, _, _, _, _, _, _, _, _, _, _, _, _, _, _, _, _, _, _ => none
 | k + 1, x1, x7, x10, x44, x668000, x668001, x668002, x668003, x668004, x668005, x668006, x693000, x693001, x693002, x693003, x693004, x693005, x693006, x705000, x705001, x705002, x705003, x705004, x705005, x705006, x718000, x718001, x718002, x718003, x718004, x718005, x718006 => if x44 = true then (some false) else ((laws_toEvent.f k x668000 x668001 x668002 x668003 x668004 x668005 x668006).bind fun bt719 => ((laws_eqEvent.f k x705000 x705001 x705002 x705003 x705004 x705005 x705006 bt719.1 bt719.2.1 bt719.2.2.1 bt719.2.2.2.1 bt719.2.2.2.2.1 bt719.2.2.2.2.2.1 bt719.2.2.2.2.2.2).bind fun t730 => (if t730 = true then ((laws_markEvent.f k x705000 x705001 x705002 x705003 x705004 x705005 x705006 1).bind fun bt731 => (if bt731.1 < 0 then (laws_FnExactGoOn.j1 k x1 x7 true x668000 x668001 x668002 x668003 x668004 x668005 x668006 x693000 x693001 x693002 x693003 x693004 x693005 x693006 x718000 x718001 x718002 x718003 x718004 x718005 x718006) else ((laws_eqEvent.f k x718000 x718001 x718002 x718003 x718004 x718005 x718006 x693000 x693001 x693002 x693003 x693004 x693005 x693006).bind fun t734 => (if t734 = true then (laws_FnExactGoOn.j1 k x1 x7 (x10 != x7) x668000 x668001 x668002 x668003 x668004 x668005 x668006 x693000 x693001 x693002 x693003 x693004 x693005 x693006 x718000 x718001 x718002 x718003 x718004 x718005 x718006) else (laws_FnExactGoOn.j1 k x1 x7 true x668000 x668001 x668002 x668003 x668004 x668005 x668006 x693000 x693001 x693002 x693003 x693004 x693005 x693006 x718000 x718001 x718002 x718003 x718004 x718005 x718006))))) else (some false))))
def laws_FnExactGoOn.j1 : Nat → Int → Int → Bool → Bool → Bool → List Int → List Int → Int → Int → Int → Bool → Bool → List Int → List Int → Int → Int → Int → Bool → Bool → List Int → List Int → Int → Int → Int → Option (Bool)
 | 0, _, _, _, _, _, _, _, _, _, _, _, _, _, _, _, _, _, _, _, _, _, _, _, _ => none
 | k + 1, x1, x7, x65, x668000, x668001, x668002, x668003, x668004, x668005, x668006, x693000, x693001, x693002, x693003, x693004, x693005, x693006, x718000, x718001, x718002, x718003, x718004, x718005, x718006 => if x65 = true then (some false) else ((laws_markEvent.f k x718000 x718001 x718002 x718003 x718004 x718005 x718006 1).bind fun bt735 => ((laws_heldEvent.f k x718000 x718001 bt735.2.1 bt735.2.2 x718004 x718005 x718006 1).bind fun t738 => (if t738 < 0 then (some false) else (if t738 = bt735.1 then ((laws_toEvent.f k x668000 x668001 x668002 x668003 x668004 x668005 x668006).bind fun bt739 => ((impl_GoOn.f k bt739.1 bt739.2.1 bt739.2.2.1 bt739.2.2.2.1 bt739.2.2.2.2.1 bt739.2.2.2.2.2.1 bt739.2.2.2.2.2.2 x1).bind fun bt750 => ((laws_eqEvent.f k bt750.1 bt750.2.1 bt750.2.2.1 bt750.2.2.2.1 bt750.2.2.2.2.1 bt750.2.2.2.2.2.1 bt750.2.2.2.2.2.2.1 x693000 x693001 x693002 x693003 x693004 x693005 x693006).bind fun t763 => (if t763 = true then (laws_FnExactGoOn.j2 k bt735.1 (bt750.2.2.2.2.2.2.2 != x7) x718000 x718001 bt735.2.1 bt735.2.2 x718004 x718005 x718006) else (laws_FnExactGoOn.j2 k bt735.1 true x718000 x718001 bt735.2.1 bt735.2.2 x718004 x718005 x718006))))) else (some false)))))
def laws_FnExactGoOn.j2 : Nat → Int → Bool → Bool → Bool → List Int → List Int → Int → Int → Int → Option (Bool)
 | 0, _, _, _, _, _, _, _, _, _ => none
 | k + 1, x12, x92, x718000, x718001, x718002, x718003, x718004, x718005, x718006 => if x92 = true then (some false) else ((laws_heldEvent.f k x718000 x718001 x718002 x718003 x718004 x718005 x718006 1).bind fun t764 => (if t764 < 0 then (some false) else (if t764 = x12 then (some true) else (some false))))
end
def laws_FnExactGoOn.f (k : Nat) (a0_0 : Bool) (a0_1 : Bool) (l0_2 : List Int) (l0_3 : List Int) (a0_4 : Int) (a0_5 : Int) (a0_6 : Int) (a1 : Int) : Option (Bool) := (laws_szEvent.f a0_0 a0_1 l0_2 l0_3 a0_4 a0_5 a0_6 1048576).bind fun t668 => (if t668 < 0 then (some true) else ((laws_toEvent.f k a0_0 a0_1 l0_2 l0_3 a0_4 a0_5 a0_6).bind fun bt669 => ((spec_GoOn.f k bt669.1 bt669.2.1 bt669.2.2.1 bt669.2.2.2.1 bt669.2.2.2.2.1 bt669.2.2.2.2.2.1 bt669.2.2.2.2.2.2 a1).bind fun bt680 => ((laws_toEvent.f k a0_0 a0_1 l0_2 l0_3 a0_4 a0_5 a0_6).bind fun bt693 => ((impl_GoOn.f k bt693.1 bt693.2.1 bt693.2.2.1 bt693.2.2.2.1 bt693.2.2.2.2.1 bt693.2.2.2.2.2.1 bt693.2.2.2.2.2.2 a1).bind fun bt705 => ((laws_eqEvent.f k bt705.1 bt705.2.1 bt705.2.2.1 bt705.2.2.2.1 bt705.2.2.2.2.1 bt705.2.2.2.2.2.1 bt705.2.2.2.2.2.2.1 bt680.1 bt680.2.1 bt680.2.2.1 bt680.2.2.2.1 bt680.2.2.2.2.1 bt680.2.2.2.2.2.1 bt680.2.2.2.2.2.2.1).bind fun t718 => (if t718 = true then (laws_FnExactGoOn.j0 k a1 bt680.2.2.2.2.2.2.2 bt705.2.2.2.2.2.2.2 (bt705.2.2.2.2.2.2.2 != bt680.2.2.2.2.2.2.2) a0_0 a0_1 l0_2 l0_3 a0_4 a0_5 a0_6 bt680.1 bt680.2.1 bt680.2.2.1 bt680.2.2.2.1 bt680.2.2.2.2.1 bt680.2.2.2.2.2.1 bt680.2.2.2.2.2.2.1 bt693.1 bt693.2.1 bt693.2.2.1 bt693.2.2.2.1 bt693.2.2.2.2.1 bt693.2.2.2.2.2.1 bt693.2.2.2.2.2.2 bt705.1 bt705.2.1 bt705.2.2.1 bt705.2.2.2.1 bt705.2.2.2.2.1 bt705.2.2.2.2.2.1 bt705.2.2.2.2.2.2.1) else (laws_FnExactGoOn.j0 k a1 bt680.2.2.2.2.2.2.2 bt705.2.2.2.2.2.2.2 true a0_0 a0_1 l0_2 l0_3 a0_4 a0_5 a0_6 bt680.1 bt680.2.1 bt680.2.2.1 bt680.2.2.2.1 bt680.2.2.2.2.1 bt680.2.2.2.2.2.1 bt680.2.2.2.2.2.2.1 bt693.1 bt693.2.1 bt693.2.2.1 bt693.2.2.2.1 bt693.2.2.2.2.1 bt693.2.2.2.2.2.1 bt693.2.2.2.2.2.2 bt705.1 bt705.2.1 bt705.2.2.1 bt705.2.2.2.1 bt705.2.2.2.2.1 bt705.2.2.2.2.2.1 bt705.2.2.2.2.2.2.1))))))))
theorem laws_FnExactGoOn.mono_l : ∀ k, (∀ y0 y1 y2 y3 y4 y5 y6 y7 y8 y9 y10 y11 y12 y13 y14 y15 y16 y17 y18 y19 y20 y21 y22 y23 y24 y25 y26 y27 y28 y29 y30 y31, LeO (laws_FnExactGoOn.j0 k y0 y1 y2 y3 y4 y5 y6 y7 y8 y9 y10 y11 y12 y13 y14 y15 y16 y17 y18 y19 y20 y21 y22 y23 y24 y25 y26 y27 y28 y29 y30 y31) (laws_FnExactGoOn.j0 (k + 1) y0 y1 y2 y3 y4 y5 y6 y7 y8 y9 y10 y11 y12 y13 y14 y15 y16 y17 y18 y19 y20 y21 y22 y23 y24 y25 y26 y27 y28 y29 y30 y31)) ∧ (∀ y0 y1 y2 y3 y4 y5 y6 y7 y8 y9 y10 y11 y12 y13 y14 y15 y16 y17 y18 y19 y20 y21 y22 y23, LeO (laws_FnExactGoOn.j1 k y0 y1 y2 y3 y4 y5 y6 y7 y8 y9 y10 y11 y12 y13 y14 y15 y16 y17 y18 y19 y20 y21 y22 y23) (laws_FnExactGoOn.j1 (k + 1) y0 y1 y2 y3 y4 y5 y6 y7 y8 y9 y10 y11 y12 y13 y14 y15 y16 y17 y18 y19 y20 y21 y22 y23)) ∧ (∀ y0 y1 y2 y3 y4 y5 y6 y7 y8, LeO (laws_FnExactGoOn.j2 k y0 y1 y2 y3 y4 y5 y6 y7 y8) (laws_FnExactGoOn.j2 (k + 1) y0 y1 y2 y3 y4 y5 y6 y7 y8))
 | 0 => ⟨fun _ _ _ _ _ _ _ _ _ _ _ _ _ _ _ _ _ _ _ _ _ _ _ _ _ _ _ _ _ _ _ _ r h => by simp [laws_FnExactGoOn.j0] at h, fun _ _ _ _ _ _ _ _ _ _ _ _ _ _ _ _ _ _ _ _ _ _ _ _ r h => by simp [laws_FnExactGoOn.j1] at h, fun _ _ _ _ _ _ _ _ _ r h => by simp [laws_FnExactGoOn.j2] at h⟩
 | k + 1 => by
  obtain ⟨ih0, ih1, ih2⟩ := laws_FnExactGoOn.mono_l k
  refine ⟨?_, ?_, ?_⟩
  ·intro y0 y1 y2 y3 y4 y5 y6 y7 y8 y9 y10 y11 y12 y13 y14 y15 y16 y17 y18 y19 y20 y21 y22 y23 y24 y25 y26 y27 y28 y29 y30 y31
   unfold laws_FnExactGoOn.j0
   repeat' first
   | (with_reducible exact ih0 _ _ _ _ _ _ _ _ _ _ _ _ _ _ _ _ _ _ _ _ _ _ _ _ _ _ _ _ _ _ _ _)
   | (with_reducible exact ih1 _ _ _ _ _ _ _ _ _ _ _ _ _ _ _ _ _ _ _ _ _ _ _ _)
   | (with_reducible exact ih2 _ _ _ _ _ _ _ _ _)
   | (with_reducible exact impl_GoOn.mono _ _ _ _ _ _ _ _ _)
   | (with_reducible exact laws_eqEvent.mono _ _ _ _ _ _ _ _ _ _ _ _ _ _ _)
   | (with_reducible exact laws_heldEvent.mono _ _ _ _ _ _ _ _ _)
   | (with_reducible exact laws_markEvent.mono _ _ _ _ _ _ _ _ _)
   | (with_reducible exact laws_toEvent.mono _ _ _ _ _ _ _ _)
   | (with_reducible exact spec_GoOn.mono _ _ _ _ _ _ _ _ _)
   | (with_reducible exact LeO.refl _)
   | (with_reducible exact LeO.none _)
   | (with_reducible refine LeO.ite ?_ ?_)
   | (with_reducible refine LeO.bind ?_ (fun _ => ?_))
  ·intro y0 y1 y2 y3 y4 y5 y6 y7 y8 y9 y10 y11 y12 y13 y14 y15 y16 y17 y18 y19 y20 y21 y22 y23
   unfold laws_FnExactGoOn.j1
   repeat' first
   | (with_reducible exact ih0 _ _ _ _ _ _ _ _ _ _ _ _ _ _ _ _ _ _ _ _ _ _ _ _ _ _ _ _ _ _ _ _)
   | (with_reducible exact ih1 _ _ _ _ _ _ _ _ _ _ _ _ _ _ _ _ _ _ _ _ _ _ _ _)
   | (with_reducible exact ih2 _ _ _ _ _ _ _ _ _)
   | (with_reducible exact impl_GoOn.mono _ _ _ _ _ _ _ _ _)
   | (with_reducible exact laws_eqEvent.mono _ _ _ _ _ _ _ _ _ _ _ _ _ _ _)
   | (with_reducible exact laws_heldEvent.mono _ _ _ _ _ _ _ _ _)
   | (with_reducible exact laws_markEvent.mono _ _ _ _ _ _ _ _ _)
   | (with_reducible exact laws_toEvent.mono _ _ _ _ _ _ _ _)
   | (with_reducible exact spec_GoOn.mono _ _ _ _ _ _ _ _ _)
   | (with_reducible exact LeO.refl _)
   | (with_reducible exact LeO.none _)
   | (with_reducible refine LeO.ite ?_ ?_)
   | (with_reducible refine LeO.bind ?_ (fun _ => ?_))
  ·intro y0 y1 y2 y3 y4 y5 y6 y7 y8
   unfold laws_FnExactGoOn.j2
   repeat' first
   | (with_reducible exact ih0 _ _ _ _ _ _ _ _ _ _ _ _ _ _ _ _ _ _ _ _ _ _ _ _ _ _ _ _ _ _ _ _)
   | (with_reducible exact ih1 _ _ _ _ _ _ _ _ _ _ _ _ _ _ _ _ _ _ _ _ _ _ _ _)
   | (with_reducible exact ih2 _ _ _ _ _ _ _ _ _)
   | (with_reducible exact impl_GoOn.mono _ _ _ _ _ _ _ _ _)
   | (with_reducible exact laws_eqEvent.mono _ _ _ _ _ _ _ _ _ _ _ _ _ _ _)
   | (with_reducible exact laws_heldEvent.mono _ _ _ _ _ _ _ _ _)
   | (with_reducible exact laws_markEvent.mono _ _ _ _ _ _ _ _ _)
   | (with_reducible exact laws_toEvent.mono _ _ _ _ _ _ _ _)
   | (with_reducible exact spec_GoOn.mono _ _ _ _ _ _ _ _ _)
   | (with_reducible exact LeO.refl _)
   | (with_reducible exact LeO.none _)
   | (with_reducible refine LeO.ite ?_ ?_)
   | (with_reducible refine LeO.bind ?_ (fun _ => ?_))
theorem laws_FnExactGoOn.mono : ∀ a0 a1 a2 a3 a4 a5 a6 a7 k, LeO (laws_FnExactGoOn.f k a0 a1 a2 a3 a4 a5 a6 a7) (laws_FnExactGoOn.f (k + 1) a0 a1 a2 a3 a4 a5 a6 a7) := by
 intro a0 a1 a2 a3 a4 a5 a6 a7 k
 obtain ⟨ih0, ih1, ih2⟩ := laws_FnExactGoOn.mono_l k
 unfold laws_FnExactGoOn.f
 repeat' first
   | (with_reducible exact ih0 _ _ _ _ _ _ _ _ _ _ _ _ _ _ _ _ _ _ _ _ _ _ _ _ _ _ _ _ _ _ _ _)
   | (with_reducible exact ih1 _ _ _ _ _ _ _ _ _ _ _ _ _ _ _ _ _ _ _ _ _ _ _ _)
   | (with_reducible exact ih2 _ _ _ _ _ _ _ _ _)
   | (with_reducible exact impl_GoOn.mono _ _ _ _ _ _ _ _ _)
   | (with_reducible exact laws_eqEvent.mono _ _ _ _ _ _ _ _ _ _ _ _ _ _ _)
   | (with_reducible exact laws_heldEvent.mono _ _ _ _ _ _ _ _ _)
   | (with_reducible exact laws_markEvent.mono _ _ _ _ _ _ _ _ _)
   | (with_reducible exact laws_toEvent.mono _ _ _ _ _ _ _ _)
   | (with_reducible exact spec_GoOn.mono _ _ _ _ _ _ _ _ _)
   | (with_reducible exact LeO.refl _)
   | (with_reducible exact LeO.none _)
   | (with_reducible refine LeO.ite ?_ ?_)
   | (with_reducible refine LeO.bind ?_ (fun _ => ?_))
set_option maxHeartbeats 8000000 in
set_option maxRecDepth 100000 in
theorem laws_FnExactGoOn.calls (k : Nat) (a0_0 : Bool) (a0_1 : Bool) (A0_2 : Option Addr) (c0_2 : Nat) (l0_2 : List Int) (A0_3 : Option Addr) (c0_3 : Nat) (l0_3 : List Int) (a0_4 : Int) (a0_5 : Int) (a0_6 : Int) (a1 : Int) (r : Bool) (w : World) (hr0_2 : Kd.C (Kd.int .i64) w A0_2 l0_2.length l0_2) (hc0_2 : l0_2.length ≤ c0_2) (hr0_3 : Kd.C (Kd.int .i64) w A0_3 l0_3.length l0_3) (hc0_3 : l0_3.length ≤ c0_3) (HQ_ : Aside0 (r = true)) (h : laws_FnExactGoOn.f k a0_0 a0_1 l0_2 l0_3 a0_4 a0_5 a0_6 a1 = some r) :
  Calls Try.prog 7 #[.agg #[.bool a0_0, .bool a0_1, .slice A0_2 l0_2.length c0_2, .slice A0_3 l0_3.length c0_3, .int .i64 a0_4, .int .i64 a0_5, .int .i64 a0_6], .int .i64 a1] w fun e w' => e = .returned (.bool r) ∧ Below w.heap.size w w' := by
 have hu24 := Try.underlying24
 have hu27 := Try.underlying27
 have HR0_2 := am hr0_2
 have HC0_2 := am hc0_2
 clear hr0_2 hc0_2
 have HR0_3 := am hr0_3
 have HC0_3 := am hc0_3
 clear hr0_3 hc0_3
 have HB := am (Below.refl w.heap.size w)
 have H : ((laws_szEvent.f a0_0 a0_1 l0_2 l0_3 a0_4 a0_5 a0_6 1048576).bind fun t668 => (if t668 < 0 then (some true) else ((laws_toEvent.f k a0_0 a0_1 l0_2 l0_3 a0_4 a0_5 a0_6).bind fun bt669 => ((spec_GoOn.f k bt669.1 bt669.2.1 bt669.2.2.1 bt669.2.2.2.1 bt669.2.2.2.2.1 bt669.2.2.2.2.2.1 bt669.2.2.2.2.2.2 a1).bind fun bt680 => ((laws_toEvent.f k a0_0 a0_1 l0_2 l0_3 a0_4 a0_5 a0_6).bind fun bt693 => ((impl_GoOn.f k bt693.1 bt693.2.1 bt693.2.2.1 bt693.2.2.2.1 bt693.2.2.2.2.1 bt693.2.2.2.2.2.1 bt693.2.2.2.2.2.2 a1).bind fun bt705 => ((laws_eqEvent.f k bt705.1 bt705.2.1 bt705.2.2.1 bt705.2.2.2.1 bt705.2.2.2.2.1 bt705.2.2.2.2.2.1 bt705.2.2.2.2.2.2.1 bt680.1 bt680.2.1 bt680.2.2.1 bt680.2.2.2.1 bt680.2.2.2.2.1 bt680.2.2.2.2.2.1 bt680.2.2.2.2.2.2.1).bind fun t718 => (if t718 = true then (laws_FnExactGoOn.j0 k a1 bt680.2.2.2.2.2.2.2 bt705.2.2.2.2.2.2.2 (bt705.2.2.2.2.2.2.2 != bt680.2.2.2.2.2.2.2) a0_0 a0_1 l0_2 l0_3 a0_4 a0_5 a0_6 bt680.1 bt680.2.1 bt680.2.2.1 bt680.2.2.2.1 bt680.2.2.2.2.1 bt680.2.2.2.2.2.1 bt680.2.2.2.2.2.2.1 bt693.1 bt693.2.1 bt693.2.2.1 bt693.2.2.2.1 bt693.2.2.2.2.1 bt693.2.2.2.2.2.1 bt693.2.2.2.2.2.2 bt705.1 bt705.2.1 bt705.2.2.1 bt705.2.2.2.1 bt705.2.2.2.2.1 bt705.2.2.2.2.2.1 bt705.2.2.2.2.2.2.1) else (laws_FnExactGoOn.j0 k a1 bt680.2.2.2.2.2.2.2 bt705.2.2.2.2.2.2.2 true a0_0 a0_1 l0_2 l0_3 a0_4 a0_5 a0_6 bt680.1 bt680.2.1 bt680.2.2.1 bt680.2.2.2.1 bt680.2.2.2.2.1 bt680.2.2.2.2.2.1 bt680.2.2.2.2.2.2.1 bt693.1 bt693.2.1 bt693.2.2.1 bt693.2.2.2.1 bt693.2.2.2.2.1 bt693.2.2.2.2.2.1 bt693.2.2.2.2.2.2 bt705.1 bt705.2.1 bt705.2.2.1 bt705.2.2.2.1 bt705.2.2.2.2.1 bt705.2.2.2.2.2.1 bt705.2.2.2.2.2.2.1))))))))) = some r := h
 clear h
 replace H := Option.bind_eq_some_iff.mp H
 obtain ⟨t668, A30, H⟩ := H
 replace H : (if t668 < 0 then (some true) else ((laws_toEvent.f k a0_0 a0_1 l0_2 l0_3 a0_4 a0_5 a0_6).bind fun bt669 => ((spec_GoOn.f k bt669.1 bt669.2.1 bt669.2.2.1 bt669.2.2.2.1 bt669.2.2.2.2.1 bt669.2.2.2.2.2.1 bt669.2.2.2.2.2.2 a1).bind fun bt680 => ((laws_toEvent.f k a0_0 a0_1 l0_2 l0_3 a0_4 a0_5 a0_6).bind fun bt693 => ((impl_GoOn.f k bt693.1 bt693.2.1 bt693.2.2.1 bt693.2.2.2.1 bt693.2.2.2.2.1 bt693.2.2.2.2.2.1 bt693.2.2.2.2.2.2 a1).bind fun bt705 => ((laws_eqEvent.f k bt705.1 bt705.2.1 bt705.2.2.1 bt705.2.2.2.1 bt705.2.2.2.2.1 bt705.2.2.2.2.2.1 bt705.2.2.2.2.2.2.1 bt680.1 bt680.2.1 bt680.2.2.1 bt680.2.2.2.1 bt680.2.2.2.2.1 bt680.2.2.2.2.2.1 bt680.2.2.2.2.2.2.1).bind fun t718 => (if t718 = true then (laws_FnExactGoOn.j0 k a1 bt680.2.2.2.2.2.2.2 bt705.2.2.2.2.2.2.2 (bt705.2.2.2.2.2.2.2 != bt680.2.2.2.2.2.2.2) a0_0 a0_1 l0_2 l0_3 a0_4 a0_5 a0_6 bt680.1 bt680.2.1 bt680.2.2.1 bt680.2.2.2.1 bt680.2.2.2.2.1 bt680.2.2.2.2.2.1 bt680.2.2.2.2.2.2.1 bt693.1 bt693.2.1 bt693.2.2.1 bt693.2.2.2.1 bt693.2.2.2.2.1 bt693.2.2.2.2.2.1 bt693.2.2.2.2.2.2 bt705.1 bt705.2.1 bt705.2.2.1 bt705.2.2.2.1 bt705.2.2.2.2.1 bt705.2.2.2.2.2.1 bt705.2.2.2.2.2.2.1) else (laws_FnExactGoOn.j0 k a1 bt680.2.2.2.2.2.2.2 bt705.2.2.2.2.2.2.2 true a0_0 a0_1 l0_2 l0_3 a0_4 a0_5 a0_6 bt680.1 bt680.2.1 bt680.2.2.1 bt680.2.2.2.1 bt680.2.2.2.2.1 bt680.2.2.2.2.2.1 bt680.2.2.2.2.2.2.1 bt693.1 bt693.2.1 bt693.2.2.1 bt693.2.2.2.1 bt693.2.2.2.2.1 bt693.2.2.2.2.2.1 bt693.2.2.2.2.2.2 bt705.1 bt705.2.1 bt705.2.2.1 bt705.2.2.2.1 bt705.2.2.2.2.1 bt705.2.2.2.2.2.1 bt705.2.2.2.2.2.2.1)))))))) = some r := H
 have A3 := am A30
 clear A30
 by_cases c4 : t668 < 0
 ·rw [if_pos c4] at H
  have c4b0 : decide (t668 < 0) = true := decide_eq_true c4
  clear c4
  obtain rfl := Option.some.inj H
  go_enter Try.func7, Try.ntmps7
  go_wp2_with (first | ((with_reducible refine gate_dst (N := 2) rfl ?_); refine box_event ?hg (N := 2) ?hd (cs := #[.bool a0_0, .bool a0_1, .slice A0_2 l0_2.length c0_2, .slice A0_3 l0_3.length c0_3, .int .i64 a0_4, .int .i64 a0_5, .int .i64 a0_6]) (t := 24) ?hr ?_; (case hd => rfl); (case hg => rfl); (case hr => first | (go_simp; done) | (go_simp; rfl)); intro gb667 hg w5 hbox hb; have BK667 := am (hbox); have GW667 := am ((by rw [hg]; exact (below_size (pkB HB.out)) : w.heap.size ≤ gb667)); have GE667 := am ((by rw [hg]; exact (below_size (pkB HB.out)) : w.heap.size ≤ gb667)); replace HB := am (below_step (pkB HB.out) hb); clear hb hbox hg; obtain ⟨hcz6_0, hcz6_1, hcz6_2, hcz6_3, hcz6_4, hcz6_5, hcz6_6, hfz6_0, hfz6_1, hfz6_2, hfz6_3, hfz6_4, hfz6_5, hfz6_6⟩ := bk7 BK667.out) | ((with_reducible refine gate_callee (f := 14) rfl ?_); refine goesL_ (some 18) rfl rfl Try.func14 (by kernel_rfl) rfl #[.agg #[.bool a0_0, .bool a0_1, .slice A0_2 l0_2.length c0_2, .slice A0_3 l0_3.length c0_3, .int .i64 a0_4, .int .i64 a0_5, .int .i64 a0_6], .int .i64 1048576] rfl mpx ?_; (with_reducible refine (laws_szEvent.calls a0_0 a0_1 _ _ l0_2 _ _ l0_3 a0_4 a0_5 a0_6 1048576 t668 _ ?side1 ?side2 ?side3 ?side4 A3.out).mono ?_); (case side1 => exact pkC (Kd.C_below HR0_2.out HB.out)); (case side2 => exact HC0_2.out); (case side3 => exact pkC (Kd.C_below HR0_3.out HB.out)); (case side4 => exact HC0_3.out); rintro e w7 ⟨rfl, hb⟩; refine ⟨_, rfl, ?_⟩; replace BK667 := am (blk_below (pkK BK667.out) hb); replace HB := am (below_step (pkW HB.out) hb); (try clear hb)))
  go_ret
  exact ⟨rfe, pkW HB.out⟩
 ·rw [if_neg c4] at H
  have c4b0 : decide (t668 < 0) = false := decide_eq_false c4
  clear c4
  replace H := Option.bind_eq_some_iff.mp H
  obtain ⟨⟨t669, t670, t671, t674, t677, t678, t679⟩, A80, H⟩ := H
  replace H : ((spec_GoOn.f k t669 t670 t671 t674 t677 t678 t679 a1).bind fun bt680 => ((laws_toEvent.f k a0_0 a0_1 l0_2 l0_3 a0_4 a0_5 a0_6).bind fun bt693 => ((impl_GoOn.f k bt693.1 bt693.2.1 bt693.2.2.1 bt693.2.2.2.1 bt693.2.2.2.2.1 bt693.2.2.2.2.2.1 bt693.2.2.2.2.2.2 a1).bind fun bt705 => ((laws_eqEvent.f k bt705.1 bt705.2.1 bt705.2.2.1 bt705.2.2.2.1 bt705.2.2.2.2.1 bt705.2.2.2.2.2.1 bt705.2.2.2.2.2.2.1 bt680.1 bt680.2.1 bt680.2.2.1 bt680.2.2.2.1 bt680.2.2.2.2.1 bt680.2.2.2.2.2.1 bt680.2.2.2.2.2.2.1).bind fun t718 => (if t718 = true then (laws_FnExactGoOn.j0 k a1 bt680.2.2.2.2.2.2.2 bt705.2.2.2.2.2.2.2 (bt705.2.2.2.2.2.2.2 != bt680.2.2.2.2.2.2.2) a0_0 a0_1 l0_2 l0_3 a0_4 a0_5 a0_6 bt680.1 bt680.2.1 bt680.2.2.1 bt680.2.2.2.1 bt680.2.2.2.2.1 bt680.2.2.2.2.2.1 bt680.2.2.2.2.2.2.1 bt693.1 bt693.2.1 bt693.2.2.1 bt693.2.2.2.1 bt693.2.2.2.2.1 bt693.2.2.2.2.2.1 bt693.2.2.2.2.2.2 bt705.1 bt705.2.1 bt705.2.2.1 bt705.2.2.2.1 bt705.2.2.2.2.1 bt705.2.2.2.2.2.1 bt705.2.2.2.2.2.2.1) else (laws_FnExactGoOn.j0 k a1 bt680.2.2.2.2.2.2.2 bt705.2.2.2.2.2.2.2 true a0_0 a0_1 l0_2 l0_3 a0_4 a0_5 a0_6 bt680.1 bt680.2.1 bt680.2.2.1 bt680.2.2.2.1 bt680.2.2.2.2.1 bt680.2.2.2.2.2.1 bt680.2.2.2.2.2.2.1 bt693.1 bt693.2.1 bt693.2.2.1 bt693.2.2.2.1 bt693.2.2.2.2.1 bt693.2.2.2.2.2.1 bt693.2.2.2.2.2.2 bt705.1 bt705.2.1 bt705.2.2.1 bt705.2.2.2.1 bt705.2.2.2.2.1 bt705.2.2.2.2.2.1 bt705.2.2.2.2.2.2.1)))))) = some r := H
  have A8 := am A80
  clear A80
  replace H := Option.bind_eq_some_iff.mp H
  obtain ⟨⟨t680, t681, t682, t685, t688, t689, t690, t691⟩, A90, H⟩ := H
  replace H : ((laws_toEvent.f k a0_0 a0_1 l0_2 l0_3 a0_4 a0_5 a0_6).bind fun bt693 => ((impl_GoOn.f k bt693.1 bt693.2.1 bt693.2.2.1 bt693.2.2.2.1 bt693.2.2.2.2.1 bt693.2.2.2.2.2.1 bt693.2.2.2.2.2.2 a1).bind fun bt705 => ((laws_eqEvent.f k bt705.1 bt705.2.1 bt705.2.2.1 bt705.2.2.2.1 bt705.2.2.2.2.1 bt705.2.2.2.2.2.1 bt705.2.2.2.2.2.2.1 t680 t681 t682 t685 t688 t689 t690).bind fun t718 => (if t718 = true then (laws_FnExactGoOn.j0 k a1 t691 bt705.2.2.2.2.2.2.2 (bt705.2.2.2.2.2.2.2 != t691) a0_0 a0_1 l0_2 l0_3 a0_4 a0_5 a0_6 t680 t681 t682 t685 t688 t689 t690 bt693.1 bt693.2.1 bt693.2.2.1 bt693.2.2.2.1 bt693.2.2.2.2.1 bt693.2.2.2.2.2.1 bt693.2.2.2.2.2.2 bt705.1 bt705.2.1 bt705.2.2.1 bt705.2.2.2.1 bt705.2.2.2.2.1 bt705.2.2.2.2.2.1 bt705.2.2.2.2.2.2.1) else (laws_FnExactGoOn.j0 k a1 t691 bt705.2.2.2.2.2.2.2 true a0_0 a0_1 l0_2 l0_3 a0_4 a0_5 a0_6 t680 t681 t682 t685 t688 t689 t690 bt693.1 bt693.2.1 bt693.2.2.1 bt693.2.2.2.1 bt693.2.2.2.2.1 bt693.2.2.2.2.2.1 bt693.2.2.2.2.2.2 bt705.1 bt705.2.1 bt705.2.2.1 bt705.2.2.2.1 bt705.2.2.2.2.1 bt705.2.2.2.2.2.1 bt705.2.2.2.2.2.2.1))))) = some r := H
  have A9 := am A90
  clear A90
  replace H := Option.bind_eq_some_iff.mp H
  obtain ⟨⟨t693, t694, t695, t698, t701, t702, t703⟩, A100, H⟩ := H
  replace H : ((impl_GoOn.f k t693 t694 t695 t698 t701 t702 t703 a1).bind fun bt705 => ((laws_eqEvent.f k bt705.1 bt705.2.1 bt705.2.2.1 bt705.2.2.2.1 bt705.2.2.2.2.1 bt705.2.2.2.2.2.1 bt705.2.2.2.2.2.2.1 t680 t681 t682 t685 t688 t689 t690).bind fun t718 => (if t718 = true then (laws_FnExactGoOn.j0 k a1 t691 bt705.2.2.2.2.2.2.2 (bt705.2.2.2.2.2.2.2 != t691) a0_0 a0_1 l0_2 l0_3 a0_4 a0_5 a0_6 t680 t681 t682 t685 t688 t689 t690 t693 t694 t695 t698 t701 t702 t703 bt705.1 bt705.2.1 bt705.2.2.1 bt705.2.2.2.1 bt705.2.2.2.2.1 bt705.2.2.2.2.2.1 bt705.2.2.2.2.2.2.1) else (laws_FnExactGoOn.j0 k a1 t691 bt705.2.2.2.2.2.2.2 true a0_0 a0_1 l0_2 l0_3 a0_4 a0_5 a0_6 t680 t681 t682 t685 t688 t689 t690 t693 t694 t695 t698 t701 t702 t703 bt705.1 bt705.2.1 bt705.2.2.1 bt705.2.2.2.1 bt705.2.2.2.2.1 bt705.2.2.2.2.2.1 bt705.2.2.2.2.2.2.1)))) = some r := H
  have A10 := am A100
  clear A100
  replace H := Option.bind_eq_some_iff.mp H
  obtain ⟨⟨t705, t706, t707, t710, t713, t714, t715, t716⟩, A110, H⟩ := H
  replace H : ((laws_eqEvent.f k t705 t706 t707 t710 t713 t714 t715 t680 t681 t682 t685 t688 t689 t690).bind fun t718 => (if t718 = true then (laws_FnExactGoOn.j0 k a1 t691 t716 (t716 != t691) a0_0 a0_1 l0_2 l0_3 a0_4 a0_5 a0_6 t680 t681 t682 t685 t688 t689 t690 t693 t694 t695 t698 t701 t702 t703 t705 t706 t707 t710 t713 t714 t715) else (laws_FnExactGoOn.j0 k a1 t691 t716 true a0_0 a0_1 l0_2 l0_3 a0_4 a0_5 a0_6 t680 t681 t682 t685 t688 t689 t690 t693 t694 t695 t698 t701 t702 t703 t705 t706 t707 t710 t713 t714 t715))) = some r := H
  have A11 := am A110
  clear A110
  have HC12 := am H
  clear H
  go_enter Try.func7, Try.ntmps7
  go_upto_region 8 with (first | ((with_reducible refine gate_dst (N := 2) rfl ?_); refine box_event ?hg (N := 2) ?hd (cs := #[.bool a0_0, .bool a0_1, .slice A0_2 l0_2.length c0_2, .slice A0_3 l0_3.length c0_3, .int .i64 a0_4, .int .i64 a0_5, .int .i64 a0_6]) (t := 24) ?hr ?_; (case hd => rfl); (case hg => rfl); (case hr => first | (go_simp; done) | (go_simp; rfl)); intro gb667 hg w13 hbox hb; have BK667 := am (hbox); have GW667 := am ((by rw [hg]; exact (below_size (pkB HB.out)) : w.heap.size ≤ gb667)); have GE667 := am ((by rw [hg]; exact (below_size (pkB HB.out)) : w.heap.size ≤ gb667)); replace HB := am (below_step (pkB HB.out) hb); clear hb hbox hg; obtain ⟨hcz14_0, hcz14_1, hcz14_2, hcz14_3, hcz14_4, hcz14_5, hcz14_6, hfz14_0, hfz14_1, hfz14_2, hfz14_3, hfz14_4, hfz14_5, hfz14_6⟩ := bk7 BK667.out) | ((with_reducible refine gate_callee (f := 14) rfl ?_); refine goesL_ (some 18) rfl rfl Try.func14 (by kernel_rfl) rfl #[.agg #[.bool a0_0, .bool a0_1, .slice A0_2 l0_2.length c0_2, .slice A0_3 l0_3.length c0_3, .int .i64 a0_4, .int .i64 a0_5, .int .i64 a0_6], .int .i64 1048576] rfl mpx ?_; (with_reducible refine (laws_szEvent.calls a0_0 a0_1 _ _ l0_2 _ _ l0_3 a0_4 a0_5 a0_6 1048576 t668 _ ?side1 ?side2 ?side3 ?side4 A3.out).mono ?_); (case side1 => exact pkC (Kd.C_below HR0_2.out HB.out)); (case side2 => exact HC0_2.out); (case side3 => exact pkC (Kd.C_below HR0_3.out HB.out)); (case side4 => exact HC0_3.out); rintro e w15 ⟨rfl, hb⟩; refine ⟨_, rfl, ?_⟩; replace BK667 := am (blk_below (pkK BK667.out) hb); replace HB := am (below_step (pkW HB.out) hb); (try clear hb); obtain ⟨hcz16_0, hcz16_1, hcz16_2, hcz16_3, hcz16_4, hcz16_5, hcz16_6, hfz16_0, hfz16_1, hfz16_2, hfz16_3, hfz16_4, hfz16_5, hfz16_6⟩ := bk7 BK667.out) | ((with_reducible refine gate_callee (f := 16) rfl ?_); refine goesL_ (some 23) rfl rfl Try.func16 (by kernel_rfl) rfl #[.agg #[.bool a0_0, .bool a0_1, .slice A0_2 l0_2.length c0_2, .slice A0_3 l0_3.length c0_3, .int .i64 a0_4, .int .i64 a0_5, .int .i64 a0_6]] rfl mpx ?_; (with_reducible refine (laws_toEvent.calls k a0_0 a0_1 _ _ l0_2 _ _ l0_3 a0_4 a0_5 a0_6 t669 t670 t671 t674 t677 t678 t679 _ ?side1 ?side2 ?side3 ?side4 A8.out).mono ?_); (case side1 => exact pkC (Kd.C_below HR0_2.out HB.out)); (case side2 => exact HC0_2.out); (case side3 => exact pkC (Kd.C_below HR0_3.out HB.out)); (case side4 => exact HC0_3.out); rintro e w17 ⟨v672, v675, rfl, ho0, ho1, hb⟩; refine ⟨_, rfl, ?_⟩; have HO673 := am (Kd.R_lower ho0 (below_size (pkW HB.out))); have HO676 := am (Kd.R_lower ho1 (below_size (pkW HB.out))); replace BK667 := am (blk_below (pkK BK667.out) hb); replace HB := am (below_step (pkW HB.out) hb); (try clear hb ho0 ho1); obtain ⟨Ao18, co18, eo18⟩ := Kd.R_slice HO673.out; subst eo18; obtain ⟨Ao19, co19, eo19⟩ := Kd.R_slice HO676.out; subst eo19) | ((with_reducible refine gate_callee (f := 30) rfl ?_); refine goesL_ (some 25) rfl rfl Try.func30 (by kernel_rfl) rfl #[.agg #[.bool t669, .bool t670, .slice Ao18 t671.length co18, .slice Ao19 t674.length co19, .int .i64 t677, .int .i64 t678, .int .i64 t679], .int .i64 a1] rfl mpx ?_; (with_reducible refine (spec_GoOn.calls k t669 t670 _ _ t671 _ _ t674 t677 t678 t679 a1 t680 t681 t682 t685 t688 t689 t690 t691 _ ?side1 ?side2 ?side3 ?side4 A9.out).mono ?_); (case side1 => exact pkC (Kd.R_reads' HO673.out).2.2); (case side2 => exact (Kd.R_reads' HO673.out).2.1); (case side3 => exact pkC (Kd.R_reads' HO676.out).2.2); (case side4 => exact (Kd.R_reads' HO676.out).2.1); rintro e w20 ⟨v683, v686, rfl, ho0, ho1, hb⟩; refine ⟨_, rfl, ?_⟩; have HO684 := am (Kd.R_lower (Kd.R_new' (Kd.R_new' ho0 (Kd.R_lt (pkR HO673.out))) (Kd.R_lt (pkR HO676.out))) (below_size (pkW HB.out))); have HO687 := am (Kd.R_lower (Kd.R_new' (Kd.R_new' ho1 (Kd.R_lt (pkR HO673.out))) (Kd.R_lt (pkR HO676.out))) (below_size (pkW HB.out))); replace HO673 := am (Kd.R_mono (Kd.R_told (Kd.R_told (Kd.R_old (pkR HO673.out) hb) (Kd.R_base ho0)) (Kd.R_base ho1)) (fun _ h_ => h_.1)); replace HO676 := am (Kd.R_mono (Kd.R_told (Kd.R_told (Kd.R_old (pkR HO676.out) hb) (Kd.R_base ho0)) (Kd.R_base ho1)) (fun _ h_ => h_.1)); replace BK667 := am (blk_below (pkK BK667.out) hb); replace HB := am (below_step (pkW HB.out) hb); (try clear hb ho0 ho1)) | ((with_reducible refine gate_dst (N := 6) rfl ?_); refine box_event ?hg (N := 6) ?hd (cs := #[.bool false, .bool false, .slice none 0 0, .slice none 0 0, .int .i64 0, .int .i64 0, .int .i64 0]) (t := 27) ?hr ?_; (case hd => rfl); (case hg => rfl); (case hr => first | (go_simp; done) | (go_simp; rfl)); intro gb692 hg w21 hbox hb; replace HO673 := am (Kd.R_below (pkR HO673.out) hb); replace HO676 := am (Kd.R_below (pkR HO676.out) hb); replace HO684 := am (Kd.R_below (pkR HO684.out) hb); replace HO687 := am (Kd.R_below (pkR HO687.out) hb); have BK692 := am (hbox); have GW692 := am ((by rw [hg]; exact (below_size (pkW HB.out)) : w.heap.size ≤ gb692)); have GE692 := am ((by rw [hg]; exact (below_size (pkW HB.out)) : w.heap.size ≤ gb692)); replace HB := am (below_step (pkW HB.out) hb); have NB667_692 := am ((by rw [hg]; exact Nat.ne_of_lt (blk_lt (g := gb667) (o := .cells #[.bool a0_0, .bool a0_1, .slice A0_2 l0_2.length c0_2, .slice A0_3 l0_3.length c0_3, .int .i64 a0_4, .int .i64 a0_5, .int .i64 a0_6] 24 (0, 0)) (pkK BK667.out)) : gb667 ≠ gb692)); have NB692_667 := am ((by rw [hg]; exact Nat.ne_of_gt (blk_lt (g := gb667) (o := .cells #[.bool a0_0, .bool a0_1, .slice A0_2 l0_2.length c0_2, .slice A0_3 l0_3.length c0_3, .int .i64 a0_4, .int .i64 a0_5, .int .i64 a0_6] 24 (0, 0)) (pkK BK667.out)) : gb692 ≠ gb667)); replace BK667 := am (blk_below (pkK BK667.out) hb); clear hb hbox hg; have hnb22 := NB692_667.out; have hnc22 := NB667_692.out; obtain ⟨hcz23_0, hcz23_1, hcz23_2, hcz23_3, hcz23_4, hcz23_5, hcz23_6, hfz23_0, hfz23_1, hfz23_2, hfz23_3, hfz23_4, hfz23_5, hfz23_6⟩ := bk7 BK692.out; obtain ⟨Ao24, co24, eo24⟩ := Kd.R_slice HO684.out; subst eo24; obtain ⟨Ao25, co25, eo25⟩ := Kd.R_slice HO687.out; subst eo25; obtain ⟨hcz26_0, hcz26_1, hcz26_2, hcz26_3, hcz26_4, hcz26_5, hcz26_6, hfz26_0, hfz26_1, hfz26_2, hfz26_3, hfz26_4, hfz26_5, hfz26_6⟩ := bk7 BK667.out) | ((with_reducible refine gate_callee (f := 16) rfl ?_); refine goesL_ (some 29) rfl rfl Try.func16 (by kernel_rfl) rfl #[.agg #[.bool a0_0, .bool a0_1, .slice A0_2 l0_2.length c0_2, .slice A0_3 l0_3.length c0_3, .int .i64 a0_4, .int .i64 a0_5, .int .i64 a0_6]] rfl mpx ?_; (with_reducible refine (laws_toEvent.calls k a0_0 a0_1 _ _ l0_2 _ _ l0_3 a0_4 a0_5 a0_6 t693 t694 t695 t698 t701 t702 t703 _ ?side1 ?side2 ?side3 ?side4 A10.out).mono ?_); (case side1 => exact Kd.C_below HR0_2.out (pkW HB.out)); (case side2 => exact HC0_2.out); (case side3 => exact Kd.C_below HR0_3.out (pkW HB.out)); (case side4 => exact HC0_3.out); rintro e w27 ⟨v696, v699, rfl, ho0, ho1, hb⟩; refine ⟨_, rfl, ?_⟩; have HO697 := am (Kd.R_lower (Kd.R_new' (Kd.R_new' (Kd.R_new' (Kd.R_new' ho0 (Kd.R_lt (by (with_reducible repeat (first | apply Kd.R_alloc | apply Kd.R_drewN | apply Kd.R_drew)); exact (Kd.R_mono (Kd.R_far (p := ⟨gb692, 6, none⟩) (Kd.R_far (p := ⟨gb692, 5, none⟩) (Kd.R_far (p := ⟨gb692, 4, none⟩) (Kd.R_far (p := ⟨gb692, 3, none⟩) (Kd.R_far (p := ⟨gb692, 2, none⟩) (Kd.R_far (p := ⟨gb692, 1, none⟩) (Kd.R_far (p := ⟨gb692, 0, none⟩) (Kd.R_types HO673.out BK692.out (by decide)) (fun _ hk => hk.2) (.bool t680)) (fun _ hk => hk.2) (.bool t681)) (fun _ hk => hk.2) (.slice Ao24 t682.length co24)) (fun _ hk => hk.2) (.slice Ao25 t685.length co25)) (fun _ hk => hk.2) (.int .i64 t688)) (fun _ hk => hk.2) (.int .i64 t689)) (fun _ hk => hk.2) (.int .i64 t690)) (fun _ h_ => h_.1))))) (Kd.R_lt (by (with_reducible repeat (first | apply Kd.R_alloc | apply Kd.R_drewN | apply Kd.R_drew)); exact (Kd.R_mono (Kd.R_far (p := ⟨gb692, 6, none⟩) (Kd.R_far (p := ⟨gb692, 5, none⟩) (Kd.R_far (p := ⟨gb692, 4, none⟩) (Kd.R_far (p := ⟨gb692, 3, none⟩) (Kd.R_far (p := ⟨gb692, 2, none⟩) (Kd.R_far (p := ⟨gb692, 1, none⟩) (Kd.R_far (p := ⟨gb692, 0, none⟩) (Kd.R_types HO676.out BK692.out (by decide)) (fun _ hk => hk.2) (.bool t680)) (fun _ hk => hk.2) (.bool t681)) (fun _ hk => hk.2) (.slice Ao24 t682.length co24)) (fun _ hk => hk.2) (.slice Ao25 t685.length co25)) (fun _ hk => hk.2) (.int .i64 t688)) (fun _ hk => hk.2) (.int .i64 t689)) (fun _ hk => hk.2) (.int .i64 t690)) (fun _ h_ => h_.1))))) (Kd.R_lt (by (with_reducible repeat (first | apply Kd.R_alloc | apply Kd.R_drewN | apply Kd.R_drew)); exact (Kd.R_mono (Kd.R_far (p := ⟨gb692, 6, none⟩) (Kd.R_far (p := ⟨gb692, 5, none⟩) (Kd.R_far (p := ⟨gb692, 4, none⟩) (Kd.R_far (p := ⟨gb692, 3, none⟩) (Kd.R_far (p := ⟨gb692, 2, none⟩) (Kd.R_far (p := ⟨gb692, 1, none⟩) (Kd.R_far (p := ⟨gb692, 0, none⟩) (Kd.R_types HO684.out BK692.out (by decide)) (fun _ hk => hk.2) (.bool t680)) (fun _ hk => hk.2) (.bool t681)) (fun _ hk => hk.2) (.slice Ao24 t682.length co24)) (fun _ hk => hk.2) (.slice Ao25 t685.length co25)) (fun _ hk => hk.2) (.int .i64 t688)) (fun _ hk => hk.2) (.int .i64 t689)) (fun _ hk => hk.2) (.int .i64 t690)) (fun _ h_ => h_.1))))) (Kd.R_lt (by (with_reducible repeat (first | apply Kd.R_alloc | apply Kd.R_drewN | apply Kd.R_drew)); exact (Kd.R_mono (Kd.R_far (p := ⟨gb692, 6, none⟩) (Kd.R_far (p := ⟨gb692, 5, none⟩) (Kd.R_far (p := ⟨gb692, 4, none⟩) (Kd.R_far (p := ⟨gb692, 3, none⟩) (Kd.R_far (p := ⟨gb692, 2, none⟩) (Kd.R_far (p := ⟨gb692, 1, none⟩) (Kd.R_far (p := ⟨gb692, 0, none⟩) (Kd.R_types HO687.out BK692.out (by decide)) (fun _ hk => hk.2) (.bool t680)) (fun _ hk => hk.2) (.bool t681)) (fun _ hk => hk.2) (.slice Ao24 t682.length co24)) (fun _ hk => hk.2) (.slice Ao25 t685.length co25)) (fun _ hk => hk.2) (.int .i64 t688)) (fun _ hk => hk.2) (.int .i64 t689)) (fun _ hk => hk.2) (.int .i64 t690)) (fun _ h_ => h_.1))))) (below_size (pkW HB.out))); have HO700 := am (Kd.R_lower (Kd.R_new' (Kd.R_new' (Kd.R_new' (Kd.R_new' ho1 (Kd.R_lt (by (with_reducible repeat (first | apply Kd.R_alloc | apply Kd.R_drewN | apply Kd.R_drew)); exact (Kd.R_mono (Kd.R_far (p := ⟨gb692, 6, none⟩) (Kd.R_far (p := ⟨gb692, 5, none⟩) (Kd.R_far (p := ⟨gb692, 4, none⟩) (Kd.R_far (p := ⟨gb692, 3, none⟩) (Kd.R_far (p := ⟨gb692, 2, none⟩) (Kd.R_far (p := ⟨gb692, 1, none⟩) (Kd.R_far (p := ⟨gb692, 0, none⟩) (Kd.R_types HO673.out BK692.out (by decide)) (fun _ hk => hk.2) (.bool t680)) (fun _ hk => hk.2) (.bool t681)) (fun _ hk => hk.2) (.slice Ao24 t682.length co24)) (fun _ hk => hk.2) (.slice Ao25 t685.length co25)) (fun _ hk => hk.2) (.int .i64 t688)) (fun _ hk => hk.2) (.int .i64 t689)) (fun _ hk => hk.2) (.int .i64 t690)) (fun _ h_ => h_.1))))) (Kd.R_lt (by (with_reducible repeat (first | apply Kd.R_alloc | apply Kd.R_drewN | apply Kd.R_drew)); exact (Kd.R_mono (Kd.R_far (p := ⟨gb692, 6, none⟩) (Kd.R_far (p := ⟨gb692, 5, none⟩) (Kd.R_far (p := ⟨gb692, 4, none⟩) (Kd.R_far (p := ⟨gb692, 3, none⟩) (Kd.R_far (p := ⟨gb692, 2, none⟩) (Kd.R_far (p := ⟨gb692, 1, none⟩) (Kd.R_far (p := ⟨gb692, 0, none⟩) (Kd.R_types HO676.out BK692.out (by decide)) (fun _ hk => hk.2) (.bool t680)) (fun _ hk => hk.2) (.bool t681)) (fun _ hk => hk.2) (.slice Ao24 t682.length co24)) (fun _ hk => hk.2) (.slice Ao25 t685.length co25)) (fun _ hk => hk.2) (.int .i64 t688)) (fun _ hk => hk.2) (.int .i64 t689)) (fun _ hk => hk.2) (.int .i64 t690)) (fun _ h_ => h_.1))))) (Kd.R_lt (by (with_reducible repeat (first | apply Kd.R_alloc | apply Kd.R_drewN | apply Kd.R_drew)); exact (Kd.R_mono (Kd.R_far (p := ⟨gb692, 6, none⟩) (Kd.R_far (p := ⟨gb692, 5, none⟩) (Kd.R_far (p := ⟨gb692, 4, none⟩) (Kd.R_far (p := ⟨gb692, 3, none⟩) (Kd.R_far (p := ⟨gb692, 2, none⟩) (Kd.R_far (p := ⟨gb692, 1, none⟩) (Kd.R_far (p := ⟨gb692, 0, none⟩) (Kd.R_types HO684.out BK692.out (by decide)) (fun _ hk => hk.2) (.bool t680)) (fun _ hk => hk.2) (.bool t681)) (fun _ hk => hk.2) (.slice Ao24 t682.length co24)) (fun _ hk => hk.2) (.slice Ao25 t685.length co25)) (fun _ hk => hk.2) (.int .i64 t688)) (fun _ hk => hk.2) (.int .i64 t689)) (fun _ hk => hk.2) (.int .i64 t690)) (fun _ h_ => h_.1))))) (Kd.R_lt (by (with_reducible repeat (first | apply Kd.R_alloc | apply Kd.R_drewN | apply Kd.R_drew)); exact (Kd.R_mono (Kd.R_far (p := ⟨gb692, 6, none⟩) (Kd.R_far (p := ⟨gb692, 5, none⟩) (Kd.R_far (p := ⟨gb692, 4, none⟩) (Kd.R_far (p := ⟨gb692, 3, none⟩) (Kd.R_far (p := ⟨gb692, 2, none⟩) (Kd.R_far (p := ⟨gb692, 1, none⟩) (Kd.R_far (p := ⟨gb692, 0, none⟩) (Kd.R_types HO687.out BK692.out (by decide)) (fun _ hk => hk.2) (.bool t680)) (fun _ hk => hk.2) (.bool t681)) (fun _ hk => hk.2) (.slice Ao24 t682.length co24)) (fun _ hk => hk.2) (.slice Ao25 t685.length co25)) (fun _ hk => hk.2) (.int .i64 t688)) (fun _ hk => hk.2) (.int .i64 t689)) (fun _ hk => hk.2) (.int .i64 t690)) (fun _ h_ => h_.1))))) (below_size (pkW HB.out))); replace HO673 := am (Kd.R_mono (Kd.R_told (Kd.R_told (Kd.R_old (by (with_reducible repeat (first | apply Kd.R_alloc | apply Kd.R_drewN | apply Kd.R_drew)); exact (Kd.R_mono (Kd.R_far (p := ⟨gb692, 6, none⟩) (Kd.R_far (p := ⟨gb692, 5, none⟩) (Kd.R_far (p := ⟨gb692, 4, none⟩) (Kd.R_far (p := ⟨gb692, 3, none⟩) (Kd.R_far (p := ⟨gb692, 2, none⟩) (Kd.R_far (p := ⟨gb692, 1, none⟩) (Kd.R_far (p := ⟨gb692, 0, none⟩) (Kd.R_types HO673.out BK692.out (by decide)) (fun _ hk => hk.2) (.bool t680)) (fun _ hk => hk.2) (.bool t681)) (fun _ hk => hk.2) (.slice Ao24 t682.length co24)) (fun _ hk => hk.2) (.slice Ao25 t685.length co25)) (fun _ hk => hk.2) (.int .i64 t688)) (fun _ hk => hk.2) (.int .i64 t689)) (fun _ hk => hk.2) (.int .i64 t690)) (fun _ h_ => h_.1))) hb) (Kd.R_base ho0)) (Kd.R_base ho1)) (fun _ h_ => h_.1)); replace HO676 := am (Kd.R_mono (Kd.R_told (Kd.R_told (Kd.R_old (by (with_reducible repeat (first | apply Kd.R_alloc | apply Kd.R_drewN | apply Kd.R_drew)); exact (Kd.R_mono (Kd.R_far (p := ⟨gb692, 6, none⟩) (Kd.R_far (p := ⟨gb692, 5, none⟩) (Kd.R_far (p := ⟨gb692, 4, none⟩) (Kd.R_far (p := ⟨gb692, 3, none⟩) (Kd.R_far (p := ⟨gb692, 2, none⟩) (Kd.R_far (p := ⟨gb692, 1, none⟩) (Kd.R_far (p := ⟨gb692, 0, none⟩) (Kd.R_types HO676.out BK692.out (by decide)) (fun _ hk => hk.2) (.bool t680)) (fun _ hk => hk.2) (.bool t681)) (fun _ hk => hk.2) (.slice Ao24 t682.length co24)) (fun _ hk => hk.2) (.slice Ao25 t685.length co25)) (fun _ hk => hk.2) (.int .i64 t688)) (fun _ hk => hk.2) (.int .i64 t689)) (fun _ hk => hk.2) (.int .i64 t690)) (fun _ h_ => h_.1))) hb) (Kd.R_base ho0)) (Kd.R_base ho1)) (fun _ h_ => h_.1)); replace HO684 := am (Kd.R_mono (Kd.R_told (Kd.R_told (Kd.R_old (by (with_reducible repeat (first | apply Kd.R_alloc | apply Kd.R_drewN | apply Kd.R_drew)); exact (Kd.R_mono (Kd.R_far (p := ⟨gb692, 6, none⟩) (Kd.R_far (p := ⟨gb692, 5, none⟩) (Kd.R_far (p := ⟨gb692, 4, none⟩) (Kd.R_far (p := ⟨gb692, 3, none⟩) (Kd.R_far (p := ⟨gb692, 2, none⟩) (Kd.R_far (p := ⟨gb692, 1, none⟩) (Kd.R_far (p := ⟨gb692, 0, none⟩) (Kd.R_types HO684.out BK692.out (by decide)) (fun _ hk => hk.2) (.bool t680)) (fun _ hk => hk.2) (.bool t681)) (fun _ hk => hk.2) (.slice Ao24 t682.length co24)) (fun _ hk => hk.2) (.slice Ao25 t685.length co25)) (fun _ hk => hk.2) (.int .i64 t688)) (fun _ hk => hk.2) (.int .i64 t689)) (fun _ hk => hk.2) (.int .i64 t690)) (fun _ h_ => h_.1))) hb) (Kd.R_base ho0)) (Kd.R_base ho1)) (fun _ h_ => h_.1)); replace HO687 := am (Kd.R_mono (Kd.R_told (Kd.R_told (Kd.R_old (by (with_reducible repeat (first | apply Kd.R_alloc | apply Kd.R_drewN | apply Kd.R_drew)); exact (Kd.R_mono (Kd.R_far (p := ⟨gb692, 6, none⟩) (Kd.R_far (p := ⟨gb692, 5, none⟩) (Kd.R_far (p := ⟨gb692, 4, none⟩) (Kd.R_far (p := ⟨gb692, 3, none⟩) (Kd.R_far (p := ⟨gb692, 2, none⟩) (Kd.R_far (p := ⟨gb692, 1, none⟩) (Kd.R_far (p := ⟨gb692, 0, none⟩) (Kd.R_types HO687.out BK692.out (by decide)) (fun _ hk => hk.2) (.bool t680)) (fun _ hk => hk.2) (.bool t681)) (fun _ hk => hk.2) (.slice Ao24 t682.length co24)) (fun _ hk => hk.2) (.slice Ao25 t685.length co25)) (fun _ hk => hk.2) (.int .i64 t688)) (fun _ hk => hk.2) (.int .i64 t689)) (fun _ hk => hk.2) (.int .i64 t690)) (fun _ h_ => h_.1))) hb) (Kd.R_base ho0)) (Kd.R_base ho1)) (fun _ h_ => h_.1)); replace BK667 := am (blk_below (g := gb667) (o := .cells #[.bool a0_0, .bool a0_1, .slice A0_2 l0_2.length c0_2, .slice A0_3 l0_3.length c0_3, .int .i64 a0_4, .int .i64 a0_5, .int .i64 a0_6] 24 (0, 0)) (by (with_reducible repeat (first | refine blk_drewN ?_ _ | refine blk_drew ?_ | refine blk_alloc ?_ _)); refine blk_far ?_ NB667_692.out _; (with_reducible repeat (first | refine blk_drewN ?_ _ | refine blk_drew ?_ | refine blk_alloc ?_ _)); refine blk_far ?_ NB667_692.out _; (with_reducible repeat (first | refine blk_drewN ?_ _ | refine blk_drew ?_ | refine blk_alloc ?_ _)); refine blk_far ?_ NB667_692.out _; (with_reducible repeat (first | refine blk_drewN ?_ _ | refine blk_drew ?_ | refine blk_alloc ?_ _)); refine blk_far ?_ NB667_692.out _; (with_reducible repeat (first | refine blk_drewN ?_ _ | refine blk_drew ?_ | refine blk_alloc ?_ _)); refine blk_far ?_ NB667_692.out _; (with_reducible repeat (first | refine blk_drewN ?_ _ | refine blk_drew ?_ | refine blk_alloc ?_ _)); refine blk_far ?_ NB667_692.out _; (with_reducible repeat (first | refine blk_drewN ?_ _ | refine blk_drew ?_ | refine blk_alloc ?_ _)); refine blk_far ?_ NB667_692.out _; exact pkK BK667.out) hb); replace BK692 := am (blk_below (g := gb692) (o := .cells #[.bool t680, .bool t681, .slice Ao24 t682.length co24, .slice Ao25 t685.length co25, .int .i64 t688, .int .i64 t689, .int .i64 t690] 27 (0, 0)) (by (with_reducible repeat (first | refine blk_drewN ?_ _ | refine blk_drew ?_ | refine blk_alloc ?_ _)); refine blk_put (cs := #[.bool t680, .bool t681, .slice Ao24 t682.length co24, .slice Ao25 t685.length co25, .int .i64 t688, .int .i64 t689, .int .i64 0]) ?_ 6 _ rfl; (with_reducible repeat (first | refine blk_drewN ?_ _ | refine blk_drew ?_ | refine blk_alloc ?_ _)); refine blk_put (cs := #[.bool t680, .bool t681, .slice Ao24 t682.length co24, .slice Ao25 t685.length co25, .int .i64 t688, .int .i64 0, .int .i64 0]) ?_ 5 _ rfl; (with_reducible repeat (first | refine blk_drewN ?_ _ | refine blk_drew ?_ | refine blk_alloc ?_ _)); refine blk_put (cs := #[.bool t680, .bool t681, .slice Ao24 t682.length co24, .slice Ao25 t685.length co25, .int .i64 0, .int .i64 0, .int .i64 0]) ?_ 4 _ rfl; (with_reducible repeat (first | refine blk_drewN ?_ _ | refine blk_drew ?_ | refine blk_alloc ?_ _)); refine blk_put (cs := #[.bool t680, .bool t681, .slice Ao24 t682.length co24, .slice none 0 0, .int .i64 0, .int .i64 0, .int .i64 0]) ?_ 3 _ rfl; (with_reducible repeat (first | refine blk_drewN ?_ _ | refine blk_drew ?_ | refine blk_alloc ?_ _)); refine blk_put (cs := #[.bool t680, .bool t681, .slice none 0 0, .slice none 0 0, .int .i64 0, .int .i64 0, .int .i64 0]) ?_ 2 _ rfl; (with_reducible repeat (first | refine blk_drewN ?_ _ | refine blk_drew ?_ | refine blk_alloc ?_ _)); refine blk_put (cs := #[.bool t680, .bool false, .slice none 0 0, .slice none 0 0, .int .i64 0, .int .i64 0, .int .i64 0]) ?_ 1 _ rfl; (with_reducible repeat (first | refine blk_drewN ?_ _ | refine blk_drew ?_ | refine blk_alloc ?_ _)); refine blk_put (cs := #[.bool false, .bool false, .slice none 0 0, .slice none 0 0, .int .i64 0, .int .i64 0, .int .i64 0]) ?_ 0 _ rfl; exact pkK BK692.out) hb); replace HB := am (below_step (pkW HB.out) hb); (try clear hb ho0 ho1)) | ((with_reducible refine gate_dst (N := 8) rfl ?_); refine box_event ?hg (N := 8) ?hd (cs := #[.bool false, .bool false, .slice none 0 0, .slice none 0 0, .int .i64 0, .int .i64 0, .int .i64 0]) (t := 27) ?hr ?_; (case hd => rfl); (case hg => rfl); (case hr => first | (go_simp; done) | (go_simp; rfl)); intro gb704 hg w28 hbox hb; replace HO673 := am (Kd.R_below (pkR HO673.out) hb); replace HO676 := am (Kd.R_below (pkR HO676.out) hb); replace HO684 := am (Kd.R_below (pkR HO684.out) hb); replace HO687 := am (Kd.R_below (pkR HO687.out) hb); replace HO697 := am (Kd.R_below (pkR HO697.out) hb); replace HO700 := am (Kd.R_below (pkR HO700.out) hb); have BK704 := am (hbox); have GW704 := am ((by rw [hg]; exact (below_size (pkW HB.out)) : w.heap.size ≤ gb704)); have GE704 := am ((by rw [hg]; exact (below_size (pkW HB.out)) : w.heap.size ≤ gb704)); replace HB := am (below_step (pkW HB.out) hb); have NB667_704 := am ((by rw [hg]; exact Nat.ne_of_lt (blk_lt (g := gb667) (o := .cells #[.bool a0_0, .bool a0_1, .slice A0_2 l0_2.length c0_2, .slice A0_3 l0_3.length c0_3, .int .i64 a0_4, .int .i64 a0_5, .int .i64 a0_6] 24 (0, 0)) (pkK BK667.out)) : gb667 ≠ gb704)); have NB704_667 := am ((by rw [hg]; exact Nat.ne_of_gt (blk_lt (g := gb667) (o := .cells #[.bool a0_0, .bool a0_1, .slice A0_2 l0_2.length c0_2, .slice A0_3 l0_3.length c0_3, .int .i64 a0_4, .int .i64 a0_5, .int .i64 a0_6] 24 (0, 0)) (pkK BK667.out)) : gb704 ≠ gb667)); replace BK667 := am (blk_below (pkK BK667.out) hb); have NB692_704 := am ((by rw [hg]; exact Nat.ne_of_lt (blk_lt (g := gb692) (o := .cells #[.bool t680, .bool t681, .slice Ao24 t682.length co24, .slice Ao25 t685.length co25, .int .i64 t688, .int .i64 t689, .int .i64 t690] 27 (0, 0)) (pkK BK692.out)) : gb692 ≠ gb704)); have NB704_692 := am ((by rw [hg]; exact Nat.ne_of_gt (blk_lt (g := gb692) (o := .cells #[.bool t680, .bool t681, .slice Ao24 t682.length co24, .slice Ao25 t685.length co25, .int .i64 t688, .int .i64 t689, .int .i64 t690] 27 (0, 0)) (pkK BK692.out)) : gb704 ≠ gb692)); replace BK692 := am (blk_below (pkK BK692.out) hb); clear hb hbox hg; have hnb29 := NB704_667.out; have hnc29 := NB667_704.out; have hnb30 := NB704_692.out; have hnc30 := NB692_704.out; obtain ⟨hcz31_0, hcz31_1, hcz31_2, hcz31_3, hcz31_4, hcz31_5, hcz31_6, hfz31_0, hfz31_1, hfz31_2, hfz31_3, hfz31_4, hfz31_5, hfz31_6⟩ := bk7 BK704.out; obtain ⟨Ao32, co32, eo32⟩ := Kd.R_slice HO697.out; subst eo32; obtain ⟨Ao33, co33, eo33⟩ := Kd.R_slice HO700.out; subst eo33) | ((with_reducible refine gate_callee (f := 31) rfl ?_); refine goesL_ (some 33) rfl rfl Try.func31 (by kernel_rfl) rfl #[.agg #[.bool t693, .bool t694, .slice Ao32 t695.length co32, .slice Ao33 t698.length co33, .int .i64 t701, .int .i64 t702, .int .i64 t703], .int .i64 a1] rfl mpx ?_; (with_reducible refine (impl_GoOn.calls k t693 t694 _ _ t695 _ _ t698 t701 t702 t703 a1 t705 t706 t707 t710 t713 t714 t715 t716 _ ?side1 ?side2 ?side3 ?side4 A11.out).mono ?_); (case side1 => refine (Kd.R_reads' (e := 3) (base := w.heap.size) (ok := fun k_ => ((((some k_ ≠ (.slice Ao33 t698.length co33 : Value).ownBlock ∧ some k_ ≠ (.slice Ao18 t671.length co18 : Value).ownBlock) ∧ some k_ ≠ (.slice Ao19 t674.length co19 : Value).ownBlock) ∧ some k_ ≠ (.slice Ao24 t682.length co24 : Value).ownBlock) ∧ some k_ ≠ (.slice Ao25 t685.length co25 : Value).ownBlock)) (n := t695.length) (c := co32) ?_).2.2; exact (by (with_reducible repeat (first | apply Kd.R_alloc | apply Kd.R_drewN | apply Kd.R_drew)); exact (Kd.R_mono (Kd.R_far (p := ⟨gb704, 6, none⟩) (Kd.R_far (p := ⟨gb704, 5, none⟩) (Kd.R_far (p := ⟨gb704, 4, none⟩) (Kd.R_far (p := ⟨gb704, 3, none⟩) (Kd.R_far (p := ⟨gb704, 2, none⟩) (Kd.R_far (p := ⟨gb704, 1, none⟩) (Kd.R_far (p := ⟨gb704, 0, none⟩) (Kd.R_types HO697.out BK704.out (by decide)) (fun _ hk => hk.2) (.bool t693)) (fun _ hk => hk.2) (.bool t694)) (fun _ hk => hk.2) (.slice Ao32 t695.length co32)) (fun _ hk => hk.2) (.slice Ao33 t698.length co33)) (fun _ hk => hk.2) (.int .i64 t701)) (fun _ hk => hk.2) (.int .i64 t702)) (fun _ hk => hk.2) (.int .i64 t703)) (fun _ h_ => h_.1)))); (case side2 => exact (Kd.R_reads' HO697.out).2.1); (case side3 => refine (Kd.R_reads' (e := 3) (base := w.heap.size) (ok := fun k_ => ((((some k_ ≠ (.slice Ao32 t695.length co32 : Value).ownBlock ∧ some k_ ≠ (.slice Ao18 t671.length co18 : Value).ownBlock) ∧ some k_ ≠ (.slice Ao19 t674.length co19 : Value).ownBlock) ∧ some k_ ≠ (.slice Ao24 t682.length co24 : Value).ownBlock) ∧ some k_ ≠ (.slice Ao25 t685.length co25 : Value).ownBlock)) (n := t698.length) (c := co33) ?_).2.2; exact (by (with_reducible repeat (first | apply Kd.R_alloc | apply Kd.R_drewN | apply Kd.R_drew)); exact (Kd.R_mono (Kd.R_far (p := ⟨gb704, 6, none⟩) (Kd.R_far (p := ⟨gb704, 5, none⟩) (Kd.R_far (p := ⟨gb704, 4, none⟩) (Kd.R_far (p := ⟨gb704, 3, none⟩) (Kd.R_far (p := ⟨gb704, 2, none⟩) (Kd.R_far (p := ⟨gb704, 1, none⟩) (Kd.R_far (p := ⟨gb704, 0, none⟩) (Kd.R_types HO700.out BK704.out (by decide)) (fun _ hk => hk.2) (.bool t693)) (fun _ hk => hk.2) (.bool t694)) (fun _ hk => hk.2) (.slice Ao32 t695.length co32)) (fun _ hk => hk.2) (.slice Ao33 t698.length co33)) (fun _ hk => hk.2) (.int .i64 t701)) (fun _ hk => hk.2) (.int .i64 t702)) (fun _ hk => hk.2) (.int .i64 t703)) (fun _ h_ => h_.1)))); (case side4 => exact (Kd.R_reads' HO700.out).2.1); rintro e w34 ⟨v708, v711, rfl, ho0, ho1, hb⟩; refine ⟨_, rfl, ?_⟩; have HO709 := am (Kd.R_lower (Kd.R_new' (Kd.R_new' (Kd.R_new' (Kd.R_new' (Kd.R_new' (Kd.R_new' ho0 (Kd.R_lt (by (with_reducible repeat (first | apply Kd.R_alloc | apply Kd.R_drewN | apply Kd.R_drew)); exact (Kd.R_mono (Kd.R_far (p := ⟨gb704, 6, none⟩) (Kd.R_far (p := ⟨gb704, 5, none⟩) (Kd.R_far (p := ⟨gb704, 4, none⟩) (Kd.R_far (p := ⟨gb704, 3, none⟩) (Kd.R_far (p := ⟨gb704, 2, none⟩) (Kd.R_far (p := ⟨gb704, 1, none⟩) (Kd.R_far (p := ⟨gb704, 0, none⟩) (Kd.R_types HO673.out BK704.out (by decide)) (fun _ hk => hk.2) (.bool t693)) (fun _ hk => hk.2) (.bool t694)) (fun _ hk => hk.2) (.slice Ao32 t695.length co32)) (fun _ hk => hk.2) (.slice Ao33 t698.length co33)) (fun _ hk => hk.2) (.int .i64 t701)) (fun _ hk => hk.2) (.int .i64 t702)) (fun _ hk => hk.2) (.int .i64 t703)) (fun _ h_ => h_.1))))) (Kd.R_lt (by (with_reducible repeat (first | apply Kd.R_alloc | apply Kd.R_drewN | apply Kd.R_drew)); exact (Kd.R_mono (Kd.R_far (p := ⟨gb704, 6, none⟩) (Kd.R_far (p := ⟨gb704, 5, none⟩) (Kd.R_far (p := ⟨gb704, 4, none⟩) (Kd.R_far (p := ⟨gb704, 3, none⟩) (Kd.R_far (p := ⟨gb704, 2, none⟩) (Kd.R_far (p := ⟨gb704, 1, none⟩) (Kd.R_far (p := ⟨gb704, 0, none⟩) (Kd.R_types HO676.out BK704.out (by decide)) (fun _ hk => hk.2) (.bool t693)) (fun _ hk => hk.2) (.bool t694)) (fun _ hk => hk.2) (.slice Ao32 t695.length co32)) (fun _ hk => hk.2) (.slice Ao33 t698.length co33)) (fun _ hk => hk.2) (.int .i64 t701)) (fun _ hk => hk.2) (.int .i64 t702)) (fun _ hk => hk.2) (.int .i64 t703)) (fun _ h_ => h_.1))))) (Kd.R_lt (by (with_reducible repeat (first | apply Kd.R_alloc | apply Kd.R_drewN | apply Kd.R_drew)); exact (Kd.R_mono (Kd.R_far (p := ⟨gb704, 6, none⟩) (Kd.R_far (p := ⟨gb704, 5, none⟩) (Kd.R_far (p := ⟨gb704, 4, none⟩) (Kd.R_far (p := ⟨gb704, 3, none⟩) (Kd.R_far (p := ⟨gb704, 2, none⟩) (Kd.R_far (p := ⟨gb704, 1, none⟩) (Kd.R_far (p := ⟨gb704, 0, none⟩) (Kd.R_types HO684.out BK704.out (by decide)) (fun _ hk => hk.2) (.bool t693)) (fun _ hk => hk.2) (.bool t694)) (fun _ hk => hk.2) (.slice Ao32 t695.length co32)) (fun _ hk => hk.2) (.slice Ao33 t698.length co33)) (fun _ hk => hk.2) (.int .i64 t701)) (fun _ hk => hk.2) (.int .i64 t702)) (fun _ hk => hk.2) (.int .i64 t703)) (fun _ h_ => h_.1))))) (Kd.R_lt (by (with_reducible repeat (first | apply Kd.R_alloc | apply Kd.R_drewN | apply Kd.R_drew)); exact (Kd.R_mono (Kd.R_far (p := ⟨gb704, 6, none⟩) (Kd.R_far (p := ⟨gb704, 5, none⟩) (Kd.R_far (p := ⟨gb704, 4, none⟩) (Kd.R_far (p := ⟨gb704, 3, none⟩) (Kd.R_far (p := ⟨gb704, 2, none⟩) (Kd.R_far (p := ⟨gb704, 1, none⟩) (Kd.R_far (p := ⟨gb704, 0, none⟩) (Kd.R_types HO687.out BK704.out (by decide)) (fun _ hk => hk.2) (.bool t693)) (fun _ hk => hk.2) (.bool t694)) (fun _ hk => hk.2) (.slice Ao32 t695.length co32)) (fun _ hk => hk.2) (.slice Ao33 t698.length co33)) (fun _ hk => hk.2) (.int .i64 t701)) (fun _ hk => hk.2) (.int .i64 t702)) (fun _ hk => hk.2) (.int .i64 t703)) (fun _ h_ => h_.1))))) (Kd.R_lt (by (with_reducible repeat (first | apply Kd.R_alloc | apply Kd.R_drewN | apply Kd.R_drew)); exact (Kd.R_mono (Kd.R_far (p := ⟨gb704, 6, none⟩) (Kd.R_far (p := ⟨gb704, 5, none⟩) (Kd.R_far (p := ⟨gb704, 4, none⟩) (Kd.R_far (p := ⟨gb704, 3, none⟩) (Kd.R_far (p := ⟨gb704, 2, none⟩) (Kd.R_far (p := ⟨gb704, 1, none⟩) (Kd.R_far (p := ⟨gb704, 0, none⟩) (Kd.R_types HO697.out BK704.out (by decide)) (fun _ hk => hk.2) (.bool t693)) (fun _ hk => hk.2) (.bool t694)) (fun _ hk => hk.2) (.slice Ao32 t695.length co32)) (fun _ hk => hk.2) (.slice Ao33 t698.length co33)) (fun _ hk => hk.2) (.int .i64 t701)) (fun _ hk => hk.2) (.int .i64 t702)) (fun _ hk => hk.2) (.int .i64 t703)) (fun _ h_ => h_.1))))) (Kd.R_lt (by (with_reducible repeat (first | apply Kd.R_alloc | apply Kd.R_drewN | apply Kd.R_drew)); exact (Kd.R_mono (Kd.R_far (p := ⟨gb704, 6, none⟩) (Kd.R_far (p := ⟨gb704, 5, none⟩) (Kd.R_far (p := ⟨gb704, 4, none⟩) (Kd.R_far (p := ⟨gb704, 3, none⟩) (Kd.R_far (p := ⟨gb704, 2, none⟩) (Kd.R_far (p := ⟨gb704, 1, none⟩) (Kd.R_far (p := ⟨gb704, 0, none⟩) (Kd.R_types HO700.out BK704.out (by decide)) (fun _ hk => hk.2) (.bool t693)) (fun _ hk => hk.2) (.bool t694)) (fun _ hk => hk.2) (.slice Ao32 t695.length co32)) (fun _ hk => hk.2) (.slice Ao33 t698.length co33)) (fun _ hk => hk.2) (.int .i64 t701)) (fun _ hk => hk.2) (.int .i64 t702)) (fun _ hk => hk.2) (.int .i64 t703)) (fun _ h_ => h_.1))))) (below_size (pkW HB.out))); have HO712 := am (Kd.R_lower (Kd.R_new' (Kd.R_new' (Kd.R_new' (Kd.R_new' (Kd.R_new' (Kd.R_new' ho1 (Kd.R_lt (by (with_reducible repeat (first | apply Kd.R_alloc | apply Kd.R_drewN | apply Kd.R_drew)); exact (Kd.R_mono (Kd.R_far (p := ⟨gb704, 6, none⟩) (Kd.R_far (p := ⟨gb704, 5, none⟩) (Kd.R_far (p := ⟨gb704, 4, none⟩) (Kd.R_far (p := ⟨gb704, 3, none⟩) (Kd.R_far (p := ⟨gb704, 2, none⟩) (Kd.R_far (p := ⟨gb704, 1, none⟩) (Kd.R_far (p := ⟨gb704, 0, none⟩) (Kd.R_types HO673.out BK704.out (by decide)) (fun _ hk => hk.2) (.bool t693)) (fun _ hk => hk.2) (.bool t694)) (fun _ hk => hk.2) (.slice Ao32 t695.length co32)) (fun _ hk => hk.2) (.slice Ao33 t698.length co33)) (fun _ hk => hk.2) (.int .i64 t701)) (fun _ hk => hk.2) (.int .i64 t702)) (fun _ hk => hk.2) (.int .i64 t703)) (fun _ h_ => h_.1))))) (Kd.R_lt (by (with_reducible repeat (first | apply Kd.R_alloc | apply Kd.R_drewN | apply Kd.R_drew)); exact (Kd.R_mono (Kd.R_far (p := ⟨gb704, 6, none⟩) (Kd.R_far (p := ⟨gb704, 5, none⟩) (Kd.R_far (p := ⟨gb704, 4, none⟩) (Kd.R_far (p := ⟨gb704, 3, none⟩) (Kd.R_far (p := ⟨gb704, 2, none⟩) (Kd.R_far (p := ⟨gb704, 1, none⟩) (Kd.R_far (p := ⟨gb704, 0, none⟩) (Kd.R_types HO676.out BK704.out (by decide)) (fun _ hk => hk.2) (.bool t693)) (fun _ hk => hk.2) (.bool t694)) (fun _ hk => hk.2) (.slice Ao32 t695.length co32)) (fun _ hk => hk.2) (.slice Ao33 t698.length co33)) (fun _ hk => hk.2) (.int .i64 t701)) (fun _ hk => hk.2) (.int .i64 t702)) (fun _ hk => hk.2) (.int .i64 t703)) (fun _ h_ => h_.1))))) (Kd.R_lt (by (with_reducible repeat (first | apply Kd.R_alloc | apply Kd.R_drewN | apply Kd.R_drew)); exact (Kd.R_mono (Kd.R_far (p := ⟨gb704, 6, none⟩) (Kd.R_far (p := ⟨gb704, 5, none⟩) (Kd.R_far (p := ⟨gb704, 4, none⟩) (Kd.R_far (p := ⟨gb704, 3, none⟩) (Kd.R_far (p := ⟨gb704, 2, none⟩) (Kd.R_far (p := ⟨gb704, 1, none⟩) (Kd.R_far (p := ⟨gb704, 0, none⟩) (Kd.R_types HO684.out BK704.out (by decide)) (fun _ hk => hk.2) (.bool t693)) (fun _ hk => hk.2) (.bool t694)) (fun _ hk => hk.2) (.slice Ao32 t695.length co32)) (fun _ hk => hk.2) (.slice Ao33 t698.length co33)) (fun _ hk => hk.2) (.int .i64 t701)) (fun _ hk => hk.2) (.int .i64 t702)) (fun _ hk => hk.2) (.int .i64 t703)) (fun _ h_ => h_.1))))) (Kd.R_lt (by (with_reducible repeat (first | apply Kd.R_alloc | apply Kd.R_drewN | apply Kd.R_drew)); exact (Kd.R_mono (Kd.R_far (p := ⟨gb704, 6, none⟩) (Kd.R_far (p := ⟨gb704, 5, none⟩) (Kd.R_far (p := ⟨gb704, 4, none⟩) (Kd.R_far (p := ⟨gb704, 3, none⟩) (Kd.R_far (p := ⟨gb704, 2, none⟩) (Kd.R_far (p := ⟨gb704, 1, none⟩) (Kd.R_far (p := ⟨gb704, 0, none⟩) (Kd.R_types HO687.out BK704.out (by decide)) (fun _ hk => hk.2) (.bool t693)) (fun _ hk => hk.2) (.bool t694)) (fun _ hk => hk.2) (.slice Ao32 t695.length co32)) (fun _ hk => hk.2) (.slice Ao33 t698.length co33)) (fun _ hk => hk.2) (.int .i64 t701)) (fun _ hk => hk.2) (.int .i64 t702)) (fun _ hk => hk.2) (.int .i64 t703)) (fun _ h_ => h_.1))))) (Kd.R_lt (by (with_reducible repeat (first | apply Kd.R_alloc | apply Kd.R_drewN | apply Kd.R_drew)); exact (Kd.R_mono (Kd.R_far (p := ⟨gb704, 6, none⟩) (Kd.R_far (p := ⟨gb704, 5, none⟩) (Kd.R_far (p := ⟨gb704, 4, none⟩) (Kd.R_far (p := ⟨gb704, 3, none⟩) (Kd.R_far (p := ⟨gb704, 2, none⟩) (Kd.R_far (p := ⟨gb704, 1, none⟩) (Kd.R_far (p := ⟨gb704, 0, none⟩) (Kd.R_types HO697.out BK704.out (by decide)) (fun _ hk => hk.2) (.bool t693)) (fun _ hk => hk.2) (.bool t694)) (fun _ hk => hk.2) (.slice Ao32 t695.length co32)) (fun _ hk => hk.2) (.slice Ao33 t698.length co33)) (fun _ hk => hk.2) (.int .i64 t701)) (fun _ hk => hk.2) (.int .i64 t702)) (fun _ hk => hk.2) (.int .i64 t703)) (fun _ h_ => h_.1))))) (Kd.R_lt (by (with_reducible repeat (first | apply Kd.R_alloc | apply Kd.R_drewN | apply Kd.R_drew)); exact (Kd.R_mono (Kd.R_far (p := ⟨gb704, 6, none⟩) (Kd.R_far (p := ⟨gb704, 5, none⟩) (Kd.R_far (p := ⟨gb704, 4, none⟩) (Kd.R_far (p := ⟨gb704, 3, none⟩) (Kd.R_far (p := ⟨gb704, 2, none⟩) (Kd.R_far (p := ⟨gb704, 1, none⟩) (Kd.R_far (p := ⟨gb704, 0, none⟩) (Kd.R_types HO700.out BK704.out (by decide)) (fun _ hk => hk.2) (.bool t693)) (fun _ hk => hk.2) (.bool t694)) (fun _ hk => hk.2) (.slice Ao32 t695.length co32)) (fun _ hk => hk.2) (.slice Ao33 t698.length co33)) (fun _ hk => hk.2) (.int .i64 t701)) (fun _ hk => hk.2) (.int .i64 t702)) (fun _ hk => hk.2) (.int .i64 t703)) (fun _ h_ => h_.1))))) (below_size (pkW HB.out))); replace HO673 := am (Kd.R_mono (Kd.R_told (Kd.R_told (Kd.R_old (by (with_reducible repeat (first | apply Kd.R_alloc | apply Kd.R_drewN | apply Kd.R_drew)); exact (Kd.R_mono (Kd.R_far (p := ⟨gb704, 6, none⟩) (Kd.R_far (p := ⟨gb704, 5, none⟩) (Kd.R_far (p := ⟨gb704, 4, none⟩) (Kd.R_far (p := ⟨gb704, 3, none⟩) (Kd.R_far (p := ⟨gb704, 2, none⟩) (Kd.R_far (p := ⟨gb704, 1, none⟩) (Kd.R_far (p := ⟨gb704, 0, none⟩) (Kd.R_types HO673.out BK704.out (by decide)) (fun _ hk => hk.2) (.bool t693)) (fun _ hk => hk.2) (.bool t694)) (fun _ hk => hk.2) (.slice Ao32 t695.length co32)) (fun _ hk => hk.2) (.slice Ao33 t698.length co33)) (fun _ hk => hk.2) (.int .i64 t701)) (fun _ hk => hk.2) (.int .i64 t702)) (fun _ hk => hk.2) (.int .i64 t703)) (fun _ h_ => h_.1))) hb) (Kd.R_base ho0)) (Kd.R_base ho1)) (fun _ h_ => h_.1)); replace HO676 := am (Kd.R_mono (Kd.R_told (Kd.R_told (Kd.R_old (by (with_reducible repeat (first | apply Kd.R_alloc | apply Kd.R_drewN | apply Kd.R_drew)); exact (Kd.R_mono (Kd.R_far (p := ⟨gb704, 6, none⟩) (Kd.R_far (p := ⟨gb704, 5, none⟩) (Kd.R_far (p := ⟨gb704, 4, none⟩) (Kd.R_far (p := ⟨gb704, 3, none⟩) (Kd.R_far (p := ⟨gb704, 2, none⟩) (Kd.R_far (p := ⟨gb704, 1, none⟩) (Kd.R_far (p := ⟨gb704, 0, none⟩) (Kd.R_types HO676.out BK704.out (by decide)) (fun _ hk => hk.2) (.bool t693)) (fun _ hk => hk.2) (.bool t694)) (fun _ hk => hk.2) (.slice Ao32 t695.length co32)) (fun _ hk => hk.2) (.slice Ao33 t698.length co33)) (fun _ hk => hk.2) (.int .i64 t701)) (fun _ hk => hk.2) (.int .i64 t702)) (fun _ hk => hk.2) (.int .i64 t703)) (fun _ h_ => h_.1))) hb) (Kd.R_base ho0)) (Kd.R_base ho1)) (fun _ h_ => h_.1)); replace HO684 := am (Kd.R_mono (Kd.R_told (Kd.R_told (Kd.R_old (by (with_reducible repeat (first | apply Kd.R_alloc | apply Kd.R_drewN | apply Kd.R_drew)); exact (Kd.R_mono (Kd.R_far (p := ⟨gb704, 6, none⟩) (Kd.R_far (p := ⟨gb704, 5, none⟩) (Kd.R_far (p := ⟨gb704, 4, none⟩) (Kd.R_far (p := ⟨gb704, 3, none⟩) (Kd.R_far (p := ⟨gb704, 2, none⟩) (Kd.R_far (p := ⟨gb704, 1, none⟩) (Kd.R_far (p := ⟨gb704, 0, none⟩) (Kd.R_types HO684.out BK704.out (by decide)) (fun _ hk => hk.2) (.bool t693)) (fun _ hk => hk.2) (.bool t694)) (fun _ hk => hk.2) (.slice Ao32 t695.length co32)) (fun _ hk => hk.2) (.slice Ao33 t698.length co33)) (fun _ hk => hk.2) (.int .i64 t701)) (fun _ hk => hk.2) (.int .i64 t702)) (fun _ hk => hk.2) (.int .i64 t703)) (fun _ h_ => h_.1))) hb) (Kd.R_base ho0)) (Kd.R_base ho1)) (fun _ h_ => h_.1)); replace HO687 := am (Kd.R_mono (Kd.R_told (Kd.R_told (Kd.R_old (by (with_reducible repeat (first | apply Kd.R_alloc | apply Kd.R_drewN | apply Kd.R_drew)); exact (Kd.R_mono (Kd.R_far (p := ⟨gb704, 6, none⟩) (Kd.R_far (p := ⟨gb704, 5, none⟩) (Kd.R_far (p := ⟨gb704, 4, none⟩) (Kd.R_far (p := ⟨gb704, 3, none⟩) (Kd.R_far (p := ⟨gb704, 2, none⟩) (Kd.R_far (p := ⟨gb704, 1, none⟩) (Kd.R_far (p := ⟨gb704, 0, none⟩) (Kd.R_types HO687.out BK704.out (by decide)) (fun _ hk => hk.2) (.bool t693)) (fun _ hk => hk.2) (.bool t694)) (fun _ hk => hk.2) (.slice Ao32 t695.length co32)) (fun _ hk => hk.2) (.slice Ao33 t698.length co33)) (fun _ hk => hk.2) (.int .i64 t701)) (fun _ hk => hk.2) (.int .i64 t702)) (fun _ hk => hk.2) (.int .i64 t703)) (fun _ h_ => h_.1))) hb) (Kd.R_base ho0)) (Kd.R_base ho1)) (fun _ h_ => h_.1)); replace HO697 := am (Kd.R_mono (Kd.R_told (Kd.R_told (Kd.R_old (by (with_reducible repeat (first | apply Kd.R_alloc | apply Kd.R_drewN | apply Kd.R_drew)); exact (Kd.R_mono (Kd.R_far (p := ⟨gb704, 6, none⟩) (Kd.R_far (p := ⟨gb704, 5, none⟩) (Kd.R_far (p := ⟨gb704, 4, none⟩) (Kd.R_far (p := ⟨gb704, 3, none⟩) (Kd.R_far (p := ⟨gb704, 2, none⟩) (Kd.R_far (p := ⟨gb704, 1, none⟩) (Kd.R_far (p := ⟨gb704, 0, none⟩) (Kd.R_types HO697.out BK704.out (by decide)) (fun _ hk => hk.2) (.bool t693)) (fun _ hk => hk.2) (.bool t694)) (fun _ hk => hk.2) (.slice Ao32 t695.length co32)) (fun _ hk => hk.2) (.slice Ao33 t698.length co33)) (fun _ hk => hk.2) (.int .i64 t701)) (fun _ hk => hk.2) (.int .i64 t702)) (fun _ hk => hk.2) (.int .i64 t703)) (fun _ h_ => h_.1))) hb) (Kd.R_base ho0)) (Kd.R_base ho1)) (fun _ h_ => h_.1)); replace HO700 := am (Kd.R_mono (Kd.R_told (Kd.R_told (Kd.R_old (by (with_reducible repeat (first | apply Kd.R_alloc | apply Kd.R_drewN | apply Kd.R_drew)); exact (Kd.R_mono (Kd.R_far (p := ⟨gb704, 6, none⟩) (Kd.R_far (p := ⟨gb704, 5, none⟩) (Kd.R_far (p := ⟨gb704, 4, none⟩) (Kd.R_far (p := ⟨gb704, 3, none⟩) (Kd.R_far (p := ⟨gb704, 2, none⟩) (Kd.R_far (p := ⟨gb704, 1, none⟩) (Kd.R_far (p := ⟨gb704, 0, none⟩) (Kd.R_types HO700.out BK704.out (by decide)) (fun _ hk => hk.2) (.bool t693)) (fun _ hk => hk.2) (.bool t694)) (fun _ hk => hk.2) (.slice Ao32 t695.length co32)) (fun _ hk => hk.2) (.slice Ao33 t698.length co33)) (fun _ hk => hk.2) (.int .i64 t701)) (fun _ hk => hk.2) (.int .i64 t702)) (fun _ hk => hk.2) (.int .i64 t703)) (fun _ h_ => h_.1))) hb) (Kd.R_base ho0)) (Kd.R_base ho1)) (fun _ h_ => h_.1)); replace BK667 := am (blk_below (g := gb667) (o := .cells #[.bool a0_0, .bool a0_1, .slice A0_2 l0_2.length c0_2, .slice A0_3 l0_3.length c0_3, .int .i64 a0_4, .int .i64 a0_5, .int .i64 a0_6] 24 (0, 0)) (by (with_reducible repeat (first | refine blk_drewN ?_ _ | refine blk_drew ?_ | refine blk_alloc ?_ _)); refine blk_far ?_ NB667_704.out _; (with_reducible repeat (first | refine blk_drewN ?_ _ | refine blk_drew ?_ | refine blk_alloc ?_ _)); refine blk_far ?_ NB667_704.out _; (with_reducible repeat (first | refine blk_drewN ?_ _ | refine blk_drew ?_ | refine blk_alloc ?_ _)); refine blk_far ?_ NB667_704.out _; (with_reducible repeat (first | refine blk_drewN ?_ _ | refine blk_drew ?_ | refine blk_alloc ?_ _)); refine blk_far ?_ NB667_704.out _; (with_reducible repeat (first | refine blk_drewN ?_ _ | refine blk_drew ?_ | refine blk_alloc ?_ _)); refine blk_far ?_ NB667_704.out _; (with_reducible repeat (first | refine blk_drewN ?_ _ | refine blk_drew ?_ | refine blk_alloc ?_ _)); refine blk_far ?_ NB667_704.out _; (with_reducible repeat (first | refine blk_drewN ?_ _ | refine blk_drew ?_ | refine blk_alloc ?_ _)); refine blk_far ?_ NB667_704.out _; exact pkK BK667.out) hb); replace BK692 := am (blk_below (g := gb692) (o := .cells #[.bool t680, .bool t681, .slice Ao24 t682.length co24, .slice Ao25 t685.length co25, .int .i64 t688, .int .i64 t689, .int .i64 t690] 27 (0, 0)) (by (with_reducible repeat (first | refine blk_drewN ?_ _ | refine blk_drew ?_ | refine blk_alloc ?_ _)); refine blk_far ?_ NB692_704.out _; (with_reducible repeat (first | refine blk_drewN ?_ _ | refine blk_drew ?_ | refine blk_alloc ?_ _)); refine blk_far ?_ NB692_704.out _; (with_reducible repeat (first | refine blk_drewN ?_ _ | refine blk_drew ?_ | refine blk_alloc ?_ _)); refine blk_far ?_ NB692_704.out _; (with_reducible repeat (first | refine blk_drewN ?_ _ | refine blk_drew ?_ | refine blk_alloc ?_ _)); refine blk_far ?_ NB692_704.out _; (with_reducible repeat (first | refine blk_drewN ?_ _ | refine blk_drew ?_ | refine blk_alloc ?_ _)); refine blk_far ?_ NB692_704.out _; (with_reducible repeat (first | refine blk_drewN ?_ _ | refine blk_drew ?_ | refine blk_alloc ?_ _)); refine blk_far ?_ NB692_704.out _; (with_reducible repeat (first | refine blk_drewN ?_ _ | refine blk_drew ?_ | refine blk_alloc ?_ _)); refine blk_far ?_ NB692_704.out _; exact pkK BK692.out) hb); replace BK704 := am (blk_below (g := gb704) (o := .cells #[.bool t693, .bool t694, .slice Ao32 t695.length co32, .slice Ao33 t698.length co33, .int .i64 t701, .int .i64 t702, .int .i64 t703] 27 (0, 0)) (by (with_reducible repeat (first | refine blk_drewN ?_ _ | refine blk_drew ?_ | refine blk_alloc ?_ _)); refine blk_put (cs := #[.bool t693, .bool t694, .slice Ao32 t695.length co32, .slice Ao33 t698.length co33, .int .i64 t701, .int .i64 t702, .int .i64 0]) ?_ 6 _ rfl; (with_reducible repeat (first | refine blk_drewN ?_ _ | refine blk_drew ?_ | refine blk_alloc ?_ _)); refine blk_put (cs := #[.bool t693, .bool t694, .slice Ao32 t695.length co32, .slice Ao33 t698.length co33, .int .i64 t701, .int .i64 0, .int .i64 0]) ?_ 5 _ rfl; (with_reducible repeat (first | refine blk_drewN ?_ _ | refine blk_drew ?_ | refine blk_alloc ?_ _)); refine blk_put (cs := #[.bool t693, .bool t694, .slice Ao32 t695.length co32, .slice Ao33 t698.length co33, .int .i64 0, .int .i64 0, .int .i64 0]) ?_ 4 _ rfl; (with_reducible repeat (first | refine blk_drewN ?_ _ | refine blk_drew ?_ | refine blk_alloc ?_ _)); refine blk_put (cs := #[.bool t693, .bool t694, .slice Ao32 t695.length co32, .slice none 0 0, .int .i64 0, .int .i64 0, .int .i64 0]) ?_ 3 _ rfl; (with_reducible repeat (first | refine blk_drewN ?_ _ | refine blk_drew ?_ | refine blk_alloc ?_ _)); refine blk_put (cs := #[.bool t693, .bool t694, .slice none 0 0, .slice none 0 0, .int .i64 0, .int .i64 0, .int .i64 0]) ?_ 2 _ rfl; (with_reducible repeat (first | refine blk_drewN ?_ _ | refine blk_drew ?_ | refine blk_alloc ?_ _)); refine blk_put (cs := #[.bool t693, .bool false, .slice none 0 0, .slice none 0 0, .int .i64 0, .int .i64 0, .int .i64 0]) ?_ 1 _ rfl; (with_reducible repeat (first | refine blk_drewN ?_ _ | refine blk_drew ?_ | refine blk_alloc ?_ _)); refine blk_put (cs := #[.bool false, .bool false, .slice none 0 0, .slice none 0 0, .int .i64 0, .int .i64 0, .int .i64 0]) ?_ 0 _ rfl; exact pkK BK704.out) hb); replace HB := am (below_step (pkW HB.out) hb); (try clear hb ho0 ho1)) | ((with_reducible refine gate_dst (N := 9) rfl ?_); refine box_event ?hg (N := 9) ?hd (cs := #[.bool false, .bool false, .slice none 0 0, .slice none 0 0, .int .i64 0, .int .i64 0, .int .i64 0]) (t := 27) ?hr ?_; (case hd => rfl); (case hg => rfl); (case hr => first | (go_simp; done) | (go_simp; rfl)); intro gb717 hg w35 hbox hb; replace HO673 := am (Kd.R_below (pkR HO673.out) hb); replace HO676 := am (Kd.R_below (pkR HO676.out) hb); replace HO684 := am (Kd.R_below (pkR HO684.out) hb); replace HO687 := am (Kd.R_below (pkR HO687.out) hb); replace HO697 := am (Kd.R_below (pkR HO697.out) hb); replace HO700 := am (Kd.R_below (pkR HO700.out) hb); replace HO709 := am (Kd.R_below (pkR HO709.out) hb); replace HO712 := am (Kd.R_below (pkR HO712.out) hb); have BK717 := am (hbox); have GW717 := am ((by rw [hg]; exact (below_size (pkW HB.out)) : w.heap.size ≤ gb717)); have GE717 := am ((by rw [hg]; exact (below_size (pkW HB.out)) : w.heap.size ≤ gb717)); replace HB := am (below_step (pkW HB.out) hb); have NB667_717 := am ((by rw [hg]; exact Nat.ne_of_lt (blk_lt (g := gb667) (o := .cells #[.bool a0_0, .bool a0_1, .slice A0_2 l0_2.length c0_2, .slice A0_3 l0_3.length c0_3, .int .i64 a0_4, .int .i64 a0_5, .int .i64 a0_6] 24 (0, 0)) (pkK BK667.out)) : gb667 ≠ gb717)); have NB717_667 := am ((by rw [hg]; exact Nat.ne_of_gt (blk_lt (g := gb667) (o := .cells #[.bool a0_0, .bool a0_1, .slice A0_2 l0_2.length c0_2, .slice A0_3 l0_3.length c0_3, .int .i64 a0_4, .int .i64 a0_5, .int .i64 a0_6] 24 (0, 0)) (pkK BK667.out)) : gb717 ≠ gb667)); replace BK667 := am (blk_below (pkK BK667.out) hb); have NB692_717 := am ((by rw [hg]; exact Nat.ne_of_lt (blk_lt (g := gb692) (o := .cells #[.bool t680, .bool t681, .slice Ao24 t682.length co24, .slice Ao25 t685.length co25, .int .i64 t688, .int .i64 t689, .int .i64 t690] 27 (0, 0)) (pkK BK692.out)) : gb692 ≠ gb717)); have NB717_692 := am ((by rw [hg]; exact Nat.ne_of_gt (blk_lt (g := gb692) (o := .cells #[.bool t680, .bool t681, .slice Ao24 t682.length co24, .slice Ao25 t685.length co25, .int .i64 t688, .int .i64 t689, .int .i64 t690] 27 (0, 0)) (pkK BK692.out)) : gb717 ≠ gb692)); replace BK692 := am (blk_below (pkK BK692.out) hb); have NB704_717 := am ((by rw [hg]; exact Nat.ne_of_lt (blk_lt (g := gb704) (o := .cells #[.bool t693, .bool t694, .slice Ao32 t695.length co32, .slice Ao33 t698.length co33, .int .i64 t701, .int .i64 t702, .int .i64 t703] 27 (0, 0)) (pkK BK704.out)) : gb704 ≠ gb717)); have NB717_704 := am ((by rw [hg]; exact Nat.ne_of_gt (blk_lt (g := gb704) (o := .cells #[.bool t693, .bool t694, .slice Ao32 t695.length co32, .slice Ao33 t698.length co33, .int .i64 t701, .int .i64 t702, .int .i64 t703] 27 (0, 0)) (pkK BK704.out)) : gb717 ≠ gb704)); replace BK704 := am (blk_below (pkK BK704.out) hb); clear hb hbox hg; have hnb36 := NB717_667.out; have hnc36 := NB667_717.out; have hnb37 := NB717_692.out; have hnc37 := NB692_717.out; have hnb38 := NB717_704.out; have hnc38 := NB704_717.out; obtain ⟨hcz39_0, hcz39_1, hcz39_2, hcz39_3, hcz39_4, hcz39_5, hcz39_6, hfz39_0, hfz39_1, hfz39_2, hfz39_3, hfz39_4, hfz39_5, hfz39_6⟩ := bk7 BK717.out; obtain ⟨Ao40, co40, eo40⟩ := Kd.R_slice HO709.out; subst eo40; obtain ⟨Ao41, co41, eo41⟩ := Kd.R_slice HO712.out; subst eo41))
  (try simp only [Act.put, List.setIfInBounds_toArray, List.set_cons_zero, List.set_cons_succ])
  go_cut [44] (fun v44 wc => ∃ (kq : Nat) (x44_11 : Bool), v44 = .bool x44_11 ∧ Aside0 (laws_FnExactGoOn.j0 kq a1 t691 t716 x44_11 a0_0 a0_1 l0_2 l0_3 a0_4 a0_5 a0_6 t680 t681 t682 t685 t688 t689 t690 t693 t694 t695 t698 t701 t702 t703 t705 t706 t707 t710 t713 t714 t715 = some r) ∧ Aside0 (kq ≤ k) ∧ Aside0 (Kd.R (Kd.int .i64) 3 wc w.heap.size (fun k_ => some k_ ≠ ((.slice Ao25 t685.length co25) : Value).ownBlock ∧ some k_ ≠ ((.slice Ao32 t695.length co32) : Value).ownBlock ∧ some k_ ≠ ((.slice Ao33 t698.length co33) : Value).ownBlock ∧ some k_ ≠ ((.slice Ao40 t707.length co40) : Value).ownBlock ∧ some k_ ≠ ((.slice Ao41 t710.length co41) : Value).ownBlock) (.slice Ao24 t682.length co24) t682) ∧ Aside0 (Kd.R (Kd.int .i64) 3 wc w.heap.size (fun k_ => some k_ ≠ ((.slice Ao24 t682.length co24) : Value).ownBlock ∧ some k_ ≠ ((.slice Ao32 t695.length co32) : Value).ownBlock ∧ some k_ ≠ ((.slice Ao33 t698.length co33) : Value).ownBlock ∧ some k_ ≠ ((.slice Ao40 t707.length co40) : Value).ownBlock ∧ some k_ ≠ ((.slice Ao41 t710.length co41) : Value).ownBlock) (.slice Ao25 t685.length co25) t685) ∧ Aside0 (Kd.Q (Kd.int .i64) 3 wc w.heap.size (fun k_ => some k_ ≠ ((.slice Ao24 t682.length co24) : Value).ownBlock ∧ some k_ ≠ ((.slice Ao25 t685.length co25) : Value).ownBlock ∧ some k_ ≠ ((.slice Ao33 t698.length co33) : Value).ownBlock ∧ some k_ ≠ ((.slice Ao40 t707.length co40) : Value).ownBlock ∧ some k_ ≠ ((.slice Ao41 t710.length co41) : Value).ownBlock) (.slice Ao32 t695.length co32) t695) ∧ Aside0 (Kd.Q (Kd.int .i64) 3 wc w.heap.size (fun k_ => some k_ ≠ ((.slice Ao24 t682.length co24) : Value).ownBlock ∧ some k_ ≠ ((.slice Ao25 t685.length co25) : Value).ownBlock ∧ some k_ ≠ ((.slice Ao32 t695.length co32) : Value).ownBlock ∧ some k_ ≠ ((.slice Ao40 t707.length co40) : Value).ownBlock ∧ some k_ ≠ ((.slice Ao41 t710.length co41) : Value).ownBlock) (.slice Ao33 t698.length co33) t698) ∧ Aside0 (Kd.Q (Kd.int .i64) 3 wc w.heap.size (fun k_ => some k_ ≠ ((.slice Ao24 t682.length co24) : Value).ownBlock ∧ some k_ ≠ ((.slice Ao25 t685.length co25) : Value).ownBlock ∧ some k_ ≠ ((.slice Ao32 t695.length co32) : Value).ownBlock ∧ some k_ ≠ ((.slice Ao33 t698.length co33) : Value).ownBlock ∧ some k_ ≠ ((.slice Ao41 t710.length co41) : Value).ownBlock) (.slice Ao40 t707.length co40) t707) ∧ Aside0 (Kd.Q (Kd.int .i64) 3 wc w.heap.size (fun k_ => some k_ ≠ ((.slice Ao24 t682.length co24) : Value).ownBlock ∧ some k_ ≠ ((.slice Ao25 t685.length co25) : Value).ownBlock ∧ some k_ ≠ ((.slice Ao32 t695.length co32) : Value).ownBlock ∧ some k_ ≠ ((.slice Ao33 t698.length co33) : Value).ownBlock ∧ some k_ ≠ ((.slice Ao40 t707.length co40) : Value).ownBlock) (.slice Ao41 t710.length co41) t710) ∧ Aside0 (wc.heap[gb667]? = some (.cells #[.bool a0_0, .bool a0_1, (.slice A0_2 l0_2.length c0_2), (.slice A0_3 l0_3.length c0_3), .int .i64 a0_4, .int .i64 a0_5, .int .i64 a0_6] 24 (0, 0))) ∧ Aside0 (wc.heap[gb692]? = some (.cells #[.bool t680, .bool t681, (.slice Ao24 t682.length co24), (.slice Ao25 t685.length co25), .int .i64 t688, .int .i64 t689, .int .i64 t690] 27 (0, 0))) ∧ Aside0 (wc.heap[gb704]? = some (.cells #[.bool t693, .bool t694, (.slice Ao32 t695.length co32), (.slice Ao33 t698.length co33), .int .i64 t701, .int .i64 t702, .int .i64 t703] 27 (0, 0))) ∧ Aside0 (wc.heap[gb717]? = some (.cells #[.bool t705, .bool t706, (.slice Ao40 t707.length co40), (.slice Ao41 t710.length co41), .int .i64 t713, .int .i64 t714, .int .i64 t715] 27 (0, 0))) ∧ Aside0 (Below w.heap.size w wc))
  case first =>
   have H := HC12.out
   clear HC12
   replace H := Option.bind_eq_some_iff.mp H
   obtain ⟨t718, A420, H⟩ := H
   replace H : (if t718 = true then (laws_FnExactGoOn.j0 k a1 t691 t716 (t716 != t691) a0_0 a0_1 l0_2 l0_3 a0_4 a0_5 a0_6 t680 t681 t682 t685 t688 t689 t690 t693 t694 t695 t698 t701 t702 t703 t705 t706 t707 t710 t713 t714 t715) else (laws_FnExactGoOn.j0 k a1 t691 t716 true a0_0 a0_1 l0_2 l0_3 a0_4 a0_5 a0_6 t680 t681 t682 t685 t688 t689 t690 t693 t694 t695 t698 t701 t702 t703 t705 t706 t707 t710 t713 t714 t715)) = some r := H
   have A42 := am A420
   clear A420
   by_cases c43 : t718 = true
   ·subst c43
    replace H : (laws_FnExactGoOn.j0 k a1 t691 t716 (t716 != t691) a0_0 a0_1 l0_2 l0_3 a0_4 a0_5 a0_6 t680 t681 t682 t685 t688 t689 t690 t693 t694 t695 t698 t701 t702 t703 t705 t706 t707 t710 t713 t714 t715) = some r := by rw [if_pos rfl] at H; exact H
    have H' := am H
    clear H
    have hnb44 := NB717_667.out
    have hnc44 := NB667_717.out
    have hnb45 := NB717_692.out
    have hnc45 := NB692_717.out
    have hnb46 := NB717_704.out
    have hnc46 := NB704_717.out
    obtain ⟨hcz47_0, hcz47_1, hcz47_2, hcz47_3, hcz47_4, hcz47_5, hcz47_6, hfz47_0, hfz47_1, hfz47_2, hfz47_3, hfz47_4, hfz47_5, hfz47_6⟩ := bk7 BK717.out
    have hnb48 := NB692_667.out
    have hnc48 := NB667_692.out
    have hnb49 := NB692_704.out
    have hnc49 := NB704_692.out
    obtain ⟨hcz50_0, hcz50_1, hcz50_2, hcz50_3, hcz50_4, hcz50_5, hcz50_6, hfz50_0, hfz50_1, hfz50_2, hfz50_3, hfz50_4, hfz50_5, hfz50_6⟩ := bk7 BK692.out
    go_wp2_with (first | ((with_reducible refine gate_callee (f := 18) rfl ?_); refine goesL_ (some 38) rfl rfl Try.func18 (by kernel_rfl) rfl #[.agg #[.bool t705, .bool t706, .slice Ao40 t707.length co40, .slice Ao41 t710.length co41, .int .i64 t713, .int .i64 t714, .int .i64 t715], .agg #[.bool t680, .bool t681, .slice Ao24 t682.length co24, .slice Ao25 t685.length co25, .int .i64 t688, .int .i64 t689, .int .i64 t690]] rfl mpx ?_; (with_reducible refine (laws_eqEvent.calls k t705 t706 _ _ t707 _ _ t710 t713 t714 t715 t680 t681 _ _ t682 _ _ t685 t688 t689 t690 true _ ?side1 ?side2 ?side3 ?side4 ?side5 ?side6 ?side7 ?side8 A42.out).mono ?_); (case side1 => refine (Kd.R_reads' (e := 3) (base := w.heap.size) (ok := fun k_ => ((((((some k_ ≠ (.slice Ao41 t710.length co41 : Value).ownBlock ∧ some k_ ≠ (.slice Ao18 t671.length co18 : Value).ownBlock) ∧ some k_ ≠ (.slice Ao19 t674.length co19 : Value).ownBlock) ∧ some k_ ≠ (.slice Ao24 t682.length co24 : Value).ownBlock) ∧ some k_ ≠ (.slice Ao25 t685.length co25 : Value).ownBlock) ∧ some k_ ≠ (.slice Ao32 t695.length co32 : Value).ownBlock) ∧ some k_ ≠ (.slice Ao33 t698.length co33 : Value).ownBlock)) (n := t707.length) (c := co40) ?_).2.2; exact (by (with_reducible repeat (first | apply Kd.R_alloc | apply Kd.R_drewN | apply Kd.R_drew)); exact (Kd.R_mono (Kd.R_far (p := ⟨gb717, 6, none⟩) (Kd.R_far (p := ⟨gb717, 5, none⟩) (Kd.R_far (p := ⟨gb717, 4, none⟩) (Kd.R_far (p := ⟨gb717, 3, none⟩) (Kd.R_far (p := ⟨gb717, 2, none⟩) (Kd.R_far (p := ⟨gb717, 1, none⟩) (Kd.R_far (p := ⟨gb717, 0, none⟩) (Kd.R_types HO709.out BK717.out (by decide)) (fun _ hk => hk.2) (.bool t705)) (fun _ hk => hk.2) (.bool t706)) (fun _ hk => hk.2) (.slice Ao40 t707.length co40)) (fun _ hk => hk.2) (.slice Ao41 t710.length co41)) (fun _ hk => hk.2) (.int .i64 t713)) (fun _ hk => hk.2) (.int .i64 t714)) (fun _ hk => hk.2) (.int .i64 t715)) (fun _ h_ => h_.1)))); (case side2 => exact (Kd.R_reads' HO709.out).2.1); (case side3 => refine (Kd.R_reads' (e := 3) (base := w.heap.size) (ok := fun k_ => ((((((some k_ ≠ (.slice Ao40 t707.length co40 : Value).ownBlock ∧ some k_ ≠ (.slice Ao18 t671.length co18 : Value).ownBlock) ∧ some k_ ≠ (.slice Ao19 t674.length co19 : Value).ownBlock) ∧ some k_ ≠ (.slice Ao24 t682.length co24 : Value).ownBlock) ∧ some k_ ≠ (.slice Ao25 t685.length co25 : Value).ownBlock) ∧ some k_ ≠ (.slice Ao32 t695.length co32 : Value).ownBlock) ∧ some k_ ≠ (.slice Ao33 t698.length co33 : Value).ownBlock)) (n := t710.length) (c := co41) ?_).2.2; exact (by (with_reducible repeat (first | apply Kd.R_alloc | apply Kd.R_drewN | apply Kd.R_drew)); exact (Kd.R_mono (Kd.R_far (p := ⟨gb717, 6, none⟩) (Kd.R_far (p := ⟨gb717, 5, none⟩) (Kd.R_far (p := ⟨gb717, 4, none⟩) (Kd.R_far (p := ⟨gb717, 3, none⟩) (Kd.R_far (p := ⟨gb717, 2, none⟩) (Kd.R_far (p := ⟨gb717, 1, none⟩) (Kd.R_far (p := ⟨gb717, 0, none⟩) (Kd.R_types HO712.out BK717.out (by decide)) (fun _ hk => hk.2) (.bool t705)) (fun _ hk => hk.2) (.bool t706)) (fun _ hk => hk.2) (.slice Ao40 t707.length co40)) (fun _ hk => hk.2) (.slice Ao41 t710.length co41)) (fun _ hk => hk.2) (.int .i64 t713)) (fun _ hk => hk.2) (.int .i64 t714)) (fun _ hk => hk.2) (.int .i64 t715)) (fun _ h_ => h_.1)))); (case side4 => exact (Kd.R_reads' HO712.out).2.1); (case side5 => refine (Kd.R_reads' (e := 3) (base := w.heap.size) (ok := fun k_ => ((((((some k_ ≠ (.slice Ao25 t685.length co25 : Value).ownBlock ∧ some k_ ≠ (.slice Ao18 t671.length co18 : Value).ownBlock) ∧ some k_ ≠ (.slice Ao19 t674.length co19 : Value).ownBlock) ∧ some k_ ≠ (.slice Ao32 t695.length co32 : Value).ownBlock) ∧ some k_ ≠ (.slice Ao33 t698.length co33 : Value).ownBlock) ∧ some k_ ≠ (.slice Ao40 t707.length co40 : Value).ownBlock) ∧ some k_ ≠ (.slice Ao41 t710.length co41 : Value).ownBlock)) (n := t682.length) (c := co24) ?_).2.2; exact (by (with_reducible repeat (first | apply Kd.R_alloc | apply Kd.R_drewN | apply Kd.R_drew)); exact (Kd.R_mono (Kd.R_far (p := ⟨gb717, 6, none⟩) (Kd.R_far (p := ⟨gb717, 5, none⟩) (Kd.R_far (p := ⟨gb717, 4, none⟩) (Kd.R_far (p := ⟨gb717, 3, none⟩) (Kd.R_far (p := ⟨gb717, 2, none⟩) (Kd.R_far (p := ⟨gb717, 1, none⟩) (Kd.R_far (p := ⟨gb717, 0, none⟩) (Kd.R_types HO684.out BK717.out (by decide)) (fun _ hk => hk.2) (.bool t705)) (fun _ hk => hk.2) (.bool t706)) (fun _ hk => hk.2) (.slice Ao40 t707.length co40)) (fun _ hk => hk.2) (.slice Ao41 t710.length co41)) (fun _ hk => hk.2) (.int .i64 t713)) (fun _ hk => hk.2) (.int .i64 t714)) (fun _ hk => hk.2) (.int .i64 t715)) (fun _ h_ => h_.1)))); (case side6 => exact (Kd.R_reads' HO684.out).2.1); (case side7 => refine (Kd.R_reads' (e := 3) (base := w.heap.size) (ok := fun k_ => ((((((some k_ ≠ (.slice Ao24 t682.length co24 : Value).ownBlock ∧ some k_ ≠ (.slice Ao18 t671.length co18 : Value).ownBlock) ∧ some k_ ≠ (.slice Ao19 t674.length co19 : Value).ownBlock) ∧ some k_ ≠ (.slice Ao32 t695.length co32 : Value).ownBlock) ∧ some k_ ≠ (.slice Ao33 t698.length co33 : Value).ownBlock) ∧ some k_ ≠ (.slice Ao40 t707.length co40 : Value).ownBlock) ∧ some k_ ≠ (.slice Ao41 t710.length co41 : Value).ownBlock)) (n := t685.length) (c := co25) ?_).2.2; exact (by (with_reducible repeat (first | apply Kd.R_alloc | apply Kd.R_drewN | apply Kd.R_drew)); exact (Kd.R_mono (Kd.R_far (p := ⟨gb717, 6, none⟩) (Kd.R_far (p := ⟨gb717, 5, none⟩) (Kd.R_far (p := ⟨gb717, 4, none⟩) (Kd.R_far (p := ⟨gb717, 3, none⟩) (Kd.R_far (p := ⟨gb717, 2, none⟩) (Kd.R_far (p := ⟨gb717, 1, none⟩) (Kd.R_far (p := ⟨gb717, 0, none⟩) (Kd.R_types HO687.out BK717.out (by decide)) (fun _ hk => hk.2) (.bool t705)) (fun _ hk => hk.2) (.bool t706)) (fun _ hk => hk.2) (.slice Ao40 t707.length co40)) (fun _ hk => hk.2) (.slice Ao41 t710.length co41)) (fun _ hk => hk.2) (.int .i64 t713)) (fun _ hk => hk.2) (.int .i64 t714)) (fun _ hk => hk.2) (.int .i64 t715)) (fun _ h_ => h_.1)))); (case side8 => exact (Kd.R_reads' HO687.out).2.1); rintro e w51 ⟨rfl, hb⟩; refine ⟨_, rfl, ?_⟩; replace HO673 := am (Kd.R_below (by (with_reducible repeat (first | apply Kd.R_alloc | apply Kd.R_drewN | apply Kd.R_drew)); exact (Kd.R_mono (Kd.R_far (p := ⟨gb717, 6, none⟩) (Kd.R_far (p := ⟨gb717, 5, none⟩) (Kd.R_far (p := ⟨gb717, 4, none⟩) (Kd.R_far (p := ⟨gb717, 3, none⟩) (Kd.R_far (p := ⟨gb717, 2, none⟩) (Kd.R_far (p := ⟨gb717, 1, none⟩) (Kd.R_far (p := ⟨gb717, 0, none⟩) (Kd.R_types HO673.out BK717.out (by decide)) (fun _ hk => hk.2) (.bool t705)) (fun _ hk => hk.2) (.bool t706)) (fun _ hk => hk.2) (.slice Ao40 t707.length co40)) (fun _ hk => hk.2) (.slice Ao41 t710.length co41)) (fun _ hk => hk.2) (.int .i64 t713)) (fun _ hk => hk.2) (.int .i64 t714)) (fun _ hk => hk.2) (.int .i64 t715)) (fun _ h_ => h_.1))) hb); replace HO676 := am (Kd.R_below (by (with_reducible repeat (first | apply Kd.R_alloc | apply Kd.R_drewN | apply Kd.R_drew)); exact (Kd.R_mono (Kd.R_far (p := ⟨gb717, 6, none⟩) (Kd.R_far (p := ⟨gb717, 5, none⟩) (Kd.R_far (p := ⟨gb717, 4, none⟩) (Kd.R_far (p := ⟨gb717, 3, none⟩) (Kd.R_far (p := ⟨gb717, 2, none⟩) (Kd.R_far (p := ⟨gb717, 1, none⟩) (Kd.R_far (p := ⟨gb717, 0, none⟩) (Kd.R_types HO676.out BK717.out (by decide)) (fun _ hk => hk.2) (.bool t705)) (fun _ hk => hk.2) (.bool t706)) (fun _ hk => hk.2) (.slice Ao40 t707.length co40)) (fun _ hk => hk.2) (.slice Ao41 t710.length co41)) (fun _ hk => hk.2) (.int .i64 t713)) (fun _ hk => hk.2) (.int .i64 t714)) (fun _ hk => hk.2) (.int .i64 t715)) (fun _ h_ => h_.1))) hb); replace HO684 := am (Kd.R_below (by (with_reducible repeat (first | apply Kd.R_alloc | apply Kd.R_drewN | apply Kd.R_drew)); exact (Kd.R_mono (Kd.R_far (p := ⟨gb717, 6, none⟩) (Kd.R_far (p := ⟨gb717, 5, none⟩) (Kd.R_far (p := ⟨gb717, 4, none⟩) (Kd.R_far (p := ⟨gb717, 3, none⟩) (Kd.R_far (p := ⟨gb717, 2, none⟩) (Kd.R_far (p := ⟨gb717, 1, none⟩) (Kd.R_far (p := ⟨gb717, 0, none⟩) (Kd.R_types HO684.out BK717.out (by decide)) (fun _ hk => hk.2) (.bool t705)) (fun _ hk => hk.2) (.bool t706)) (fun _ hk => hk.2) (.slice Ao40 t707.length co40)) (fun _ hk => hk.2) (.slice Ao41 t710.length co41)) (fun _ hk => hk.2) (.int .i64 t713)) (fun _ hk => hk.2) (.int .i64 t714)) (fun _ hk => hk.2) (.int .i64 t715)) (fun _ h_ => h_.1))) hb); replace HO687 := am (Kd.R_below (by (with_reducible repeat (first | apply Kd.R_alloc | apply Kd.R_drewN | apply Kd.R_drew)); exact (Kd.R_mono (Kd.R_far (p := ⟨gb717, 6, none⟩) (Kd.R_far (p := ⟨gb717, 5, none⟩) (Kd.R_far (p := ⟨gb717, 4, none⟩) (Kd.R_far (p := ⟨gb717, 3, none⟩) (Kd.R_far (p := ⟨gb717, 2, none⟩) (Kd.R_far (p := ⟨gb717, 1, none⟩) (Kd.R_far (p := ⟨gb717, 0, none⟩) (Kd.R_types HO687.out BK717.out (by decide)) (fun _ hk => hk.2) (.bool t705)) (fun _ hk => hk.2) (.bool t706)) (fun _ hk => hk.2) (.slice Ao40 t707.length co40)) (fun _ hk => hk.2) (.slice Ao41 t710.length co41)) (fun _ hk => hk.2) (.int .i64 t713)) (fun _ hk => hk.2) (.int .i64 t714)) (fun _ hk => hk.2) (.int .i64 t715)) (fun _ h_ => h_.1))) hb); replace HO697 := am (Kd.R_below (by (with_reducible repeat (first | apply Kd.R_alloc | apply Kd.R_drewN | apply Kd.R_drew)); exact (Kd.R_mono (Kd.R_far (p := ⟨gb717, 6, none⟩) (Kd.R_far (p := ⟨gb717, 5, none⟩) (Kd.R_far (p := ⟨gb717, 4, none⟩) (Kd.R_far (p := ⟨gb717, 3, none⟩) (Kd.R_far (p := ⟨gb717, 2, none⟩) (Kd.R_far (p := ⟨gb717, 1, none⟩) (Kd.R_far (p := ⟨gb717, 0, none⟩) (Kd.R_types HO697.out BK717.out (by decide)) (fun _ hk => hk.2) (.bool t705)) (fun _ hk => hk.2) (.bool t706)) (fun _ hk => hk.2) (.slice Ao40 t707.length co40)) (fun _ hk => hk.2) (.slice Ao41 t710.length co41)) (fun _ hk => hk.2) (.int .i64 t713)) (fun _ hk => hk.2) (.int .i64 t714)) (fun _ hk => hk.2) (.int .i64 t715)) (fun _ h_ => h_.1))) hb); replace HO700 := am (Kd.R_below (by (with_reducible repeat (first | apply Kd.R_alloc | apply Kd.R_drewN | apply Kd.R_drew)); exact (Kd.R_mono (Kd.R_far (p := ⟨gb717, 6, none⟩) (Kd.R_far (p := ⟨gb717, 5, none⟩) (Kd.R_far (p := ⟨gb717, 4, none⟩) (Kd.R_far (p := ⟨gb717, 3, none⟩) (Kd.R_far (p := ⟨gb717, 2, none⟩) (Kd.R_far (p := ⟨gb717, 1, none⟩) (Kd.R_far (p := ⟨gb717, 0, none⟩) (Kd.R_types HO700.out BK717.out (by decide)) (fun _ hk => hk.2) (.bool t705)) (fun _ hk => hk.2) (.bool t706)) (fun _ hk => hk.2) (.slice Ao40 t707.length co40)) (fun _ hk => hk.2) (.slice Ao41 t710.length co41)) (fun _ hk => hk.2) (.int .i64 t713)) (fun _ hk => hk.2) (.int .i64 t714)) (fun _ hk => hk.2) (.int .i64 t715)) (fun _ h_ => h_.1))) hb); replace HO709 := am (Kd.R_below (by (with_reducible repeat (first | apply Kd.R_alloc | apply Kd.R_drewN | apply Kd.R_drew)); exact (Kd.R_mono (Kd.R_far (p := ⟨gb717, 6, none⟩) (Kd.R_far (p := ⟨gb717, 5, none⟩) (Kd.R_far (p := ⟨gb717, 4, none⟩) (Kd.R_far (p := ⟨gb717, 3, none⟩) (Kd.R_far (p := ⟨gb717, 2, none⟩) (Kd.R_far (p := ⟨gb717, 1, none⟩) (Kd.R_far (p := ⟨gb717, 0, none⟩) (Kd.R_types HO709.out BK717.out (by decide)) (fun _ hk => hk.2) (.bool t705)) (fun _ hk => hk.2) (.bool t706)) (fun _ hk => hk.2) (.slice Ao40 t707.length co40)) (fun _ hk => hk.2) (.slice Ao41 t710.length co41)) (fun _ hk => hk.2) (.int .i64 t713)) (fun _ hk => hk.2) (.int .i64 t714)) (fun _ hk => hk.2) (.int .i64 t715)) (fun _ h_ => h_.1))) hb); replace HO712 := am (Kd.R_below (by (with_reducible repeat (first | apply Kd.R_alloc | apply Kd.R_drewN | apply Kd.R_drew)); exact (Kd.R_mono (Kd.R_far (p := ⟨gb717, 6, none⟩) (Kd.R_far (p := ⟨gb717, 5, none⟩) (Kd.R_far (p := ⟨gb717, 4, none⟩) (Kd.R_far (p := ⟨gb717, 3, none⟩) (Kd.R_far (p := ⟨gb717, 2, none⟩) (Kd.R_far (p := ⟨gb717, 1, none⟩) (Kd.R_far (p := ⟨gb717, 0, none⟩) (Kd.R_types HO712.out BK717.out (by decide)) (fun _ hk => hk.2) (.bool t705)) (fun _ hk => hk.2) (.bool t706)) (fun _ hk => hk.2) (.slice Ao40 t707.length co40)) (fun _ hk => hk.2) (.slice Ao41 t710.length co41)) (fun _ hk => hk.2) (.int .i64 t713)) (fun _ hk => hk.2) (.int .i64 t714)) (fun _ hk => hk.2) (.int .i64 t715)) (fun _ h_ => h_.1))) hb); replace BK667 := am (blk_below (g := gb667) (o := .cells #[.bool a0_0, .bool a0_1, .slice A0_2 l0_2.length c0_2, .slice A0_3 l0_3.length c0_3, .int .i64 a0_4, .int .i64 a0_5, .int .i64 a0_6] 24 (0, 0)) (by (with_reducible repeat (first | refine blk_drewN ?_ _ | refine blk_drew ?_ | refine blk_alloc ?_ _)); refine blk_far ?_ NB667_717.out _; (with_reducible repeat (first | refine blk_drewN ?_ _ | refine blk_drew ?_ | refine blk_alloc ?_ _)); refine blk_far ?_ NB667_717.out _; (with_reducible repeat (first | refine blk_drewN ?_ _ | refine blk_drew ?_ | refine blk_alloc ?_ _)); refine blk_far ?_ NB667_717.out _; (with_reducible repeat (first | refine blk_drewN ?_ _ | refine blk_drew ?_ | refine blk_alloc ?_ _)); refine blk_far ?_ NB667_717.out _; (with_reducible repeat (first | refine blk_drewN ?_ _ | refine blk_drew ?_ | refine blk_alloc ?_ _)); refine blk_far ?_ NB667_717.out _; (with_reducible repeat (first | refine blk_drewN ?_ _ | refine blk_drew ?_ | refine blk_alloc ?_ _)); refine blk_far ?_ NB667_717.out _; (with_reducible repeat (first | refine blk_drewN ?_ _ | refine blk_drew ?_ | refine blk_alloc ?_ _)); refine blk_far ?_ NB667_717.out _; exact pkK BK667.out) hb); replace BK692 := am (blk_below (g := gb692) (o := .cells #[.bool t680, .bool t681, .slice Ao24 t682.length co24, .slice Ao25 t685.length co25, .int .i64 t688, .int .i64 t689, .int .i64 t690] 27 (0, 0)) (by (with_reducible repeat (first | refine blk_drewN ?_ _ | refine blk_drew ?_ | refine blk_alloc ?_ _)); refine blk_far ?_ NB692_717.out _; (with_reducible repeat (first | refine blk_drewN ?_ _ | refine blk_drew ?_ | refine blk_alloc ?_ _)); refine blk_far ?_ NB692_717.out _; (with_reducible repeat (first | refine blk_drewN ?_ _ | refine blk_drew ?_ | refine blk_alloc ?_ _)); refine blk_far ?_ NB692_717.out _; (with_reducible repeat (first | refine blk_drewN ?_ _ | refine blk_drew ?_ | refine blk_alloc ?_ _)); refine blk_far ?_ NB692_717.out _; (with_reducible repeat (first | refine blk_drewN ?_ _ | refine blk_drew ?_ | refine blk_alloc ?_ _)); refine blk_far ?_ NB692_717.out _; (with_reducible repeat (first | refine blk_drewN ?_ _ | refine blk_drew ?_ | refine blk_alloc ?_ _)); refine blk_far ?_ NB692_717.out _; (with_reducible repeat (first | refine blk_drewN ?_ _ | refine blk_drew ?_ | refine blk_alloc ?_ _)); refine blk_far ?_ NB692_717.out _; exact pkK BK692.out) hb); replace BK704 := am (blk_below (g := gb704) (o := .cells #[.bool t693, .bool t694, .slice Ao32 t695.length co32, .slice Ao33 t698.length co33, .int .i64 t701, .int .i64 t702, .int .i64 t703] 27 (0, 0)) (by (with_reducible repeat (first | refine blk_drewN ?_ _ | refine blk_drew ?_ | refine blk_alloc ?_ _)); refine blk_far ?_ NB704_717.out _; (with_reducible repeat (first | refine blk_drewN ?_ _ | refine blk_drew ?_ | refine blk_alloc ?_ _)); refine blk_far ?_ NB704_717.out _; (with_reducible repeat (first | refine blk_drewN ?_ _ | refine blk_drew ?_ | refine blk_alloc ?_ _)); refine blk_far ?_ NB704_717.out _; (with_reducible repeat (first | refine blk_drewN ?_ _ | refine blk_drew ?_ | refine blk_alloc ?_ _)); refine blk_far ?_ NB704_717.out _; (with_reducible repeat (first | refine blk_drewN ?_ _ | refine blk_drew ?_ | refine blk_alloc ?_ _)); refine blk_far ?_ NB704_717.out _; (with_reducible repeat (first | refine blk_drewN ?_ _ | refine blk_drew ?_ | refine blk_alloc ?_ _)); refine blk_far ?_ NB704_717.out _; (with_reducible repeat (first | refine blk_drewN ?_ _ | refine blk_drew ?_ | refine blk_alloc ?_ _)); refine blk_far ?_ NB704_717.out _; exact pkK BK704.out) hb); replace BK717 := am (blk_below (g := gb717) (o := .cells #[.bool t705, .bool t706, .slice Ao40 t707.length co40, .slice Ao41 t710.length co41, .int .i64 t713, .int .i64 t714, .int .i64 t715] 27 (0, 0)) (by (with_reducible repeat (first | refine blk_drewN ?_ _ | refine blk_drew ?_ | refine blk_alloc ?_ _)); refine blk_put (cs := #[.bool t705, .bool t706, .slice Ao40 t707.length co40, .slice Ao41 t710.length co41, .int .i64 t713, .int .i64 t714, .int .i64 0]) ?_ 6 _ rfl; (with_reducible repeat (first | refine blk_drewN ?_ _ | refine blk_drew ?_ | refine blk_alloc ?_ _)); refine blk_put (cs := #[.bool t705, .bool t706, .slice Ao40 t707.length co40, .slice Ao41 t710.length co41, .int .i64 t713, .int .i64 0, .int .i64 0]) ?_ 5 _ rfl; (with_reducible repeat (first | refine blk_drewN ?_ _ | refine blk_drew ?_ | refine blk_alloc ?_ _)); refine blk_put (cs := #[.bool t705, .bool t706, .slice Ao40 t707.length co40, .slice Ao41 t710.length co41, .int .i64 0, .int .i64 0, .int .i64 0]) ?_ 4 _ rfl; (with_reducible repeat (first | refine blk_drewN ?_ _ | refine blk_drew ?_ | refine blk_alloc ?_ _)); refine blk_put (cs := #[.bool t705, .bool t706, .slice Ao40 t707.length co40, .slice none 0 0, .int .i64 0, .int .i64 0, .int .i64 0]) ?_ 3 _ rfl; (with_reducible repeat (first | refine blk_drewN ?_ _ | refine blk_drew ?_ | refine blk_alloc ?_ _)); refine blk_put (cs := #[.bool t705, .bool t706, .slice none 0 0, .slice none 0 0, .int .i64 0, .int .i64 0, .int .i64 0]) ?_ 2 _ rfl; (with_reducible repeat (first | refine blk_drewN ?_ _ | refine blk_drew ?_ | refine blk_alloc ?_ _)); refine blk_put (cs := #[.bool t705, .bool false, .slice none 0 0, .slice none 0 0, .int .i64 0, .int .i64 0, .int .i64 0]) ?_ 1 _ rfl; (with_reducible repeat (first | refine blk_drewN ?_ _ | refine blk_drew ?_ | refine blk_alloc ?_ _)); refine blk_put (cs := #[.bool false, .bool false, .slice none 0 0, .slice none 0 0, .int .i64 0, .int .i64 0, .int .i64 0]) ?_ 0 _ rfl; exact pkK BK717.out) hb); replace HB := am (below_step (pkW HB.out) hb); (try clear hb)))
    go_meet
    case rel => exact ⟨_, ((t716 != t691)), rfx, H', ⟨by first | omega | exact Nat.le_refl _⟩, ⟨by (with_reducible repeat (first | apply Kd.R_alloc | apply Kd.R_drewN | apply Kd.R_drew)); exact Kd.R_mono HO684.out (fun _ hk => ⟨hk.1.1.1.1.1.1, ⟨hk.1.1.1.2, ⟨hk.1.1.2, ⟨hk.1.2, hk.2⟩⟩⟩⟩)⟩, ⟨by (with_reducible repeat (first | apply Kd.R_alloc | apply Kd.R_drewN | apply Kd.R_drew)); exact Kd.R_mono HO687.out (fun _ hk => ⟨hk.1.1.1.1.1.1, ⟨hk.1.1.1.2, ⟨hk.1.1.2, ⟨hk.1.2, hk.2⟩⟩⟩⟩)⟩, ⟨Kd.Q_of_R (by (with_reducible repeat (first | apply Kd.R_alloc | apply Kd.R_drewN | apply Kd.R_drew)); exact Kd.R_mono HO697.out (fun _ hk => ⟨hk.1.1.1.2, ⟨hk.1.1.2, ⟨hk.1.1.1.1.1.1, ⟨hk.1.2, hk.2⟩⟩⟩⟩))⟩, ⟨Kd.Q_of_R (by (with_reducible repeat (first | apply Kd.R_alloc | apply Kd.R_drewN | apply Kd.R_drew)); exact Kd.R_mono HO700.out (fun _ hk => ⟨hk.1.1.1.2, ⟨hk.1.1.2, ⟨hk.1.1.1.1.1.1, ⟨hk.1.2, hk.2⟩⟩⟩⟩))⟩, ⟨Kd.Q_of_R (by (with_reducible repeat (first | apply Kd.R_alloc | apply Kd.R_drewN | apply Kd.R_drew)); exact Kd.R_mono HO709.out (fun _ hk => ⟨hk.1.1.1.2, ⟨hk.1.1.2, ⟨hk.1.2, ⟨hk.2, hk.1.1.1.1.1.1⟩⟩⟩⟩))⟩, ⟨Kd.Q_of_R (by (with_reducible repeat (first | apply Kd.R_alloc | apply Kd.R_drewN | apply Kd.R_drew)); exact Kd.R_mono HO712.out (fun _ hk => ⟨hk.1.1.1.2, ⟨hk.1.1.2, ⟨hk.1.2, ⟨hk.2, hk.1.1.1.1.1.1⟩⟩⟩⟩))⟩, ⟨pkK BK667.out⟩, ⟨pkK BK692.out⟩, ⟨pkK BK704.out⟩, ⟨pkK BK717.out⟩, ⟨pkW HB.out⟩⟩
   ·replace c43 := Bool.eq_false_iff.mpr c43
    subst c43
    replace H : (laws_FnExactGoOn.j0 k a1 t691 t716 true a0_0 a0_1 l0_2 l0_3 a0_4 a0_5 a0_6 t680 t681 t682 t685 t688 t689 t690 t693 t694 t695 t698 t701 t702 t703 t705 t706 t707 t710 t713 t714 t715) = some r := by rw [if_neg (show ¬ (false = true) by decide)] at H; exact H
    cases k with
    | zero => exact absurd H (by simp [laws_FnExactGoOn.j0])
    | succ k_ => (simp only [laws_FnExactGoOn.j0, if_pos] at H; exact absurd (Option.some.inj H) (by rw [HQ_.out]; simp))
  case rest =>
   clear HC12
   try clear c1
   try clear c2
   try clear p2
   try clear c3
   try clear c4
   try clear c4b0
   try clear c7
   try clear c14
   try clear c16
   try clear c18
   try clear c22
   try clear c29
   try clear c30
   try clear c31
   try clear c36
   try clear c37
   try clear c38
   try clear c43
   try clear c44
   try clear c45
   try clear c46
   try clear c48
   try clear c49
   try clear hcz14_0
   try clear hcz14_1
   try clear hcz14_2
   try clear hcz14_3
   try clear hcz14_4
   try clear hcz14_5
   try clear hcz14_6
   try clear hcz16_0
   try clear hcz16_1
   try clear hcz16_2
   try clear hcz16_3
   try clear hcz16_4
   try clear hcz16_5
   try clear hcz16_6
   try clear hcz23_0
   try clear hcz23_1
   try clear hcz23_2
   try clear hcz23_3
   try clear hcz23_4
   try clear hcz23_5
   try clear hcz23_6
   try clear hcz26_0
   try clear hcz26_1
   try clear hcz26_2
   try clear hcz26_3
   try clear hcz26_4
   try clear hcz26_5
   try clear hcz26_6
   try clear hcz31_0
   try clear hcz31_1
   try clear hcz31_2
   try clear hcz31_3
   try clear hcz31_4
   try clear hcz31_5
   try clear hcz31_6
   try clear hcz39_0
   try clear hcz39_1
   try clear hcz39_2
   try clear hcz39_3
   try clear hcz39_4
   try clear hcz39_5
   try clear hcz39_6
   try clear hcz47_0
   try clear hcz47_1
   try clear hcz47_2
   try clear hcz47_3
   try clear hcz47_4
   try clear hcz47_5
   try clear hcz47_6
   try clear hcz50_0
   try clear hcz50_1
   try clear hcz50_2
   try clear hcz50_3
   try clear hcz50_4
   try clear hcz50_5
   try clear hcz50_6
   try clear hcz6_0
   try clear hcz6_1
   try clear hcz6_2
   try clear hcz6_3
   try clear hcz6_4
   try clear hcz6_5
   try clear hcz6_6
   try clear hfz14_0
   try clear hfz14_1
   try clear hfz14_2
   try clear hfz14_3
   try clear hfz14_4
   try clear hfz14_5
   try clear hfz14_6
   try clear hfz16_0
   try clear hfz16_1
   try clear hfz16_2
   try clear hfz16_3
   try clear hfz16_4
   try clear hfz16_5
   try clear hfz16_6
   try clear hfz23_0
   try clear hfz23_1
   try clear hfz23_2
   try clear hfz23_3
   try clear hfz23_4
   try clear hfz23_5
   try clear hfz23_6
   try clear hfz26_0
   try clear hfz26_1
   try clear hfz26_2
   try clear hfz26_3
   try clear hfz26_4
   try clear hfz26_5
   try clear hfz26_6
   try clear hfz31_0
   try clear hfz31_1
   try clear hfz31_2
   try clear hfz31_3
   try clear hfz31_4
   try clear hfz31_5
   try clear hfz31_6
   try clear hfz39_0
   try clear hfz39_1
   try clear hfz39_2
   try clear hfz39_3
   try clear hfz39_4
   try clear hfz39_5
   try clear hfz39_6
   try clear hfz47_0
   try clear hfz47_1
   try clear hfz47_2
   try clear hfz47_3
   try clear hfz47_4
   try clear hfz47_5
   try clear hfz47_6
   try clear hfz50_0
   try clear hfz50_1
   try clear hfz50_2
   try clear hfz50_3
   try clear hfz50_4
   try clear hfz50_5
   try clear hfz50_6
   try clear hfz6_0
   try clear hfz6_1
   try clear hfz6_2
   try clear hfz6_3
   try clear hfz6_4
   try clear hfz6_5
   try clear hfz6_6
   obtain ⟨kq, x44_11, rfl, HA, HJ11, HO_693002, HO_693003, HO_705002, HO_705003, HO_718002, HO_718003, BK667, BK692, BK704, BK717, HB⟩ := hcut
   cases kq with
   | zero => exact absurd HA.out (by simp [laws_FnExactGoOn.j0])
   | succ kj11 =>
    have H := HA.out
    clear HA
    simp only [laws_FnExactGoOn.j0] at H
    by_cases c52 : x44_11 = true
    ·subst c52
     replace H : (some false) = some r := by rw [if_pos rfl] at H; exact H
     exact absurd (Option.some.inj H) (by rw [HQ_.out]; simp)
    ·replace c52 := Bool.eq_false_iff.mpr c52
     subst c52
     replace H : ((laws_toEvent.f kj11 a0_0 a0_1 l0_2 l0_3 a0_4 a0_5 a0_6).bind fun bt719 => ((laws_eqEvent.f kj11 t693 t694 t695 t698 t701 t702 t703 bt719.1 bt719.2.1 bt719.2.2.1 bt719.2.2.2.1 bt719.2.2.2.2.1 bt719.2.2.2.2.2.1 bt719.2.2.2.2.2.2).bind fun t730 => (if t730 = true then ((laws_markEvent.f kj11 t693 t694 t695 t698 t701 t702 t703 1).bind fun bt731 => (if bt731.1 < 0 then (laws_FnExactGoOn.j1 kj11 a1 t691 true a0_0 a0_1 l0_2 l0_3 a0_4 a0_5 a0_6 t680 t681 t682 t685 t688 t689 t690 t705 t706 t707 t710 t713 t714 t715) else ((laws_eqEvent.f kj11 t705 t706 t707 t710 t713 t714 t715 t680 t681 t682 t685 t688 t689 t690).bind fun t734 => (if t734 = true then (laws_FnExactGoOn.j1 kj11 a1 t691 (t716 != t691) a0_0 a0_1 l0_2 l0_3 a0_4 a0_5 a0_6 t680 t681 t682 t685 t688 t689 t690 t705 t706 t707 t710 t713 t714 t715) else (laws_FnExactGoOn.j1 kj11 a1 t691 true a0_0 a0_1 l0_2 l0_3 a0_4 a0_5 a0_6 t680 t681 t682 t685 t688 t689 t690 t705 t706 t707 t710 t713 t714 t715))))) else (some false)))) = some r := by rw [if_neg (show ¬ (false = true) by decide)] at H; exact H
     replace H := Option.bind_eq_some_iff.mp H
     obtain ⟨⟨t719, t720, t721, t724, t727, t728, t729⟩, A530, H⟩ := H
     replace H : ((laws_eqEvent.f kj11 t693 t694 t695 t698 t701 t702 t703 t719 t720 t721 t724 t727 t728 t729).bind fun t730 => (if t730 = true then ((laws_markEvent.f kj11 t693 t694 t695 t698 t701 t702 t703 1).bind fun bt731 => (if bt731.1 < 0 then (laws_FnExactGoOn.j1 kj11 a1 t691 true a0_0 a0_1 l0_2 l0_3 a0_4 a0_5 a0_6 t680 t681 t682 t685 t688 t689 t690 t705 t706 t707 t710 t713 t714 t715) else ((laws_eqEvent.f kj11 t705 t706 t707 t710 t713 t714 t715 t680 t681 t682 t685 t688 t689 t690).bind fun t734 => (if t734 = true then (laws_FnExactGoOn.j1 kj11 a1 t691 (t716 != t691) a0_0 a0_1 l0_2 l0_3 a0_4 a0_5 a0_6 t680 t681 t682 t685 t688 t689 t690 t705 t706 t707 t710 t713 t714 t715) else (laws_FnExactGoOn.j1 kj11 a1 t691 true a0_0 a0_1 l0_2 l0_3 a0_4 a0_5 a0_6 t680 t681 t682 t685 t688 t689 t690 t705 t706 t707 t710 t713 t714 t715))))) else (some false))) = some r := H
     have A53 := am A530
     clear A530
     replace H := Option.bind_eq_some_iff.mp H
     obtain ⟨t730, A540, H⟩ := H
     replace H : (if t730 = true then ((laws_markEvent.f kj11 t693 t694 t695 t698 t701 t702 t703 1).bind fun bt731 => (if bt731.1 < 0 then (laws_FnExactGoOn.j1 kj11 a1 t691 true a0_0 a0_1 l0_2 l0_3 a0_4 a0_5 a0_6 t680 t681 t682 t685 t688 t689 t690 t705 t706 t707 t710 t713 t714 t715) else ((laws_eqEvent.f kj11 t705 t706 t707 t710 t713 t714 t715 t680 t681 t682 t685 t688 t689 t690).bind fun t734 => (if t734 = true then (laws_FnExactGoOn.j1 kj11 a1 t691 (t716 != t691) a0_0 a0_1 l0_2 l0_3 a0_4 a0_5 a0_6 t680 t681 t682 t685 t688 t689 t690 t705 t706 t707 t710 t713 t714 t715) else (laws_FnExactGoOn.j1 kj11 a1 t691 true a0_0 a0_1 l0_2 l0_3 a0_4 a0_5 a0_6 t680 t681 t682 t685 t688 t689 t690 t705 t706 t707 t710 t713 t714 t715))))) else (some false)) = some r := H
     have A54 := am A540
     clear A540
     by_cases c55 : t730 = true
     ·subst c55
      replace H : ((laws_markEvent.f kj11 t693 t694 t695 t698 t701 t702 t703 1).bind fun bt731 => (if bt731.1 < 0 then (laws_FnExactGoOn.j1 kj11 a1 t691 true a0_0 a0_1 l0_2 l0_3 a0_4 a0_5 a0_6 t680 t681 t682 t685 t688 t689 t690 t705 t706 t707 t710 t713 t714 t715) else ((laws_eqEvent.f kj11 t705 t706 t707 t710 t713 t714 t715 t680 t681 t682 t685 t688 t689 t690).bind fun t734 => (if t734 = true then (laws_FnExactGoOn.j1 kj11 a1 t691 (t716 != t691) a0_0 a0_1 l0_2 l0_3 a0_4 a0_5 a0_6 t680 t681 t682 t685 t688 t689 t690 t705 t706 t707 t710 t713 t714 t715) else (laws_FnExactGoOn.j1 kj11 a1 t691 true a0_0 a0_1 l0_2 l0_3 a0_4 a0_5 a0_6 t680 t681 t682 t685 t688 t689 t690 t705 t706 t707 t710 t713 t714 t715))))) = some r := by rw [if_pos rfl] at H; exact H
      replace H := Option.bind_eq_some_iff.mp H
      obtain ⟨⟨t731, t732, t733⟩, A560, H⟩ := H
      replace H : (if t731 < 0 then (laws_FnExactGoOn.j1 kj11 a1 t691 true a0_0 a0_1 l0_2 l0_3 a0_4 a0_5 a0_6 t680 t681 t682 t685 t688 t689 t690 t705 t706 t707 t710 t713 t714 t715) else ((laws_eqEvent.f kj11 t705 t706 t707 t710 t713 t714 t715 t680 t681 t682 t685 t688 t689 t690).bind fun t734 => (if t734 = true then (laws_FnExactGoOn.j1 kj11 a1 t691 (t716 != t691) a0_0 a0_1 l0_2 l0_3 a0_4 a0_5 a0_6 t680 t681 t682 t685 t688 t689 t690 t705 t706 t707 t710 t713 t714 t715) else (laws_FnExactGoOn.j1 kj11 a1 t691 true a0_0 a0_1 l0_2 l0_3 a0_4 a0_5 a0_6 t680 t681 t682 t685 t688 t689 t690 t705 t706 t707 t710 t713 t714 t715)))) = some r := H
      have A56 := am A560
      clear A560
      have HC57 := am H
      clear H
      try go_wp2
      replace HO_693002 := am (Kd.R_drew HO_693002.out)
      replace HO_693003 := am (Kd.R_drew HO_693003.out)
      replace HO_705002 := am (Kd.Q_drew HO_705002.out)
      replace HO_705003 := am (Kd.Q_drew HO_705003.out)
      replace HO_718002 := am (Kd.Q_drew HO_718002.out)
      replace HO_718003 := am (Kd.Q_drew HO_718003.out)
      replace BK667 := am (blk_drew BK667.out)
      replace BK692 := am (blk_drew BK692.out)
      replace BK704 := am (blk_drew BK704.out)
      replace BK717 := am (blk_drew BK717.out)
      replace HB := am (below_drew1 HB.out)
      refine start_ (n := 5) (S := fun w' => w'.cell? ⟨gb704, 0, none⟩ = some (.bool t693) ∧ w'.cell? ⟨gb704, 1, none⟩ = some (.bool t694) ∧ w'.cell? ⟨gb704, 2, none⟩ = some (.slice Ao32 t695.length co32) ∧ w'.cell? ⟨gb704, 3, none⟩ = some (.slice Ao33 t698.length co33) ∧ w'.cell? ⟨gb704, 4, none⟩ = some (.int .i64 t701) ∧ w'.cell? ⟨gb704, 5, none⟩ = some (.int .i64 t702) ∧ w'.cell? ⟨gb704, 6, none⟩ = some (.int .i64 t703) ∧ w'.cell? ⟨gb667, 0, none⟩ = some (.bool a0_0) ∧ w'.cell? ⟨gb667, 1, none⟩ = some (.bool a0_1) ∧ w'.cell? ⟨gb667, 2, none⟩ = some (.slice A0_2 l0_2.length c0_2) ∧ w'.cell? ⟨gb667, 3, none⟩ = some (.slice A0_3 l0_3.length c0_3) ∧ w'.cell? ⟨gb667, 4, none⟩ = some (.int .i64 a0_4) ∧ w'.cell? ⟨gb667, 5, none⟩ = some (.int .i64 a0_5) ∧ w'.cell? ⟨gb667, 6, none⟩ = some (.int .i64 a0_6)) (ds := []) #[false, false, false, false, false] (by kernel_rfl) rfl rfl ⟨(blk_cell BK704.out 0).trans rfl, (blk_cell BK704.out 1).trans rfl, (blk_cell BK704.out 2).trans rfl, (blk_cell BK704.out 3).trans rfl, (blk_cell BK704.out 4).trans rfl, (blk_cell BK704.out 5).trans rfl, (blk_cell BK704.out 6).trans rfl, (blk_cell BK667.out 0).trans rfl, (blk_cell BK667.out 1).trans rfl, (blk_cell BK667.out 2).trans rfl, (blk_cell BK667.out 3).trans rfl, (blk_cell BK667.out 4).trans rfl, (blk_cell BK667.out 5).trans rfl, (blk_cell BK667.out 6).trans rfl⟩ (fun hHeld => ?_)
      generalize wc.drew = w58 at HO_693002 HO_693003 HO_705002 HO_705003 HO_718002 HO_718003 BK667 BK692 BK704 BK717 HB hHeld ⊢
      refine take_ (i := 0) (N := some 45) (v := ?_) (a' := ?_) #[true, false, false, false, false] rfl rfl (by kernel_rfl) (fun _ _ _ h => h) (Or.inl ⟨by rfl, ?_⟩) hHeld ?_ ?_
      rotate_left
      ·rintro w' ⟨s0, s1, s2, s3, s4, s5, s6, s7, s8, s9, s10, s11, s12, s13⟩
       go_simp
       with_reducible rfl
      rotate_left
      ·simp only [Act.put, List.setIfInBounds_toArray, List.set_cons_zero, List.set_cons_succ, i64_w, i32_w]
       rfl
      refine take_ (i := 1) (N := some 46) (v := ?_) (a' := ?_) #[true, true, false, false, false] rfl rfl (by kernel_rfl) (fun _ _ _ h => h) (Or.inl ⟨by rfl, ?_⟩) hHeld ?_ ?_
      rotate_left
      ·rintro w' ⟨s0, s1, s2, s3, s4, s5, s6, s7, s8, s9, s10, s11, s12, s13⟩
       go_simp
       with_reducible rfl
      rotate_left
      ·simp only [Act.put, List.setIfInBounds_toArray, List.set_cons_zero, List.set_cons_succ, i64_w, i32_w]
       rfl
      refine one_ (i := 2) (N := some 47) #[true, true, true, false, false] rfl rfl (by kernel_rfl) (by decide) (fun K hK => ?_)
      refine goes_ Try.func16 (by kernel_rfl) rfl #[.agg #[.bool a0_0, .bool a0_1, .slice A0_2 l0_2.length c0_2, .slice A0_3 l0_3.length c0_3, .int .i64 a0_4, .int .i64 a0_5, .int .i64 a0_6]] (by rfl) rfl rfl mpx ?_
      with_reducible refine (laws_toEvent.calls kj11 a0_0 a0_1 _ _ l0_2 _ _ l0_3 a0_4 a0_5 a0_6 t719 t720 t721 t724 t727 t728 t729 _ ?side1 ?side2 ?side3 ?side4 A53.out).mono ?_
      (case side1 => exact pkC (Kd.C_below HR0_2.out HB.out))
      (case side2 => exact HC0_2.out)
      (case side3 => exact pkC (Kd.C_below HR0_3.out HB.out))
      (case side4 => exact HC0_3.out)
      rintro e w59 ⟨v722, v725, rfl, ho0, ho1, hb⟩
      refine ⟨_, rfl, ?_⟩
      have HO723 := am (Kd.R_lower (Kd.R_new' (Kd.R_new' (Kd.R_new' (Kd.R_new' (Kd.R_new' (Kd.R_new' ho0 (Kd.R_lt (pkR HO_693002.out))) (Kd.R_lt (pkR HO_693003.out))) (Kd.Q_lt (pkQ HO_705002.out))) (Kd.Q_lt (pkQ HO_705003.out))) (Kd.Q_lt (pkQ HO_718002.out))) (Kd.Q_lt (pkQ HO_718003.out))) (below_size (pkW HB.out)))
      have HO726 := am (Kd.R_lower (Kd.R_new' (Kd.R_new' (Kd.R_new' (Kd.R_new' (Kd.R_new' (Kd.R_new' ho1 (Kd.R_lt (pkR HO_693002.out))) (Kd.R_lt (pkR HO_693003.out))) (Kd.Q_lt (pkQ HO_705002.out))) (Kd.Q_lt (pkQ HO_705003.out))) (Kd.Q_lt (pkQ HO_718002.out))) (Kd.Q_lt (pkQ HO_718003.out))) (below_size (pkW HB.out)))
      replace HO_693002 := am (Kd.R_mono (Kd.R_told (Kd.R_told (Kd.R_old (pkR HO_693002.out) hb) (Kd.R_base ho0)) (Kd.R_base ho1)) (fun _ h_ => h_.1))
      replace HO_693003 := am (Kd.R_mono (Kd.R_told (Kd.R_told (Kd.R_old (pkR HO_693003.out) hb) (Kd.R_base ho0)) (Kd.R_base ho1)) (fun _ h_ => h_.1))
      replace HO_705002 := am (Kd.Q_mono (Kd.Q_told (Kd.Q_told (Kd.Q_old (pkQ HO_705002.out) hb) (Kd.R_base ho0)) (Kd.R_base ho1)) (fun _ h_ => h_.1))
      replace HO_705003 := am (Kd.Q_mono (Kd.Q_told (Kd.Q_told (Kd.Q_old (pkQ HO_705003.out) hb) (Kd.R_base ho0)) (Kd.R_base ho1)) (fun _ h_ => h_.1))
      replace HO_718002 := am (Kd.Q_mono (Kd.Q_told (Kd.Q_told (Kd.Q_old (pkQ HO_718002.out) hb) (Kd.R_base ho0)) (Kd.R_base ho1)) (fun _ h_ => h_.1))
      replace HO_718003 := am (Kd.Q_mono (Kd.Q_told (Kd.Q_told (Kd.Q_old (pkQ HO_718003.out) hb) (Kd.R_base ho0)) (Kd.R_base ho1)) (fun _ h_ => h_.1))
      replace BK667 := am (blk_below (pkK BK667.out) hb)
      replace BK692 := am (blk_below (pkK BK692.out) hb)
      replace BK704 := am (blk_below (pkK BK704.out) hb)
      replace BK717 := am (blk_below (pkK BK717.out) hb)
      replace HB := am (below_step (pkW HB.out) hb)
      (try clear hb); (try clear ho0 ho1)
      obtain ⟨Ao60, co60, eo60⟩ := Kd.R_slice HO723.out
      (first | subst eo60 | (injection eo60 with f1_ f2_ f3_; have f4_ := f1_.symm; have f5_ := f3_.symm; clear f1_ f2_ f3_; subst f4_; subst f5_))
      obtain ⟨Ao61, co61, eo61⟩ := Kd.R_slice HO726.out
      (first | subst eo61 | (injection eo61 with f1_ f2_ f3_; have f4_ := f1_.symm; have f5_ := f3_.symm; clear f1_ f2_ f3_; subst f4_; subst f5_))
      refine hK.out _ _ ⟨(blk_cell BK704.out 0).trans rfl, (blk_cell BK704.out 1).trans rfl, (blk_cell BK704.out 2).trans rfl, (blk_cell BK704.out 3).trans rfl, (blk_cell BK704.out 4).trans rfl, (blk_cell BK704.out 5).trans rfl, (blk_cell BK704.out 6).trans rfl, (blk_cell BK667.out 0).trans rfl, (blk_cell BK667.out 1).trans rfl, (blk_cell BK667.out 2).trans rfl, (blk_cell BK667.out 3).trans rfl, (blk_cell BK667.out 4).trans rfl, (blk_cell BK667.out 5).trans rfl, (blk_cell BK667.out 6).trans rfl⟩ (fun hHeld => ?_)
      clear hK K
      refine norm_ (a' := ?_) ?_ ?_
      rotate_left
      ·show Act.put _ (some 47) _ = _
       simp only [Act.put, List.setIfInBounds_toArray, List.set_cons_zero, List.set_cons_succ, i64_w, i32_w]
       rfl
      refine one_ (i := 3) (N := some 48) #[true, true, true, true, false] rfl rfl (by kernel_rfl) (by decide) (fun K hK => ?_)
      refine goes_ Try.func18 (by kernel_rfl) rfl #[.agg #[.bool t693, .bool t694, .slice Ao32 t695.length co32, .slice Ao33 t698.length co33, .int .i64 t701, .int .i64 t702, .int .i64 t703], .agg #[.bool t719, .bool t720, .slice Ao60 t721.length co60, .slice Ao61 t724.length co61, .int .i64 t727, .int .i64 t728, .int .i64 t729]] (by rfl) rfl rfl mpx ?_
      with_reducible refine (laws_eqEvent.calls kj11 t693 t694 _ _ t695 _ _ t698 t701 t702 t703 t719 t720 _ _ t721 _ _ t724 t727 t728 t729 true _ ?side1 ?side2 ?side3 ?side4 ?side5 ?side6 ?side7 ?side8 A54.out).mono ?_
      (case side1 => repeat (first | exact (Kd.Q_reads' HO_705002.out).2.2 | (with_reducible refine Kd.C_alloc ?_ _) | (with_reducible refine Kd.C_drewN ?_ _) | (with_reducible refine Kd.C_drew ?_)))
      (case side2 => exact (Kd.Q_reads' HO_705002.out).2.1)
      (case side3 => repeat (first | exact (Kd.Q_reads' HO_705003.out).2.2 | (with_reducible refine Kd.C_alloc ?_ _) | (with_reducible refine Kd.C_drewN ?_ _) | (with_reducible refine Kd.C_drew ?_)))
      (case side4 => exact (Kd.Q_reads' HO_705003.out).2.1)
      (case side5 => exact pkC (Kd.R_reads' HO723.out).2.2)
      (case side6 => exact (Kd.R_reads' HO723.out).2.1)
      (case side7 => exact pkC (Kd.R_reads' HO726.out).2.2)
      (case side8 => exact (Kd.R_reads' HO726.out).2.1)
      rintro e w62 ⟨rfl, hb⟩
      refine ⟨_, rfl, ?_⟩
      replace HO_693002 := am (Kd.R_below (pkR HO_693002.out) hb)
      replace HO_693003 := am (Kd.R_below (pkR HO_693003.out) hb)
      replace HO_705002 := am (Kd.Q_below (pkQ HO_705002.out) hb)
      replace HO_705003 := am (Kd.Q_below (pkQ HO_705003.out) hb)
      replace HO_718002 := am (Kd.Q_below (pkQ HO_718002.out) hb)
      replace HO_718003 := am (Kd.Q_below (pkQ HO_718003.out) hb)
      replace HO723 := am (Kd.R_below (pkR HO723.out) hb)
      replace HO726 := am (Kd.R_below (pkR HO726.out) hb)
      replace BK667 := am (blk_below (pkK BK667.out) hb)
      replace BK692 := am (blk_below (pkK BK692.out) hb)
      replace BK704 := am (blk_below (pkK BK704.out) hb)
      replace BK717 := am (blk_below (pkK BK717.out) hb)
      replace HB := am (below_step (pkW HB.out) hb)
      (try clear hb)
      refine hK.out _ _ ⟨(blk_cell BK704.out 0).trans rfl, (blk_cell BK704.out 1).trans rfl, (blk_cell BK704.out 2).trans rfl, (blk_cell BK704.out 3).trans rfl, (blk_cell BK704.out 4).trans rfl, (blk_cell BK704.out 5).trans rfl, (blk_cell BK704.out 6).trans rfl, (blk_cell BK667.out 0).trans rfl, (blk_cell BK667.out 1).trans rfl, (blk_cell BK667.out 2).trans rfl, (blk_cell BK667.out 3).trans rfl, (blk_cell BK667.out 4).trans rfl, (blk_cell BK667.out 5).trans rfl, (blk_cell BK667.out 6).trans rfl⟩ (fun hHeld => ?_)
      clear hK K
      refine norm_ (a' := ?_) ?_ ?_
      rotate_left
      ·show Act.put _ (some 48) _ = _
       simp only [Act.put, List.setIfInBounds_toArray, List.set_cons_zero, List.set_cons_succ, i64_w, i32_w]
       rfl
      refine pure_ (i := 4) (N := some 49) (v := ?_) (a' := ?_) #[true, true, true, true, true] rfl rfl (by kernel_rfl) (fun _ _ _ h => h) (Or.inl ⟨by rfl, ?_⟩) ?_ ?_
      rotate_left
      ·intro w'
       go_simp
       with_reducible rfl
      rotate_left
      ·simp only [Act.put, List.setIfInBounds_toArray, List.set_cons_zero, List.set_cons_succ, i64_w, i32_w]
       rfl
      refine done_ (by kernel_rfl) ?_
      have hnb63 := NB704_667.out
      have hnc63 := NB667_704.out
      have hnb64 := NB704_692.out
      have hnc64 := NB692_704.out
      have hnb65 := NB704_717.out
      have hnc65 := NB717_704.out
      obtain ⟨hcz66_0, hcz66_1, hcz66_2, hcz66_3, hcz66_4, hcz66_5, hcz66_6, hfz66_0, hfz66_1, hfz66_2, hfz66_3, hfz66_4, hfz66_5, hfz66_6⟩ := bk7 BK704.out
      go_upto_region 14 with (first | ((with_reducible refine gate_callee (f := 26) rfl ?_); refine goesL_ (some 52) rfl rfl Try.func26 (by kernel_rfl) rfl #[.agg #[.bool t693, .bool t694, .slice Ao32 t695.length co32, .slice Ao33 t698.length co33, .int .i64 t701, .int .i64 t702, .int .i64 t703], .int .i64 1] rfl mpx ?_; (with_reducible refine (laws_markEvent.calls kj11 t693 t694 (fun k_ => some k_ = (.slice Ao32 t695.length co32 : Value).ownBlock) (.slice Ao32 t695.length co32) t695 (fun k_ => some k_ = (.slice Ao33 t698.length co33 : Value).ownBlock) (.slice Ao33 t698.length co33) t698 t701 t702 t703 1 t731 t732 t733 w _ ?side1 ?side2 ?side3 ?side4 ?side5 A56.out).mono ?_); (case side1 => repeat (first | (with_reducible first | exact HB.out | apply below_alloc | apply pw_below_drewN | apply below_drew1 | refine below_set ?_ GE667.out | refine below_set ?_ GE692.out | refine below_set ?_ GE704.out | refine below_set ?_ GE717.out) | exact HB.out)); (case side2 => exact Kd.Q_tight rfl HO_705002.out); (case side3 => exact fun k_ e_ => (HO_705002.out.1 k_ e_.symm).1.1.2.2.1); (case side4 => exact Kd.Q_tight rfl HO_705003.out); (case side5 => exact fun k_ e_ => (HO_705003.out.1 k_ e_.symm).1.1.2.2.1); rintro e w67 ⟨rfl, hy0, hy1, hb, hkp⟩; refine ⟨_, rfl, ?_⟩; replace HO_693002 := am (Kd.R_mono (ok' := fun k_ => some k_ ≠ (.slice Ao25 t685.length co25 : Value).ownBlock ∧ some k_ ≠ (.slice Ao32 t695.length co32 : Value).ownBlock ∧ some k_ ≠ (.slice Ao33 t698.length co33 : Value).ownBlock ∧ some k_ ≠ (.slice Ao40 t707.length co40 : Value).ownBlock ∧ some k_ ≠ (.slice Ao41 t710.length co41 : Value).ownBlock ∧ some k_ ≠ (.slice Ao60 t721.length co60 : Value).ownBlock ∧ some k_ ≠ (.slice Ao61 t724.length co61 : Value).ownBlock) (Kd.R_keptB (HO_693002.out) hkp (fun k_ hk_ hs_ => Or.elim hs_ (fun e_ => (hk_.1.1.2.1) e_) (fun e_ => (hk_.1.1.2.2.1) e_))) (fun k_ hk_ => ⟨hk_.1.1.1.1, hk_.1.1.1.2.1, hk_.1.1.1.2.2.1, hk_.1.1.1.2.2.2.1, hk_.1.1.1.2.2.2.2, hk_.1.1.2, hk_.1.2⟩)); replace HO_693003 := am (Kd.R_mono (ok' := fun k_ => some k_ ≠ (.slice Ao24 t682.length co24 : Value).ownBlock ∧ some k_ ≠ (.slice Ao32 t695.length co32 : Value).ownBlock ∧ some k_ ≠ (.slice Ao33 t698.length co33 : Value).ownBlock ∧ some k_ ≠ (.slice Ao40 t707.length co40 : Value).ownBlock ∧ some k_ ≠ (.slice Ao41 t710.length co41 : Value).ownBlock ∧ some k_ ≠ (.slice Ao60 t721.length co60 : Value).ownBlock ∧ some k_ ≠ (.slice Ao61 t724.length co61 : Value).ownBlock) (Kd.R_keptB (HO_693003.out) hkp (fun k_ hk_ hs_ => Or.elim hs_ (fun e_ => (hk_.1.1.2.1) e_) (fun e_ => (hk_.1.1.2.2.1) e_))) (fun k_ hk_ => ⟨hk_.1.1.1.1, hk_.1.1.1.2.1, hk_.1.1.1.2.2.1, hk_.1.1.1.2.2.2.1, hk_.1.1.1.2.2.2.2, hk_.1.1.2, hk_.1.2⟩)); replace HO_718002 := am (Kd.Q_mono (ok' := fun k_ => some k_ ≠ (.slice Ao24 t682.length co24 : Value).ownBlock ∧ some k_ ≠ (.slice Ao25 t685.length co25 : Value).ownBlock ∧ some k_ ≠ (.slice Ao32 t695.length co32 : Value).ownBlock ∧ some k_ ≠ (.slice Ao33 t698.length co33 : Value).ownBlock ∧ some k_ ≠ (.slice Ao41 t710.length co41 : Value).ownBlock ∧ some k_ ≠ (.slice Ao60 t721.length co60 : Value).ownBlock ∧ some k_ ≠ (.slice Ao61 t724.length co61 : Value).ownBlock) (Kd.Q_keptB (HO_718002.out) hkp (fun k_ hk_ hs_ => Or.elim hs_ (fun e_ => (hk_.1.1.2.2.1) e_) (fun e_ => (hk_.1.1.2.2.2.1) e_))) (fun k_ hk_ => ⟨hk_.1.1.1.1, hk_.1.1.1.2.1, hk_.1.1.1.2.2.1, hk_.1.1.1.2.2.2.1, hk_.1.1.1.2.2.2.2, hk_.1.1.2, hk_.1.2⟩)); replace HO_718003 := am (Kd.Q_mono (ok' := fun k_ => some k_ ≠ (.slice Ao24 t682.length co24 : Value).ownBlock ∧ some k_ ≠ (.slice Ao25 t685.length co25 : Value).ownBlock ∧ some k_ ≠ (.slice Ao32 t695.length co32 : Value).ownBlock ∧ some k_ ≠ (.slice Ao33 t698.length co33 : Value).ownBlock ∧ some k_ ≠ (.slice Ao40 t707.length co40 : Value).ownBlock ∧ some k_ ≠ (.slice Ao60 t721.length co60 : Value).ownBlock ∧ some k_ ≠ (.slice Ao61 t724.length co61 : Value).ownBlock) (Kd.Q_keptB (HO_718003.out) hkp (fun k_ hk_ hs_ => Or.elim hs_ (fun e_ => (hk_.1.1.2.2.1) e_) (fun e_ => (hk_.1.1.2.2.2.1) e_))) (fun k_ hk_ => ⟨hk_.1.1.1.1, hk_.1.1.1.2.1, hk_.1.1.1.2.2.1, hk_.1.1.1.2.2.2.1, hk_.1.1.1.2.2.2.2, hk_.1.1.2, hk_.1.2⟩)); replace BK667 := am (blk_kept (pkK BK667.out) hkp (fun hs_ => Or.elim hs_ (fun e_ => (fun e_ => (Kd.Q_ne HO_705002.out BK667.out (by decide)) e_) e_) (fun e_ => (fun e_ => (Kd.Q_ne HO_705003.out BK667.out (by decide)) e_) e_))); replace BK692 := am (blk_kept (pkK BK692.out) hkp (fun hs_ => Or.elim hs_ (fun e_ => (fun e_ => (Kd.Q_ne HO_705002.out BK692.out (by decide)) e_) e_) (fun e_ => (fun e_ => (Kd.Q_ne HO_705003.out BK692.out (by decide)) e_) e_))); replace BK704 := am (blk_kept (pkK BK704.out) hkp (fun hs_ => Or.elim hs_ (fun e_ => (fun e_ => (Kd.Q_ne HO_705002.out BK704.out (by decide)) e_) e_) (fun e_ => (fun e_ => (Kd.Q_ne HO_705003.out BK704.out (by decide)) e_) e_))); replace BK717 := am (blk_kept (pkK BK717.out) hkp (fun hs_ => Or.elim hs_ (fun e_ => (fun e_ => (Kd.Q_ne HO_705002.out BK717.out (by decide)) e_) e_) (fun e_ => (fun e_ => (Kd.Q_ne HO_705003.out BK717.out (by decide)) e_) e_))); replace HO_705002 := am (Kd.Q_reok rfl hy0 (fun k_ e_ => HO_705002.out.1 k_ e_)); replace HO_705003 := am (Kd.Q_reok rfl hy1 (fun k_ e_ => HO_705003.out.1 k_ e_)); replace HO723 := am (Kd.R_mono (ok' := fun k_ => some k_ ≠ (.slice Ao24 t682.length co24 : Value).ownBlock ∧ some k_ ≠ (.slice Ao25 t685.length co25 : Value).ownBlock ∧ some k_ ≠ (.slice Ao32 t695.length co32 : Value).ownBlock ∧ some k_ ≠ (.slice Ao33 t698.length co33 : Value).ownBlock ∧ some k_ ≠ (.slice Ao40 t707.length co40 : Value).ownBlock ∧ some k_ ≠ (.slice Ao41 t710.length co41 : Value).ownBlock ∧ some k_ ≠ (.slice Ao61 t724.length co61 : Value).ownBlock) (Kd.R_keptB (HO723.out) hkp (fun k_ hk_ hs_ => Or.elim hs_ (fun e_ => (hk_.1.1.1.2) e_) (fun e_ => (hk_.1.1.2) e_))) (fun k_ hk_ => ⟨hk_.1.1.1.1.1.1.2, hk_.1.1.1.1.1.2, hk_.1.1.1.1.2, hk_.1.1.1.2, hk_.1.1.2, hk_.1.2, hk_.1.1.1.1.1.1.1⟩)); replace HO726 := am (Kd.R_mono (ok' := fun k_ => some k_ ≠ (.slice Ao24 t682.length co24 : Value).ownBlock ∧ some k_ ≠ (.slice Ao25 t685.length co25 : Value).ownBlock ∧ some k_ ≠ (.slice Ao32 t695.length co32 : Value).ownBlock ∧ some k_ ≠ (.slice Ao33 t698.length co33 : Value).ownBlock ∧ some k_ ≠ (.slice Ao40 t707.length co40 : Value).ownBlock ∧ some k_ ≠ (.slice Ao41 t710.length co41 : Value).ownBlock ∧ some k_ ≠ (.slice Ao60 t721.length co60 : Value).ownBlock) (Kd.R_keptB (HO726.out) hkp (fun k_ hk_ hs_ => Or.elim hs_ (fun e_ => (hk_.1.1.1.2) e_) (fun e_ => (hk_.1.1.2) e_))) (fun k_ hk_ => ⟨hk_.1.1.1.1.1.1.2, hk_.1.1.1.1.1.2, hk_.1.1.1.1.2, hk_.1.1.1.2, hk_.1.1.2, hk_.1.2, hk_.1.1.1.1.1.1.1⟩)); replace HB := am (hb); (try clear hb); (try clear hkp); (try clear hy0); (try clear hy1)))
      (try simp only [Act.put, List.setIfInBounds_toArray, List.set_cons_zero, List.set_cons_succ])
      go_cut [65] (fun v65 wc => ∃ (kq : Nat) (x65_56 : Bool), v65 = .bool x65_56 ∧ Aside0 (laws_FnExactGoOn.j1 kq a1 t691 x65_56 a0_0 a0_1 l0_2 l0_3 a0_4 a0_5 a0_6 t680 t681 t682 t685 t688 t689 t690 t705 t706 t707 t710 t713 t714 t715 = some r) ∧ Aside0 (kq ≤ kj11) ∧ Aside0 (Kd.R (Kd.int .i64) 3 wc w.heap.size (fun k_ => some k_ ≠ ((.slice Ao25 t685.length co25) : Value).ownBlock ∧ some k_ ≠ ((.slice Ao32 t695.length co32) : Value).ownBlock ∧ some k_ ≠ ((.slice Ao33 t698.length co33) : Value).ownBlock ∧ some k_ ≠ ((.slice Ao40 t707.length co40) : Value).ownBlock ∧ some k_ ≠ ((.slice Ao41 t710.length co41) : Value).ownBlock) (.slice Ao24 t682.length co24) t682) ∧ Aside0 (Kd.R (Kd.int .i64) 3 wc w.heap.size (fun k_ => some k_ ≠ ((.slice Ao24 t682.length co24) : Value).ownBlock ∧ some k_ ≠ ((.slice Ao32 t695.length co32) : Value).ownBlock ∧ some k_ ≠ ((.slice Ao33 t698.length co33) : Value).ownBlock ∧ some k_ ≠ ((.slice Ao40 t707.length co40) : Value).ownBlock ∧ some k_ ≠ ((.slice Ao41 t710.length co41) : Value).ownBlock) (.slice Ao25 t685.length co25) t685) ∧ Aside0 (Kd.Q (Kd.int .i64) 3 wc w.heap.size (fun k_ => some k_ ≠ ((.slice Ao24 t682.length co24) : Value).ownBlock ∧ some k_ ≠ ((.slice Ao25 t685.length co25) : Value).ownBlock ∧ some k_ ≠ ((.slice Ao33 t698.length co33) : Value).ownBlock ∧ some k_ ≠ ((.slice Ao40 t707.length co40) : Value).ownBlock ∧ some k_ ≠ ((.slice Ao41 t710.length co41) : Value).ownBlock) (.slice Ao32 t695.length co32) t732) ∧ Aside0 (Kd.Q (Kd.int .i64) 3 wc w.heap.size (fun k_ => some k_ ≠ ((.slice Ao24 t682.length co24) : Value).ownBlock ∧ some k_ ≠ ((.slice Ao25 t685.length co25) : Value).ownBlock ∧ some k_ ≠ ((.slice Ao32 t695.length co32) : Value).ownBlock ∧ some k_ ≠ ((.slice Ao40 t707.length co40) : Value).ownBlock ∧ some k_ ≠ ((.slice Ao41 t710.length co41) : Value).ownBlock) (.slice Ao33 t698.length co33) t733) ∧ Aside0 (Kd.Q (Kd.int .i64) 3 wc w.heap.size (fun k_ => some k_ ≠ ((.slice Ao24 t682.length co24) : Value).ownBlock ∧ some k_ ≠ ((.slice Ao25 t685.length co25) : Value).ownBlock ∧ some k_ ≠ ((.slice Ao32 t695.length co32) : Value).ownBlock ∧ some k_ ≠ ((.slice Ao33 t698.length co33) : Value).ownBlock ∧ some k_ ≠ ((.slice Ao41 t710.length co41) : Value).ownBlock) (.slice Ao40 t707.length co40) t707) ∧ Aside0 (Kd.Q (Kd.int .i64) 3 wc w.heap.size (fun k_ => some k_ ≠ ((.slice Ao24 t682.length co24) : Value).ownBlock ∧ some k_ ≠ ((.slice Ao25 t685.length co25) : Value).ownBlock ∧ some k_ ≠ ((.slice Ao32 t695.length co32) : Value).ownBlock ∧ some k_ ≠ ((.slice Ao33 t698.length co33) : Value).ownBlock ∧ some k_ ≠ ((.slice Ao40 t707.length co40) : Value).ownBlock) (.slice Ao41 t710.length co41) t710) ∧ Aside0 (wc.heap[gb667]? = some (.cells #[.bool a0_0, .bool a0_1, (.slice A0_2 l0_2.length c0_2), (.slice A0_3 l0_3.length c0_3), .int .i64 a0_4, .int .i64 a0_5, .int .i64 a0_6] 24 (0, 0))) ∧ Aside0 (wc.heap[gb692]? = some (.cells #[.bool t680, .bool t681, (.slice Ao24 t682.length co24), (.slice Ao25 t685.length co25), .int .i64 t688, .int .i64 t689, .int .i64 t690] 27 (0, 0))) ∧ Aside0 (wc.heap[gb704]? = some (.cells #[.bool t693, .bool t694, (.slice Ao32 t695.length co32), (.slice Ao33 t698.length co33), .int .i64 t701, .int .i64 t702, .int .i64 t703] 27 (0, 0))) ∧ Aside0 (wc.heap[gb717]? = some (.cells #[.bool t705, .bool t706, (.slice Ao40 t707.length co40), (.slice Ao41 t710.length co41), .int .i64 t713, .int .i64 t714, .int .i64 t715] 27 (0, 0))) ∧ Aside0 (Below w.heap.size w wc))
      case first =>
       have H := HC57.out
       clear HC57
       by_cases c68 : t731 < 0
       ·rw [if_pos c68] at H
        have c68b0 : decide (t731 < 0) = true := decide_eq_true c68
        clear c68
        (first | rw [c68b0] | (simp only [i64_w, i32_w]; rw [c68b0]) | skip)
        cases kj11 with
        | zero => exact absurd H (by simp [laws_FnExactGoOn.j1])
        | succ k_ => (simp only [laws_FnExactGoOn.j1, if_pos] at H; exact absurd (Option.some.inj H) (by rw [HQ_.out]; simp))
       ·rw [if_neg c68] at H
        have c68b0 : decide (t731 < 0) = false := decide_eq_false c68
        clear c68
        (first | rw [c68b0] | (simp only [i64_w, i32_w]; rw [c68b0]) | skip)
        replace H := Option.bind_eq_some_iff.mp H
        obtain ⟨t734, A690, H⟩ := H
        replace H : (if t734 = true then (laws_FnExactGoOn.j1 kj11 a1 t691 (t716 != t691) a0_0 a0_1 l0_2 l0_3 a0_4 a0_5 a0_6 t680 t681 t682 t685 t688 t689 t690 t705 t706 t707 t710 t713 t714 t715) else (laws_FnExactGoOn.j1 kj11 a1 t691 true a0_0 a0_1 l0_2 l0_3 a0_4 a0_5 a0_6 t680 t681 t682 t685 t688 t689 t690 t705 t706 t707 t710 t713 t714 t715)) = some r := H
        have A69 := am A690
        clear A690
        by_cases c70 : t734 = true
        ·subst c70
         replace H : (laws_FnExactGoOn.j1 kj11 a1 t691 (t716 != t691) a0_0 a0_1 l0_2 l0_3 a0_4 a0_5 a0_6 t680 t681 t682 t685 t688 t689 t690 t705 t706 t707 t710 t713 t714 t715) = some r := by rw [if_pos rfl] at H; exact H
         have H' := am H
         clear H
         have hnb71 := NB717_667.out
         have hnc71 := NB667_717.out
         have hnb72 := NB717_692.out
         have hnc72 := NB692_717.out
         have hnb73 := NB717_704.out
         have hnc73 := NB704_717.out
         obtain ⟨hcz74_0, hcz74_1, hcz74_2, hcz74_3, hcz74_4, hcz74_5, hcz74_6, hfz74_0, hfz74_1, hfz74_2, hfz74_3, hfz74_4, hfz74_5, hfz74_6⟩ := bk7 BK717.out
         have hnb75 := NB692_667.out
         have hnc75 := NB667_692.out
         have hnb76 := NB692_704.out
         have hnc76 := NB704_692.out
         obtain ⟨hcz77_0, hcz77_1, hcz77_2, hcz77_3, hcz77_4, hcz77_5, hcz77_6, hfz77_0, hfz77_1, hfz77_2, hfz77_3, hfz77_4, hfz77_5, hfz77_6⟩ := bk7 BK692.out
         go_wp2_with (first | (go_at_call 18; (with_reducible refine (laws_eqEvent.calls kj11 t705 t706 _ _ t707 _ _ t710 t713 t714 t715 t680 t681 _ _ t682 _ _ t685 t688 t689 t690 true _ ?side1 ?side2 ?side3 ?side4 ?side5 ?side6 ?side7 ?side8 A69.out).mono ?_); (case side1 => repeat (first | exact (Kd.Q_reads' HO_718002.out).2.2 | (with_reducible refine Kd.C_alloc ?_ _) | (with_reducible refine Kd.C_drewN ?_ _) | (with_reducible refine Kd.C_drew ?_))); (case side2 => exact (Kd.Q_reads' HO_718002.out).2.1); (case side3 => repeat (first | exact (Kd.Q_reads' HO_718003.out).2.2 | (with_reducible refine Kd.C_alloc ?_ _) | (with_reducible refine Kd.C_drewN ?_ _) | (with_reducible refine Kd.C_drew ?_))); (case side4 => exact (Kd.Q_reads' HO_718003.out).2.1); (case side5 => exact pkC (Kd.R_reads' HO_693002.out).2.2); (case side6 => exact (Kd.R_reads' HO_693002.out).2.1); (case side7 => exact pkC (Kd.R_reads' HO_693003.out).2.2); (case side8 => exact (Kd.R_reads' HO_693003.out).2.1); rintro e w78 ⟨rfl, hb⟩; replace HO_693002 := am (Kd.R_below (pkR HO_693002.out) hb); replace HO_693003 := am (Kd.R_below (pkR HO_693003.out) hb); replace HO_705002 := am (Kd.Q_below (pkQ HO_705002.out) hb); replace HO_705003 := am (Kd.Q_below (pkQ HO_705003.out) hb); replace HO_718002 := am (Kd.Q_below (pkQ HO_718002.out) hb); replace HO_718003 := am (Kd.Q_below (pkQ HO_718003.out) hb); replace HO723 := am (Kd.R_below (pkR HO723.out) hb); replace HO726 := am (Kd.R_below (pkR HO726.out) hb); replace BK667 := am (blk_below (pkK BK667.out) hb); replace BK692 := am (blk_below (pkK BK692.out) hb); replace BK704 := am (blk_below (pkK BK704.out) hb); replace BK717 := am (blk_below (pkK BK717.out) hb); replace HB := am (below_step (pkW HB.out) hb); (try clear hb)))
         go_meet
         case rel => exact ⟨_, ((t716 != t691)), rfx, H', ⟨by have := HJ11.out; first | omega | exact Nat.le_refl _⟩, ⟨by (with_reducible repeat (first | apply Kd.R_alloc | apply Kd.R_drewN | apply Kd.R_drew)); exact Kd.R_mono HO_693002.out (fun _ hk => ⟨hk.1, ⟨hk.2.1, ⟨hk.2.2.1, ⟨hk.2.2.2.1, hk.2.2.2.2.1⟩⟩⟩⟩)⟩, ⟨by (with_reducible repeat (first | apply Kd.R_alloc | apply Kd.R_drewN | apply Kd.R_drew)); exact Kd.R_mono HO_693003.out (fun _ hk => ⟨hk.1, ⟨hk.2.1, ⟨hk.2.2.1, ⟨hk.2.2.2.1, hk.2.2.2.2.1⟩⟩⟩⟩)⟩, ⟨by (with_reducible repeat (first | apply Kd.Q_alloc | apply Kd.Q_drewN | apply Kd.Q_drew)); exact Kd.Q_mono HO_705002.out (fun _ hk => ⟨hk.1.1.1, ⟨hk.1.1.2.1, ⟨hk.1.1.2.2.1, ⟨hk.1.1.2.2.2.1, hk.1.1.2.2.2.2⟩⟩⟩⟩)⟩, ⟨by (with_reducible repeat (first | apply Kd.Q_alloc | apply Kd.Q_drewN | apply Kd.Q_drew)); exact Kd.Q_mono HO_705003.out (fun _ hk => ⟨hk.1.1.1, ⟨hk.1.1.2.1, ⟨hk.1.1.2.2.1, ⟨hk.1.1.2.2.2.1, hk.1.1.2.2.2.2⟩⟩⟩⟩)⟩, ⟨by (with_reducible repeat (first | apply Kd.Q_alloc | apply Kd.Q_drewN | apply Kd.Q_drew)); exact Kd.Q_mono HO_718002.out (fun _ hk => ⟨hk.1, ⟨hk.2.1, ⟨hk.2.2.1, ⟨hk.2.2.2.1, hk.2.2.2.2.1⟩⟩⟩⟩)⟩, ⟨by (with_reducible repeat (first | apply Kd.Q_alloc | apply Kd.Q_drewN | apply Kd.Q_drew)); exact Kd.Q_mono HO_718003.out (fun _ hk => ⟨hk.1, ⟨hk.2.1, ⟨hk.2.2.1, ⟨hk.2.2.2.1, hk.2.2.2.2.1⟩⟩⟩⟩)⟩, ⟨pkK BK667.out⟩, ⟨pkK BK692.out⟩, ⟨pkK BK704.out⟩, ⟨pkK BK717.out⟩, ⟨pkW HB.out⟩⟩
        ·replace c70 := Bool.eq_false_iff.mpr c70
         subst c70
         replace H : (laws_FnExactGoOn.j1 kj11 a1 t691 true a0_0 a0_1 l0_2 l0_3 a0_4 a0_5 a0_6 t680 t681 t682 t685 t688 t689 t690 t705 t706 t707 t710 t713 t714 t715) = some r := by rw [if_neg (show ¬ (false = true) by decide)] at H; exact H
         cases kj11 with
         | zero => exact absurd H (by simp [laws_FnExactGoOn.j1])
         | succ k_ => (simp only [laws_FnExactGoOn.j1, if_pos] at H; exact absurd (Option.some.inj H) (by rw [HQ_.out]; simp))
      case rest =>
       clear HC57
       try clear c1
       try clear c2
       try clear p2
       try clear c3
       try clear c4
       try clear c4b0
       try clear c5
       try clear c6
       try clear c7
       try clear c14
       try clear c16
       try clear c18
       try clear c22
       try clear c26
       try clear c29
       try clear c30
       try clear c31
       try clear c36
       try clear c37
       try clear c38
       try clear c43
       try clear c44
       try clear c45
       try clear c46
       try clear c48
       try clear c49
       try clear c52
       try clear c55
       try clear c63
       try clear c64
       try clear c65
       try clear c68
       try clear c68b0
       try clear c70
       try clear c71
       try clear c72
       try clear c73
       try clear c75
       try clear c76
       try clear hcz14_0
       try clear hcz14_1
       try clear hcz14_2
       try clear hcz14_3
       try clear hcz14_4
       try clear hcz14_5
       try clear hcz14_6
       try clear hcz16_0
       try clear hcz16_1
       try clear hcz16_2
       try clear hcz16_3
       try clear hcz16_4
       try clear hcz16_5
       try clear hcz16_6
       try clear hcz23_0
       try clear hcz23_1
       try clear hcz23_2
       try clear hcz23_3
       try clear hcz23_4
       try clear hcz23_5
       try clear hcz23_6
       try clear hcz26_0
       try clear hcz26_1
       try clear hcz26_2
       try clear hcz26_3
       try clear hcz26_4
       try clear hcz26_5
       try clear hcz26_6
       try clear hcz31_0
       try clear hcz31_1
       try clear hcz31_2
       try clear hcz31_3
       try clear hcz31_4
       try clear hcz31_5
       try clear hcz31_6
       try clear hcz39_0
       try clear hcz39_1
       try clear hcz39_2
       try clear hcz39_3
       try clear hcz39_4
       try clear hcz39_5
       try clear hcz39_6
       try clear hcz47_0
       try clear hcz47_1
       try clear hcz47_2
       try clear hcz47_3
       try clear hcz47_4
       try clear hcz47_5
       try clear hcz47_6
       try clear hcz50_0
       try clear hcz50_1
       try clear hcz50_2
       try clear hcz50_3
       try clear hcz50_4
       try clear hcz50_5
       try clear hcz50_6
       try clear hcz66_0
       try clear hcz66_1
       try clear hcz66_2
       try clear hcz66_3
       try clear hcz66_4
       try clear hcz66_5
       try clear hcz66_6
       try clear hcz6_0
       try clear hcz6_1
       try clear hcz6_2
       try clear hcz6_3
       try clear hcz6_4
       try clear hcz6_5
       try clear hcz6_6
       try clear hcz74_0
       try clear hcz74_1
       try clear hcz74_2
       try clear hcz74_3
       try clear hcz74_4
       try clear hcz74_5
       try clear hcz74_6
       try clear hcz77_0
       try clear hcz77_1
       try clear hcz77_2
       try clear hcz77_3
       try clear hcz77_4
       try clear hcz77_5
       try clear hcz77_6
       try clear hfz14_0
       try clear hfz14_1
       try clear hfz14_2
       try clear hfz14_3
       try clear hfz14_4
       try clear hfz14_5
       try clear hfz14_6
       try clear hfz16_0
       try clear hfz16_1
       try clear hfz16_2
       try clear hfz16_3
       try clear hfz16_4
       try clear hfz16_5
       try clear hfz16_6
       try clear hfz23_0
       try clear hfz23_1
       try clear hfz23_2
       try clear hfz23_3
       try clear hfz23_4
       try clear hfz23_5
       try clear hfz23_6
       try clear hfz26_0
       try clear hfz26_1
       try clear hfz26_2
       try clear hfz26_3
       try clear hfz26_4
       try clear hfz26_5
       try clear hfz26_6
       try clear hfz31_0
       try clear hfz31_1
       try clear hfz31_2
       try clear hfz31_3
       try clear hfz31_4
       try clear hfz31_5
       try clear hfz31_6
       try clear hfz39_0
       try clear hfz39_1
       try clear hfz39_2
       try clear hfz39_3
       try clear hfz39_4
       try clear hfz39_5
       try clear hfz39_6
       try clear hfz47_0
       try clear hfz47_1
       try clear hfz47_2
       try clear hfz47_3
       try clear hfz47_4
       try clear hfz47_5
       try clear hfz47_6
       try clear hfz50_0
       try clear hfz50_1
       try clear hfz50_2
       try clear hfz50_3
       try clear hfz50_4
       try clear hfz50_5
       try clear hfz50_6
       try clear hfz66_0
       try clear hfz66_1
       try clear hfz66_2
       try clear hfz66_3
       try clear hfz66_4
       try clear hfz66_5
       try clear hfz66_6
       try clear hfz6_0
       try clear hfz6_1
       try clear hfz6_2
       try clear hfz6_3
       try clear hfz6_4
       try clear hfz6_5
       try clear hfz6_6
       try clear hfz74_0
       try clear hfz74_1
       try clear hfz74_2
       try clear hfz74_3
       try clear hfz74_4
       try clear hfz74_5
       try clear hfz74_6
       try clear hfz77_0
       try clear hfz77_1
       try clear hfz77_2
       try clear hfz77_3
       try clear hfz77_4
       try clear hfz77_5
       try clear hfz77_6
       try clear p2
       obtain ⟨kq, x65_56, rfl, HA, HJ56, HO_693002, HO_693003, HO_705002, HO_705003, HO_718002, HO_718003, BK667, BK692, BK704, BK717, HB⟩ := hcut
       have hl705002_56 := (Kd.Q_reads' HO_705002.out).1
       rw [hl705002_56] at HO_705002
       (try simp only [hl705002_56])
       (try simp only [hl705002_56] at BK667)
       (try simp only [hl705002_56] at BK692)
       (try simp only [hl705002_56] at BK704)
       (try simp only [hl705002_56] at BK717)
       (try simp only [hl705002_56] at HO_693002)
       (try simp only [hl705002_56] at HO_693003)
       (try simp only [hl705002_56] at HO_705003)
       (try simp only [hl705002_56] at HO_718002)
       (try simp only [hl705002_56] at HO_718003)
       have hl705003_56 := (Kd.Q_reads' HO_705003.out).1
       rw [hl705003_56] at HO_705003
       (try simp only [hl705003_56])
       (try simp only [hl705003_56] at BK667)
       (try simp only [hl705003_56] at BK692)
       (try simp only [hl705003_56] at BK704)
       (try simp only [hl705003_56] at BK717)
       (try simp only [hl705003_56] at HO_693002)
       (try simp only [hl705003_56] at HO_693003)
       (try simp only [hl705003_56] at HO_705002)
       (try simp only [hl705003_56] at HO_718002)
       (try simp only [hl705003_56] at HO_718003)
       cases kq with
       | zero => exact absurd HA.out (by simp [laws_FnExactGoOn.j1])
       | succ kj56 =>
        have H := HA.out
        clear HA
        simp only [laws_FnExactGoOn.j1] at H
        by_cases c79 : x65_56 = true
        ·subst c79
         replace H : (some false) = some r := by rw [if_pos rfl] at H; exact H
         exact absurd (Option.some.inj H) (by rw [HQ_.out]; simp)
        ·replace c79 := Bool.eq_false_iff.mpr c79
         subst c79
         replace H : ((laws_markEvent.f kj56 t705 t706 t707 t710 t713 t714 t715 1).bind fun bt735 => ((laws_heldEvent.f kj56 t705 t706 bt735.2.1 bt735.2.2 t713 t714 t715 1).bind fun t738 => (if t738 < 0 then (some false) else (if t738 = bt735.1 then ((laws_toEvent.f kj56 a0_0 a0_1 l0_2 l0_3 a0_4 a0_5 a0_6).bind fun bt739 => ((impl_GoOn.f kj56 bt739.1 bt739.2.1 bt739.2.2.1 bt739.2.2.2.1 bt739.2.2.2.2.1 bt739.2.2.2.2.2.1 bt739.2.2.2.2.2.2 a1).bind fun bt750 => ((laws_eqEvent.f kj56 bt750.1 bt750.2.1 bt750.2.2.1 bt750.2.2.2.1 bt750.2.2.2.2.1 bt750.2.2.2.2.2.1 bt750.2.2.2.2.2.2.1 t680 t681 t682 t685 t688 t689 t690).bind fun t763 => (if t763 = true then (laws_FnExactGoOn.j2 kj56 bt735.1 (bt750.2.2.2.2.2.2.2 != t691) t705 t706 bt735.2.1 bt735.2.2 t713 t714 t715) else (laws_FnExactGoOn.j2 kj56 bt735.1 true t705 t706 bt735.2.1 bt735.2.2 t713 t714 t715))))) else (some false))))) = some r := by rw [if_neg (show ¬ (false = true) by decide)] at H; exact H
         replace H := Option.bind_eq_some_iff.mp H
         obtain ⟨⟨t735, t736, t737⟩, A800, H⟩ := H
         replace H : ((laws_heldEvent.f kj56 t705 t706 t736 t737 t713 t714 t715 1).bind fun t738 => (if t738 < 0 then (some false) else (if t738 = t735 then ((laws_toEvent.f kj56 a0_0 a0_1 l0_2 l0_3 a0_4 a0_5 a0_6).bind fun bt739 => ((impl_GoOn.f kj56 bt739.1 bt739.2.1 bt739.2.2.1 bt739.2.2.2.1 bt739.2.2.2.2.1 bt739.2.2.2.2.2.1 bt739.2.2.2.2.2.2 a1).bind fun bt750 => ((laws_eqEvent.f kj56 bt750.1 bt750.2.1 bt750.2.2.1 bt750.2.2.2.1 bt750.2.2.2.2.1 bt750.2.2.2.2.2.1 bt750.2.2.2.2.2.2.1 t680 t681 t682 t685 t688 t689 t690).bind fun t763 => (if t763 = true then (laws_FnExactGoOn.j2 kj56 t735 (bt750.2.2.2.2.2.2.2 != t691) t705 t706 t736 t737 t713 t714 t715) else (laws_FnExactGoOn.j2 kj56 t735 true t705 t706 t736 t737 t713 t714 t715))))) else (some false)))) = some r := H
         have A80 := am A800
         clear A800
         replace H := Option.bind_eq_some_iff.mp H
         obtain ⟨t738, A810, H⟩ := H
         replace H : (if t738 < 0 then (some false) else (if t738 = t735 then ((laws_toEvent.f kj56 a0_0 a0_1 l0_2 l0_3 a0_4 a0_5 a0_6).bind fun bt739 => ((impl_GoOn.f kj56 bt739.1 bt739.2.1 bt739.2.2.1 bt739.2.2.2.1 bt739.2.2.2.2.1 bt739.2.2.2.2.2.1 bt739.2.2.2.2.2.2 a1).bind fun bt750 => ((laws_eqEvent.f kj56 bt750.1 bt750.2.1 bt750.2.2.1 bt750.2.2.2.1 bt750.2.2.2.2.1 bt750.2.2.2.2.2.1 bt750.2.2.2.2.2.2.1 t680 t681 t682 t685 t688 t689 t690).bind fun t763 => (if t763 = true then (laws_FnExactGoOn.j2 kj56 t735 (bt750.2.2.2.2.2.2.2 != t691) t705 t706 t736 t737 t713 t714 t715) else (laws_FnExactGoOn.j2 kj56 t735 true t705 t706 t736 t737 t713 t714 t715))))) else (some false))) = some r := H
         have A81 := am A810
         clear A810
         by_cases c82 : t738 < 0
         ·rw [if_pos c82] at H
          have c82b0 : decide (t738 < 0) = true := decide_eq_true c82
          clear c82
          exact absurd (Option.some.inj H) (by rw [HQ_.out]; simp)
         ·rw [if_neg c82] at H
          have c82b0 : decide (t738 < 0) = false := decide_eq_false c82
          clear c82
          by_cases c83 : t738 = t735
          ·rw [if_pos c83] at H
           have c83b0 : (t738 == t735) = true := beq_iff_eq.mpr c83
           have c83b1 : (t738 != t735) = false := bne_eq_false_iff_eq.mpr c83
           clear c83
           replace H := Option.bind_eq_some_iff.mp H
           obtain ⟨⟨t739, t740, t741, t744, t747, t748, t749⟩, A840, H⟩ := H
           replace H : ((impl_GoOn.f kj56 t739 t740 t741 t744 t747 t748 t749 a1).bind fun bt750 => ((laws_eqEvent.f kj56 bt750.1 bt750.2.1 bt750.2.2.1 bt750.2.2.2.1 bt750.2.2.2.2.1 bt750.2.2.2.2.2.1 bt750.2.2.2.2.2.2.1 t680 t681 t682 t685 t688 t689 t690).bind fun t763 => (if t763 = true then (laws_FnExactGoOn.j2 kj56 t735 (bt750.2.2.2.2.2.2.2 != t691) t705 t706 t736 t737 t713 t714 t715) else (laws_FnExactGoOn.j2 kj56 t735 true t705 t706 t736 t737 t713 t714 t715)))) = some r := H
           have A84 := am A840
           clear A840
           replace H := Option.bind_eq_some_iff.mp H
           obtain ⟨⟨t750, t751, t752, t755, t758, t759, t760, t761⟩, A850, H⟩ := H
           replace H : ((laws_eqEvent.f kj56 t750 t751 t752 t755 t758 t759 t760 t680 t681 t682 t685 t688 t689 t690).bind fun t763 => (if t763 = true then (laws_FnExactGoOn.j2 kj56 t735 (t761 != t691) t705 t706 t736 t737 t713 t714 t715) else (laws_FnExactGoOn.j2 kj56 t735 true t705 t706 t736 t737 t713 t714 t715))) = some r := H
           have A85 := am A850
           clear A850
           have HC86 := am H
           clear H
           have hnb87 := NB717_667.out
           have hnc87 := NB667_717.out
           have hnb88 := NB717_692.out
           have hnc88 := NB692_717.out
           have hnb89 := NB717_704.out
           have hnc89 := NB704_717.out
           obtain ⟨hcz90_0, hcz90_1, hcz90_2, hcz90_3, hcz90_4, hcz90_5, hcz90_6, hfz90_0, hfz90_1, hfz90_2, hfz90_3, hfz90_4, hfz90_5, hfz90_6⟩ := bk7 BK717.out
           go_upto_region 25 with (first | ((with_reducible refine gate_callee (f := 26) rfl ?_); refine goesL_ (some 68) rfl rfl Try.func26 (by kernel_rfl) rfl #[.agg #[.bool t705, .bool t706, .slice Ao40 t707.length co40, .slice Ao41 t710.length co41, .int .i64 t713, .int .i64 t714, .int .i64 t715], .int .i64 1] rfl mpx ?_; (with_reducible refine (laws_markEvent.calls kj56 t705 t706 (fun k_ => some k_ = (.slice Ao40 t707.length co40 : Value).ownBlock) (.slice Ao40 t707.length co40) t707 (fun k_ => some k_ = (.slice Ao41 t710.length co41 : Value).ownBlock) (.slice Ao41 t710.length co41) t710 t713 t714 t715 1 t735 t736 t737 w _ ?side1 ?side2 ?side3 ?side4 ?side5 A80.out).mono ?_); (case side1 => repeat (first | (with_reducible first | exact HB.out | apply below_alloc | apply pw_below_drewN | apply below_drew1 | refine below_set ?_ GE667.out | refine below_set ?_ GE692.out | refine below_set ?_ GE704.out | refine below_set ?_ GE717.out) | exact HB.out)); (case side2 => exact Kd.Q_tight rfl HO_718002.out); (case side3 => exact fun k_ e_ => (HO_718002.out.1 k_ e_.symm).2.2.2.2); (case side4 => exact Kd.Q_tight rfl HO_718003.out); (case side5 => exact fun k_ e_ => (HO_718003.out.1 k_ e_.symm).2.2.2.2); rintro e w91 ⟨rfl, hy0, hy1, hb, hkp⟩; refine ⟨_, rfl, ?_⟩; replace HO_693002 := am (Kd.R_mono (ok' := fun k_ => some k_ ≠ (.slice Ao25 t685.length co25 : Value).ownBlock ∧ some k_ ≠ (.slice Ao32 t732.length co32 : Value).ownBlock ∧ some k_ ≠ (.slice Ao33 t733.length co33 : Value).ownBlock ∧ some k_ ≠ (.slice Ao40 t707.length co40 : Value).ownBlock ∧ some k_ ≠ (.slice Ao41 t710.length co41 : Value).ownBlock) (Kd.R_keptB (HO_693002.out) hkp (fun k_ hk_ hs_ => Or.elim hs_ (fun e_ => (hk_.2.2.2.1) e_) (fun e_ => (hk_.2.2.2.2) e_))) (fun k_ hk_ => ⟨hk_.1.1, hk_.1.2.1, hk_.1.2.2.1, hk_.1.2.2.2.1, hk_.1.2.2.2.2⟩)); replace HO_693003 := am (Kd.R_mono (ok' := fun k_ => some k_ ≠ (.slice Ao24 t682.length co24 : Value).ownBlock ∧ some k_ ≠ (.slice Ao32 t732.length co32 : Value).ownBlock ∧ some k_ ≠ (.slice Ao33 t733.length co33 : Value).ownBlock ∧ some k_ ≠ (.slice Ao40 t707.length co40 : Value).ownBlock ∧ some k_ ≠ (.slice Ao41 t710.length co41 : Value).ownBlock) (Kd.R_keptB (HO_693003.out) hkp (fun k_ hk_ hs_ => Or.elim hs_ (fun e_ => (hk_.2.2.2.1) e_) (fun e_ => (hk_.2.2.2.2) e_))) (fun k_ hk_ => ⟨hk_.1.1, hk_.1.2.1, hk_.1.2.2.1, hk_.1.2.2.2.1, hk_.1.2.2.2.2⟩)); replace HO_705002 := am (Kd.Q_mono (ok' := fun k_ => some k_ ≠ (.slice Ao24 t682.length co24 : Value).ownBlock ∧ some k_ ≠ (.slice Ao25 t685.length co25 : Value).ownBlock ∧ some k_ ≠ (.slice Ao33 t733.length co33 : Value).ownBlock ∧ some k_ ≠ (.slice Ao40 t707.length co40 : Value).ownBlock ∧ some k_ ≠ (.slice Ao41 t710.length co41 : Value).ownBlock) (Kd.Q_keptB (HO_705002.out) hkp (fun k_ hk_ hs_ => Or.elim hs_ (fun e_ => (hk_.2.2.2.1) e_) (fun e_ => (hk_.2.2.2.2) e_))) (fun k_ hk_ => ⟨hk_.1.1, hk_.1.2.1, hk_.1.2.2.1, hk_.1.2.2.2.1, hk_.1.2.2.2.2⟩)); replace HO_705003 := am (Kd.Q_mono (ok' := fun k_ => some k_ ≠ (.slice Ao24 t682.length co24 : Value).ownBlock ∧ some k_ ≠ (.slice Ao25 t685.length co25 : Value).ownBlock ∧ some k_ ≠ (.slice Ao32 t732.length co32 : Value).ownBlock ∧ some k_ ≠ (.slice Ao40 t707.length co40 : Value).ownBlock ∧ some k_ ≠ (.slice Ao41 t710.length co41 : Value).ownBlock) (Kd.Q_keptB (HO_705003.out) hkp (fun k_ hk_ hs_ => Or.elim hs_ (fun e_ => (hk_.2.2.2.1) e_) (fun e_ => (hk_.2.2.2.2) e_))) (fun k_ hk_ => ⟨hk_.1.1, hk_.1.2.1, hk_.1.2.2.1, hk_.1.2.2.2.1, hk_.1.2.2.2.2⟩)); replace BK667 := am (blk_kept (pkK BK667.out) hkp (fun hs_ => Or.elim hs_ (fun e_ => (fun e_ => (Kd.Q_ne HO_718002.out BK667.out (by decide)) e_) e_) (fun e_ => (fun e_ => (Kd.Q_ne HO_718003.out BK667.out (by decide)) e_) e_))); replace BK692 := am (blk_kept (pkK BK692.out) hkp (fun hs_ => Or.elim hs_ (fun e_ => (fun e_ => (Kd.Q_ne HO_718002.out BK692.out (by decide)) e_) e_) (fun e_ => (fun e_ => (Kd.Q_ne HO_718003.out BK692.out (by decide)) e_) e_))); replace BK704 := am (blk_kept (pkK BK704.out) hkp (fun hs_ => Or.elim hs_ (fun e_ => (fun e_ => (Kd.Q_ne HO_718002.out BK704.out (by decide)) e_) e_) (fun e_ => (fun e_ => (Kd.Q_ne HO_718003.out BK704.out (by decide)) e_) e_))); replace BK717 := am (blk_kept (pkK BK717.out) hkp (fun hs_ => Or.elim hs_ (fun e_ => (fun e_ => (Kd.Q_ne HO_718002.out BK717.out (by decide)) e_) e_) (fun e_ => (fun e_ => (Kd.Q_ne HO_718003.out BK717.out (by decide)) e_) e_))); replace HO_718002 := am (Kd.Q_reok rfl hy0 (fun k_ e_ => HO_718002.out.1 k_ e_)); replace HO_718003 := am (Kd.Q_reok rfl hy1 (fun k_ e_ => HO_718003.out.1 k_ e_)); replace HB := am (hb); (try clear hb); (try clear hkp); (try clear hy0); (try clear hy1); obtain ⟨hcz92_0, hcz92_1, hcz92_2, hcz92_3, hcz92_4, hcz92_5, hcz92_6, hfz92_0, hfz92_1, hfz92_2, hfz92_3, hfz92_4, hfz92_5, hfz92_6⟩ := bk7 BK717.out) | ((with_reducible refine gate_callee (f := 27) rfl ?_); refine goesL_ (some 71) rfl rfl Try.func27 (by kernel_rfl) rfl #[.agg #[.bool t705, .bool t706, .slice Ao40 t736.length co40, .slice Ao41 t737.length co41, .int .i64 t713, .int .i64 t714, .int .i64 t715], .int .i64 1] rfl (by (try simp only [List.map_toArray, List.map_cons, List.map_nil]); first | done | (rw [show t736.length = t707.length from (Kd.Q_reads' HO_718002.out).1.symm, show t737.length = t710.length from (Kd.Q_reads' HO_718003.out).1.symm] <;> rfl) | rfl | (simp only [List.length_drop, List.length_take]; rfl) | (go_simp; done) | (simp [*]; done)) ?_; (with_reducible refine (laws_heldEvent.calls kj56 t705 t706 _ _ t736 _ _ t737 t713 t714 t715 1 t738 _ ?side1 ?side2 ?side3 ?side4 A81.out).mono ?_); (case side1 => repeat (first | exact (Kd.Q_reads' HO_718002.out).2.2 | (with_reducible refine Kd.C_alloc ?_ _) | (with_reducible refine Kd.C_drewN ?_ _) | (with_reducible refine Kd.C_drew ?_))); (case side2 => rw [show t736.length = t707.length from (Kd.Q_reads' HO_718002.out).1.symm]; exact (Kd.Q_reads' HO_718002.out).2.1); (case side3 => repeat (first | exact (Kd.Q_reads' HO_718003.out).2.2 | (with_reducible refine Kd.C_alloc ?_ _) | (with_reducible refine Kd.C_drewN ?_ _) | (with_reducible refine Kd.C_drew ?_))); (case side4 => rw [show t737.length = t710.length from (Kd.Q_reads' HO_718003.out).1.symm]; exact (Kd.Q_reads' HO_718003.out).2.1); rintro e w93 ⟨rfl, hb⟩; refine ⟨_, rfl, ?_⟩; replace HO_693002 := am (Kd.R_below (pkR HO_693002.out) hb); replace HO_693003 := am (Kd.R_below (pkR HO_693003.out) hb); replace HO_705002 := am (Kd.Q_below (pkQ HO_705002.out) hb); replace HO_705003 := am (Kd.Q_below (pkQ HO_705003.out) hb); replace HO_718002 := am (Kd.Q_below (pkQ HO_718002.out) hb); replace HO_718003 := am (Kd.Q_below (pkQ HO_718003.out) hb); replace BK667 := am (blk_below (pkK BK667.out) hb); replace BK692 := am (blk_below (pkK BK692.out) hb); replace BK704 := am (blk_below (pkK BK704.out) hb); replace BK717 := am (blk_below (pkK BK717.out) hb); replace HB := am (below_step (pkW HB.out) hb); (try clear hb); have hnb94 := NB667_692.out; have hnc94 := NB692_667.out; have hnb95 := NB667_704.out; have hnc95 := NB704_667.out; obtain ⟨hcz96_0, hcz96_1, hcz96_2, hcz96_3, hcz96_4, hcz96_5, hcz96_6, hfz96_0, hfz96_1, hfz96_2, hfz96_3, hfz96_4, hfz96_5, hfz96_6⟩ := bk7 BK667.out) | ((with_reducible refine gate_callee (f := 16) rfl ?_); refine goesL_ (some 79) rfl rfl Try.func16 (by kernel_rfl) rfl #[.agg #[.bool a0_0, .bool a0_1, .slice A0_2 l0_2.length c0_2, .slice A0_3 l0_3.length c0_3, .int .i64 a0_4, .int .i64 a0_5, .int .i64 a0_6]] rfl mpx ?_; (with_reducible refine (laws_toEvent.calls kj56 a0_0 a0_1 _ _ l0_2 _ _ l0_3 a0_4 a0_5 a0_6 t739 t740 t741 t744 t747 t748 t749 _ ?side1 ?side2 ?side3 ?side4 A84.out).mono ?_); (case side1 => exact pkC (Kd.C_below HR0_2.out HB.out)); (case side2 => exact HC0_2.out); (case side3 => exact pkC (Kd.C_below HR0_3.out HB.out)); (case side4 => exact HC0_3.out); rintro e w97 ⟨v742, v745, rfl, ho0, ho1, hb⟩; refine ⟨_, rfl, ?_⟩; have HO743 := am (Kd.R_lower (Kd.R_new' (Kd.R_new' (Kd.R_new' (Kd.R_new' (Kd.R_new' (Kd.R_new' ho0 (Kd.R_lt (pkR HO_693002.out))) (Kd.R_lt (pkR HO_693003.out))) (Kd.Q_lt (pkQ HO_705002.out))) (Kd.Q_lt (pkQ HO_705003.out))) (Kd.Q_lt (pkQ HO_718002.out))) (Kd.Q_lt (pkQ HO_718003.out))) (below_size (pkW HB.out))); have HO746 := am (Kd.R_lower (Kd.R_new' (Kd.R_new' (Kd.R_new' (Kd.R_new' (Kd.R_new' (Kd.R_new' ho1 (Kd.R_lt (pkR HO_693002.out))) (Kd.R_lt (pkR HO_693003.out))) (Kd.Q_lt (pkQ HO_705002.out))) (Kd.Q_lt (pkQ HO_705003.out))) (Kd.Q_lt (pkQ HO_718002.out))) (Kd.Q_lt (pkQ HO_718003.out))) (below_size (pkW HB.out))); replace HO_693002 := am (Kd.R_mono (Kd.R_told (Kd.R_told (Kd.R_old (pkR HO_693002.out) hb) (Kd.R_base ho0)) (Kd.R_base ho1)) (fun _ h_ => h_.1)); replace HO_693003 := am (Kd.R_mono (Kd.R_told (Kd.R_told (Kd.R_old (pkR HO_693003.out) hb) (Kd.R_base ho0)) (Kd.R_base ho1)) (fun _ h_ => h_.1)); replace HO_705002 := am (Kd.Q_mono (Kd.Q_told (Kd.Q_told (Kd.Q_old (pkQ HO_705002.out) hb) (Kd.R_base ho0)) (Kd.R_base ho1)) (fun _ h_ => h_.1)); replace HO_705003 := am (Kd.Q_mono (Kd.Q_told (Kd.Q_told (Kd.Q_old (pkQ HO_705003.out) hb) (Kd.R_base ho0)) (Kd.R_base ho1)) (fun _ h_ => h_.1)); replace HO_718002 := am (Kd.Q_mono (Kd.Q_told (Kd.Q_told (Kd.Q_old (pkQ HO_718002.out) hb) (Kd.R_base ho0)) (Kd.R_base ho1)) (fun _ h_ => h_.1)); replace HO_718003 := am (Kd.Q_mono (Kd.Q_told (Kd.Q_told (Kd.Q_old (pkQ HO_718003.out) hb) (Kd.R_base ho0)) (Kd.R_base ho1)) (fun _ h_ => h_.1)); replace BK667 := am (blk_below (pkK BK667.out) hb); replace BK692 := am (blk_below (pkK BK692.out) hb); replace BK704 := am (blk_below (pkK BK704.out) hb); replace BK717 := am (blk_below (pkK BK717.out) hb); replace HB := am (below_step (pkW HB.out) hb); (try clear hb ho0 ho1); obtain ⟨Ao98, co98, eo98⟩ := Kd.R_slice HO743.out; subst eo98; obtain ⟨Ao99, co99, eo99⟩ := Kd.R_slice HO746.out; subst eo99) | ((with_reducible refine gate_callee (f := 31) rfl ?_); refine goesL_ (some 81) rfl rfl Try.func31 (by kernel_rfl) rfl #[.agg #[.bool t739, .bool t740, .slice Ao98 t741.length co98, .slice Ao99 t744.length co99, .int .i64 t747, .int .i64 t748, .int .i64 t749], .int .i64 a1] rfl mpx ?_; (with_reducible refine (impl_GoOn.calls kj56 t739 t740 _ _ t741 _ _ t744 t747 t748 t749 a1 t750 t751 t752 t755 t758 t759 t760 t761 _ ?side1 ?side2 ?side3 ?side4 A85.out).mono ?_); (case side1 => exact pkC (Kd.R_reads' HO743.out).2.2); (case side2 => exact (Kd.R_reads' HO743.out).2.1); (case side3 => exact pkC (Kd.R_reads' HO746.out).2.2); (case side4 => exact (Kd.R_reads' HO746.out).2.1); rintro e w100 ⟨v753, v756, rfl, ho0, ho1, hb⟩; refine ⟨_, rfl, ?_⟩; have HO754 := am (Kd.R_lower (Kd.R_new' (Kd.R_new' (Kd.R_new' (Kd.R_new' (Kd.R_new' (Kd.R_new' (Kd.R_new' (Kd.R_new' ho0 (Kd.R_lt (pkR HO_693002.out))) (Kd.R_lt (pkR HO_693003.out))) (Kd.Q_lt (pkQ HO_705002.out))) (Kd.Q_lt (pkQ HO_705003.out))) (Kd.Q_lt (pkQ HO_718002.out))) (Kd.Q_lt (pkQ HO_718003.out))) (Kd.R_lt (pkR HO743.out))) (Kd.R_lt (pkR HO746.out))) (below_size (pkW HB.out))); have HO757 := am (Kd.R_lower (Kd.R_new' (Kd.R_new' (Kd.R_new' (Kd.R_new' (Kd.R_new' (Kd.R_new' (Kd.R_new' (Kd.R_new' ho1 (Kd.R_lt (pkR HO_693002.out))) (Kd.R_lt (pkR HO_693003.out))) (Kd.Q_lt (pkQ HO_705002.out))) (Kd.Q_lt (pkQ HO_705003.out))) (Kd.Q_lt (pkQ HO_718002.out))) (Kd.Q_lt (pkQ HO_718003.out))) (Kd.R_lt (pkR HO743.out))) (Kd.R_lt (pkR HO746.out))) (below_size (pkW HB.out))); replace HO_693002 := am (Kd.R_mono (Kd.R_told (Kd.R_told (Kd.R_old (pkR HO_693002.out) hb) (Kd.R_base ho0)) (Kd.R_base ho1)) (fun _ h_ => h_.1)); replace HO_693003 := am (Kd.R_mono (Kd.R_told (Kd.R_told (Kd.R_old (pkR HO_693003.out) hb) (Kd.R_base ho0)) (Kd.R_base ho1)) (fun _ h_ => h_.1)); replace HO_705002 := am (Kd.Q_mono (Kd.Q_told (Kd.Q_told (Kd.Q_old (pkQ HO_705002.out) hb) (Kd.R_base ho0)) (Kd.R_base ho1)) (fun _ h_ => h_.1)); replace HO_705003 := am (Kd.Q_mono (Kd.Q_told (Kd.Q_told (Kd.Q_old (pkQ HO_705003.out) hb) (Kd.R_base ho0)) (Kd.R_base ho1)) (fun _ h_ => h_.1)); replace HO_718002 := am (Kd.Q_mono (Kd.Q_told (Kd.Q_told (Kd.Q_old (pkQ HO_718002.out) hb) (Kd.R_base ho0)) (Kd.R_base ho1)) (fun _ h_ => h_.1)); replace HO_718003 := am (Kd.Q_mono (Kd.Q_told (Kd.Q_told (Kd.Q_old (pkQ HO_718003.out) hb) (Kd.R_base ho0)) (Kd.R_base ho1)) (fun _ h_ => h_.1)); replace HO743 := am (Kd.R_mono (Kd.R_told (Kd.R_told (Kd.R_old (pkR HO743.out) hb) (Kd.R_base ho0)) (Kd.R_base ho1)) (fun _ h_ => h_.1)); replace HO746 := am (Kd.R_mono (Kd.R_told (Kd.R_told (Kd.R_old (pkR HO746.out) hb) (Kd.R_base ho0)) (Kd.R_base ho1)) (fun _ h_ => h_.1)); replace BK667 := am (blk_below (pkK BK667.out) hb); replace BK692 := am (blk_below (pkK BK692.out) hb); replace BK704 := am (blk_below (pkK BK704.out) hb); replace BK717 := am (blk_below (pkK BK717.out) hb); replace HB := am (below_step (pkW HB.out) hb); (try clear hb ho0 ho1)) | ((with_reducible refine gate_dst (N := 14) rfl ?_); refine box_event ?hg (N := 14) ?hd (cs := #[.bool false, .bool false, .slice none 0 0, .slice none 0 0, .int .i64 0, .int .i64 0, .int .i64 0]) (t := 27) ?hr ?_; (case hd => rfl); (case hg => rfl); (case hr => first | (go_simp; done) | (go_simp; rfl)); intro gb762 hg w101 hbox hb; replace HO_693002 := am (Kd.R_below (pkR HO_693002.out) hb); replace HO_693003 := am (Kd.R_below (pkR HO_693003.out) hb); replace HO_705002 := am (Kd.Q_below (pkQ HO_705002.out) hb); replace HO_705003 := am (Kd.Q_below (pkQ HO_705003.out) hb); replace HO_718002 := am (Kd.Q_below (pkQ HO_718002.out) hb); replace HO_718003 := am (Kd.Q_below (pkQ HO_718003.out) hb); replace HO743 := am (Kd.R_below (pkR HO743.out) hb); replace HO746 := am (Kd.R_below (pkR HO746.out) hb); replace HO754 := am (Kd.R_below (pkR HO754.out) hb); replace HO757 := am (Kd.R_below (pkR HO757.out) hb); have BK762 := am (hbox); have GW762 := am ((by rw [hg]; exact (below_size (pkW HB.out)) : w.heap.size ≤ gb762)); have GE762 := am ((by rw [hg]; exact (below_size (pkW HB.out)) : w.heap.size ≤ gb762)); replace HB := am (below_step (pkW HB.out) hb); have NB667_762 := am ((by rw [hg]; exact Nat.ne_of_lt (blk_lt (g := gb667) (o := .cells #[.bool a0_0, .bool a0_1, .slice A0_2 l0_2.length c0_2, .slice A0_3 l0_3.length c0_3, .int .i64 a0_4, .int .i64 a0_5, .int .i64 a0_6] 24 (0, 0)) (pkK BK667.out)) : gb667 ≠ gb762)); have NB762_667 := am ((by rw [hg]; exact Nat.ne_of_gt (blk_lt (g := gb667) (o := .cells #[.bool a0_0, .bool a0_1, .slice A0_2 l0_2.length c0_2, .slice A0_3 l0_3.length c0_3, .int .i64 a0_4, .int .i64 a0_5, .int .i64 a0_6] 24 (0, 0)) (pkK BK667.out)) : gb762 ≠ gb667)); replace BK667 := am (blk_below (pkK BK667.out) hb); have NB692_762 := am ((by rw [hg]; exact Nat.ne_of_lt (blk_lt (g := gb692) (o := .cells #[.bool t680, .bool t681, .slice Ao24 t682.length co24, .slice Ao25 t685.length co25, .int .i64 t688, .int .i64 t689, .int .i64 t690] 27 (0, 0)) (pkK BK692.out)) : gb692 ≠ gb762)); have NB762_692 := am ((by rw [hg]; exact Nat.ne_of_gt (blk_lt (g := gb692) (o := .cells #[.bool t680, .bool t681, .slice Ao24 t682.length co24, .slice Ao25 t685.length co25, .int .i64 t688, .int .i64 t689, .int .i64 t690] 27 (0, 0)) (pkK BK692.out)) : gb762 ≠ gb692)); replace BK692 := am (blk_below (pkK BK692.out) hb); have NB704_762 := am ((by rw [hg]; exact Nat.ne_of_lt (blk_lt (g := gb704) (o := .cells #[.bool t693, .bool t694, .slice Ao32 t732.length co32, .slice Ao33 t733.length co33, .int .i64 t701, .int .i64 t702, .int .i64 t703] 27 (0, 0)) (pkK BK704.out)) : gb704 ≠ gb762)); have NB762_704 := am ((by rw [hg]; exact Nat.ne_of_gt (blk_lt (g := gb704) (o := .cells #[.bool t693, .bool t694, .slice Ao32 t732.length co32, .slice Ao33 t733.length co33, .int .i64 t701, .int .i64 t702, .int .i64 t703] 27 (0, 0)) (pkK BK704.out)) : gb762 ≠ gb704)); replace BK704 := am (blk_below (pkK BK704.out) hb); have NB717_762 := am ((by rw [hg]; exact Nat.ne_of_lt (blk_lt (g := gb717) (o := .cells #[.bool t705, .bool t706, .slice Ao40 t707.length co40, .slice Ao41 t710.length co41, .int .i64 t713, .int .i64 t714, .int .i64 t715] 27 (0, 0)) (pkK BK717.out)) : gb717 ≠ gb762)); have NB762_717 := am ((by rw [hg]; exact Nat.ne_of_gt (blk_lt (g := gb717) (o := .cells #[.bool t705, .bool t706, .slice Ao40 t707.length co40, .slice Ao41 t710.length co41, .int .i64 t713, .int .i64 t714, .int .i64 t715] 27 (0, 0)) (pkK BK717.out)) : gb762 ≠ gb717)); replace BK717 := am (blk_below (pkK BK717.out) hb); clear hb hbox hg; have hnb102 := NB762_667.out; have hnc102 := NB667_762.out; have hnb103 := NB762_692.out; have hnc103 := NB692_762.out; have hnb104 := NB762_704.out; have hnc104 := NB704_762.out; have hnb105 := NB762_717.out; have hnc105 := NB717_762.out; obtain ⟨hcz106_0, hcz106_1, hcz106_2, hcz106_3, hcz106_4, hcz106_5, hcz106_6, hfz106_0, hfz106_1, hfz106_2, hfz106_3, hfz106_4, hfz106_5, hfz106_6⟩ := bk7 BK762.out; obtain ⟨Ao107, co107, eo107⟩ := Kd.R_slice HO754.out; subst eo107; obtain ⟨Ao108, co108, eo108⟩ := Kd.R_slice HO757.out; subst eo108))
           (try simp only [Act.put, List.setIfInBounds_toArray, List.set_cons_zero, List.set_cons_succ])
           go_cut [92] (fun v92 wc => ∃ (kq : Nat) (x92_85 : Bool), v92 = .bool x92_85 ∧ Aside0 (laws_FnExactGoOn.j2 kq t735 x92_85 t705 t706 t736 t737 t713 t714 t715 = some r) ∧ Aside0 (kq ≤ kj56) ∧ Aside0 (Kd.R (Kd.int .i64) 3 wc w.heap.size (fun k_ => some k_ ≠ ((.slice Ao25 t685.length co25) : Value).ownBlock ∧ some k_ ≠ ((.slice Ao32 t732.length co32) : Value).ownBlock ∧ some k_ ≠ ((.slice Ao33 t733.length co33) : Value).ownBlock ∧ some k_ ≠ ((.slice Ao40 t707.length co40) : Value).ownBlock ∧ some k_ ≠ ((.slice Ao41 t710.length co41) : Value).ownBlock ∧ some k_ ≠ ((.slice Ao107 t752.length co107) : Value).ownBlock ∧ some k_ ≠ ((.slice Ao108 t755.length co108) : Value).ownBlock) (.slice Ao24 t682.length co24) t682) ∧ Aside0 (Kd.R (Kd.int .i64) 3 wc w.heap.size (fun k_ => some k_ ≠ ((.slice Ao24 t682.length co24) : Value).ownBlock ∧ some k_ ≠ ((.slice Ao32 t732.length co32) : Value).ownBlock ∧ some k_ ≠ ((.slice Ao33 t733.length co33) : Value).ownBlock ∧ some k_ ≠ ((.slice Ao40 t707.length co40) : Value).ownBlock ∧ some k_ ≠ ((.slice Ao41 t710.length co41) : Value).ownBlock ∧ some k_ ≠ ((.slice Ao107 t752.length co107) : Value).ownBlock ∧ some k_ ≠ ((.slice Ao108 t755.length co108) : Value).ownBlock) (.slice Ao25 t685.length co25) t685) ∧ Aside0 (Kd.Q (Kd.int .i64) 3 wc w.heap.size (fun k_ => some k_ ≠ ((.slice Ao24 t682.length co24) : Value).ownBlock ∧ some k_ ≠ ((.slice Ao25 t685.length co25) : Value).ownBlock ∧ some k_ ≠ ((.slice Ao33 t733.length co33) : Value).ownBlock ∧ some k_ ≠ ((.slice Ao40 t707.length co40) : Value).ownBlock ∧ some k_ ≠ ((.slice Ao41 t710.length co41) : Value).ownBlock ∧ some k_ ≠ ((.slice Ao107 t752.length co107) : Value).ownBlock ∧ some k_ ≠ ((.slice Ao108 t755.length co108) : Value).ownBlock) (.slice Ao32 t732.length co32) t732) ∧ Aside0 (Kd.Q (Kd.int .i64) 3 wc w.heap.size (fun k_ => some k_ ≠ ((.slice Ao24 t682.length co24) : Value).ownBlock ∧ some k_ ≠ ((.slice Ao25 t685.length co25) : Value).ownBlock ∧ some k_ ≠ ((.slice Ao32 t732.length co32) : Value).ownBlock ∧ some k_ ≠ ((.slice Ao40 t707.length co40) : Value).ownBlock ∧ some k_ ≠ ((.slice Ao41 t710.length co41) : Value).ownBlock ∧ some k_ ≠ ((.slice Ao107 t752.length co107) : Value).ownBlock ∧ some k_ ≠ ((.slice Ao108 t755.length co108) : Value).ownBlock) (.slice Ao33 t733.length co33) t733) ∧ Aside0 (Kd.Q (Kd.int .i64) 3 wc w.heap.size (fun k_ => some k_ ≠ ((.slice Ao24 t682.length co24) : Value).ownBlock ∧ some k_ ≠ ((.slice Ao25 t685.length co25) : Value).ownBlock ∧ some k_ ≠ ((.slice Ao32 t732.length co32) : Value).ownBlock ∧ some k_ ≠ ((.slice Ao33 t733.length co33) : Value).ownBlock ∧ some k_ ≠ ((.slice Ao41 t710.length co41) : Value).ownBlock ∧ some k_ ≠ ((.slice Ao107 t752.length co107) : Value).ownBlock ∧ some k_ ≠ ((.slice Ao108 t755.length co108) : Value).ownBlock) (.slice Ao40 t707.length co40) t736) ∧ Aside0 (Kd.Q (Kd.int .i64) 3 wc w.heap.size (fun k_ => some k_ ≠ ((.slice Ao24 t682.length co24) : Value).ownBlock ∧ some k_ ≠ ((.slice Ao25 t685.length co25) : Value).ownBlock ∧ some k_ ≠ ((.slice Ao32 t732.length co32) : Value).ownBlock ∧ some k_ ≠ ((.slice Ao33 t733.length co33) : Value).ownBlock ∧ some k_ ≠ ((.slice Ao40 t707.length co40) : Value).ownBlock ∧ some k_ ≠ ((.slice Ao107 t752.length co107) : Value).ownBlock ∧ some k_ ≠ ((.slice Ao108 t755.length co108) : Value).ownBlock) (.slice Ao41 t710.length co41) t737) ∧ Aside0 (Kd.R (Kd.int .i64) 3 wc w.heap.size (fun k_ => some k_ ≠ ((.slice Ao24 t682.length co24) : Value).ownBlock ∧ some k_ ≠ ((.slice Ao25 t685.length co25) : Value).ownBlock ∧ some k_ ≠ ((.slice Ao32 t732.length co32) : Value).ownBlock ∧ some k_ ≠ ((.slice Ao33 t733.length co33) : Value).ownBlock ∧ some k_ ≠ ((.slice Ao40 t707.length co40) : Value).ownBlock ∧ some k_ ≠ ((.slice Ao41 t710.length co41) : Value).ownBlock ∧ some k_ ≠ ((.slice Ao108 t755.length co108) : Value).ownBlock) (.slice Ao107 t752.length co107) t752) ∧ Aside0 (Kd.R (Kd.int .i64) 3 wc w.heap.size (fun k_ => some k_ ≠ ((.slice Ao24 t682.length co24) : Value).ownBlock ∧ some k_ ≠ ((.slice Ao25 t685.length co25) : Value).ownBlock ∧ some k_ ≠ ((.slice Ao32 t732.length co32) : Value).ownBlock ∧ some k_ ≠ ((.slice Ao33 t733.length co33) : Value).ownBlock ∧ some k_ ≠ ((.slice Ao40 t707.length co40) : Value).ownBlock ∧ some k_ ≠ ((.slice Ao41 t710.length co41) : Value).ownBlock ∧ some k_ ≠ ((.slice Ao107 t752.length co107) : Value).ownBlock) (.slice Ao108 t755.length co108) t755) ∧ Aside0 (wc.heap[gb667]? = some (.cells #[.bool a0_0, .bool a0_1, (.slice A0_2 l0_2.length c0_2), (.slice A0_3 l0_3.length c0_3), .int .i64 a0_4, .int .i64 a0_5, .int .i64 a0_6] 24 (0, 0))) ∧ Aside0 (wc.heap[gb692]? = some (.cells #[.bool t680, .bool t681, (.slice Ao24 t682.length co24), (.slice Ao25 t685.length co25), .int .i64 t688, .int .i64 t689, .int .i64 t690] 27 (0, 0))) ∧ Aside0 (wc.heap[gb704]? = some (.cells #[.bool t693, .bool t694, (.slice Ao32 t732.length co32), (.slice Ao33 t733.length co33), .int .i64 t701, .int .i64 t702, .int .i64 t703] 27 (0, 0))) ∧ Aside0 (wc.heap[gb717]? = some (.cells #[.bool t705, .bool t706, (.slice Ao40 t707.length co40), (.slice Ao41 t710.length co41), .int .i64 t713, .int .i64 t714, .int .i64 t715] 27 (0, 0))) ∧ Aside0 (wc.heap[gb762]? = some (.cells #[.bool t750, .bool t751, (.slice Ao107 t752.length co107), (.slice Ao108 t755.length co108), .int .i64 t758, .int .i64 t759, .int .i64 t760] 27 (0, 0))) ∧ Aside0 (Below w.heap.size w wc))
           case first =>
            have H := HC86.out
            clear HC86
            replace H := Option.bind_eq_some_iff.mp H
            obtain ⟨t763, A1090, H⟩ := H
            replace H : (if t763 = true then (laws_FnExactGoOn.j2 kj56 t735 (t761 != t691) t705 t706 t736 t737 t713 t714 t715) else (laws_FnExactGoOn.j2 kj56 t735 true t705 t706 t736 t737 t713 t714 t715)) = some r := H
            have A109 := am A1090
            clear A1090
            by_cases c110 : t763 = true
            ·subst c110
             replace H : (laws_FnExactGoOn.j2 kj56 t735 (t761 != t691) t705 t706 t736 t737 t713 t714 t715) = some r := by rw [if_pos rfl] at H; exact H
             have H' := am H
             clear H
             have hnb111 := NB762_667.out
             have hnc111 := NB667_762.out
             have hnb112 := NB762_692.out
             have hnc112 := NB692_762.out
             have hnb113 := NB762_704.out
             have hnc113 := NB704_762.out
             have hnb114 := NB762_717.out
             have hnc114 := NB717_762.out
             obtain ⟨hcz115_0, hcz115_1, hcz115_2, hcz115_3, hcz115_4, hcz115_5, hcz115_6, hfz115_0, hfz115_1, hfz115_2, hfz115_3, hfz115_4, hfz115_5, hfz115_6⟩ := bk7 BK762.out
             have hnb116 := NB692_667.out
             have hnc116 := NB667_692.out
             have hnb117 := NB692_704.out
             have hnc117 := NB704_692.out
             have hnb118 := NB692_717.out
             have hnc118 := NB717_692.out
             obtain ⟨hcz119_0, hcz119_1, hcz119_2, hcz119_3, hcz119_4, hcz119_5, hcz119_6, hfz119_0, hfz119_1, hfz119_2, hfz119_3, hfz119_4, hfz119_5, hfz119_6⟩ := bk7 BK692.out
             go_wp2_with (first | ((with_reducible refine gate_callee (f := 18) rfl ?_); refine goesL_ (some 86) rfl rfl Try.func18 (by kernel_rfl) rfl #[.agg #[.bool t750, .bool t751, .slice Ao107 t752.length co107, .slice Ao108 t755.length co108, .int .i64 t758, .int .i64 t759, .int .i64 t760], .agg #[.bool t680, .bool t681, .slice Ao24 t682.length co24, .slice Ao25 t685.length co25, .int .i64 t688, .int .i64 t689, .int .i64 t690]] rfl mpx ?_; (with_reducible refine (laws_eqEvent.calls kj56 t750 t751 _ _ t752 _ _ t755 t758 t759 t760 t680 t681 _ _ t682 _ _ t685 t688 t689 t690 true _ ?side1 ?side2 ?side3 ?side4 ?side5 ?side6 ?side7 ?side8 A109.out).mono ?_); (case side1 => refine (Kd.R_reads' (e := 3) (base := w.heap.size) (ok := fun k_ => ((((((((some k_ ≠ (.slice Ao108 t755.length co108 : Value).ownBlock ∧ some k_ ≠ (.slice Ao24 t682.length co24 : Value).ownBlock) ∧ some k_ ≠ (.slice Ao25 t685.length co25 : Value).ownBlock) ∧ some k_ ≠ (.slice Ao32 t732.length co32 : Value).ownBlock) ∧ some k_ ≠ (.slice Ao33 t733.length co33 : Value).ownBlock) ∧ some k_ ≠ (.slice Ao40 t707.length co40 : Value).ownBlock) ∧ some k_ ≠ (.slice Ao41 t710.length co41 : Value).ownBlock) ∧ some k_ ≠ (.slice Ao98 t741.length co98 : Value).ownBlock) ∧ some k_ ≠ (.slice Ao99 t744.length co99 : Value).ownBlock)) (n := t752.length) (c := co107) ?_).2.2; exact (by (with_reducible repeat (first | apply Kd.R_alloc | apply Kd.R_drewN | apply Kd.R_drew)); exact (Kd.R_mono (Kd.R_far (p := ⟨gb762, 6, none⟩) (Kd.R_far (p := ⟨gb762, 5, none⟩) (Kd.R_far (p := ⟨gb762, 4, none⟩) (Kd.R_far (p := ⟨gb762, 3, none⟩) (Kd.R_far (p := ⟨gb762, 2, none⟩) (Kd.R_far (p := ⟨gb762, 1, none⟩) (Kd.R_far (p := ⟨gb762, 0, none⟩) (Kd.R_types HO754.out BK762.out (by decide)) (fun _ hk => hk.2) (.bool t750)) (fun _ hk => hk.2) (.bool t751)) (fun _ hk => hk.2) (.slice Ao107 t752.length co107)) (fun _ hk => hk.2) (.slice Ao108 t755.length co108)) (fun _ hk => hk.2) (.int .i64 t758)) (fun _ hk => hk.2) (.int .i64 t759)) (fun _ hk => hk.2) (.int .i64 t760)) (fun _ h_ => h_.1)))); (case side2 => exact (Kd.R_reads' HO754.out).2.1); (case side3 => refine (Kd.R_reads' (e := 3) (base := w.heap.size) (ok := fun k_ => ((((((((some k_ ≠ (.slice Ao107 t752.length co107 : Value).ownBlock ∧ some k_ ≠ (.slice Ao24 t682.length co24 : Value).ownBlock) ∧ some k_ ≠ (.slice Ao25 t685.length co25 : Value).ownBlock) ∧ some k_ ≠ (.slice Ao32 t732.length co32 : Value).ownBlock) ∧ some k_ ≠ (.slice Ao33 t733.length co33 : Value).ownBlock) ∧ some k_ ≠ (.slice Ao40 t707.length co40 : Value).ownBlock) ∧ some k_ ≠ (.slice Ao41 t710.length co41 : Value).ownBlock) ∧ some k_ ≠ (.slice Ao98 t741.length co98 : Value).ownBlock) ∧ some k_ ≠ (.slice Ao99 t744.length co99 : Value).ownBlock)) (n := t755.length) (c := co108) ?_).2.2; exact (by (with_reducible repeat (first | apply Kd.R_alloc | apply Kd.R_drewN | apply Kd.R_drew)); exact (Kd.R_mono (Kd.R_far (p := ⟨gb762, 6, none⟩) (Kd.R_far (p := ⟨gb762, 5, none⟩) (Kd.R_far (p := ⟨gb762, 4, none⟩) (Kd.R_far (p := ⟨gb762, 3, none⟩) (Kd.R_far (p := ⟨gb762, 2, none⟩) (Kd.R_far (p := ⟨gb762, 1, none⟩) (Kd.R_far (p := ⟨gb762, 0, none⟩) (Kd.R_types HO757.out BK762.out (by decide)) (fun _ hk => hk.2) (.bool t750)) (fun _ hk => hk.2) (.bool t751)) (fun _ hk => hk.2) (.slice Ao107 t752.length co107)) (fun _ hk => hk.2) (.slice Ao108 t755.length co108)) (fun _ hk => hk.2) (.int .i64 t758)) (fun _ hk => hk.2) (.int .i64 t759)) (fun _ hk => hk.2) (.int .i64 t760)) (fun _ h_ => h_.1)))); (case side4 => exact (Kd.R_reads' HO757.out).2.1); (case side5 => refine (Kd.R_reads' (e := 3) (base := w.heap.size) (ok := fun k_ => (((((some k_ ≠ (.slice Ao25 t685.length co25 : Value).ownBlock ∧ (some k_ ≠ (.slice Ao32 t732.length co32 : Value).ownBlock ∧ (some k_ ≠ (.slice Ao33 t733.length co33 : Value).ownBlock ∧ (some k_ ≠ (.slice Ao40 t707.length co40 : Value).ownBlock ∧ some k_ ≠ (.slice Ao41 t710.length co41 : Value).ownBlock)))) ∧ some k_ ≠ (.slice Ao98 t741.length co98 : Value).ownBlock) ∧ some k_ ≠ (.slice Ao99 t744.length co99 : Value).ownBlock) ∧ some k_ ≠ (.slice Ao107 t752.length co107 : Value).ownBlock) ∧ some k_ ≠ (.slice Ao108 t755.length co108 : Value).ownBlock)) (n := t682.length) (c := co24) ?_).2.2; exact (by (with_reducible repeat (first | apply Kd.R_alloc | apply Kd.R_drewN | apply Kd.R_drew)); exact (Kd.R_mono (Kd.R_far (p := ⟨gb762, 6, none⟩) (Kd.R_far (p := ⟨gb762, 5, none⟩) (Kd.R_far (p := ⟨gb762, 4, none⟩) (Kd.R_far (p := ⟨gb762, 3, none⟩) (Kd.R_far (p := ⟨gb762, 2, none⟩) (Kd.R_far (p := ⟨gb762, 1, none⟩) (Kd.R_far (p := ⟨gb762, 0, none⟩) (Kd.R_types HO_693002.out BK762.out (by decide)) (fun _ hk => hk.2) (.bool t750)) (fun _ hk => hk.2) (.bool t751)) (fun _ hk => hk.2) (.slice Ao107 t752.length co107)) (fun _ hk => hk.2) (.slice Ao108 t755.length co108)) (fun _ hk => hk.2) (.int .i64 t758)) (fun _ hk => hk.2) (.int .i64 t759)) (fun _ hk => hk.2) (.int .i64 t760)) (fun _ h_ => h_.1)))); (case side6 => exact (Kd.R_reads' HO_693002.out).2.1); (case side7 => refine (Kd.R_reads' (e := 3) (base := w.heap.size) (ok := fun k_ => (((((some k_ ≠ (.slice Ao24 t682.length co24 : Value).ownBlock ∧ (some k_ ≠ (.slice Ao32 t732.length co32 : Value).ownBlock ∧ (some k_ ≠ (.slice Ao33 t733.length co33 : Value).ownBlock ∧ (some k_ ≠ (.slice Ao40 t707.length co40 : Value).ownBlock ∧ some k_ ≠ (.slice Ao41 t710.length co41 : Value).ownBlock)))) ∧ some k_ ≠ (.slice Ao98 t741.length co98 : Value).ownBlock) ∧ some k_ ≠ (.slice Ao99 t744.length co99 : Value).ownBlock) ∧ some k_ ≠ (.slice Ao107 t752.length co107 : Value).ownBlock) ∧ some k_ ≠ (.slice Ao108 t755.length co108 : Value).ownBlock)) (n := t685.length) (c := co25) ?_).2.2; exact (by (with_reducible repeat (first | apply Kd.R_alloc | apply Kd.R_drewN | apply Kd.R_drew)); exact (Kd.R_mono (Kd.R_far (p := ⟨gb762, 6, none⟩) (Kd.R_far (p := ⟨gb762, 5, none⟩) (Kd.R_far (p := ⟨gb762, 4, none⟩) (Kd.R_far (p := ⟨gb762, 3, none⟩) (Kd.R_far (p := ⟨gb762, 2, none⟩) (Kd.R_far (p := ⟨gb762, 1, none⟩) (Kd.R_far (p := ⟨gb762, 0, none⟩) (Kd.R_types HO_693003.out BK762.out (by decide)) (fun _ hk => hk.2) (.bool t750)) (fun _ hk => hk.2) (.bool t751)) (fun _ hk => hk.2) (.slice Ao107 t752.length co107)) (fun _ hk => hk.2) (.slice Ao108 t755.length co108)) (fun _ hk => hk.2) (.int .i64 t758)) (fun _ hk => hk.2) (.int .i64 t759)) (fun _ hk => hk.2) (.int .i64 t760)) (fun _ h_ => h_.1)))); (case side8 => exact (Kd.R_reads' HO_693003.out).2.1); rintro e w120 ⟨rfl, hb⟩; refine ⟨_, rfl, ?_⟩; replace HO_693002 := am (Kd.R_below (by (with_reducible repeat (first | apply Kd.R_alloc | apply Kd.R_drewN | apply Kd.R_drew)); exact (Kd.R_mono (Kd.R_far (p := ⟨gb762, 6, none⟩) (Kd.R_far (p := ⟨gb762, 5, none⟩) (Kd.R_far (p := ⟨gb762, 4, none⟩) (Kd.R_far (p := ⟨gb762, 3, none⟩) (Kd.R_far (p := ⟨gb762, 2, none⟩) (Kd.R_far (p := ⟨gb762, 1, none⟩) (Kd.R_far (p := ⟨gb762, 0, none⟩) (Kd.R_types HO_693002.out BK762.out (by decide)) (fun _ hk => hk.2) (.bool t750)) (fun _ hk => hk.2) (.bool t751)) (fun _ hk => hk.2) (.slice Ao107 t752.length co107)) (fun _ hk => hk.2) (.slice Ao108 t755.length co108)) (fun _ hk => hk.2) (.int .i64 t758)) (fun _ hk => hk.2) (.int .i64 t759)) (fun _ hk => hk.2) (.int .i64 t760)) (fun _ h_ => h_.1))) hb); replace HO_693003 := am (Kd.R_below (by (with_reducible repeat (first | apply Kd.R_alloc | apply Kd.R_drewN | apply Kd.R_drew)); exact (Kd.R_mono (Kd.R_far (p := ⟨gb762, 6, none⟩) (Kd.R_far (p := ⟨gb762, 5, none⟩) (Kd.R_far (p := ⟨gb762, 4, none⟩) (Kd.R_far (p := ⟨gb762, 3, none⟩) (Kd.R_far (p := ⟨gb762, 2, none⟩) (Kd.R_far (p := ⟨gb762, 1, none⟩) (Kd.R_far (p := ⟨gb762, 0, none⟩) (Kd.R_types HO_693003.out BK762.out (by decide)) (fun _ hk => hk.2) (.bool t750)) (fun _ hk => hk.2) (.bool t751)) (fun _ hk => hk.2) (.slice Ao107 t752.length co107)) (fun _ hk => hk.2) (.slice Ao108 t755.length co108)) (fun _ hk => hk.2) (.int .i64 t758)) (fun _ hk => hk.2) (.int .i64 t759)) (fun _ hk => hk.2) (.int .i64 t760)) (fun _ h_ => h_.1))) hb); replace HO_705002 := am (Kd.Q_below (by (with_reducible repeat (first | apply Kd.Q_alloc | apply Kd.Q_drewN | apply Kd.Q_drew)); exact (Kd.Q_mono (Kd.Q_far (p := ⟨gb762, 6, none⟩) (Kd.Q_far (p := ⟨gb762, 5, none⟩) (Kd.Q_far (p := ⟨gb762, 4, none⟩) (Kd.Q_far (p := ⟨gb762, 3, none⟩) (Kd.Q_far (p := ⟨gb762, 2, none⟩) (Kd.Q_far (p := ⟨gb762, 1, none⟩) (Kd.Q_far (p := ⟨gb762, 0, none⟩) (Kd.Q_types HO_705002.out BK762.out (by decide)) (fun _ hk => hk.2) (.bool t750)) (fun _ hk => hk.2) (.bool t751)) (fun _ hk => hk.2) (.slice Ao107 t752.length co107)) (fun _ hk => hk.2) (.slice Ao108 t755.length co108)) (fun _ hk => hk.2) (.int .i64 t758)) (fun _ hk => hk.2) (.int .i64 t759)) (fun _ hk => hk.2) (.int .i64 t760)) (fun _ h_ => h_.1))) hb); replace HO_705003 := am (Kd.Q_below (by (with_reducible repeat (first | apply Kd.Q_alloc | apply Kd.Q_drewN | apply Kd.Q_drew)); exact (Kd.Q_mono (Kd.Q_far (p := ⟨gb762, 6, none⟩) (Kd.Q_far (p := ⟨gb762, 5, none⟩) (Kd.Q_far (p := ⟨gb762, 4, none⟩) (Kd.Q_far (p := ⟨gb762, 3, none⟩) (Kd.Q_far (p := ⟨gb762, 2, none⟩) (Kd.Q_far (p := ⟨gb762, 1, none⟩) (Kd.Q_far (p := ⟨gb762, 0, none⟩) (Kd.Q_types HO_705003.out BK762.out (by decide)) (fun _ hk => hk.2) (.bool t750)) (fun _ hk => hk.2) (.bool t751)) (fun _ hk => hk.2) (.slice Ao107 t752.length co107)) (fun _ hk => hk.2) (.slice Ao108 t755.length co108)) (fun _ hk => hk.2) (.int .i64 t758)) (fun _ hk => hk.2) (.int .i64 t759)) (fun _ hk => hk.2) (.int .i64 t760)) (fun _ h_ => h_.1))) hb); replace HO_718002 := am (Kd.Q_below (by (with_reducible repeat (first | apply Kd.Q_alloc | apply Kd.Q_drewN | apply Kd.Q_drew)); exact (Kd.Q_mono (Kd.Q_far (p := ⟨gb762, 6, none⟩) (Kd.Q_far (p := ⟨gb762, 5, none⟩) (Kd.Q_far (p := ⟨gb762, 4, none⟩) (Kd.Q_far (p := ⟨gb762, 3, none⟩) (Kd.Q_far (p := ⟨gb762, 2, none⟩) (Kd.Q_far (p := ⟨gb762, 1, none⟩) (Kd.Q_far (p := ⟨gb762, 0, none⟩) (Kd.Q_types HO_718002.out BK762.out (by decide)) (fun _ hk => hk.2) (.bool t750)) (fun _ hk => hk.2) (.bool t751)) (fun _ hk => hk.2) (.slice Ao107 t752.length co107)) (fun _ hk => hk.2) (.slice Ao108 t755.length co108)) (fun _ hk => hk.2) (.int .i64 t758)) (fun _ hk => hk.2) (.int .i64 t759)) (fun _ hk => hk.2) (.int .i64 t760)) (fun _ h_ => h_.1))) hb); replace HO_718003 := am (Kd.Q_below (by (with_reducible repeat (first | apply Kd.Q_alloc | apply Kd.Q_drewN | apply Kd.Q_drew)); exact (Kd.Q_mono (Kd.Q_far (p := ⟨gb762, 6, none⟩) (Kd.Q_far (p := ⟨gb762, 5, none⟩) (Kd.Q_far (p := ⟨gb762, 4, none⟩) (Kd.Q_far (p := ⟨gb762, 3, none⟩) (Kd.Q_far (p := ⟨gb762, 2, none⟩) (Kd.Q_far (p := ⟨gb762, 1, none⟩) (Kd.Q_far (p := ⟨gb762, 0, none⟩) (Kd.Q_types HO_718003.out BK762.out (by decide)) (fun _ hk => hk.2) (.bool t750)) (fun _ hk => hk.2) (.bool t751)) (fun _ hk => hk.2) (.slice Ao107 t752.length co107)) (fun _ hk => hk.2) (.slice Ao108 t755.length co108)) (fun _ hk => hk.2) (.int .i64 t758)) (fun _ hk => hk.2) (.int .i64 t759)) (fun _ hk => hk.2) (.int .i64 t760)) (fun _ h_ => h_.1))) hb); replace HO743 := am (Kd.R_below (by (with_reducible repeat (first | apply Kd.R_alloc | apply Kd.R_drewN | apply Kd.R_drew)); exact (Kd.R_mono (Kd.R_far (p := ⟨gb762, 6, none⟩) (Kd.R_far (p := ⟨gb762, 5, none⟩) (Kd.R_far (p := ⟨gb762, 4, none⟩) (Kd.R_far (p := ⟨gb762, 3, none⟩) (Kd.R_far (p := ⟨gb762, 2, none⟩) (Kd.R_far (p := ⟨gb762, 1, none⟩) (Kd.R_far (p := ⟨gb762, 0, none⟩) (Kd.R_types HO743.out BK762.out (by decide)) (fun _ hk => hk.2) (.bool t750)) (fun _ hk => hk.2) (.bool t751)) (fun _ hk => hk.2) (.slice Ao107 t752.length co107)) (fun _ hk => hk.2) (.slice Ao108 t755.length co108)) (fun _ hk => hk.2) (.int .i64 t758)) (fun _ hk => hk.2) (.int .i64 t759)) (fun _ hk => hk.2) (.int .i64 t760)) (fun _ h_ => h_.1))) hb); replace HO746 := am (Kd.R_below (by (with_reducible repeat (first | apply Kd.R_alloc | apply Kd.R_drewN | apply Kd.R_drew)); exact (Kd.R_mono (Kd.R_far (p := ⟨gb762, 6, none⟩) (Kd.R_far (p := ⟨gb762, 5, none⟩) (Kd.R_far (p := ⟨gb762, 4, none⟩) (Kd.R_far (p := ⟨gb762, 3, none⟩) (Kd.R_far (p := ⟨gb762, 2, none⟩) (Kd.R_far (p := ⟨gb762, 1, none⟩) (Kd.R_far (p := ⟨gb762, 0, none⟩) (Kd.R_types HO746.out BK762.out (by decide)) (fun _ hk => hk.2) (.bool t750)) (fun _ hk => hk.2) (.bool t751)) (fun _ hk => hk.2) (.slice Ao107 t752.length co107)) (fun _ hk => hk.2) (.slice Ao108 t755.length co108)) (fun _ hk => hk.2) (.int .i64 t758)) (fun _ hk => hk.2) (.int .i64 t759)) (fun _ hk => hk.2) (.int .i64 t760)) (fun _ h_ => h_.1))) hb); replace HO754 := am (Kd.R_below (by (with_reducible repeat (first | apply Kd.R_alloc | apply Kd.R_drewN | apply Kd.R_drew)); exact (Kd.R_mono (Kd.R_far (p := ⟨gb762, 6, none⟩) (Kd.R_far (p := ⟨gb762, 5, none⟩) (Kd.R_far (p := ⟨gb762, 4, none⟩) (Kd.R_far (p := ⟨gb762, 3, none⟩) (Kd.R_far (p := ⟨gb762, 2, none⟩) (Kd.R_far (p := ⟨gb762, 1, none⟩) (Kd.R_far (p := ⟨gb762, 0, none⟩) (Kd.R_types HO754.out BK762.out (by decide)) (fun _ hk => hk.2) (.bool t750)) (fun _ hk => hk.2) (.bool t751)) (fun _ hk => hk.2) (.slice Ao107 t752.length co107)) (fun _ hk => hk.2) (.slice Ao108 t755.length co108)) (fun _ hk => hk.2) (.int .i64 t758)) (fun _ hk => hk.2) (.int .i64 t759)) (fun _ hk => hk.2) (.int .i64 t760)) (fun _ h_ => h_.1))) hb); replace HO757 := am (Kd.R_below (by (with_reducible repeat (first | apply Kd.R_alloc | apply Kd.R_drewN | apply Kd.R_drew)); exact (Kd.R_mono (Kd.R_far (p := ⟨gb762, 6, none⟩) (Kd.R_far (p := ⟨gb762, 5, none⟩) (Kd.R_far (p := ⟨gb762, 4, none⟩) (Kd.R_far (p := ⟨gb762, 3, none⟩) (Kd.R_far (p := ⟨gb762, 2, none⟩) (Kd.R_far (p := ⟨gb762, 1, none⟩) (Kd.R_far (p := ⟨gb762, 0, none⟩) (Kd.R_types HO757.out BK762.out (by decide)) (fun _ hk => hk.2) (.bool t750)) (fun _ hk => hk.2) (.bool t751)) (fun _ hk => hk.2) (.slice Ao107 t752.length co107)) (fun _ hk => hk.2) (.slice Ao108 t755.length co108)) (fun _ hk => hk.2) (.int .i64 t758)) (fun _ hk => hk.2) (.int .i64 t759)) (fun _ hk => hk.2) (.int .i64 t760)) (fun _ h_ => h_.1))) hb); replace BK667 := am (blk_below (g := gb667) (o := .cells #[.bool a0_0, .bool a0_1, .slice A0_2 l0_2.length c0_2, .slice A0_3 l0_3.length c0_3, .int .i64 a0_4, .int .i64 a0_5, .int .i64 a0_6] 24 (0, 0)) (by (with_reducible repeat (first | refine blk_drewN ?_ _ | refine blk_drew ?_ | refine blk_alloc ?_ _)); refine blk_far ?_ NB667_762.out _; (with_reducible repeat (first | refine blk_drewN ?_ _ | refine blk_drew ?_ | refine blk_alloc ?_ _)); refine blk_far ?_ NB667_762.out _; (with_reducible repeat (first | refine blk_drewN ?_ _ | refine blk_drew ?_ | refine blk_alloc ?_ _)); refine blk_far ?_ NB667_762.out _; (with_reducible repeat (first | refine blk_drewN ?_ _ | refine blk_drew ?_ | refine blk_alloc ?_ _)); refine blk_far ?_ NB667_762.out _; (with_reducible repeat (first | refine blk_drewN ?_ _ | refine blk_drew ?_ | refine blk_alloc ?_ _)); refine blk_far ?_ NB667_762.out _; (with_reducible repeat (first | refine blk_drewN ?_ _ | refine blk_drew ?_ | refine blk_alloc ?_ _)); refine blk_far ?_ NB667_762.out _; (with_reducible repeat (first | refine blk_drewN ?_ _ | refine blk_drew ?_ | refine blk_alloc ?_ _)); refine blk_far ?_ NB667_762.out _; exact pkK BK667.out) hb); replace BK692 := am (blk_below (g := gb692) (o := .cells #[.bool t680, .bool t681, .slice Ao24 t682.length co24, .slice Ao25 t685.length co25, .int .i64 t688, .int .i64 t689, .int .i64 t690] 27 (0, 0)) (by (with_reducible repeat (first | refine blk_drewN ?_ _ | refine blk_drew ?_ | refine blk_alloc ?_ _)); refine blk_far ?_ NB692_762.out _; (with_reducible repeat (first | refine blk_drewN ?_ _ | refine blk_drew ?_ | refine blk_alloc ?_ _)); refine blk_far ?_ NB692_762.out _; (with_reducible repeat (first | refine blk_drewN ?_ _ | refine blk_drew ?_ | refine blk_alloc ?_ _)); refine blk_far ?_ NB692_762.out _; (with_reducible repeat (first | refine blk_drewN ?_ _ | refine blk_drew ?_ | refine blk_alloc ?_ _)); refine blk_far ?_ NB692_762.out _; (with_reducible repeat (first | refine blk_drewN ?_ _ | refine blk_drew ?_ | refine blk_alloc ?_ _)); refine blk_far ?_ NB692_762.out _; (with_reducible repeat (first | refine blk_drewN ?_ _ | refine blk_drew ?_ | refine blk_alloc ?_ _)); refine blk_far ?_ NB692_762.out _; (with_reducible repeat (first | refine blk_drewN ?_ _ | refine blk_drew ?_ | refine blk_alloc ?_ _)); refine blk_far ?_ NB692_762.out _; exact pkK BK692.out) hb); replace BK704 := am (blk_below (g := gb704) (o := .cells #[.bool t693, .bool t694, .slice Ao32 t732.length co32, .slice Ao33 t733.length co33, .int .i64 t701, .int .i64 t702, .int .i64 t703] 27 (0, 0)) (by (with_reducible repeat (first | refine blk_drewN ?_ _ | refine blk_drew ?_ | refine blk_alloc ?_ _)); refine blk_far ?_ NB704_762.out _; (with_reducible repeat (first | refine blk_drewN ?_ _ | refine blk_drew ?_ | refine blk_alloc ?_ _)); refine blk_far ?_ NB704_762.out _; (with_reducible repeat (first | refine blk_drewN ?_ _ | refine blk_drew ?_ | refine blk_alloc ?_ _)); refine blk_far ?_ NB704_762.out _; (with_reducible repeat (first | refine blk_drewN ?_ _ | refine blk_drew ?_ | refine blk_alloc ?_ _)); refine blk_far ?_ NB704_762.out _; (with_reducible repeat (first | refine blk_drewN ?_ _ | refine blk_drew ?_ | refine blk_alloc ?_ _)); refine blk_far ?_ NB704_762.out _; (with_reducible repeat (first | refine blk_drewN ?_ _ | refine blk_drew ?_ | refine blk_alloc ?_ _)); refine blk_far ?_ NB704_762.out _; (with_reducible repeat (first | refine blk_drewN ?_ _ | refine blk_drew ?_ | refine blk_alloc ?_ _)); refine blk_far ?_ NB704_762.out _; exact pkK BK704.out) hb); replace BK717 := am (blk_below (g := gb717) (o := .cells #[.bool t705, .bool t706, .slice Ao40 t707.length co40, .slice Ao41 t710.length co41, .int .i64 t713, .int .i64 t714, .int .i64 t715] 27 (0, 0)) (by (with_reducible repeat (first | refine blk_drewN ?_ _ | refine blk_drew ?_ | refine blk_alloc ?_ _)); refine blk_far ?_ NB717_762.out _; (with_reducible repeat (first | refine blk_drewN ?_ _ | refine blk_drew ?_ | refine blk_alloc ?_ _)); refine blk_far ?_ NB717_762.out _; (with_reducible repeat (first | refine blk_drewN ?_ _ | refine blk_drew ?_ | refine blk_alloc ?_ _)); refine blk_far ?_ NB717_762.out _; (with_reducible repeat (first | refine blk_drewN ?_ _ | refine blk_drew ?_ | refine blk_alloc ?_ _)); refine blk_far ?_ NB717_762.out _; (with_reducible repeat (first | refine blk_drewN ?_ _ | refine blk_drew ?_ | refine blk_alloc ?_ _)); refine blk_far ?_ NB717_762.out _; (with_reducible repeat (first | refine blk_drewN ?_ _ | refine blk_drew ?_ | refine blk_alloc ?_ _)); refine blk_far ?_ NB717_762.out _; (with_reducible repeat (first | refine blk_drewN ?_ _ | refine blk_drew ?_ | refine blk_alloc ?_ _)); refine blk_far ?_ NB717_762.out _; exact pkK BK717.out) hb); replace BK762 := am (blk_below (g := gb762) (o := .cells #[.bool t750, .bool t751, .slice Ao107 t752.length co107, .slice Ao108 t755.length co108, .int .i64 t758, .int .i64 t759, .int .i64 t760] 27 (0, 0)) (by (with_reducible repeat (first | refine blk_drewN ?_ _ | refine blk_drew ?_ | refine blk_alloc ?_ _)); refine blk_put (cs := #[.bool t750, .bool t751, .slice Ao107 t752.length co107, .slice Ao108 t755.length co108, .int .i64 t758, .int .i64 t759, .int .i64 0]) ?_ 6 _ rfl; (with_reducible repeat (first | refine blk_drewN ?_ _ | refine blk_drew ?_ | refine blk_alloc ?_ _)); refine blk_put (cs := #[.bool t750, .bool t751, .slice Ao107 t752.length co107, .slice Ao108 t755.length co108, .int .i64 t758, .int .i64 0, .int .i64 0]) ?_ 5 _ rfl; (with_reducible repeat (first | refine blk_drewN ?_ _ | refine blk_drew ?_ | refine blk_alloc ?_ _)); refine blk_put (cs := #[.bool t750, .bool t751, .slice Ao107 t752.length co107, .slice Ao108 t755.length co108, .int .i64 0, .int .i64 0, .int .i64 0]) ?_ 4 _ rfl; (with_reducible repeat (first | refine blk_drewN ?_ _ | refine blk_drew ?_ | refine blk_alloc ?_ _)); refine blk_put (cs := #[.bool t750, .bool t751, .slice Ao107 t752.length co107, .slice none 0 0, .int .i64 0, .int .i64 0, .int .i64 0]) ?_ 3 _ rfl; (with_reducible repeat (first | refine blk_drewN ?_ _ | refine blk_drew ?_ | refine blk_alloc ?_ _)); refine blk_put (cs := #[.bool t750, .bool t751, .slice none 0 0, .slice none 0 0, .int .i64 0, .int .i64 0, .int .i64 0]) ?_ 2 _ rfl; (with_reducible repeat (first | refine blk_drewN ?_ _ | refine blk_drew ?_ | refine blk_alloc ?_ _)); refine blk_put (cs := #[.bool t750, .bool false, .slice none 0 0, .slice none 0 0, .int .i64 0, .int .i64 0, .int .i64 0]) ?_ 1 _ rfl; (with_reducible repeat (first | refine blk_drewN ?_ _ | refine blk_drew ?_ | refine blk_alloc ?_ _)); refine blk_put (cs := #[.bool false, .bool false, .slice none 0 0, .slice none 0 0, .int .i64 0, .int .i64 0, .int .i64 0]) ?_ 0 _ rfl; exact pkK BK762.out) hb); replace HB := am (below_step (pkW HB.out) hb); (try clear hb)))
             go_meet
             case rel => exact ⟨_, ((t761 != t691)), rfx, H', ⟨by have := HJ11.out; have := HJ56.out; first | omega | exact Nat.le_refl _⟩, ⟨by (try simp only [hl705002_56]); (try simp only [hl705003_56]); (with_reducible repeat (first | apply Kd.R_alloc | apply Kd.R_drewN | apply Kd.R_drew)); exact Kd.R_mono HO_693002.out (fun _ hk => ⟨hk.1.1.1.1.1, ⟨hk.1.1.1.1.2.1, ⟨hk.1.1.1.1.2.2.1, ⟨hk.1.1.1.1.2.2.2.1, ⟨hk.1.1.1.1.2.2.2.2, ⟨hk.1.2, hk.2⟩⟩⟩⟩⟩⟩)⟩, ⟨by (try simp only [hl705002_56]); (try simp only [hl705003_56]); (with_reducible repeat (first | apply Kd.R_alloc | apply Kd.R_drewN | apply Kd.R_drew)); exact Kd.R_mono HO_693003.out (fun _ hk => ⟨hk.1.1.1.1.1, ⟨hk.1.1.1.1.2.1, ⟨hk.1.1.1.1.2.2.1, ⟨hk.1.1.1.1.2.2.2.1, ⟨hk.1.1.1.1.2.2.2.2, ⟨hk.1.2, hk.2⟩⟩⟩⟩⟩⟩)⟩, ⟨by (try simp only [hl705002_56]); (try simp only [hl705003_56]); (with_reducible repeat (first | apply Kd.Q_alloc | apply Kd.Q_drewN | apply Kd.Q_drew)); exact Kd.Q_mono HO_705002.out (fun _ hk => ⟨hk.1.1.1.1.1, ⟨hk.1.1.1.1.2.1, ⟨hk.1.1.1.1.2.2.1, ⟨hk.1.1.1.1.2.2.2.1, ⟨hk.1.1.1.1.2.2.2.2, ⟨hk.1.2, hk.2⟩⟩⟩⟩⟩⟩)⟩, ⟨by (try simp only [hl705002_56]); (try simp only [hl705003_56]); (with_reducible repeat (first | apply Kd.Q_alloc | apply Kd.Q_drewN | apply Kd.Q_drew)); exact Kd.Q_mono HO_705003.out (fun _ hk => ⟨hk.1.1.1.1.1, ⟨hk.1.1.1.1.2.1, ⟨hk.1.1.1.1.2.2.1, ⟨hk.1.1.1.1.2.2.2.1, ⟨hk.1.1.1.1.2.2.2.2, ⟨hk.1.2, hk.2⟩⟩⟩⟩⟩⟩)⟩, ⟨by (try simp only [hl705002_56]); (try simp only [hl705003_56]); (with_reducible repeat (first | apply Kd.Q_alloc | apply Kd.Q_drewN | apply Kd.Q_drew)); exact Kd.Q_mono HO_718002.out (fun _ hk => ⟨hk.1.1.1.1.1, ⟨hk.1.1.1.1.2.1, ⟨hk.1.1.1.1.2.2.1, ⟨hk.1.1.1.1.2.2.2.1, ⟨hk.1.1.1.1.2.2.2.2, ⟨hk.1.2, hk.2⟩⟩⟩⟩⟩⟩)⟩, ⟨by (try simp only [hl705002_56]); (try simp only [hl705003_56]); (with_reducible repeat (first | apply Kd.Q_alloc | apply Kd.Q_drewN | apply Kd.Q_drew)); exact Kd.Q_mono HO_718003.out (fun _ hk => ⟨hk.1.1.1.1.1, ⟨hk.1.1.1.1.2.1, ⟨hk.1.1.1.1.2.2.1, ⟨hk.1.1.1.1.2.2.2.1, ⟨hk.1.1.1.1.2.2.2.2, ⟨hk.1.2, hk.2⟩⟩⟩⟩⟩⟩)⟩, ⟨by (try simp only [hl705002_56]); (try simp only [hl705003_56]); (with_reducible repeat (first | apply Kd.R_alloc | apply Kd.R_drewN | apply Kd.R_drew)); exact Kd.R_mono HO754.out (fun _ hk => ⟨hk.1.1.1.1.1.1.1.2, ⟨hk.1.1.1.1.1.1.2, ⟨hk.1.1.1.1.1.2, ⟨hk.1.1.1.1.2, ⟨hk.1.1.1.2, ⟨hk.1.1.2, hk.1.1.1.1.1.1.1.1⟩⟩⟩⟩⟩⟩)⟩, ⟨by (try simp only [hl705002_56]); (try simp only [hl705003_56]); (with_reducible repeat (first | apply Kd.R_alloc | apply Kd.R_drewN | apply Kd.R_drew)); exact Kd.R_mono HO757.out (fun _ hk => ⟨hk.1.1.1.1.1.1.1.2, ⟨hk.1.1.1.1.1.1.2, ⟨hk.1.1.1.1.1.2, ⟨hk.1.1.1.1.2, ⟨hk.1.1.1.2, ⟨hk.1.1.2, hk.1.1.1.1.1.1.1.1⟩⟩⟩⟩⟩⟩)⟩, ⟨by (try simp only [hl705002_56]); (try simp only [hl705003_56]); exact pkK BK667.out⟩, ⟨by (try simp only [hl705002_56]); (try simp only [hl705003_56]); exact pkK BK692.out⟩, ⟨by (try simp only [hl705002_56]); (try simp only [hl705003_56]); exact pkK BK704.out⟩, ⟨by (try simp only [hl705002_56]); (try simp only [hl705003_56]); exact pkK BK717.out⟩, ⟨by (try simp only [hl705002_56]); (try simp only [hl705003_56]); exact pkK BK762.out⟩, ⟨pkW HB.out⟩⟩
            ·replace c110 := Bool.eq_false_iff.mpr c110
             subst c110
             replace H : (laws_FnExactGoOn.j2 kj56 t735 true t705 t706 t736 t737 t713 t714 t715) = some r := by rw [if_neg (show ¬ (false = true) by decide)] at H; exact H
             cases kj56 with
             | zero => exact absurd H (by simp [laws_FnExactGoOn.j2])
             | succ k_ => (simp only [laws_FnExactGoOn.j2, if_pos] at H; exact absurd (Option.some.inj H) (by rw [HQ_.out]; simp))
           case rest =>
            clear HC86
            try clear c1
            try clear c2
            try clear p2
            try clear c3
            try clear c4
            try clear c4b0
            try clear c5
            try clear c6
            try clear c7
            try clear c8
            try clear c9
            try clear c10
            try clear c11
            try clear c14
            try clear c16
            try clear c18
            try clear c22
            try clear c26
            try clear c27
            try clear c29
            try clear c30
            try clear c31
            try clear c36
            try clear c37
            try clear c38
            try clear c43
            try clear c44
            try clear c45
            try clear c46
            try clear c48
            try clear c49
            try clear c52
            try clear c55
            try clear c63
            try clear c64
            try clear c65
            try clear c68
            try clear c68b0
            try clear c70
            try clear c71
            try clear c72
            try clear c73
            try clear c75
            try clear c76
            try clear c79
            try clear c82
            try clear c82b0
            try clear c83
            try clear c83b0
            try clear c83b1
            try clear c87
            try clear c88
            try clear c89
            try clear c94
            try clear c95
            try clear c102
            try clear c103
            try clear c104
            try clear c105
            try clear c110
            try clear c111
            try clear c112
            try clear c113
            try clear c114
            try clear c116
            try clear c117
            try clear c118
            try clear hcz106_0
            try clear hcz106_1
            try clear hcz106_2
            try clear hcz106_3
            try clear hcz106_4
            try clear hcz106_5
            try clear hcz106_6
            try clear hcz115_0
            try clear hcz115_1
            try clear hcz115_2
            try clear hcz115_3
            try clear hcz115_4
            try clear hcz115_5
            try clear hcz115_6
            try clear hcz119_0
            try clear hcz119_1
            try clear hcz119_2
            try clear hcz119_3
            try clear hcz119_4
            try clear hcz119_5
            try clear hcz119_6
            try clear hcz14_0
            try clear hcz14_1
            try clear hcz14_2
            try clear hcz14_3
            try clear hcz14_4
            try clear hcz14_5
            try clear hcz14_6
            try clear hcz16_0
            try clear hcz16_1
            try clear hcz16_2
            try clear hcz16_3
            try clear hcz16_4
            try clear hcz16_5
            try clear hcz16_6
            try clear hcz23_0
            try clear hcz23_1
            try clear hcz23_2
            try clear hcz23_3
            try clear hcz23_4
            try clear hcz23_5
            try clear hcz23_6
            try clear hcz26_0
            try clear hcz26_1
            try clear hcz26_2
            try clear hcz26_3
            try clear hcz26_4
            try clear hcz26_5
            try clear hcz26_6
            try clear hcz31_0
            try clear hcz31_1
            try clear hcz31_2
            try clear hcz31_3
            try clear hcz31_4
            try clear hcz31_5
            try clear hcz31_6
            try clear hcz39_0
            try clear hcz39_1
            try clear hcz39_2
            try clear hcz39_3
            try clear hcz39_4
            try clear hcz39_5
            try clear hcz39_6
            try clear hcz47_0
            try clear hcz47_1
            try clear hcz47_2
            try clear hcz47_3
            try clear hcz47_4
            try clear hcz47_5
            try clear hcz47_6
            try clear hcz50_0
            try clear hcz50_1
            try clear hcz50_2
            try clear hcz50_3
            try clear hcz50_4
            try clear hcz50_5
            try clear hcz50_6
            try clear hcz66_0
            try clear hcz66_1
            try clear hcz66_2
            try clear hcz66_3
            try clear hcz66_4
            try clear hcz66_5
            try clear hcz66_6
            try clear hcz6_0
            try clear hcz6_1
            try clear hcz6_2
            try clear hcz6_3
            try clear hcz6_4
            try clear hcz6_5
            try clear hcz6_6
            try clear hcz74_0
            try clear hcz74_1
            try clear hcz74_2
            try clear hcz74_3
            try clear hcz74_4
            try clear hcz74_5
            try clear hcz74_6
            try clear hcz77_0
            try clear hcz77_1
            try clear hcz77_2
            try clear hcz77_3
            try clear hcz77_4
            try clear hcz77_5
            try clear hcz77_6
            try clear hcz90_0
            try clear hcz90_1
            try clear hcz90_2
            try clear hcz90_3
            try clear hcz90_4
            try clear hcz90_5
            try clear hcz90_6
            try clear hcz92_0
            try clear hcz92_1
            try clear hcz92_2
            try clear hcz92_3
            try clear hcz92_4
            try clear hcz92_5
            try clear hcz92_6
            try clear hcz96_0
            try clear hcz96_1
            try clear hcz96_2
            try clear hcz96_3
            try clear hcz96_4
            try clear hcz96_5
            try clear hcz96_6
            try clear hfz106_0
            try clear hfz106_1
            try clear hfz106_2
            try clear hfz106_3
            try clear hfz106_4
            try clear hfz106_5
            try clear hfz106_6
            try clear hfz115_0
            try clear hfz115_1
            try clear hfz115_2
            try clear hfz115_3
            try clear hfz115_4
            try clear hfz115_5
            try clear hfz115_6
            try clear hfz119_0
            try clear hfz119_1
            try clear hfz119_2
            try clear hfz119_3
            try clear hfz119_4
            try clear hfz119_5
            try clear hfz119_6
            try clear hfz14_0
            try clear hfz14_1
            try clear hfz14_2
            try clear hfz14_3
            try clear hfz14_4
            try clear hfz14_5
            try clear hfz14_6
            try clear hfz16_0
            try clear hfz16_1
            try clear hfz16_2
            try clear hfz16_3
            try clear hfz16_4
            try clear hfz16_5
            try clear hfz16_6
            try clear hfz23_0
            try clear hfz23_1
            try clear hfz23_2
            try clear hfz23_3
            try clear hfz23_4
            try clear hfz23_5
            try clear hfz23_6
            try clear hfz26_0
            try clear hfz26_1
            try clear hfz26_2
            try clear hfz26_3
            try clear hfz26_4
            try clear hfz26_5
            try clear hfz26_6
            try clear hfz31_0
            try clear hfz31_1
            try clear hfz31_2
            try clear hfz31_3
            try clear hfz31_4
            try clear hfz31_5
            try clear hfz31_6
            try clear hfz39_0
            try clear hfz39_1
            try clear hfz39_2
            try clear hfz39_3
            try clear hfz39_4
            try clear hfz39_5
            try clear hfz39_6
            try clear hfz47_0
            try clear hfz47_1
            try clear hfz47_2
            try clear hfz47_3
            try clear hfz47_4
            try clear hfz47_5
            try clear hfz47_6
            try clear hfz50_0
            try clear hfz50_1
            try clear hfz50_2
            try clear hfz50_3
            try clear hfz50_4
            try clear hfz50_5
            try clear hfz50_6
            try clear hfz66_0
            try clear hfz66_1
            try clear hfz66_2
            try clear hfz66_3
            try clear hfz66_4
            try clear hfz66_5
            try clear hfz66_6
            try clear hfz6_0
            try clear hfz6_1
            try clear hfz6_2
            try clear hfz6_3
            try clear hfz6_4
            try clear hfz6_5
            try clear hfz6_6
            try clear hfz74_0
            try clear hfz74_1
            try clear hfz74_2
            try clear hfz74_3
            try clear hfz74_4
            try clear hfz74_5
            try clear hfz74_6
            try clear hfz77_0
            try clear hfz77_1
            try clear hfz77_2
            try clear hfz77_3
            try clear hfz77_4
            try clear hfz77_5
            try clear hfz77_6
            try clear hfz90_0
            try clear hfz90_1
            try clear hfz90_2
            try clear hfz90_3
            try clear hfz90_4
            try clear hfz90_5
            try clear hfz90_6
            try clear hfz92_0
            try clear hfz92_1
            try clear hfz92_2
            try clear hfz92_3
            try clear hfz92_4
            try clear hfz92_5
            try clear hfz92_6
            try clear hfz96_0
            try clear hfz96_1
            try clear hfz96_2
            try clear hfz96_3
            try clear hfz96_4
            try clear hfz96_5
            try clear hfz96_6
            try clear p2
            obtain ⟨kq, x92_85, rfl, HA, HJ85, HO_693002, HO_693003, HO_705002, HO_705003, HO_718002, HO_718003, HO_763002, HO_763003, BK667, BK692, BK704, BK717, BK762, HB⟩ := hcut
            have hl718002_85 := (Kd.Q_reads' HO_718002.out).1
            rw [hl718002_85] at HO_718002
            (try simp only [hl718002_85])
            (try simp only [hl718002_85] at BK667)
            (try simp only [hl718002_85] at BK692)
            (try simp only [hl718002_85] at BK704)
            (try simp only [hl718002_85] at BK717)
            (try simp only [hl718002_85] at BK762)
            (try simp only [hl718002_85] at HO_693002)
            (try simp only [hl718002_85] at HO_693003)
            (try simp only [hl718002_85] at HO_705002)
            (try simp only [hl718002_85] at HO_705003)
            (try simp only [hl718002_85] at HO_718003)
            (try simp only [hl718002_85] at HO_763002)
            (try simp only [hl718002_85] at HO_763003)
            have hl718003_85 := (Kd.Q_reads' HO_718003.out).1
            rw [hl718003_85] at HO_718003
            (try simp only [hl718003_85])
            (try simp only [hl718003_85] at BK667)
            (try simp only [hl718003_85] at BK692)
            (try simp only [hl718003_85] at BK704)
            (try simp only [hl718003_85] at BK717)
            (try simp only [hl718003_85] at BK762)
            (try simp only [hl718003_85] at HO_693002)
            (try simp only [hl718003_85] at HO_693003)
            (try simp only [hl718003_85] at HO_705002)
            (try simp only [hl718003_85] at HO_705003)
            (try simp only [hl718003_85] at HO_718002)
            (try simp only [hl718003_85] at HO_763002)
            (try simp only [hl718003_85] at HO_763003)
            cases kq with
            | zero => exact absurd HA.out (by simp [laws_FnExactGoOn.j2])
            | succ kj85 =>
             have H := HA.out
             clear HA
             simp only [laws_FnExactGoOn.j2] at H
             by_cases c121 : x92_85 = true
             ·subst c121
              replace H : (some false) = some r := by rw [if_pos rfl] at H; exact H
              exact absurd (Option.some.inj H) (by rw [HQ_.out]; simp)
             ·replace c121 := Bool.eq_false_iff.mpr c121
              subst c121
              replace H : ((laws_heldEvent.f kj85 t705 t706 t736 t737 t713 t714 t715 1).bind fun t764 => (if t764 < 0 then (some false) else (if t764 = t735 then (some true) else (some false)))) = some r := by rw [if_neg (show ¬ (false = true) by decide)] at H; exact H
              replace H := Option.bind_eq_some_iff.mp H
              obtain ⟨t764, A1220, H⟩ := H
              replace H : (if t764 < 0 then (some false) else (if t764 = t735 then (some true) else (some false))) = some r := H
              have A122 := am A1220
              clear A1220
              by_cases c123 : t764 < 0
              ·rw [if_pos c123] at H
               have c123b0 : decide (t764 < 0) = true := decide_eq_true c123
               clear c123
               exact absurd (Option.some.inj H) (by rw [HQ_.out]; simp)
              ·rw [if_neg c123] at H
               have c123b0 : decide (t764 < 0) = false := decide_eq_false c123
               clear c123
               by_cases c124 : t764 = t735
               ·rw [if_pos c124] at H
                have c124b0 : (t764 == t735) = true := beq_iff_eq.mpr c124
                have c124b1 : (t764 != t735) = false := bne_eq_false_iff_eq.mpr c124
                clear c124
                obtain rfl := Option.some.inj H
                have hnb125 := NB717_667.out
                have hnc125 := NB667_717.out
                have hnb126 := NB717_692.out
                have hnc126 := NB692_717.out
                have hnb127 := NB717_704.out
                have hnc127 := NB704_717.out
                have hnb128 := NB717_762.out
                have hnc128 := NB762_717.out
                obtain ⟨hcz129_0, hcz129_1, hcz129_2, hcz129_3, hcz129_4, hcz129_5, hcz129_6, hfz129_0, hfz129_1, hfz129_2, hfz129_3, hfz129_4, hfz129_5, hfz129_6⟩ := bk7 BK717.out
                go_wp2_with (first | ((with_reducible refine gate_callee (f := 27) rfl ?_); refine goesL_ (some 95) rfl rfl Try.func27 (by kernel_rfl) rfl #[.agg #[.bool t705, .bool t706, .slice Ao40 t736.length co40, .slice Ao41 t737.length co41, .int .i64 t713, .int .i64 t714, .int .i64 t715], .int .i64 1] rfl mpx ?_; (with_reducible refine (laws_heldEvent.calls kj85 t705 t706 _ _ t736 _ _ t737 t713 t714 t715 1 t764 _ ?side1 ?side2 ?side3 ?side4 A122.out).mono ?_); (case side1 => repeat (first | exact (Kd.Q_reads' HO_718002.out).2.2 | (with_reducible refine Kd.C_alloc ?_ _) | (with_reducible refine Kd.C_drewN ?_ _) | (with_reducible refine Kd.C_drew ?_))); (case side2 => exact (Kd.Q_reads' HO_718002.out).2.1); (case side3 => repeat (first | exact (Kd.Q_reads' HO_718003.out).2.2 | (with_reducible refine Kd.C_alloc ?_ _) | (with_reducible refine Kd.C_drewN ?_ _) | (with_reducible refine Kd.C_drew ?_))); (case side4 => exact (Kd.Q_reads' HO_718003.out).2.1); rintro e w130 ⟨rfl, hb⟩; refine ⟨_, rfl, ?_⟩; replace HO_693002 := am (Kd.R_below (pkR HO_693002.out) hb); replace HO_693003 := am (Kd.R_below (pkR HO_693003.out) hb); replace HO_705002 := am (Kd.Q_below (pkQ HO_705002.out) hb); replace HO_705003 := am (Kd.Q_below (pkQ HO_705003.out) hb); replace HO_718002 := am (Kd.Q_below (pkQ HO_718002.out) hb); replace HO_718003 := am (Kd.Q_below (pkQ HO_718003.out) hb); replace HO_763002 := am (Kd.R_below (pkR HO_763002.out) hb); replace HO_763003 := am (Kd.R_below (pkR HO_763003.out) hb); replace BK667 := am (blk_below (pkK BK667.out) hb); replace BK692 := am (blk_below (pkK BK692.out) hb); replace BK704 := am (blk_below (pkK BK704.out) hb); replace BK717 := am (blk_below (pkK BK717.out) hb); replace BK762 := am (blk_below (pkK BK762.out) hb); replace HB := am (below_step (pkW HB.out) hb); (try clear hb)))
                go_ret
                exact ⟨rfe, pkW HB.out⟩
               ·rw [if_neg c124] at H
                have c124b0 : (t764 == t735) = false := beq_eq_false_iff_ne.mpr c124
                have c124b1 : (t764 != t735) = true := bne_iff_ne.mpr c124
                exact absurd (Option.some.inj H) (by rw [HQ_.out]; simp)
          ·rw [if_neg c83] at H
           have c83b0 : (t738 == t735) = false := beq_eq_false_iff_ne.mpr c83
           have c83b1 : (t738 != t735) = true := bne_iff_ne.mpr c83
           exact absurd (Option.some.inj H) (by rw [HQ_.out]; simp)
     ·replace c55 := Bool.eq_false_iff.mpr c55
      subst c55
      replace H : (some false) = some r := by rw [if_neg (show ¬ (false = true) by decide)] at H; exact H
      exact absurd (Option.some.inj H) (by rw [HQ_.out]; simp)
end Go.Proofs.Ytdagpmnadapbjaa.Z
