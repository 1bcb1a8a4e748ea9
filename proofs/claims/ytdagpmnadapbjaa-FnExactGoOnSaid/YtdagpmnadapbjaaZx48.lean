import Derived.Test.YtdagpmnadapbjaaZx0
import Derived.Test.YtdagpmnadapbjaaZx1
import Derived.Test.YtdagpmnadapbjaaZx6
import Derived.Test.YtdagpmnadapbjaaZx13
import Derived.Test.YtdagpmnadapbjaaZx24
import Derived.Test.YtdagpmnadapbjaaZx25
import Derived.Test.YtdagpmnadapbjaaZx29
import Derived.Test.YtdagpmnadapbjaaZx31
namespace Go.Proofs.Ytdagpmnadapbjaa.Z
open Go.RowKit Go.Proofs.YtdagpmnadapbjaaW.PrintWords Go.Proofs.YtdagpmnadapbjaaW.PrintLast Go.Proofs.YtdagpmnadapbjaaW.PrintMore
attribute [local go_sem] max2_int min2_int max_two min_two max_three min_three max_four min_four   -- for this text's walks alone
set_option linter.unusedVariables false
set_option linter.unusedSimpArgs false
mutual
def laws_FnExactGoOn.j0 : Nat → Int → Int → Int → Bool → Bool → Bool → List Int → List Int → Int → Int → Int → Bool → Bool → List Int → List Int → Int → Int → Int → Bool → Bool → List Int → List Int → Int → Int → Int → Bool → Bool → List Int → List Int → Int → Int → Int → Option (Bool)
  | 0, _, _, _, _, _, _, _, _, _, _, _, _, _, _, _, _, _, _, _, _, _, _, _, _, _, _, _, _, _, _, _, _ => none
  | k + 1, x1, x7, x10, x44, x668000, x668001, x668002, x668003, x668004, x668005, x668006, x693000, x693001, x693002, x693003, x693004, x693005, x693006, x705000, x705001, x705002, x705003, x705004, x705005, x705006, x718000, x718001, x718002, x718003, x718004, x718005, x718006 => if x44 = true then (some false) else ((laws_toEvent.f k x668000 x668001 x668002 x668003 x668004 x668005 x668006).bind fun bt719 => ((laws_eqEvent.f k x705000 x705001 x705002 x705003 x705004 x705005 x705006 bt719.1 bt719.2.1 bt719.2.2.1 bt719.2.2.2.1 bt719.2.2.2.2.1 bt719.2.2.2.2.2.1 bt719.2.2.2.2.2.2).bind fun t730 => (if t730 = true then ((laws_markEvent.f k x705000 x705001 x705002 x705003 x705004 x705005 x705006 1).bind fun bt731 => (if bt731.1 < 0 then (laws_FnExactGoOn.j1 k x1 x7 true x668000 x668001 x668002 x668003 x668004 x668005 x668006 x693000 x693001 x693002 x693003 x693004 x693005 x693006 x718000 x718001 x718002 x718003 x718004 x718005 x718006) else ((laws_eqEvent.f k x718000 x718001 x718002 x718003 x718004 x718005 x718006 x693000 x693001 x693002 x693003 x693004 x693005 x693006).bind fun t734 => (if t734 = true then (laws_FnExactGoOn.j1 k x1 x7 (x10 != x7) x668000 x668001 x668002 x668003 x668004 x668005 x668006 x693000 x693001 x693002 x693003 x693004 x693005 x693006 x718000 x718001 x718002 x718003 x718004 x718005 x718006) else (laws_FnExactGoOn.j1 k x1 x7 true x668000 x668001 x668002 x668003 x668004 x668005 x668006 x693000 x693001 x693002 x693003 x693004 x693005 x693006 x718000 x718001 x718002 x718003 x718004 x718005 x718006))))) else (some false))))
def laws_FnExactGoOn.j1 : Nat → Int → Int → Bool → Bool → Bool → List Int → List Int → Int → Int → Int → Bool → Bool → List Int → List Int → Int → Int → Int → Bool → Bool → List Int → List Int → Int → Int → Int → Option (Bool)
  | 0, _, _, _, _, _, _, _, _, _, _, _, _, _, _, _, _, _, _, _, _, _, _, _, _ => none
  | k + 1, x1, x7, x65, x668000, x668001, x668002, x668003, x668004, x668005, x668006, x693000, x693001, x693002, x693003, x693004, x693005, x693006, x718000, x718001, x718002, x718003, x718004, x718005, x718006 => if x65 = true then (some false) else ((laws_markEvent.f k x718000 x718001 x718002 x718003 x718004 x718005 x718006 1).bind fun bt735 => ((laws_heldEvent.f k x718000 x718001 bt735.2.1 bt735.2.2 x718004 x718005 x718006 1).bind fun t738 => (if t738 < 0 then (some false) else (if t738 = bt735.1 then ((laws_toEvent.f k x668000 x668001 x668002 x668003 x668004 x668005 x668006).bind fun bt739 => ((impl_GoOn.f k bt739.1 bt739.2.1 bt739.2.2.1 bt739.2.2.2.1 bt739.2.2.2.2.1 bt739.2.2.2.2.2.1 bt739.2.2.2.2.2.2 x1).bind fun bt750 => ((laws_eqEvent.f k bt750.1 bt750.2.1 bt750.2.2.1 bt750.2.2.2.1 bt750.2.2.2.2.1 bt750.2.2.2.2.2.1 bt750.2.2.2.2.2.2.1 x693000 x693001 x693002 x693003 x693004 x693005 x693006).bind fun t763 => (if t763 = true then (laws_FnExactGoOn.j2 k bt735.1 (bt750.2.2.2.2.2.2.2 != x7) x718000 x718001 bt735.2.1 bt735.2.2 x718004 x718005 x718006) else (laws_FnExactGoOn.j2 k bt735.1 true x718000 x718001 bt735.2.1 bt735.2.2 x718004 x718005 x718006))))) else (some false)))))
def laws_FnExactGoOn.j2 : Nat → Int → Bool → Bool → Bool → List Int → List Int → Int → Int → Int → Option (Bool)
  | 0, _, _, _, _, _, _, _, _, _ => none
  | k + 1, x12, x92, x718000, x718001, x718002, x718003, x718004, x718005, x718006 => if x92 = true then (some false) else ((laws_heldEvent.f k x718000 x718001 x718002 x718003 x718004 x718005 x718006 1).bind fun t764 => (if t764 < 0 then (some false) else (if t764 = x12 then (some true) else (some false))))
end
def laws_FnExactGoOn.f (k : Nat) (a0_0 : Bool) (a0_1 : Bool) (l0_2 : List Int) (l0_3 : List Int) (a0_4 : Int) (a0_5 : Int) (a0_6 : Int) (a1 : Int) : Option (Bool) := (laws_szEvent.f a0_0 a0_1 l0_2 l0_3 a0_4 a0_5 a0_6 1048576).bind fun t668 => (if t668 < 0 then (some true) else ((laws_toEvent.f k a0_0 a0_1 l0_2 l0_3 a0_4 a0_5 a0_6).bind fun bt669 => ((spec_GoOn.f k bt669.1 bt669.2.1 bt669.2.2.1 bt669.2.2.2.1 bt669.2.2.2.2.1 bt669.2.2.2.2.2.1 bt669.2.2.2.2.2.2 a1).bind fun bt680 => ((laws_toEvent.f k a0_0 a0_1 l0_2 l0_3 a0_4 a0_5 a0_6).bind fun bt693 => ((impl_GoOn.f k bt693.1 bt693.2.1 bt693.2.2.1 bt693.2.2.2.1 bt693.2.2.2.2.1 bt693.2.2.2.2.2.1 bt693.2.2.2.2.2.2 a1).bind fun bt705 => ((laws_eqEvent.f k bt705.1 bt705.2.1 bt705.2.2.1 bt705.2.2.2.1 bt705.2.2.2.2.1 bt705.2.2.2.2.2.1 bt705.2.2.2.2.2.2.1 bt680.1 bt680.2.1 bt680.2.2.1 bt680.2.2.2.1 bt680.2.2.2.2.1 bt680.2.2.2.2.2.1 bt680.2.2.2.2.2.2.1).bind fun t718 => (if t718 = true then (laws_FnExactGoOn.j0 k a1 bt680.2.2.2.2.2.2.2 bt705.2.2.2.2.2.2.2 (bt705.2.2.2.2.2.2.2 != bt680.2.2.2.2.2.2.2) a0_0 a0_1 l0_2 l0_3 a0_4 a0_5 a0_6 bt680.1 bt680.2.1 bt680.2.2.1 bt680.2.2.2.1 bt680.2.2.2.2.1 bt680.2.2.2.2.2.1 bt680.2.2.2.2.2.2.1 bt693.1 bt693.2.1 bt693.2.2.1 bt693.2.2.2.1 bt693.2.2.2.2.1 bt693.2.2.2.2.2.1 bt693.2.2.2.2.2.2 bt705.1 bt705.2.1 bt705.2.2.1 bt705.2.2.2.1 bt705.2.2.2.2.1 bt705.2.2.2.2.2.1 bt705.2.2.2.2.2.2.1) else (laws_FnExactGoOn.j0 k a1 bt680.2.2.2.2.2.2.2 bt705.2.2.2.2.2.2.2 true a0_0 a0_1 l0_2 l0_3 a0_4 a0_5 a0_6 bt680.1 bt680.2.1 bt680.2.2.1 bt680.2.2.2.1 bt680.2.2.2.2.1 bt680.2.2.2.2.2.1 bt680.2.2.2.2.2.2.1 bt693.1 bt693.2.1 bt693.2.2.1 bt693.2.2.2.1 bt693.2.2.2.2.1 bt693.2.2.2.2.2.1 bt693.2.2.2.2.2.2 bt705.1 bt705.2.1 bt705.2.2.1 bt705.2.2.2.1 bt705.2.2.2.2.1 bt705.2.2.2.2.2.1 bt705.2.2.2.2.2.2.1))))))))
theorem laws_FnExactGoOn.mono_l : ∀ k, (∀ y0 y1 y2 y3 y4 y5 y6 y7 y8 y9 y10 y11 y12 y13 y14 y15 y16 y17 y18 y19 y20 y21 y22 y23 y24 y25 y26 y27 y28 y29 y30 y31, LeO (laws_FnExactGoOn.j0 k y0 y1 y2 y3 y4 y5 y6 y7 y8 y9 y10 y11 y12 y13 y14 y15 y16 y17 y18 y19 y20 y21 y22 y23 y24 y25 y26 y27 y28 y29 y30 y31) (laws_FnExactGoOn.j0 (k + 1) y0 y1 y2 y3 y4 y5 y6 y7 y8 y9 y10 y11 y12 y13 y14 y15 y16 y17 y18 y19 y20 y21 y22 y23 y24 y25 y26 y27 y28 y29 y30 y31)) ∧ (∀ y0 y1 y2 y3 y4 y5 y6 y7 y8 y9 y10 y11 y12 y13 y14 y15 y16 y17 y18 y19 y20 y21 y22 y23, LeO (laws_FnExactGoOn.j1 k y0 y1 y2 y3 y4 y5 y6 y7 y8 y9 y10 y11 y12 y13 y14 y15 y16 y17 y18 y19 y20 y21 y22 y23) (laws_FnExactGoOn.j1 (k + 1) y0 y1 y2 y3 y4 y5 y6 y7 y8 y9 y10 y11 y12 y13 y14 y15 y16 y17 y18 y19 y20 y21 y22 y23)) ∧ (∀ y0 y1 y2 y3 y4 y5 y6 y7 y8, LeO (laws_FnExactGoOn.j2 k y0 y1 y2 y3 y4 y5 y6 y7 y8) (laws_FnExactGoOn.j2 (k + 1) y0 y1 y2 y3 y4 y5 y6 y7 y8))
  | 0 => ⟨fun _ _ _ _ _ _ _ _ _ _ _ _ _ _ _ _ _ _ _ _ _ _ _ _ _ _ _ _ _ _ _ _ r h => by simp [laws_FnExactGoOn.j0] at h, fun _ _ _ _ _ _ _ _ _ _ _ _ _ _ _ _ _ _ _ _ _ _ _ _ r h => by simp [laws_FnExactGoOn.j1] at h, fun _ _ _ _ _ _ _ _ _ r h => by simp [laws_FnExactGoOn.j2] at h⟩
  | k + 1 => by
    obtain ⟨ih0, ih1, ih2⟩ := laws_FnExactGoOn.mono_l k
    refine ⟨?_, ?_, ?_⟩
    · intro y0 y1 y2 y3 y4 y5 y6 y7 y8 y9 y10 y11 y12 y13 y14 y15 y16 y17 y18 y19 y20 y21 y22 y23 y24 y25 y26 y27 y28 y29 y30 y31
      unfold laws_FnExactGoOn.j0
      repeat' first
      | (with_reducible exact ih0 _ _ _ _ _ _ _ _ _ _ _ _ _ _ _ _ _ _ _ _ _ _ _ _ _ _ _ _ _ _ _ _)
      | (with_reducible exact ih1 _ _ _ _ _ _ _ _ _ _ _ _ _ _ _ _ _ _ _ _ _ _ _ _)
      | (with_reducible exact ih2 _ _ _ _ _ _ _ _ _)
      | (with_reducible exact impl_GoOn.mono _ _ _ _ _ _ _ _ _)
      | (with_reducible exact laws_eqEvent.mono _ _ _ _ _ _ _ _ _ _ _ _ _ _ _)
      | (with_reducible exact laws_heldEvent.mono _ _ _ _ _ _ _ _ _)
      | (with_reducible exact laws_markEvent.mono _ _ _ _ _ _ _ _ _)
      | (with_reducible exact laws_toEvent.mono _ _ _ _ _ _ _ _)
      | (with_reducible exact spec_GoOn.mono _ _ _ _ _ _ _ _ _)
      | (with_reducible exact LeO.refl _)
      | (with_reducible exact LeO.none _)
      | (with_reducible refine LeO.ite ?_ ?_)
      | (with_reducible refine LeO.bind ?_ (fun _ => ?_))
      | exact ih0 _ _ _ _ _ _ _ _ _ _ _ _ _ _ _ _ _ _ _ _ _ _ _ _ _ _ _ _ _ _ _ _
      | exact ih1 _ _ _ _ _ _ _ _ _ _ _ _ _ _ _ _ _ _ _ _ _ _ _ _
      | exact ih2 _ _ _ _ _ _ _ _ _
      | exact impl_GoOn.mono _ _ _ _ _ _ _ _ _
      | exact laws_eqEvent.mono _ _ _ _ _ _ _ _ _ _ _ _ _ _ _
      | exact laws_heldEvent.mono _ _ _ _ _ _ _ _ _
      | exact laws_markEvent.mono _ _ _ _ _ _ _ _ _
      | exact laws_toEvent.mono _ _ _ _ _ _ _ _
      | exact spec_GoOn.mono _ _ _ _ _ _ _ _ _
      | exact LeO.none _
      | refine LeO.ite ?_ ?_
      | refine LeO.bind ?_ (fun _ => ?_)
    · intro y0 y1 y2 y3 y4 y5 y6 y7 y8 y9 y10 y11 y12 y13 y14 y15 y16 y17 y18 y19 y20 y21 y22 y23
      unfold laws_FnExactGoOn.j1
      repeat' first
      | (with_reducible exact ih0 _ _ _ _ _ _ _ _ _ _ _ _ _ _ _ _ _ _ _ _ _ _ _ _ _ _ _ _ _ _ _ _)
      | (with_reducible exact ih1 _ _ _ _ _ _ _ _ _ _ _ _ _ _ _ _ _ _ _ _ _ _ _ _)
      | (with_reducible exact ih2 _ _ _ _ _ _ _ _ _)
      | (with_reducible exact impl_GoOn.mono _ _ _ _ _ _ _ _ _)
      | (with_reducible exact laws_eqEvent.mono _ _ _ _ _ _ _ _ _ _ _ _ _ _ _)
      | (with_reducible exact laws_heldEvent.mono _ _ _ _ _ _ _ _ _)
      | (with_reducible exact laws_markEvent.mono _ _ _ _ _ _ _ _ _)
      | (with_reducible exact laws_toEvent.mono _ _ _ _ _ _ _ _)
      | (with_reducible exact spec_GoOn.mono _ _ _ _ _ _ _ _ _)
      | (with_reducible exact LeO.refl _)
      | (with_reducible exact LeO.none _)
      | (with_reducible refine LeO.ite ?_ ?_)
      | (with_reducible refine LeO.bind ?_ (fun _ => ?_))
      | exact ih0 _ _ _ _ _ _ _ _ _ _ _ _ _ _ _ _ _ _ _ _ _ _ _ _ _ _ _ _ _ _ _ _
      | exact ih1 _ _ _ _ _ _ _ _ _ _ _ _ _ _ _ _ _ _ _ _ _ _ _ _
      | exact ih2 _ _ _ _ _ _ _ _ _
      | exact impl_GoOn.mono _ _ _ _ _ _ _ _ _
      | exact laws_eqEvent.mono _ _ _ _ _ _ _ _ _ _ _ _ _ _ _
      | exact laws_heldEvent.mono _ _ _ _ _ _ _ _ _
      | exact laws_markEvent.mono _ _ _ _ _ _ _ _ _
      | exact laws_toEvent.mono _ _ _ _ _ _ _ _
      | exact spec_GoOn.mono _ _ _ _ _ _ _ _ _
      | exact LeO.none _
      | refine LeO.ite ?_ ?_
      | refine LeO.bind ?_ (fun _ => ?_)
    · intro y0 y1 y2 y3 y4 y5 y6 y7 y8
      unfold laws_FnExactGoOn.j2
      repeat' first
      | (with_reducible exact ih0 _ _ _ _ _ _ _ _ _ _ _ _ _ _ _ _ _ _ _ _ _ _ _ _ _ _ _ _ _ _ _ _)
      | (with_reducible exact ih1 _ _ _ _ _ _ _ _ _ _ _ _ _ _ _ _ _ _ _ _ _ _ _ _)
      | (with_reducible exact ih2 _ _ _ _ _ _ _ _ _)
      | (with_reducible exact impl_GoOn.mono _ _ _ _ _ _ _ _ _)
      | (with_reducible exact laws_eqEvent.mono _ _ _ _ _ _ _ _ _ _ _ _ _ _ _)
      | (with_reducible exact laws_heldEvent.mono _ _ _ _ _ _ _ _ _)
      | (with_reducible exact laws_markEvent.mono _ _ _ _ _ _ _ _ _)
      | (with_reducible exact laws_toEvent.mono _ _ _ _ _ _ _ _)
      | (with_reducible exact spec_GoOn.mono _ _ _ _ _ _ _ _ _)
      | (with_reducible exact LeO.refl _)
      | (with_reducible exact LeO.none _)
      | (with_reducible refine LeO.ite ?_ ?_)
      | (with_reducible refine LeO.bind ?_ (fun _ => ?_))
      | exact ih0 _ _ _ _ _ _ _ _ _ _ _ _ _ _ _ _ _ _ _ _ _ _ _ _ _ _ _ _ _ _ _ _
      | exact ih1 _ _ _ _ _ _ _ _ _ _ _ _ _ _ _ _ _ _ _ _ _ _ _ _
      | exact ih2 _ _ _ _ _ _ _ _ _
      | exact impl_GoOn.mono _ _ _ _ _ _ _ _ _
      | exact laws_eqEvent.mono _ _ _ _ _ _ _ _ _ _ _ _ _ _ _
      | exact laws_heldEvent.mono _ _ _ _ _ _ _ _ _
      | exact laws_markEvent.mono _ _ _ _ _ _ _ _ _
      | exact laws_toEvent.mono _ _ _ _ _ _ _ _
      | exact spec_GoOn.mono _ _ _ _ _ _ _ _ _
      | exact LeO.none _
      | refine LeO.ite ?_ ?_
      | refine LeO.bind ?_ (fun _ => ?_)
theorem laws_FnExactGoOn.mono : ∀ a0 a1 a2 a3 a4 a5 a6 a7 k, LeO (laws_FnExactGoOn.f k a0 a1 a2 a3 a4 a5 a6 a7) (laws_FnExactGoOn.f (k + 1) a0 a1 a2 a3 a4 a5 a6 a7) := by
  intro a0 a1 a2 a3 a4 a5 a6 a7 k
  obtain ⟨ih0, ih1, ih2⟩ := laws_FnExactGoOn.mono_l k
  unfold laws_FnExactGoOn.f
  repeat' first
      | (with_reducible exact ih0 _ _ _ _ _ _ _ _ _ _ _ _ _ _ _ _ _ _ _ _ _ _ _ _ _ _ _ _ _ _ _ _)
      | (with_reducible exact ih1 _ _ _ _ _ _ _ _ _ _ _ _ _ _ _ _ _ _ _ _ _ _ _ _)
      | (with_reducible exact ih2 _ _ _ _ _ _ _ _ _)
      | (with_reducible exact impl_GoOn.mono _ _ _ _ _ _ _ _ _)
      | (with_reducible exact laws_eqEvent.mono _ _ _ _ _ _ _ _ _ _ _ _ _ _ _)
      | (with_reducible exact laws_heldEvent.mono _ _ _ _ _ _ _ _ _)
      | (with_reducible exact laws_markEvent.mono _ _ _ _ _ _ _ _ _)
      | (with_reducible exact laws_toEvent.mono _ _ _ _ _ _ _ _)
      | (with_reducible exact spec_GoOn.mono _ _ _ _ _ _ _ _ _)
      | (with_reducible exact LeO.refl _)
      | (with_reducible exact LeO.none _)
      | (with_reducible refine LeO.ite ?_ ?_)
      | (with_reducible refine LeO.bind ?_ (fun _ => ?_))
      | exact ih0 _ _ _ _ _ _ _ _ _ _ _ _ _ _ _ _ _ _ _ _ _ _ _ _ _ _ _ _ _ _ _ _
      | exact ih1 _ _ _ _ _ _ _ _ _ _ _ _ _ _ _ _ _ _ _ _ _ _ _ _
      | exact ih2 _ _ _ _ _ _ _ _ _
      | exact impl_GoOn.mono _ _ _ _ _ _ _ _ _
      | exact laws_eqEvent.mono _ _ _ _ _ _ _ _ _ _ _ _ _ _ _
      | exact laws_heldEvent.mono _ _ _ _ _ _ _ _ _
      | exact laws_markEvent.mono _ _ _ _ _ _ _ _ _
      | exact laws_toEvent.mono _ _ _ _ _ _ _ _
      | exact spec_GoOn.mono _ _ _ _ _ _ _ _ _
      | exact LeO.none _
      | refine LeO.ite ?_ ?_
      | refine LeO.bind ?_ (fun _ => ?_)
set_option maxHeartbeats 8000000 in
set_option maxRecDepth 100000 in
theorem laws_FnExactGoOn.calls (k : Nat) (a0_0 : Bool) (a0_1 : Bool) (A0_2 : Option Addr) (c0_2 : Nat) (l0_2 : List Int) (A0_3 : Option Addr) (c0_3 : Nat) (l0_3 : List Int) (a0_4 : Int) (a0_5 : Int) (a0_6 : Int) (a1 : Int) (r : Bool) (w : World) (hr0_2 : Kd.C (Kd.int .i64) w A0_2 l0_2.length l0_2) (hc0_2 : l0_2.length ≤ c0_2) (hr0_3 : Kd.C (Kd.int .i64) w A0_3 l0_3.length l0_3) (hc0_3 : l0_3.length ≤ c0_3) (HQ_ : Aside0 (r = true)) (h : laws_FnExactGoOn.f k a0_0 a0_1 l0_2 l0_3 a0_4 a0_5 a0_6 a1 = some r) :
    Calls Try.prog 7 #[.agg #[.bool a0_0, .bool a0_1, .slice A0_2 l0_2.length c0_2, .slice A0_3 l0_3.length c0_3, .int .i64 a0_4, .int .i64 a0_5, .int .i64 a0_6], .int .i64 a1] w fun e w' => e = .returned (.bool r) ∧ Below w.heap.size w w' := by
  have hu24 := Try.underlying24
  have hu27 := Try.underlying27
  have HR0_2 := Aside0.mk hr0_2
  have HC0_2 := Aside0.mk hc0_2
  clear hr0_2 hc0_2
  have HR0_3 := Aside0.mk hr0_3
  have HC0_3 := Aside0.mk hc0_3
  clear hr0_3 hc0_3
  have HB := Aside0.mk (Below.refl w.heap.size w)
  have H : ((laws_szEvent.f a0_0 a0_1 l0_2 l0_3 a0_4 a0_5 a0_6 1048576).bind fun t668 => (if t668 < 0 then (some true) else ((laws_toEvent.f k a0_0 a0_1 l0_2 l0_3 a0_4 a0_5 a0_6).bind fun bt669 => ((spec_GoOn.f k bt669.1 bt669.2.1 bt669.2.2.1 bt669.2.2.2.1 bt669.2.2.2.2.1 bt669.2.2.2.2.2.1 bt669.2.2.2.2.2.2 a1).bind fun bt680 => ((laws_toEvent.f k a0_0 a0_1 l0_2 l0_3 a0_4 a0_5 a0_6).bind fun bt693 => ((impl_GoOn.f k bt693.1 bt693.2.1 bt693.2.2.1 bt693.2.2.2.1 bt693.2.2.2.2.1 bt693.2.2.2.2.2.1 bt693.2.2.2.2.2.2 a1).bind fun bt705 => ((laws_eqEvent.f k bt705.1 bt705.2.1 bt705.2.2.1 bt705.2.2.2.1 bt705.2.2.2.2.1 bt705.2.2.2.2.2.1 bt705.2.2.2.2.2.2.1 bt680.1 bt680.2.1 bt680.2.2.1 bt680.2.2.2.1 bt680.2.2.2.2.1 bt680.2.2.2.2.2.1 bt680.2.2.2.2.2.2.1).bind fun t718 => (if t718 = true then (laws_FnExactGoOn.j0 k a1 bt680.2.2.2.2.2.2.2 bt705.2.2.2.2.2.2.2 (bt705.2.2.2.2.2.2.2 != bt680.2.2.2.2.2.2.2) a0_0 a0_1 l0_2 l0_3 a0_4 a0_5 a0_6 bt680.1 bt680.2.1 bt680.2.2.1 bt680.2.2.2.1 bt680.2.2.2.2.1 bt680.2.2.2.2.2.1 bt680.2.2.2.2.2.2.1 bt693.1 bt693.2.1 bt693.2.2.1 bt693.2.2.2.1 bt693.2.2.2.2.1 bt693.2.2.2.2.2.1 bt693.2.2.2.2.2.2 bt705.1 bt705.2.1 bt705.2.2.1 bt705.2.2.2.1 bt705.2.2.2.2.1 bt705.2.2.2.2.2.1 bt705.2.2.2.2.2.2.1) else (laws_FnExactGoOn.j0 k a1 bt680.2.2.2.2.2.2.2 bt705.2.2.2.2.2.2.2 true a0_0 a0_1 l0_2 l0_3 a0_4 a0_5 a0_6 bt680.1 bt680.2.1 bt680.2.2.1 bt680.2.2.2.1 bt680.2.2.2.2.1 bt680.2.2.2.2.2.1 bt680.2.2.2.2.2.2.1 bt693.1 bt693.2.1 bt693.2.2.1 bt693.2.2.2.1 bt693.2.2.2.2.1 bt693.2.2.2.2.2.1 bt693.2.2.2.2.2.2 bt705.1 bt705.2.1 bt705.2.2.1 bt705.2.2.2.1 bt705.2.2.2.2.1 bt705.2.2.2.2.2.1 bt705.2.2.2.2.2.2.1))))))))) = some r := h
  clear h
  replace H := Option.bind_eq_some_iff.mp H
  obtain ⟨t668, A30, H⟩ := H
  replace H : (if t668 < 0 then (some true) else ((laws_toEvent.f k a0_0 a0_1 l0_2 l0_3 a0_4 a0_5 a0_6).bind fun bt669 => ((spec_GoOn.f k bt669.1 bt669.2.1 bt669.2.2.1 bt669.2.2.2.1 bt669.2.2.2.2.1 bt669.2.2.2.2.2.1 bt669.2.2.2.2.2.2 a1).bind fun bt680 => ((laws_toEvent.f k a0_0 a0_1 l0_2 l0_3 a0_4 a0_5 a0_6).bind fun bt693 => ((impl_GoOn.f k bt693.1 bt693.2.1 bt693.2.2.1 bt693.2.2.2.1 bt693.2.2.2.2.1 bt693.2.2.2.2.2.1 bt693.2.2.2.2.2.2 a1).bind fun bt705 => ((laws_eqEvent.f k bt705.1 bt705.2.1 bt705.2.2.1 bt705.2.2.2.1 bt705.2.2.2.2.1 bt705.2.2.2.2.2.1 bt705.2.2.2.2.2.2.1 bt680.1 bt680.2.1 bt680.2.2.1 bt680.2.2.2.1 bt680.2.2.2.2.1 bt680.2.2.2.2.2.1 bt680.2.2.2.2.2.2.1).bind fun t718 => (if t718 = true then (laws_FnExactGoOn.j0 k a1 bt680.2.2.2.2.2.2.2 bt705.2.2.2.2.2.2.2 (bt705.2.2.2.2.2.2.2 != bt680.2.2.2.2.2.2.2) a0_0 a0_1 l0_2 l0_3 a0_4 a0_5 a0_6 bt680.1 bt680.2.1 bt680.2.2.1 bt680.2.2.2.1 bt680.2.2.2.2.1 bt680.2.2.2.2.2.1 bt680.2.2.2.2.2.2.1 bt693.1 bt693.2.1 bt693.2.2.1 bt693.2.2.2.1 bt693.2.2.2.2.1 bt693.2.2.2.2.2.1 bt693.2.2.2.2.2.2 bt705.1 bt705.2.1 bt705.2.2.1 bt705.2.2.2.1 bt705.2.2.2.2.1 bt705.2.2.2.2.2.1 bt705.2.2.2.2.2.2.1) else (laws_FnExactGoOn.j0 k a1 bt680.2.2.2.2.2.2.2 bt705.2.2.2.2.2.2.2 true a0_0 a0_1 l0_2 l0_3 a0_4 a0_5 a0_6 bt680.1 bt680.2.1 bt680.2.2.1 bt680.2.2.2.1 bt680.2.2.2.2.1 bt680.2.2.2.2.2.1 bt680.2.2.2.2.2.2.1 bt693.1 bt693.2.1 bt693.2.2.1 bt693.2.2.2.1 bt693.2.2.2.2.1 bt693.2.2.2.2.2.1 bt693.2.2.2.2.2.2 bt705.1 bt705.2.1 bt705.2.2.1 bt705.2.2.2.1 bt705.2.2.2.2.1 bt705.2.2.2.2.2.1 bt705.2.2.2.2.2.2.1)))))))) = some r := H
  have A3 := Aside0.mk A30
  clear A30
  by_cases c4 : t668 < 0
  · rw [if_pos c4] at H
    have c4b0 : decide (t668 < 0) = true := decide_eq_true c4
    clear c4
    obtain rfl := Option.some.inj H
    go_enter Try.func7, Try.ntmps7
    go_wp2_with (first | ((with_reducible refine gate_dst (N := 2) rfl ?_); refine box_event ?hg (N := 2) ?hd (cs := #[.bool a0_0, .bool a0_1, .slice A0_2 l0_2.length c0_2, .slice A0_3 l0_3.length c0_3, .int .i64 a0_4, .int .i64 a0_5, .int .i64 a0_6]) (t := 24) ?hr ?_; (case hd => rfl); (case hg => rfl); (case hr => first | (go_simp; done) | (go_simp; rfl)); intro gb667 hg w5 hbox hb; have n0_ := Aside0.mk (below_step (pkB HB.out) hb); have n1_ := Aside0.mk (hbox); have n2_ := Aside0.mk ((by rw [hg]; exact (below_size (pkB HB.out)) : w.heap.size ≤ gb667)); have n3_ := Aside0.mk ((by rw [hg]; exact (below_size (pkB HB.out)) : w.heap.size ≤ gb667)); clear HB; have HB := n0_; have BK667 := n1_; have GW667 := n2_; have GE667 := n3_; clear n0_ n1_ n2_ n3_; clear hb hbox hg; have hcz6_0 : w5.cell? ⟨gb667, 0, none⟩ = some (.bool a0_0) := (blk_cell BK667.out 0).trans rfl; have hcz6_1 : w5.cell? ⟨gb667, 1, none⟩ = some (.bool a0_1) := (blk_cell BK667.out 1).trans rfl; have hcz6_2 : w5.cell? ⟨gb667, 2, none⟩ = some (.slice A0_2 l0_2.length c0_2) := (blk_cell BK667.out 2).trans rfl; have hcz6_3 : w5.cell? ⟨gb667, 3, none⟩ = some (.slice A0_3 l0_3.length c0_3) := (blk_cell BK667.out 3).trans rfl; have hcz6_4 : w5.cell? ⟨gb667, 4, none⟩ = some (.int .i64 a0_4) := (blk_cell BK667.out 4).trans rfl; have hcz6_5 : w5.cell? ⟨gb667, 5, none⟩ = some (.int .i64 a0_5) := (blk_cell BK667.out 5).trans rfl; have hcz6_6 : w5.cell? ⟨gb667, 6, none⟩ = some (.int .i64 a0_6) := (blk_cell BK667.out 6).trans rfl; have hfz6_0 := blk_frozen BK667.out 0; have hfz6_1 := blk_frozen BK667.out 1; have hfz6_2 := blk_frozen BK667.out 2; have hfz6_3 := blk_frozen BK667.out 3; have hfz6_4 := blk_frozen BK667.out 4; have hfz6_5 := blk_frozen BK667.out 5; have hfz6_6 := blk_frozen BK667.out 6) | ((with_reducible refine gate_callee (f := 14) rfl ?_); refine goesL_ (some 18) rfl rfl Try.func14 (by kernel_rfl) rfl #[.agg #[.bool a0_0, .bool a0_1, .slice A0_2 l0_2.length c0_2, .slice A0_3 l0_3.length c0_3, .int .i64 a0_4, .int .i64 a0_5, .int .i64 a0_6], .int .i64 1048576] rfl (by (try simp only [List.map_toArray, List.map_cons, List.map_nil]); first | done | rfl | (simp only [List.length_drop, List.length_take]; rfl) | (go_simp; done) | (simp [*]; done)) ?_; (with_reducible refine (laws_szEvent.calls a0_0 a0_1 _ _ l0_2 _ _ l0_3 a0_4 a0_5 a0_6 1048576 t668 _ ?side1 ?side2 ?side3 ?side4 A3.out).mono ?_); (case side1 => exact pkC (Kd.C_below HR0_2.out HB.out)); (case side2 => exact HC0_2.out); (case side3 => exact pkC (Kd.C_below HR0_3.out HB.out)); (case side4 => exact HC0_3.out); rintro e w7 ⟨rfl, hb⟩; refine ⟨_, rfl, ?_⟩; have n0_ := Aside0.mk (blk_below (g := gb667) (o := .cells #[.bool a0_0, .bool a0_1, .slice A0_2 l0_2.length c0_2, .slice A0_3 l0_3.length c0_3, .int .i64 a0_4, .int .i64 a0_5, .int .i64 a0_6] 24 (0, 0)) (pkK BK667.out) hb); have n1_ := Aside0.mk (below_step (by repeat (first | (with_reducible first | exact HB.out | apply below_alloc | apply pw_below_drewN | apply below_drew1 | refine below_set ?_ GE667.out) | exact HB.out)) hb); clear BK667 HB; have BK667 := n0_; have HB := n1_; clear n0_ n1_; (try clear hb); (try clear hb2); (try clear hk); (try clear hi)))
    go_ret
    exact ⟨by first | rfl | (simp [errW_none, errW_some] <;> rfl) | (simp [*, errW_none, errW_some] <;> rfl), by repeat (first | (with_reducible first | exact HB.out | apply below_alloc | apply pw_below_drewN | apply below_drew1 | refine below_set ?_ GE667.out) | exact HB.out)⟩
  · rw [if_neg c4] at H
    have c4b0 : decide (t668 < 0) = false := decide_eq_false c4
    clear c4
    replace H := Option.bind_eq_some_iff.mp H
    obtain ⟨⟨t669, t670, t671, t674, t677, t678, t679⟩, A80, H⟩ := H
    replace H : ((spec_GoOn.f k t669 t670 t671 t674 t677 t678 t679 a1).bind fun bt680 => ((laws_toEvent.f k a0_0 a0_1 l0_2 l0_3 a0_4 a0_5 a0_6).bind fun bt693 => ((impl_GoOn.f k bt693.1 bt693.2.1 bt693.2.2.1 bt693.2.2.2.1 bt693.2.2.2.2.1 bt693.2.2.2.2.2.1 bt693.2.2.2.2.2.2 a1).bind fun bt705 => ((laws_eqEvent.f k bt705.1 bt705.2.1 bt705.2.2.1 bt705.2.2.2.1 bt705.2.2.2.2.1 bt705.2.2.2.2.2.1 bt705.2.2.2.2.2.2.1 bt680.1 bt680.2.1 bt680.2.2.1 bt680.2.2.2.1 bt680.2.2.2.2.1 bt680.2.2.2.2.2.1 bt680.2.2.2.2.2.2.1).bind fun t718 => (if t718 = true then (laws_FnExactGoOn.j0 k a1 bt680.2.2.2.2.2.2.2 bt705.2.2.2.2.2.2.2 (bt705.2.2.2.2.2.2.2 != bt680.2.2.2.2.2.2.2) a0_0 a0_1 l0_2 l0_3 a0_4 a0_5 a0_6 bt680.1 bt680.2.1 bt680.2.2.1 bt680.2.2.2.1 bt680.2.2.2.2.1 bt680.2.2.2.2.2.1 bt680.2.2.2.2.2.2.1 bt693.1 bt693.2.1 bt693.2.2.1 bt693.2.2.2.1 bt693.2.2.2.2.1 bt693.2.2.2.2.2.1 bt693.2.2.2.2.2.2 bt705.1 bt705.2.1 bt705.2.2.1 bt705.2.2.2.1 bt705.2.2.2.2.1 bt705.2.2.2.2.2.1 bt705.2.2.2.2.2.2.1) else (laws_FnExactGoOn.j0 k a1 bt680.2.2.2.2.2.2.2 bt705.2.2.2.2.2.2.2 true a0_0 a0_1 l0_2 l0_3 a0_4 a0_5 a0_6 bt680.1 bt680.2.1 bt680.2.2.1 bt680.2.2.2.1 bt680.2.2.2.2.1 bt680.2.2.2.2.2.1 bt680.2.2.2.2.2.2.1 bt693.1 bt693.2.1 bt693.2.2.1 bt693.2.2.2.1 bt693.2.2.2.2.1 bt693.2.2.2.2.2.1 bt693.2.2.2.2.2.2 bt705.1 bt705.2.1 bt705.2.2.1 bt705.2.2.2.1 bt705.2.2.2.2.1 bt705.2.2.2.2.2.1 bt705.2.2.2.2.2.2.1)))))) = some r := H
    have A8 := Aside0.mk A80
    clear A80
    replace H := Option.bind_eq_some_iff.mp H
    obtain ⟨⟨t680, t681, t682, t685, t688, t689, t690, t691⟩, A90, H⟩ := H
    replace H : ((laws_toEvent.f k a0_0 a0_1 l0_2 l0_3 a0_4 a0_5 a0_6).bind fun bt693 => ((impl_GoOn.f k bt693.1 bt693.2.1 bt693.2.2.1 bt693.2.2.2.1 bt693.2.2.2.2.1 bt693.2.2.2.2.2.1 bt693.2.2.2.2.2.2 a1).bind fun bt705 => ((laws_eqEvent.f k bt705.1 bt705.2.1 bt705.2.2.1 bt705.2.2.2.1 bt705.2.2.2.2.1 bt705.2.2.2.2.2.1 bt705.2.2.2.2.2.2.1 t680 t681 t682 t685 t688 t689 t690).bind fun t718 => (if t718 = true then (laws_FnExactGoOn.j0 k a1 t691 bt705.2.2.2.2.2.2.2 (bt705.2.2.2.2.2.2.2 != t691) a0_0 a0_1 l0_2 l0_3 a0_4 a0_5 a0_6 t680 t681 t682 t685 t688 t689 t690 bt693.1 bt693.2.1 bt693.2.2.1 bt693.2.2.2.1 bt693.2.2.2.2.1 bt693.2.2.2.2.2.1 bt693.2.2.2.2.2.2 bt705.1 bt705.2.1 bt705.2.2.1 bt705.2.2.2.1 bt705.2.2.2.2.1 bt705.2.2.2.2.2.1 bt705.2.2.2.2.2.2.1) else (laws_FnExactGoOn.j0 k a1 t691 bt705.2.2.2.2.2.2.2 true a0_0 a0_1 l0_2 l0_3 a0_4 a0_5 a0_6 t680 t681 t682 t685 t688 t689 t690 bt693.1 bt693.2.1 bt693.2.2.1 bt693.2.2.2.1 bt693.2.2.2.2.1 bt693.2.2.2.2.2.1 bt693.2.2.2.2.2.2 bt705.1 bt705.2.1 bt705.2.2.1 bt705.2.2.2.1 bt705.2.2.2.2.1 bt705.2.2.2.2.2.1 bt705.2.2.2.2.2.2.1))))) = some r := H
    have A9 := Aside0.mk A90
    clear A90
    replace H := Option.bind_eq_some_iff.mp H
    obtain ⟨⟨t693, t694, t695, t698, t701, t702, t703⟩, A100, H⟩ := H
    replace H : ((impl_GoOn.f k t693 t694 t695 t698 t701 t702 t703 a1).bind fun bt705 => ((laws_eqEvent.f k bt705.1 bt705.2.1 bt705.2.2.1 bt705.2.2.2.1 bt705.2.2.2.2.1 bt705.2.2.2.2.2.1 bt705.2.2.2.2.2.2.1 t680 t681 t682 t685 t688 t689 t690).bind fun t718 => (if t718 = true then (laws_FnExactGoOn.j0 k a1 t691 bt705.2.2.2.2.2.2.2 (bt705.2.2.2.2.2.2.2 != t691) a0_0 a0_1 l0_2 l0_3 a0_4 a0_5 a0_6 t680 t681 t682 t685 t688 t689 t690 t693 t694 t695 t698 t701 t702 t703 bt705.1 bt705.2.1 bt705.2.2.1 bt705.2.2.2.1 bt705.2.2.2.2.1 bt705.2.2.2.2.2.1 bt705.2.2.2.2.2.2.1) else (laws_FnExactGoOn.j0 k a1 t691 bt705.2.2.2.2.2.2.2 true a0_0 a0_1 l0_2 l0_3 a0_4 a0_5 a0_6 t680 t681 t682 t685 t688 t689 t690 t693 t694 t695 t698 t701 t702 t703 bt705.1 bt705.2.1 bt705.2.2.1 bt705.2.2.2.1 bt705.2.2.2.2.1 bt705.2.2.2.2.2.1 bt705.2.2.2.2.2.2.1)))) = some r := H
    have A10 := Aside0.mk A100
    clear A100
    replace H := Option.bind_eq_some_iff.mp H
    obtain ⟨⟨t705, t706, t707, t710, t713, t714, t715, t716⟩, A110, H⟩ := H
    replace H : ((laws_eqEvent.f k t705 t706 t707 t710 t713 t714 t715 t680 t681 t682 t685 t688 t689 t690).bind fun t718 => (if t718 = true then (laws_FnExactGoOn.j0 k a1 t691 t716 (t716 != t691) a0_0 a0_1 l0_2 l0_3 a0_4 a0_5 a0_6 t680 t681 t682 t685 t688 t689 t690 t693 t694 t695 t698 t701 t702 t703 t705 t706 t707 t710 t713 t714 t715) else (laws_FnExactGoOn.j0 k a1 t691 t716 true a0_0 a0_1 l0_2 l0_3 a0_4 a0_5 a0_6 t680 t681 t682 t685 t688 t689 t690 t693 t694 t695 t698 t701 t702 t703 t705 t706 t707 t710 t713 t714 t715))) = some r := H
    have A11 := Aside0.mk A110
    clear A110
    have HC12 := Aside0.mk H
    clear H
    go_enter Try.func7, Try.ntmps7
    go_upto_region 8 with (first | ((with_reducible refine gate_dst (N := 2) rfl ?_); refine box_event ?hg (N := 2) ?hd (cs := #[.bool a0_0, .bool a0_1, .slice A0_2 l0_2.length c0_2, .slice A0_3 l0_3.length c0_3, .int .i64 a0_4, .int .i64 a0_5, .int .i64 a0_6]) (t := 24) ?hr ?_; (case hd => rfl); (case hg => rfl); (case hr => first | (go_simp; done) | (go_simp; rfl)); intro gb667 hg w13 hbox hb; have n0_ := Aside0.mk (below_step (pkB HB.out) hb); have n1_ := Aside0.mk (hbox); have n2_ := Aside0.mk ((by rw [hg]; exact (below_size (pkB HB.out)) : w.heap.size ≤ gb667)); have n3_ := Aside0.mk ((by rw [hg]; exact (below_size (pkB HB.out)) : w.heap.size ≤ gb667)); clear HB; have HB := n0_; have BK667 := n1_; have GW667 := n2_; have GE667 := n3_; clear n0_ n1_ n2_ n3_; clear hb hbox hg; have hcz14_0 : w13.cell? ⟨gb667, 0, none⟩ = some (.bool a0_0) := (blk_cell BK667.out 0).trans rfl; have hcz14_1 : w13.cell? ⟨gb667, 1, none⟩ = some (.bool a0_1) := (blk_cell BK667.out 1).trans rfl; have hcz14_2 : w13.cell? ⟨gb667, 2, none⟩ = some (.slice A0_2 l0_2.length c0_2) := (blk_cell BK667.out 2).trans rfl; have hcz14_3 : w13.cell? ⟨gb667, 3, none⟩ = some (.slice A0_3 l0_3.length c0_3) := (blk_cell BK667.out 3).trans rfl; have hcz14_4 : w13.cell? ⟨gb667, 4, none⟩ = some (.int .i64 a0_4) := (blk_cell BK667.out 4).trans rfl; have hcz14_5 : w13.cell? ⟨gb667, 5, none⟩ = some (.int .i64 a0_5) := (blk_cell BK667.out 5).trans rfl; have hcz14_6 : w13.cell? ⟨gb667, 6, none⟩ = some (.int .i64 a0_6) := (blk_cell BK667.out 6).trans rfl; have hfz14_0 := blk_frozen BK667.out 0; have hfz14_1 := blk_frozen BK667.out 1; have hfz14_2 := blk_frozen BK667.out 2; have hfz14_3 := blk_frozen BK667.out 3; have hfz14_4 := blk_frozen BK667.out 4; have hfz14_5 := blk_frozen BK667.out 5; have hfz14_6 := blk_frozen BK667.out 6) | ((with_reducible refine gate_callee (f := 14) rfl ?_); refine goesL_ (some 18) rfl rfl Try.func14 (by kernel_rfl) rfl #[.agg #[.bool a0_0, .bool a0_1, .slice A0_2 l0_2.length c0_2, .slice A0_3 l0_3.length c0_3, .int .i64 a0_4, .int .i64 a0_5, .int .i64 a0_6], .int .i64 1048576] rfl (by (try simp only [List.map_toArray, List.map_cons, List.map_nil]); first | done | rfl | (simp only [List.length_drop, List.length_take]; rfl) | (go_simp; done) | (simp [*]; done)) ?_; (with_reducible refine (laws_szEvent.calls a0_0 a0_1 _ _ l0_2 _ _ l0_3 a0_4 a0_5 a0_6 1048576 t668 _ ?side1 ?side2 ?side3 ?side4 A3.out).mono ?_); (case side1 => exact pkC (Kd.C_below HR0_2.out HB.out)); (case side2 => exact HC0_2.out); (case side3 => exact pkC (Kd.C_below HR0_3.out HB.out)); (case side4 => exact HC0_3.out); rintro e w15 ⟨rfl, hb⟩; refine ⟨_, rfl, ?_⟩; have n0_ := Aside0.mk (blk_below (g := gb667) (o := .cells #[.bool a0_0, .bool a0_1, .slice A0_2 l0_2.length c0_2, .slice A0_3 l0_3.length c0_3, .int .i64 a0_4, .int .i64 a0_5, .int .i64 a0_6] 24 (0, 0)) (pkK BK667.out) hb); have n1_ := Aside0.mk (below_step (by repeat (first | (with_reducible first | exact HB.out | apply below_alloc | apply pw_below_drewN | apply below_drew1 | refine below_set ?_ GE667.out) | exact HB.out)) hb); clear BK667 HB; have BK667 := n0_; have HB := n1_; clear n0_ n1_; (try clear hb); (try clear hb2); (try clear hk); (try clear hi); have hcz16_0 : w15.cell? ⟨gb667, 0, none⟩ = some (.bool a0_0) := (blk_cell BK667.out 0).trans rfl; have hcz16_1 : w15.cell? ⟨gb667, 1, none⟩ = some (.bool a0_1) := (blk_cell BK667.out 1).trans rfl; have hcz16_2 : w15.cell? ⟨gb667, 2, none⟩ = some (.slice A0_2 l0_2.length c0_2) := (blk_cell BK667.out 2).trans rfl; have hcz16_3 : w15.cell? ⟨gb667, 3, none⟩ = some (.slice A0_3 l0_3.length c0_3) := (blk_cell BK667.out 3).trans rfl; have hcz16_4 : w15.cell? ⟨gb667, 4, none⟩ = some (.int .i64 a0_4) := (blk_cell BK667.out 4).trans rfl; have hcz16_5 : w15.cell? ⟨gb667, 5, none⟩ = some (.int .i64 a0_5) := (blk_cell BK667.out 5).trans rfl; have hcz16_6 : w15.cell? ⟨gb667, 6, none⟩ = some (.int .i64 a0_6) := (blk_cell BK667.out 6).trans rfl; have hfz16_0 := blk_frozen BK667.out 0; have hfz16_1 := blk_frozen BK667.out 1; have hfz16_2 := blk_frozen BK667.out 2; have hfz16_3 := blk_frozen BK667.out 3; have hfz16_4 := blk_frozen BK667.out 4; have hfz16_5 := blk_frozen BK667.out 5; have hfz16_6 := blk_frozen BK667.out 6) | ((with_reducible refine gate_callee (f := 16) rfl ?_); refine goesL_ (some 23) rfl rfl Try.func16 (by kernel_rfl) rfl #[.agg #[.bool a0_0, .bool a0_1, .slice A0_2 l0_2.length c0_2, .slice A0_3 l0_3.length c0_3, .int .i64 a0_4, .int .i64 a0_5, .int .i64 a0_6]] rfl (by (try simp only [List.map_toArray, List.map_cons, List.map_nil]); first | done | rfl | (simp only [List.length_drop, List.length_take]; rfl) | (go_simp; done) | (simp [*]; done)) ?_; (with_reducible refine (laws_toEvent.calls k a0_0 a0_1 _ _ l0_2 _ _ l0_3 a0_4 a0_5 a0_6 t669 t670 t671 t674 t677 t678 t679 _ ?side1 ?side2 ?side3 ?side4 A8.out).mono ?_); (case side1 => exact pkC (Kd.C_below HR0_2.out HB.out)); (case side2 => exact HC0_2.out); (case side3 => exact pkC (Kd.C_below HR0_3.out HB.out)); (case side4 => exact HC0_3.out); rintro e w17 ⟨v672, v675, rfl, ho0, ho1, hb⟩; refine ⟨_, rfl, ?_⟩; have n0_ := Aside0.mk (Kd.R_lower ho0 (below_size (by repeat (first | (with_reducible first | exact HB.out | apply below_alloc | apply pw_below_drewN | apply below_drew1 | refine below_set ?_ GE667.out) | exact HB.out)))); have n1_ := Aside0.mk (Kd.R_lower ho1 (below_size (by repeat (first | (with_reducible first | exact HB.out | apply below_alloc | apply pw_below_drewN | apply below_drew1 | refine below_set ?_ GE667.out) | exact HB.out)))); have n2_ := Aside0.mk (blk_below (g := gb667) (o := .cells #[.bool a0_0, .bool a0_1, .slice A0_2 l0_2.length c0_2, .slice A0_3 l0_3.length c0_3, .int .i64 a0_4, .int .i64 a0_5, .int .i64 a0_6] 24 (0, 0)) (pkK BK667.out) hb); have n3_ := Aside0.mk (below_step (by repeat (first | (with_reducible first | exact HB.out | apply below_alloc | apply pw_below_drewN | apply below_drew1 | refine below_set ?_ GE667.out) | exact HB.out)) hb); clear BK667 HB; have HO673 := n0_; have HO676 := n1_; have BK667 := n2_; have HB := n3_; clear n0_ n1_ n2_ n3_; (try clear hb); (try clear hb2); (try clear hk); (try clear hi); (try clear ho0); (try clear ho1); obtain ⟨Ao18, co18, eo18⟩ := Kd.R_slice HO673.out; subst eo18; obtain ⟨Ao19, co19, eo19⟩ := Kd.R_slice HO676.out; subst eo19) | ((with_reducible refine gate_callee (f := 30) rfl ?_); refine goesL_ (some 25) rfl rfl Try.func30 (by kernel_rfl) rfl #[.agg #[.bool t669, .bool t670, .slice Ao18 t671.length co18, .slice Ao19 t674.length co19, .int .i64 t677, .int .i64 t678, .int .i64 t679], .int .i64 a1] rfl (by (try simp only [List.map_toArray, List.map_cons, List.map_nil]); first | done | rfl | (simp only [List.length_drop, List.length_take]; rfl) | (go_simp; done) | (simp [*]; done)) ?_; (with_reducible refine (spec_GoOn.calls k t669 t670 _ _ t671 _ _ t674 t677 t678 t679 a1 t680 t681 t682 t685 t688 t689 t690 t691 _ ?side1 ?side2 ?side3 ?side4 A9.out).mono ?_); (case side1 => exact pkC (Kd.R_reads' HO673.out).2.2); (case side2 => exact (Kd.R_reads' HO673.out).2.1); (case side3 => exact pkC (Kd.R_reads' HO676.out).2.2); (case side4 => exact (Kd.R_reads' HO676.out).2.1); rintro e w20 ⟨v683, v686, rfl, ho0, ho1, hb⟩; refine ⟨_, rfl, ?_⟩; have n0_ := Aside0.mk (Kd.R_mono (Kd.R_told (Kd.R_told (Kd.R_old (pkR HO673.out) hb) (Kd.R_base ho0)) (Kd.R_base ho1)) (fun _ h_ => h_.1)); have n1_ := Aside0.mk (Kd.R_mono (Kd.R_told (Kd.R_told (Kd.R_old (pkR HO676.out) hb) (Kd.R_base ho0)) (Kd.R_base ho1)) (fun _ h_ => h_.1)); have n2_ := Aside0.mk (Kd.R_lower (Kd.R_new' (Kd.R_new' ho0 (Kd.R_lt (pkR HO673.out))) (Kd.R_lt (pkR HO676.out))) (below_size (by repeat (first | (with_reducible first | exact HB.out | apply below_alloc | apply pw_below_drewN | apply below_drew1 | refine below_set ?_ GE667.out) | exact HB.out)))); have n3_ := Aside0.mk (Kd.R_lower (Kd.R_new' (Kd.R_new' ho1 (Kd.R_lt (pkR HO673.out))) (Kd.R_lt (pkR HO676.out))) (below_size (by repeat (first | (with_reducible first | exact HB.out | apply below_alloc | apply pw_below_drewN | apply below_drew1 | refine below_set ?_ GE667.out) | exact HB.out)))); have n4_ := Aside0.mk (blk_below (g := gb667) (o := .cells #[.bool a0_0, .bool a0_1, .slice A0_2 l0_2.length c0_2, .slice A0_3 l0_3.length c0_3, .int .i64 a0_4, .int .i64 a0_5, .int .i64 a0_6] 24 (0, 0)) (pkK BK667.out) hb); have n5_ := Aside0.mk (below_step (by repeat (first | (with_reducible first | exact HB.out | apply below_alloc | apply pw_below_drewN | apply below_drew1 | refine below_set ?_ GE667.out) | exact HB.out)) hb); clear HO673 HO676 BK667 HB; have HO673 := n0_; have HO676 := n1_; have HO684 := n2_; have HO687 := n3_; have BK667 := n4_; have HB := n5_; clear n0_ n1_ n2_ n3_ n4_ n5_; (try clear hb); (try clear hb2); (try clear hk); (try clear hi); (try clear ho0); (try clear ho1)) | ((with_reducible refine gate_dst (N := 6) rfl ?_); refine box_event ?hg (N := 6) ?hd (cs := #[.bool false, .bool false, .slice none 0 0, .slice none 0 0, .int .i64 0, .int .i64 0, .int .i64 0]) (t := 27) ?hr ?_; (case hd => rfl); (case hg => rfl); (case hr => first | (go_simp; done) | (go_simp; rfl)); intro gb692 hg w21 hbox hb; have n0_ := Aside0.mk (Kd.R_below (pkR HO673.out) hb); have n1_ := Aside0.mk (Kd.R_below (pkR HO676.out) hb); have n2_ := Aside0.mk (Kd.R_below (pkR HO684.out) hb); have n3_ := Aside0.mk (Kd.R_below (pkR HO687.out) hb); have n4_ := Aside0.mk (blk_below (g := gb667) (o := .cells #[.bool a0_0, .bool a0_1, .slice A0_2 l0_2.length c0_2, .slice A0_3 l0_3.length c0_3, .int .i64 a0_4, .int .i64 a0_5, .int .i64 a0_6] 24 (0, 0)) (pkK BK667.out) hb); have n5_ := Aside0.mk (below_step (by repeat (first | (with_reducible first | exact HB.out | apply below_alloc | apply pw_below_drewN | apply below_drew1 | refine below_set ?_ GE667.out) | exact HB.out)) hb); have n6_ := Aside0.mk (hbox); have n7_ := Aside0.mk ((by rw [hg]; exact (below_size (by repeat (first | (with_reducible first | exact HB.out | apply below_alloc | apply pw_below_drewN | apply below_drew1 | refine below_set ?_ GE667.out) | exact HB.out))) : w.heap.size ≤ gb692)); have n8_ := Aside0.mk ((by rw [hg]; exact (below_size (by repeat (first | (with_reducible first | exact HB.out | apply below_alloc | apply pw_below_drewN | apply below_drew1 | refine below_set ?_ GE667.out) | exact HB.out))) : w.heap.size ≤ gb692)); have n9_ := Aside0.mk ((by rw [hg]; exact Nat.ne_of_lt (blk_lt (g := gb667) (o := .cells #[.bool a0_0, .bool a0_1, .slice A0_2 l0_2.length c0_2, .slice A0_3 l0_3.length c0_3, .int .i64 a0_4, .int .i64 a0_5, .int .i64 a0_6] 24 (0, 0)) (pkK BK667.out)) : gb667 ≠ gb692)); have n10_ := Aside0.mk ((by rw [hg]; exact Nat.ne_of_gt (blk_lt (g := gb667) (o := .cells #[.bool a0_0, .bool a0_1, .slice A0_2 l0_2.length c0_2, .slice A0_3 l0_3.length c0_3, .int .i64 a0_4, .int .i64 a0_5, .int .i64 a0_6] 24 (0, 0)) (pkK BK667.out)) : gb692 ≠ gb667)); clear HO673 HO676 HO684 HO687 BK667 HB; have HO673 := n0_; have HO676 := n1_; have HO684 := n2_; have HO687 := n3_; have BK667 := n4_; have HB := n5_; have BK692 := n6_; have GW692 := n7_; have GE692 := n8_; have NB667_692 := n9_; have NB692_667 := n10_; clear n0_ n1_ n2_ n3_ n4_ n5_ n6_ n7_ n8_ n9_ n10_; clear hb hbox hg; have hnb22 := NB692_667.out; have hnc22 := NB667_692.out; have hcz23_0 : w21.cell? ⟨gb692, 0, none⟩ = some (.bool false) := (blk_cell BK692.out 0).trans rfl; have hcz23_1 : w21.cell? ⟨gb692, 1, none⟩ = some (.bool false) := (blk_cell BK692.out 1).trans rfl; have hcz23_2 : w21.cell? ⟨gb692, 2, none⟩ = some (.slice none 0 0) := (blk_cell BK692.out 2).trans rfl; have hcz23_3 : w21.cell? ⟨gb692, 3, none⟩ = some (.slice none 0 0) := (blk_cell BK692.out 3).trans rfl; have hcz23_4 : w21.cell? ⟨gb692, 4, none⟩ = some (.int .i64 0) := (blk_cell BK692.out 4).trans rfl; have hcz23_5 : w21.cell? ⟨gb692, 5, none⟩ = some (.int .i64 0) := (blk_cell BK692.out 5).trans rfl; have hcz23_6 : w21.cell? ⟨gb692, 6, none⟩ = some (.int .i64 0) := (blk_cell BK692.out 6).trans rfl; have hfz23_0 := blk_frozen BK692.out 0; have hfz23_1 := blk_frozen BK692.out 1; have hfz23_2 := blk_frozen BK692.out 2; have hfz23_3 := blk_frozen BK692.out 3; have hfz23_4 := blk_frozen BK692.out 4; have hfz23_5 := blk_frozen BK692.out 5; have hfz23_6 := blk_frozen BK692.out 6; obtain ⟨Ao24, co24, eo24⟩ := Kd.R_slice HO684.out; subst eo24; obtain ⟨Ao25, co25, eo25⟩ := Kd.R_slice HO687.out; subst eo25; have hcz26_0 : w21.cell? ⟨gb667, 0, none⟩ = some (.bool a0_0) := (blk_cell BK667.out 0).trans rfl; have hcz26_1 : w21.cell? ⟨gb667, 1, none⟩ = some (.bool a0_1) := (blk_cell BK667.out 1).trans rfl; have hcz26_2 : w21.cell? ⟨gb667, 2, none⟩ = some (.slice A0_2 l0_2.length c0_2) := (blk_cell BK667.out 2).trans rfl; have hcz26_3 : w21.cell? ⟨gb667, 3, none⟩ = some (.slice A0_3 l0_3.length c0_3) := (blk_cell BK667.out 3).trans rfl; have hcz26_4 : w21.cell? ⟨gb667, 4, none⟩ = some (.int .i64 a0_4) := (blk_cell BK667.out 4).trans rfl; have hcz26_5 : w21.cell? ⟨gb667, 5, none⟩ = some (.int .i64 a0_5) := (blk_cell BK667.out 5).trans rfl; have hcz26_6 : w21.cell? ⟨gb667, 6, none⟩ = some (.int .i64 a0_6) := (blk_cell BK667.out 6).trans rfl; have hfz26_0 := blk_frozen BK667.out 0; have hfz26_1 := blk_frozen BK667.out 1; have hfz26_2 := blk_frozen BK667.out 2; have hfz26_3 := blk_frozen BK667.out 3; have hfz26_4 := blk_frozen BK667.out 4; have hfz26_5 := blk_frozen BK667.out 5; have hfz26_6 := blk_frozen BK667.out 6) | ((with_reducible refine gate_callee (f := 16) rfl ?_); refine goesL_ (some 29) rfl rfl Try.func16 (by kernel_rfl) rfl #[.agg #[.bool a0_0, .bool a0_1, .slice A0_2 l0_2.length c0_2, .slice A0_3 l0_3.length c0_3, .int .i64 a0_4, .int .i64 a0_5, .int .i64 a0_6]] rfl (by (try simp only [List.map_toArray, List.map_cons, List.map_nil]); first | done | rfl | (simp only [List.length_drop, List.length_take]; rfl) | (go_simp; done) | (simp [*]; done)) ?_; (with_reducible refine (laws_toEvent.calls k a0_0 a0_1 _ _ l0_2 _ _ l0_3 a0_4 a0_5 a0_6 t693 t694 t695 t698 t701 t702 t703 _ ?side1 ?side2 ?side3 ?side4 A10.out).mono ?_); (case side1 => exact Kd.C_below HR0_2.out (by repeat (first | (with_reducible first | exact HB.out | apply below_alloc | apply pw_below_drewN | apply below_drew1 | refine below_set ?_ GE667.out | refine below_set ?_ GE692.out) | exact HB.out))); (case side2 => exact HC0_2.out); (case side3 => exact Kd.C_below HR0_3.out (by repeat (first | (with_reducible first | exact HB.out | apply below_alloc | apply pw_below_drewN | apply below_drew1 | refine below_set ?_ GE667.out | refine below_set ?_ GE692.out) | exact HB.out))); (case side4 => exact HC0_3.out); rintro e w27 ⟨v696, v699, rfl, ho0, ho1, hb⟩; refine ⟨_, rfl, ?_⟩; have n0_ := Aside0.mk (Kd.R_mono (Kd.R_told (Kd.R_told (Kd.R_old (by (with_reducible repeat (first | apply Kd.R_alloc | apply Kd.R_drewN | apply Kd.R_drew)); exact (Kd.R_mono (Kd.R_far (p := ⟨gb692, 6, none⟩) (Kd.R_far (p := ⟨gb692, 5, none⟩) (Kd.R_far (p := ⟨gb692, 4, none⟩) (Kd.R_far (p := ⟨gb692, 3, none⟩) (Kd.R_far (p := ⟨gb692, 2, none⟩) (Kd.R_far (p := ⟨gb692, 1, none⟩) (Kd.R_far (p := ⟨gb692, 0, none⟩) (Kd.R_types HO673.out BK692.out (by decide)) (fun _ hk => hk.2) (.bool t680)) (fun _ hk => hk.2) (.bool t681)) (fun _ hk => hk.2) (.slice Ao24 t682.length co24)) (fun _ hk => hk.2) (.slice Ao25 t685.length co25)) (fun _ hk => hk.2) (.int .i64 t688)) (fun _ hk => hk.2) (.int .i64 t689)) (fun _ hk => hk.2) (.int .i64 t690)) (fun _ h_ => h_.1))) hb) (Kd.R_base ho0)) (Kd.R_base ho1)) (fun _ h_ => h_.1)); have n1_ := Aside0.mk (Kd.R_mono (Kd.R_told (Kd.R_told (Kd.R_old (by (with_reducible repeat (first | apply Kd.R_alloc | apply Kd.R_drewN | apply Kd.R_drew)); exact (Kd.R_mono (Kd.R_far (p := ⟨gb692, 6, none⟩) (Kd.R_far (p := ⟨gb692, 5, none⟩) (Kd.R_far (p := ⟨gb692, 4, none⟩) (Kd.R_far (p := ⟨gb692, 3, none⟩) (Kd.R_far (p := ⟨gb692, 2, none⟩) (Kd.R_far (p := ⟨gb692, 1, none⟩) (Kd.R_far (p := ⟨gb692, 0, none⟩) (Kd.R_types HO676.out BK692.out (by decide)) (fun _ hk => hk.2) (.bool t680)) (fun _ hk => hk.2) (.bool t681)) (fun _ hk => hk.2) (.slice Ao24 t682.length co24)) (fun _ hk => hk.2) (.slice Ao25 t685.length co25)) (fun _ hk => hk.2) (.int .i64 t688)) (fun _ hk => hk.2) (.int .i64 t689)) (fun _ hk => hk.2) (.int .i64 t690)) (fun _ h_ => h_.1))) hb) (Kd.R_base ho0)) (Kd.R_base ho1)) (fun _ h_ => h_.1)); have n2_ := Aside0.mk (Kd.R_mono (Kd.R_told (Kd.R_told (Kd.R_old (by (with_reducible repeat (first | apply Kd.R_alloc | apply Kd.R_drewN | apply Kd.R_drew)); exact (Kd.R_mono (Kd.R_far (p := ⟨gb692, 6, none⟩) (Kd.R_far (p := ⟨gb692, 5, none⟩) (Kd.R_far (p := ⟨gb692, 4, none⟩) (Kd.R_far (p := ⟨gb692, 3, none⟩) (Kd.R_far (p := ⟨gb692, 2, none⟩) (Kd.R_far (p := ⟨gb692, 1, none⟩) (Kd.R_far (p := ⟨gb692, 0, none⟩) (Kd.R_types HO684.out BK692.out (by decide)) (fun _ hk => hk.2) (.bool t680)) (fun _ hk => hk.2) (.bool t681)) (fun _ hk => hk.2) (.slice Ao24 t682.length co24)) (fun _ hk => hk.2) (.slice Ao25 t685.length co25)) (fun _ hk => hk.2) (.int .i64 t688)) (fun _ hk => hk.2) (.int .i64 t689)) (fun _ hk => hk.2) (.int .i64 t690)) (fun _ h_ => h_.1))) hb) (Kd.R_base ho0)) (Kd.R_base ho1)) (fun _ h_ => h_.1)); have n3_ := Aside0.mk (Kd.R_mono (Kd.R_told (Kd.R_told (Kd.R_old (by (with_reducible repeat (first | apply Kd.R_alloc | apply Kd.R_drewN | apply Kd.R_drew)); exact (Kd.R_mono (Kd.R_far (p := ⟨gb692, 6, none⟩) (Kd.R_far (p := ⟨gb692, 5, none⟩) (Kd.R_far (p := ⟨gb692, 4, none⟩) (Kd.R_far (p := ⟨gb692, 3, none⟩) (Kd.R_far (p := ⟨gb692, 2, none⟩) (Kd.R_far (p := ⟨gb692, 1, none⟩) (Kd.R_far (p := ⟨gb692, 0, none⟩) (Kd.R_types HO687.out BK692.out (by decide)) (fun _ hk => hk.2) (.bool t680)) (fun _ hk => hk.2) (.bool t681)) (fun _ hk => hk.2) (.slice Ao24 t682.length co24)) (fun _ hk => hk.2) (.slice Ao25 t685.length co25)) (fun _ hk => hk.2) (.int .i64 t688)) (fun _ hk => hk.2) (.int .i64 t689)) (fun _ hk => hk.2) (.int .i64 t690)) (fun _ h_ => h_.1))) hb) (Kd.R_base ho0)) (Kd.R_base ho1)) (fun _ h_ => h_.1)); have n4_ := Aside0.mk (Kd.R_lower (Kd.R_new' (Kd.R_new' (Kd.R_new' (Kd.R_new' ho0 (Kd.R_lt (by (with_reducible repeat (first | apply Kd.R_alloc | apply Kd.R_drewN | apply Kd.R_drew)); exact (Kd.R_mono (Kd.R_far (p := ⟨gb692, 6, none⟩) (Kd.R_far (p := ⟨gb692, 5, none⟩) (Kd.R_far (p := ⟨gb692, 4, none⟩) (Kd.R_far (p := ⟨gb692, 3, none⟩) (Kd.R_far (p := ⟨gb692, 2, none⟩) (Kd.R_far (p := ⟨gb692, 1, none⟩) (Kd.R_far (p := ⟨gb692, 0, none⟩) (Kd.R_types HO673.out BK692.out (by decide)) (fun _ hk => hk.2) (.bool t680)) (fun _ hk => hk.2) (.bool t681)) (fun _ hk => hk.2) (.slice Ao24 t682.length co24)) (fun _ hk => hk.2) (.slice Ao25 t685.length co25)) (fun _ hk => hk.2) (.int .i64 t688)) (fun _ hk => hk.2) (.int .i64 t689)) (fun _ hk => hk.2) (.int .i64 t690)) (fun _ h_ => h_.1))))) (Kd.R_lt (by (with_reducible repeat (first | apply Kd.R_alloc | apply Kd.R_drewN | apply Kd.R_drew)); exact (Kd.R_mono (Kd.R_far (p := ⟨gb692, 6, none⟩) (Kd.R_far (p := ⟨gb692, 5, none⟩) (Kd.R_far (p := ⟨gb692, 4, none⟩) (Kd.R_far (p := ⟨gb692, 3, none⟩) (Kd.R_far (p := ⟨gb692, 2, none⟩) (Kd.R_far (p := ⟨gb692, 1, none⟩) (Kd.R_far (p := ⟨gb692, 0, none⟩) (Kd.R_types HO676.out BK692.out (by decide)) (fun _ hk => hk.2) (.bool t680)) (fun _ hk => hk.2) (.bool t681)) (fun _ hk => hk.2) (.slice Ao24 t682.length co24)) (fun _ hk => hk.2) (.slice Ao25 t685.length co25)) (fun _ hk => hk.2) (.int .i64 t688)) (fun _ hk => hk.2) (.int .i64 t689)) (fun _ hk => hk.2) (.int .i64 t690)) (fun _ h_ => h_.1))))) (Kd.R_lt (by (with_reducible repeat (first | apply Kd.R_alloc | apply Kd.R_drewN | apply Kd.R_drew)); exact (Kd.R_mono (Kd.R_far (p := ⟨gb692, 6, none⟩) (Kd.R_far (p := ⟨gb692, 5, none⟩) (Kd.R_far (p := ⟨gb692, 4, none⟩) (Kd.R_far (p := ⟨gb692, 3, none⟩) (Kd.R_far (p := ⟨gb692, 2, none⟩) (Kd.R_far (p := ⟨gb692, 1, none⟩) (Kd.R_far (p := ⟨gb692, 0, none⟩) (Kd.R_types HO684.out BK692.out (by decide)) (fun _ hk => hk.2) (.bool t680)) (fun _ hk => hk.2) (.bool t681)) (fun _ hk => hk.2) (.slice Ao24 t682.length co24)) (fun _ hk => hk.2) (.slice Ao25 t685.length co25)) (fun _ hk => hk.2) (.int .i64 t688)) (fun _ hk => hk.2) (.int .i64 t689)) (fun _ hk => hk.2) (.int .i64 t690)) (fun _ h_ => h_.1))))) (Kd.R_lt (by (with_reducible repeat (first | apply Kd.R_alloc | apply Kd.R_drewN | apply Kd.R_drew)); exact (Kd.R_mono (Kd.R_far (p := ⟨gb692, 6, none⟩) (Kd.R_far (p := ⟨gb692, 5, none⟩) (Kd.R_far (p := ⟨gb692, 4, none⟩) (Kd.R_far (p := ⟨gb692, 3, none⟩) (Kd.R_far (p := ⟨gb692, 2, none⟩) (Kd.R_far (p := ⟨gb692, 1, none⟩) (Kd.R_far (p := ⟨gb692, 0, none⟩) (Kd.R_types HO687.out BK692.out (by decide)) (fun _ hk => hk.2) (.bool t680)) (fun _ hk => hk.2) (.bool t681)) (fun _ hk => hk.2) (.slice Ao24 t682.length co24)) (fun _ hk => hk.2) (.slice Ao25 t685.length co25)) (fun _ hk => hk.2) (.int .i64 t688)) (fun _ hk => hk.2) (.int .i64 t689)) (fun _ hk => hk.2) (.int .i64 t690)) (fun _ h_ => h_.1))))) (below_size (by repeat (first | (with_reducible first | exact HB.out | apply below_alloc | apply pw_below_drewN | apply below_drew1 | refine below_set ?_ GE667.out | refine below_set ?_ GE692.out) | exact HB.out)))); have n5_ := Aside0.mk (Kd.R_lower (Kd.R_new' (Kd.R_new' (Kd.R_new' (Kd.R_new' ho1 (Kd.R_lt (by (with_reducible repeat (first | apply Kd.R_alloc | apply Kd.R_drewN | apply Kd.R_drew)); exact (Kd.R_mono (Kd.R_far (p := ⟨gb692, 6, none⟩) (Kd.R_far (p := ⟨gb692, 5, none⟩) (Kd.R_far (p := ⟨gb692, 4, none⟩) (Kd.R_far (p := ⟨gb692, 3, none⟩) (Kd.R_far (p := ⟨gb692, 2, none⟩) (Kd.R_far (p := ⟨gb692, 1, none⟩) (Kd.R_far (p := ⟨gb692, 0, none⟩) (Kd.R_types HO673.out BK692.out (by decide)) (fun _ hk => hk.2) (.bool t680)) (fun _ hk => hk.2) (.bool t681)) (fun _ hk => hk.2) (.slice Ao24 t682.length co24)) (fun _ hk => hk.2) (.slice Ao25 t685.length co25)) (fun _ hk => hk.2) (.int .i64 t688)) (fun _ hk => hk.2) (.int .i64 t689)) (fun _ hk => hk.2) (.int .i64 t690)) (fun _ h_ => h_.1))))) (Kd.R_lt (by (with_reducible repeat (first | apply Kd.R_alloc | apply Kd.R_drewN | apply Kd.R_drew)); exact (Kd.R_mono (Kd.R_far (p := ⟨gb692, 6, none⟩) (Kd.R_far (p := ⟨gb692, 5, none⟩) (Kd.R_far (p := ⟨gb692, 4, none⟩) (Kd.R_far (p := ⟨gb692, 3, none⟩) (Kd.R_far (p := ⟨gb692, 2, none⟩) (Kd.R_far (p := ⟨gb692, 1, none⟩) (Kd.R_far (p := ⟨gb692, 0, none⟩) (Kd.R_types HO676.out BK692.out (by decide)) (fun _ hk => hk.2) (.bool t680)) (fun _ hk => hk.2) (.bool t681)) (fun _ hk => hk.2) (.slice Ao24 t682.length co24)) (fun _ hk => hk.2) (.slice Ao25 t685.length co25)) (fun _ hk => hk.2) (.int .i64 t688)) (fun _ hk => hk.2) (.int .i64 t689)) (fun _ hk => hk.2) (.int .i64 t690)) (fun _ h_ => h_.1))))) (Kd.R_lt (by (with_reducible repeat (first | apply Kd.R_alloc | apply Kd.R_drewN | apply Kd.R_drew)); exact (Kd.R_mono (Kd.R_far (p := ⟨gb692, 6, none⟩) (Kd.R_far (p := ⟨gb692, 5, none⟩) (Kd.R_far (p := ⟨gb692, 4, none⟩) (Kd.R_far (p := ⟨gb692, 3, none⟩) (Kd.R_far (p := ⟨gb692, 2, none⟩) (Kd.R_far (p := ⟨gb692, 1, none⟩) (Kd.R_far (p := ⟨gb692, 0, none⟩) (Kd.R_types HO684.out BK692.out (by decide)) (fun _ hk => hk.2) (.bool t680)) (fun _ hk => hk.2) (.bool t681)) (fun _ hk => hk.2) (.slice Ao24 t682.length co24)) (fun _ hk => hk.2) (.slice Ao25 t685.length co25)) (fun _ hk => hk.2) (.int .i64 t688)) (fun _ hk => hk.2) (.int .i64 t689)) (fun _ hk => hk.2) (.int .i64 t690)) (fun _ h_ => h_.1))))) (Kd.R_lt (by (with_reducible repeat (first | apply Kd.R_alloc | apply Kd.R_drewN | apply Kd.R_drew)); exact (Kd.R_mono (Kd.R_far (p := ⟨gb692, 6, none⟩) (Kd.R_far (p := ⟨gb692, 5, none⟩) (Kd.R_far (p := ⟨gb692, 4, none⟩) (Kd.R_far (p := ⟨gb692, 3, none⟩) (Kd.R_far (p := ⟨gb692, 2, none⟩) (Kd.R_far (p := ⟨gb692, 1, none⟩) (Kd.R_far (p := ⟨gb692, 0, none⟩) (Kd.R_types HO687.out BK692.out (by decide)) (fun _ hk => hk.2) (.bool t680)) (fun _ hk => hk.2) (.bool t681)) (fun _ hk => hk.2) (.slice Ao24 t682.length co24)) (fun _ hk => hk.2) (.slice Ao25 t685.length co25)) (fun _ hk => hk.2) (.int .i64 t688)) (fun _ hk => hk.2) (.int .i64 t689)) (fun _ hk => hk.2) (.int .i64 t690)) (fun _ h_ => h_.1))))) (below_size (by repeat (first | (with_reducible first | exact HB.out | apply below_alloc | apply pw_below_drewN | apply below_drew1 | refine below_set ?_ GE667.out | refine below_set ?_ GE692.out) | exact HB.out)))); have n6_ := Aside0.mk (blk_below (g := gb667) (o := .cells #[.bool a0_0, .bool a0_1, .slice A0_2 l0_2.length c0_2, .slice A0_3 l0_3.length c0_3, .int .i64 a0_4, .int .i64 a0_5, .int .i64 a0_6] 24 (0, 0)) (by (with_reducible repeat (first | refine blk_drewN ?_ _ | refine blk_drew ?_ | refine blk_alloc ?_ _)); refine blk_far ?_ NB667_692.out _; (with_reducible repeat (first | refine blk_drewN ?_ _ | refine blk_drew ?_ | refine blk_alloc ?_ _)); refine blk_far ?_ NB667_692.out _; (with_reducible repeat (first | refine blk_drewN ?_ _ | refine blk_drew ?_ | refine blk_alloc ?_ _)); refine blk_far ?_ NB667_692.out _; (with_reducible repeat (first | refine blk_drewN ?_ _ | refine blk_drew ?_ | refine blk_alloc ?_ _)); refine blk_far ?_ NB667_692.out _; (with_reducible repeat (first | refine blk_drewN ?_ _ | refine blk_drew ?_ | refine blk_alloc ?_ _)); refine blk_far ?_ NB667_692.out _; (with_reducible repeat (first | refine blk_drewN ?_ _ | refine blk_drew ?_ | refine blk_alloc ?_ _)); refine blk_far ?_ NB667_692.out _; (with_reducible repeat (first | refine blk_drewN ?_ _ | refine blk_drew ?_ | refine blk_alloc ?_ _)); refine blk_far ?_ NB667_692.out _; (with_reducible repeat (first | refine blk_drewN ?_ _ | refine blk_drew ?_ | refine blk_alloc ?_ _)); exact BK667.out) hb); have n7_ := Aside0.mk (blk_below (g := gb692) (o := .cells #[.bool t680, .bool t681, .slice Ao24 t682.length co24, .slice Ao25 t685.length co25, .int .i64 t688, .int .i64 t689, .int .i64 t690] 27 (0, 0)) (by (with_reducible repeat (first | refine blk_drewN ?_ _ | refine blk_drew ?_ | refine blk_alloc ?_ _)); refine blk_put (cs := #[.bool t680, .bool t681, .slice Ao24 t682.length co24, .slice Ao25 t685.length co25, .int .i64 t688, .int .i64 t689, .int .i64 0]) ?_ 6 _ rfl; (with_reducible repeat (first | refine blk_drewN ?_ _ | refine blk_drew ?_ | refine blk_alloc ?_ _)); refine blk_put (cs := #[.bool t680, .bool t681, .slice Ao24 t682.length co24, .slice Ao25 t685.length co25, .int .i64 t688, .int .i64 0, .int .i64 0]) ?_ 5 _ rfl; (with_reducible repeat (first | refine blk_drewN ?_ _ | refine blk_drew ?_ | refine blk_alloc ?_ _)); refine blk_put (cs := #[.bool t680, .bool t681, .slice Ao24 t682.length co24, .slice Ao25 t685.length co25, .int .i64 0, .int .i64 0, .int .i64 0]) ?_ 4 _ rfl; (with_reducible repeat (first | refine blk_drewN ?_ _ | refine blk_drew ?_ | refine blk_alloc ?_ _)); refine blk_put (cs := #[.bool t680, .bool t681, .slice Ao24 t682.length co24, .slice none 0 0, .int .i64 0, .int .i64 0, .int .i64 0]) ?_ 3 _ rfl; (with_reducible repeat (first | refine blk_drewN ?_ _ | refine blk_drew ?_ | refine blk_alloc ?_ _)); refine blk_put (cs := #[.bool t680, .bool t681, .slice none 0 0, .slice none 0 0, .int .i64 0, .int .i64 0, .int .i64 0]) ?_ 2 _ rfl; (with_reducible repeat (first | refine blk_drewN ?_ _ | refine blk_drew ?_ | refine blk_alloc ?_ _)); refine blk_put (cs := #[.bool t680, .bool false, .slice none 0 0, .slice none 0 0, .int .i64 0, .int .i64 0, .int .i64 0]) ?_ 1 _ rfl; (with_reducible repeat (first | refine blk_drewN ?_ _ | refine blk_drew ?_ | refine blk_alloc ?_ _)); refine blk_put (cs := #[.bool false, .bool false, .slice none 0 0, .slice none 0 0, .int .i64 0, .int .i64 0, .int .i64 0]) ?_ 0 _ rfl; (with_reducible repeat (first | refine blk_drewN ?_ _ | refine blk_drew ?_ | refine blk_alloc ?_ _)); exact BK692.out) hb); have n8_ := Aside0.mk (below_step (by repeat (first | (with_reducible first | exact HB.out | apply below_alloc | apply pw_below_drewN | apply below_drew1 | refine below_set ?_ GE667.out | refine below_set ?_ GE692.out) | exact HB.out)) hb); clear HO673 HO676 HO684 HO687 BK667 BK692 HB; have HO673 := n0_; have HO676 := n1_; have HO684 := n2_; have HO687 := n3_; have HO697 := n4_; have HO700 := n5_; have BK667 := n6_; have BK692 := n7_; have HB := n8_; clear n0_ n1_ n2_ n3_ n4_ n5_ n6_ n7_ n8_; (try clear hb); (try clear hb2); (try clear hk); (try clear hi); (try clear ho0); (try clear ho1)) | ((with_reducible refine gate_dst (N := 8) rfl ?_); refine box_event ?hg (N := 8) ?hd (cs := #[.bool false, .bool false, .slice none 0 0, .slice none 0 0, .int .i64 0, .int .i64 0, .int .i64 0]) (t := 27) ?hr ?_; (case hd => rfl); (case hg => rfl); (case hr => first | (go_simp; done) | (go_simp; rfl)); intro gb704 hg w28 hbox hb; have n0_ := Aside0.mk (Kd.R_below (pkR HO673.out) hb); have n1_ := Aside0.mk (Kd.R_below (pkR HO676.out) hb); have n2_ := Aside0.mk (Kd.R_below (pkR HO684.out) hb); have n3_ := Aside0.mk (Kd.R_below (pkR HO687.out) hb); have n4_ := Aside0.mk (Kd.R_below (pkR HO697.out) hb); have n5_ := Aside0.mk (Kd.R_below (pkR HO700.out) hb); have n6_ := Aside0.mk (blk_below (g := gb667) (o := .cells #[.bool a0_0, .bool a0_1, .slice A0_2 l0_2.length c0_2, .slice A0_3 l0_3.length c0_3, .int .i64 a0_4, .int .i64 a0_5, .int .i64 a0_6] 24 (0, 0)) (pkK BK667.out) hb); have n7_ := Aside0.mk (blk_below (g := gb692) (o := .cells #[.bool t680, .bool t681, .slice Ao24 t682.length co24, .slice Ao25 t685.length co25, .int .i64 t688, .int .i64 t689, .int .i64 t690] 27 (0, 0)) (pkK BK692.out) hb); have n8_ := Aside0.mk (below_step (by repeat (first | (with_reducible first | exact HB.out | apply below_alloc | apply pw_below_drewN | apply below_drew1 | refine below_set ?_ GE667.out | refine below_set ?_ GE692.out) | exact HB.out)) hb); have n9_ := Aside0.mk (hbox); have n10_ := Aside0.mk ((by rw [hg]; exact (below_size (by repeat (first | (with_reducible first | exact HB.out | apply below_alloc | apply pw_below_drewN | apply below_drew1 | refine below_set ?_ GE667.out | refine below_set ?_ GE692.out) | exact HB.out))) : w.heap.size ≤ gb704)); have n11_ := Aside0.mk ((by rw [hg]; exact (below_size (by repeat (first | (with_reducible first | exact HB.out | apply below_alloc | apply pw_below_drewN | apply below_drew1 | refine below_set ?_ GE667.out | refine below_set ?_ GE692.out) | exact HB.out))) : w.heap.size ≤ gb704)); have n12_ := Aside0.mk ((by rw [hg]; exact Nat.ne_of_lt (blk_lt (g := gb667) (o := .cells #[.bool a0_0, .bool a0_1, .slice A0_2 l0_2.length c0_2, .slice A0_3 l0_3.length c0_3, .int .i64 a0_4, .int .i64 a0_5, .int .i64 a0_6] 24 (0, 0)) (pkK BK667.out)) : gb667 ≠ gb704)); have n13_ := Aside0.mk ((by rw [hg]; exact Nat.ne_of_gt (blk_lt (g := gb667) (o := .cells #[.bool a0_0, .bool a0_1, .slice A0_2 l0_2.length c0_2, .slice A0_3 l0_3.length c0_3, .int .i64 a0_4, .int .i64 a0_5, .int .i64 a0_6] 24 (0, 0)) (pkK BK667.out)) : gb704 ≠ gb667)); have n14_ := Aside0.mk ((by rw [hg]; exact Nat.ne_of_lt (blk_lt (g := gb692) (o := .cells #[.bool t680, .bool t681, .slice Ao24 t682.length co24, .slice Ao25 t685.length co25, .int .i64 t688, .int .i64 t689, .int .i64 t690] 27 (0, 0)) (pkK BK692.out)) : gb692 ≠ gb704)); have n15_ := Aside0.mk ((by rw [hg]; exact Nat.ne_of_gt (blk_lt (g := gb692) (o := .cells #[.bool t680, .bool t681, .slice Ao24 t682.length co24, .slice Ao25 t685.length co25, .int .i64 t688, .int .i64 t689, .int .i64 t690] 27 (0, 0)) (pkK BK692.out)) : gb704 ≠ gb692)); clear HO673 HO676 HO684 HO687 HO697 HO700 BK667 BK692 HB; have HO673 := n0_; have HO676 := n1_; have HO684 := n2_; have HO687 := n3_; have HO697 := n4_; have HO700 := n5_; have BK667 := n6_; have BK692 := n7_; have HB := n8_; have BK704 := n9_; have GW704 := n10_; have GE704 := n11_; have NB667_704 := n12_; have NB704_667 := n13_; have NB692_704 := n14_; have NB704_692 := n15_; clear n0_ n1_ n2_ n3_ n4_ n5_ n6_ n7_ n8_ n9_ n10_ n11_ n12_ n13_ n14_ n15_; clear hb hbox hg; have hnb29 := NB704_667.out; have hnc29 := NB667_704.out; have hnb30 := NB704_692.out; have hnc30 := NB692_704.out; have hcz31_0 : w28.cell? ⟨gb704, 0, none⟩ = some (.bool false) := (blk_cell BK704.out 0).trans rfl; have hcz31_1 : w28.cell? ⟨gb704, 1, none⟩ = some (.bool false) := (blk_cell BK704.out 1).trans rfl; have hcz31_2 : w28.cell? ⟨gb704, 2, none⟩ = some (.slice none 0 0) := (blk_cell BK704.out 2).trans rfl; have hcz31_3 : w28.cell? ⟨gb704, 3, none⟩ = some (.slice none 0 0) := (blk_cell BK704.out 3).trans rfl; have hcz31_4 : w28.cell? ⟨gb704, 4, none⟩ = some (.int .i64 0) := (blk_cell BK704.out 4).trans rfl; have hcz31_5 : w28.cell? ⟨gb704, 5, none⟩ = some (.int .i64 0) := (blk_cell BK704.out 5).trans rfl; have hcz31_6 : w28.cell? ⟨gb704, 6, none⟩ = some (.int .i64 0) := (blk_cell BK704.out 6).trans rfl; have hfz31_0 := blk_frozen BK704.out 0; have hfz31_1 := blk_frozen BK704.out 1; have hfz31_2 := blk_frozen BK704.out 2; have hfz31_3 := blk_frozen BK704.out 3; have hfz31_4 := blk_frozen BK704.out 4; have hfz31_5 := blk_frozen BK704.out 5; have hfz31_6 := blk_frozen BK704.out 6; obtain ⟨Ao32, co32, eo32⟩ := Kd.R_slice HO697.out; subst eo32; obtain ⟨Ao33, co33, eo33⟩ := Kd.R_slice HO700.out; subst eo33) | ((with_reducible refine gate_callee (f := 31) rfl ?_); refine goesL_ (some 33) rfl rfl Try.func31 (by kernel_rfl) rfl #[.agg #[.bool t693, .bool t694, .slice Ao32 t695.length co32, .slice Ao33 t698.length co33, .int .i64 t701, .int .i64 t702, .int .i64 t703], .int .i64 a1] rfl (by (try simp only [List.map_toArray, List.map_cons, List.map_nil]); first | done | rfl | (simp only [List.length_drop, List.length_take]; rfl) | (go_simp; done) | (simp [*]; done)) ?_; (with_reducible refine (impl_GoOn.calls k t693 t694 _ _ t695 _ _ t698 t701 t702 t703 a1 t705 t706 t707 t710 t713 t714 t715 t716 _ ?side1 ?side2 ?side3 ?side4 A11.out).mono ?_); (case side1 => refine (Kd.R_reads' (e := 3) (base := w.heap.size) (ok := fun k_ => ((((some k_ ≠ (.slice Ao33 t698.length co33 : Value).ownBlock ∧ some k_ ≠ (.slice Ao18 t671.length co18 : Value).ownBlock) ∧ some k_ ≠ (.slice Ao19 t674.length co19 : Value).ownBlock) ∧ some k_ ≠ (.slice Ao24 t682.length co24 : Value).ownBlock) ∧ some k_ ≠ (.slice Ao25 t685.length co25 : Value).ownBlock)) (n := t695.length) (c := co32) ?_).2.2; exact (by (with_reducible repeat (first | apply Kd.R_alloc | apply Kd.R_drewN | apply Kd.R_drew)); exact (Kd.R_mono (Kd.R_far (p := ⟨gb704, 6, none⟩) (Kd.R_far (p := ⟨gb704, 5, none⟩) (Kd.R_far (p := ⟨gb704, 4, none⟩) (Kd.R_far (p := ⟨gb704, 3, none⟩) (Kd.R_far (p := ⟨gb704, 2, none⟩) (Kd.R_far (p := ⟨gb704, 1, none⟩) (Kd.R_far (p := ⟨gb704, 0, none⟩) (Kd.R_types HO697.out BK704.out (by decide)) (fun _ hk => hk.2) (.bool t693)) (fun _ hk => hk.2) (.bool t694)) (fun _ hk => hk.2) (.slice Ao32 t695.length co32)) (fun _ hk => hk.2) (.slice Ao33 t698.length co33)) (fun _ hk => hk.2) (.int .i64 t701)) (fun _ hk => hk.2) (.int .i64 t702)) (fun _ hk => hk.2) (.int .i64 t703)) (fun _ h_ => h_.1)))); (case side2 => exact (Kd.R_reads' HO697.out).2.1); (case side3 => refine (Kd.R_reads' (e := 3) (base := w.heap.size) (ok := fun k_ => ((((some k_ ≠ (.slice Ao32 t695.length co32 : Value).ownBlock ∧ some k_ ≠ (.slice Ao18 t671.length co18 : Value).ownBlock) ∧ some k_ ≠ (.slice Ao19 t674.length co19 : Value).ownBlock) ∧ some k_ ≠ (.slice Ao24 t682.length co24 : Value).ownBlock) ∧ some k_ ≠ (.slice Ao25 t685.length co25 : Value).ownBlock)) (n := t698.length) (c := co33) ?_).2.2; exact (by (with_reducible repeat (first | apply Kd.R_alloc | apply Kd.R_drewN | apply Kd.R_drew)); exact (Kd.R_mono (Kd.R_far (p := ⟨gb704, 6, none⟩) (Kd.R_far (p := ⟨gb704, 5, none⟩) (Kd.R_far (p := ⟨gb704, 4, none⟩) (Kd.R_far (p := ⟨gb704, 3, none⟩) (Kd.R_far (p := ⟨gb704, 2, none⟩) (Kd.R_far (p := ⟨gb704, 1, none⟩) (Kd.R_far (p := ⟨gb704, 0, none⟩) (Kd.R_types HO700.out BK704.out (by decide)) (fun _ hk => hk.2) (.bool t693)) (fun _ hk => hk.2) (.bool t694)) (fun _ hk => hk.2) (.slice Ao32 t695.length co32)) (fun _ hk => hk.2) (.slice Ao33 t698.length co33)) (fun _ hk => hk.2) (.int .i64 t701)) (fun _ hk => hk.2) (.int .i64 t702)) (fun _ hk => hk.2) (.int .i64 t703)) (fun _ h_ => h_.1)))); (case side4 => exact (Kd.R_reads' HO700.out).2.1); rintro e w34 ⟨v708, v711, rfl, ho0, ho1, hb⟩; refine ⟨_, rfl, ?_⟩; have n0_ := Aside0.mk (Kd.R_mono (Kd.R_told (Kd.R_told (Kd.R_old (by (with_reducible repeat (first | apply Kd.R_alloc | apply Kd.R_drewN | apply Kd.R_drew)); exact (Kd.R_mono (Kd.R_far (p := ⟨gb704, 6, none⟩) (Kd.R_far (p := ⟨gb704, 5, none⟩) (Kd.R_far (p := ⟨gb704, 4, none⟩) (Kd.R_far (p := ⟨gb704, 3, none⟩) (Kd.R_far (p := ⟨gb704, 2, none⟩) (Kd.R_far (p := ⟨gb704, 1, none⟩) (Kd.R_far (p := ⟨gb704, 0, none⟩) (Kd.R_types HO673.out BK704.out (by decide)) (fun _ hk => hk.2) (.bool t693)) (fun _ hk => hk.2) (.bool t694)) (fun _ hk => hk.2) (.slice Ao32 t695.length co32)) (fun _ hk => hk.2) (.slice Ao33 t698.length co33)) (fun _ hk => hk.2) (.int .i64 t701)) (fun _ hk => hk.2) (.int .i64 t702)) (fun _ hk => hk.2) (.int .i64 t703)) (fun _ h_ => h_.1))) hb) (Kd.R_base ho0)) (Kd.R_base ho1)) (fun _ h_ => h_.1)); have n1_ := Aside0.mk (Kd.R_mono (Kd.R_told (Kd.R_told (Kd.R_old (by (with_reducible repeat (first | apply Kd.R_alloc | apply Kd.R_drewN | apply Kd.R_drew)); exact (Kd.R_mono (Kd.R_far (p := ⟨gb704, 6, none⟩) (Kd.R_far (p := ⟨gb704, 5, none⟩) (Kd.R_far (p := ⟨gb704, 4, none⟩) (Kd.R_far (p := ⟨gb704, 3, none⟩) (Kd.R_far (p := ⟨gb704, 2, none⟩) (Kd.R_far (p := ⟨gb704, 1, none⟩) (Kd.R_far (p := ⟨gb704, 0, none⟩) (Kd.R_types HO676.out BK704.out (by decide)) (fun _ hk => hk.2) (.bool t693)) (fun _ hk => hk.2) (.bool t694)) (fun _ hk => hk.2) (.slice Ao32 t695.length co32)) (fun _ hk => hk.2) (.slice Ao33 t698.length co33)) (fun _ hk => hk.2) (.int .i64 t701)) (fun _ hk => hk.2) (.int .i64 t702)) (fun _ hk => hk.2) (.int .i64 t703)) (fun _ h_ => h_.1))) hb) (Kd.R_base ho0)) (Kd.R_base ho1)) (fun _ h_ => h_.1)); have n2_ := Aside0.mk (Kd.R_mono (Kd.R_told (Kd.R_told (Kd.R_old (by (with_reducible repeat (first | apply Kd.R_alloc | apply Kd.R_drewN | apply Kd.R_drew)); exact (Kd.R_mono (Kd.R_far (p := ⟨gb704, 6, none⟩) (Kd.R_far (p := ⟨gb704, 5, none⟩) (Kd.R_far (p := ⟨gb704, 4, none⟩) (Kd.R_far (p := ⟨gb704, 3, none⟩) (Kd.R_far (p := ⟨gb704, 2, none⟩) (Kd.R_far (p := ⟨gb704, 1, none⟩) (Kd.R_far (p := ⟨gb704, 0, none⟩) (Kd.R_types HO684.out BK704.out (by decide)) (fun _ hk => hk.2) (.bool t693)) (fun _ hk => hk.2) (.bool t694)) (fun _ hk => hk.2) (.slice Ao32 t695.length co32)) (fun _ hk => hk.2) (.slice Ao33 t698.length co33)) (fun _ hk => hk.2) (.int .i64 t701)) (fun _ hk => hk.2) (.int .i64 t702)) (fun _ hk => hk.2) (.int .i64 t703)) (fun _ h_ => h_.1))) hb) (Kd.R_base ho0)) (Kd.R_base ho1)) (fun _ h_ => h_.1)); have n3_ := Aside0.mk (Kd.R_mono (Kd.R_told (Kd.R_told (Kd.R_old (by (with_reducible repeat (first | apply Kd.R_alloc | apply Kd.R_drewN | apply Kd.R_drew)); exact (Kd.R_mono (Kd.R_far (p := ⟨gb704, 6, none⟩) (Kd.R_far (p := ⟨gb704, 5, none⟩) (Kd.R_far (p := ⟨gb704, 4, none⟩) (Kd.R_far (p := ⟨gb704, 3, none⟩) (Kd.R_far (p := ⟨gb704, 2, none⟩) (Kd.R_far (p := ⟨gb704, 1, none⟩) (Kd.R_far (p := ⟨gb704, 0, none⟩) (Kd.R_types HO687.out BK704.out (by decide)) (fun _ hk => hk.2) (.bool t693)) (fun _ hk => hk.2) (.bool t694)) (fun _ hk => hk.2) (.slice Ao32 t695.length co32)) (fun _ hk => hk.2) (.slice Ao33 t698.length co33)) (fun _ hk => hk.2) (.int .i64 t701)) (fun _ hk => hk.2) (.int .i64 t702)) (fun _ hk => hk.2) (.int .i64 t703)) (fun _ h_ => h_.1))) hb) (Kd.R_base ho0)) (Kd.R_base ho1)) (fun _ h_ => h_.1)); have n4_ := Aside0.mk (Kd.R_mono (Kd.R_told (Kd.R_told (Kd.R_old (by (with_reducible repeat (first | apply Kd.R_alloc | apply Kd.R_drewN | apply Kd.R_drew)); exact (Kd.R_mono (Kd.R_far (p := ⟨gb704, 6, none⟩) (Kd.R_far (p := ⟨gb704, 5, none⟩) (Kd.R_far (p := ⟨gb704, 4, none⟩) (Kd.R_far (p := ⟨gb704, 3, none⟩) (Kd.R_far (p := ⟨gb704, 2, none⟩) (Kd.R_far (p := ⟨gb704, 1, none⟩) (Kd.R_far (p := ⟨gb704, 0, none⟩) (Kd.R_types HO697.out BK704.out (by decide)) (fun _ hk => hk.2) (.bool t693)) (fun _ hk => hk.2) (.bool t694)) (fun _ hk => hk.2) (.slice Ao32 t695.length co32)) (fun _ hk => hk.2) (.slice Ao33 t698.length co33)) (fun _ hk => hk.2) (.int .i64 t701)) (fun _ hk => hk.2) (.int .i64 t702)) (fun _ hk => hk.2) (.int .i64 t703)) (fun _ h_ => h_.1))) hb) (Kd.R_base ho0)) (Kd.R_base ho1)) (fun _ h_ => h_.1)); have n5_ := Aside0.mk (Kd.R_mono (Kd.R_told (Kd.R_told (Kd.R_old (by (with_reducible repeat (first | apply Kd.R_alloc | apply Kd.R_drewN | apply Kd.R_drew)); exact (Kd.R_mono (Kd.R_far (p := ⟨gb704, 6, none⟩) (Kd.R_far (p := ⟨gb704, 5, none⟩) (Kd.R_far (p := ⟨gb704, 4, none⟩) (Kd.R_far (p := ⟨gb704, 3, none⟩) (Kd.R_far (p := ⟨gb704, 2, none⟩) (Kd.R_far (p := ⟨gb704, 1, none⟩) (Kd.R_far (p := ⟨gb704, 0, none⟩) (Kd.R_types HO700.out BK704.out (by decide)) (fun _ hk => hk.2) (.bool t693)) (fun _ hk => hk.2) (.bool t694)) (fun _ hk => hk.2) (.slice Ao32 t695.length co32)) (fun _ hk => hk.2) (.slice Ao33 t698.length co33)) (fun _ hk => hk.2) (.int .i64 t701)) (fun _ hk => hk.2) (.int .i64 t702)) (fun _ hk => hk.2) (.int .i64 t703)) (fun _ h_ => h_.1))) hb) (Kd.R_base ho0)) (Kd.R_base ho1)) (fun _ h_ => h_.1)); have n6_ := Aside0.mk (Kd.R_lower (Kd.R_new' (Kd.R_new' (Kd.R_new' (Kd.R_new' (Kd.R_new' (Kd.R_new' ho0 (Kd.R_lt (by (with_reducible repeat (first | apply Kd.R_alloc | apply Kd.R_drewN | apply Kd.R_drew)); exact (Kd.R_mono (Kd.R_far (p := ⟨gb704, 6, none⟩) (Kd.R_far (p := ⟨gb704, 5, none⟩) (Kd.R_far (p := ⟨gb704, 4, none⟩) (Kd.R_far (p := ⟨gb704, 3, none⟩) (Kd.R_far (p := ⟨gb704, 2, none⟩) (Kd.R_far (p := ⟨gb704, 1, none⟩) (Kd.R_far (p := ⟨gb704, 0, none⟩) (Kd.R_types HO673.out BK704.out (by decide)) (fun _ hk => hk.2) (.bool t693)) (fun _ hk => hk.2) (.bool t694)) (fun _ hk => hk.2) (.slice Ao32 t695.length co32)) (fun _ hk => hk.2) (.slice Ao33 t698.length co33)) (fun _ hk => hk.2) (.int .i64 t701)) (fun _ hk => hk.2) (.int .i64 t702)) (fun _ hk => hk.2) (.int .i64 t703)) (fun _ h_ => h_.1))))) (Kd.R_lt (by (with_reducible repeat (first | apply Kd.R_alloc | apply Kd.R_drewN | apply Kd.R_drew)); exact (Kd.R_mono (Kd.R_far (p := ⟨gb704, 6, none⟩) (Kd.R_far (p := ⟨gb704, 5, none⟩) (Kd.R_far (p := ⟨gb704, 4, none⟩) (Kd.R_far (p := ⟨gb704, 3, none⟩) (Kd.R_far (p := ⟨gb704, 2, none⟩) (Kd.R_far (p := ⟨gb704, 1, none⟩) (Kd.R_far (p := ⟨gb704, 0, none⟩) (Kd.R_types HO676.out BK704.out (by decide)) (fun _ hk => hk.2) (.bool t693)) (fun _ hk => hk.2) (.bool t694)) (fun _ hk => hk.2) (.slice Ao32 t695.length co32)) (fun _ hk => hk.2) (.slice Ao33 t698.length co33)) (fun _ hk => hk.2) (.int .i64 t701)) (fun _ hk => hk.2) (.int .i64 t702)) (fun _ hk => hk.2) (.int .i64 t703)) (fun _ h_ => h_.1))))) (Kd.R_lt (by (with_reducible repeat (first | apply Kd.R_alloc | apply Kd.R_drewN | apply Kd.R_drew)); exact (Kd.R_mono (Kd.R_far (p := ⟨gb704, 6, none⟩) (Kd.R_far (p := ⟨gb704, 5, none⟩) (Kd.R_far (p := ⟨gb704, 4, none⟩) (Kd.R_far (p := ⟨gb704, 3, none⟩) (Kd.R_far (p := ⟨gb704, 2, none⟩) (Kd.R_far (p := ⟨gb704, 1, none⟩) (Kd.R_far (p := ⟨gb704, 0, none⟩) (Kd.R_types HO684.out BK704.out (by decide)) (fun _ hk => hk.2) (.bool t693)) (fun _ hk => hk.2) (.bool t694)) (fun _ hk => hk.2) (.slice Ao32 t695.length co32)) (fun _ hk => hk.2) (.slice Ao33 t698.length co33)) (fun _ hk => hk.2) (.int .i64 t701)) (fun _ hk => hk.2) (.int .i64 t702)) (fun _ hk => hk.2) (.int .i64 t703)) (fun _ h_ => h_.1))))) (Kd.R_lt (by (with_reducible repeat (first | apply Kd.R_alloc | apply Kd.R_drewN | apply Kd.R_drew)); exact (Kd.R_mono (Kd.R_far (p := ⟨gb704, 6, none⟩) (Kd.R_far (p := ⟨gb704, 5, none⟩) (Kd.R_far (p := ⟨gb704, 4, none⟩) (Kd.R_far (p := ⟨gb704, 3, none⟩) (Kd.R_far (p := ⟨gb704, 2, none⟩) (Kd.R_far (p := ⟨gb704, 1, none⟩) (Kd.R_far (p := ⟨gb704, 0, none⟩) (Kd.R_types HO687.out BK704.out (by decide)) (fun _ hk => hk.2) (.bool t693)) (fun _ hk => hk.2) (.bool t694)) (fun _ hk => hk.2) (.slice Ao32 t695.length co32)) (fun _ hk => hk.2) (.slice Ao33 t698.length co33)) (fun _ hk => hk.2) (.int .i64 t701)) (fun _ hk => hk.2) (.int .i64 t702)) (fun _ hk => hk.2) (.int .i64 t703)) (fun _ h_ => h_.1))))) (Kd.R_lt (by (with_reducible repeat (first | apply Kd.R_alloc | apply Kd.R_drewN | apply Kd.R_drew)); exact (Kd.R_mono (Kd.R_far (p := ⟨gb704, 6, none⟩) (Kd.R_far (p := ⟨gb704, 5, none⟩) (Kd.R_far (p := ⟨gb704, 4, none⟩) (Kd.R_far (p := ⟨gb704, 3, none⟩) (Kd.R_far (p := ⟨gb704, 2, none⟩) (Kd.R_far (p := ⟨gb704, 1, none⟩) (Kd.R_far (p := ⟨gb704, 0, none⟩) (Kd.R_types HO697.out BK704.out (by decide)) (fun _ hk => hk.2) (.bool t693)) (fun _ hk => hk.2) (.bool t694)) (fun _ hk => hk.2) (.slice Ao32 t695.length co32)) (fun _ hk => hk.2) (.slice Ao33 t698.length co33)) (fun _ hk => hk.2) (.int .i64 t701)) (fun _ hk => hk.2) (.int .i64 t702)) (fun _ hk => hk.2) (.int .i64 t703)) (fun _ h_ => h_.1))))) (Kd.R_lt (by (with_reducible repeat (first | apply Kd.R_alloc | apply Kd.R_drewN | apply Kd.R_drew)); exact (Kd.R_mono (Kd.R_far (p := ⟨gb704, 6, none⟩) (Kd.R_far (p := ⟨gb704, 5, none⟩) (Kd.R_far (p := ⟨gb704, 4, none⟩) (Kd.R_far (p := ⟨gb704, 3, none⟩) (Kd.R_far (p := ⟨gb704, 2, none⟩) (Kd.R_far (p := ⟨gb704, 1, none⟩) (Kd.R_far (p := ⟨gb704, 0, none⟩) (Kd.R_types HO700.out BK704.out (by decide)) (fun _ hk => hk.2) (.bool t693)) (fun _ hk => hk.2) (.bool t694)) (fun _ hk => hk.2) (.slice Ao32 t695.length co32)) (fun _ hk => hk.2) (.slice Ao33 t698.length co33)) (fun _ hk => hk.2) (.int .i64 t701)) (fun _ hk => hk.2) (.int .i64 t702)) (fun _ hk => hk.2) (.int .i64 t703)) (fun _ h_ => h_.1))))) (below_size (by repeat (first | (with_reducible first | exact HB.out | apply below_alloc | apply pw_below_drewN | apply below_drew1 | refine below_set ?_ GE667.out | refine below_set ?_ GE692.out | refine below_set ?_ GE704.out) | exact HB.out)))); have n7_ := Aside0.mk (Kd.R_lower (Kd.R_new' (Kd.R_new' (Kd.R_new' (Kd.R_new' (Kd.R_new' (Kd.R_new' ho1 (Kd.R_lt (by (with_reducible repeat (first | apply Kd.R_alloc | apply Kd.R_drewN | apply Kd.R_drew)); exact (Kd.R_mono (Kd.R_far (p := ⟨gb704, 6, none⟩) (Kd.R_far (p := ⟨gb704, 5, none⟩) (Kd.R_far (p := ⟨gb704, 4, none⟩) (Kd.R_far (p := ⟨gb704, 3, none⟩) (Kd.R_far (p := ⟨gb704, 2, none⟩) (Kd.R_far (p := ⟨gb704, 1, none⟩) (Kd.R_far (p := ⟨gb704, 0, none⟩) (Kd.R_types HO673.out BK704.out (by decide)) (fun _ hk => hk.2) (.bool t693)) (fun _ hk => hk.2) (.bool t694)) (fun _ hk => hk.2) (.slice Ao32 t695.length co32)) (fun _ hk => hk.2) (.slice Ao33 t698.length co33)) (fun _ hk => hk.2) (.int .i64 t701)) (fun _ hk => hk.2) (.int .i64 t702)) (fun _ hk => hk.2) (.int .i64 t703)) (fun _ h_ => h_.1))))) (Kd.R_lt (by (with_reducible repeat (first | apply Kd.R_alloc | apply Kd.R_drewN | apply Kd.R_drew)); exact (Kd.R_mono (Kd.R_far (p := ⟨gb704, 6, none⟩) (Kd.R_far (p := ⟨gb704, 5, none⟩) (Kd.R_far (p := ⟨gb704, 4, none⟩) (Kd.R_far (p := ⟨gb704, 3, none⟩) (Kd.R_far (p := ⟨gb704, 2, none⟩) (Kd.R_far (p := ⟨gb704, 1, none⟩) (Kd.R_far (p := ⟨gb704, 0, none⟩) (Kd.R_types HO676.out BK704.out (by decide)) (fun _ hk => hk.2) (.bool t693)) (fun _ hk => hk.2) (.bool t694)) (fun _ hk => hk.2) (.slice Ao32 t695.length co32)) (fun _ hk => hk.2) (.slice Ao33 t698.length co33)) (fun _ hk => hk.2) (.int .i64 t701)) (fun _ hk => hk.2) (.int .i64 t702)) (fun _ hk => hk.2) (.int .i64 t703)) (fun _ h_ => h_.1))))) (Kd.R_lt (by (with_reducible repeat (first | apply Kd.R_alloc | apply Kd.R_drewN | apply Kd.R_drew)); exact (Kd.R_mono (Kd.R_far (p := ⟨gb704, 6, none⟩) (Kd.R_far (p := ⟨gb704, 5, none⟩) (Kd.R_far (p := ⟨gb704, 4, none⟩) (Kd.R_far (p := ⟨gb704, 3, none⟩) (Kd.R_far (p := ⟨gb704, 2, none⟩) (Kd.R_far (p := ⟨gb704, 1, none⟩) (Kd.R_far (p := ⟨gb704, 0, none⟩) (Kd.R_types HO684.out BK704.out (by decide)) (fun _ hk => hk.2) (.bool t693)) (fun _ hk => hk.2) (.bool t694)) (fun _ hk => hk.2) (.slice Ao32 t695.length co32)) (fun _ hk => hk.2) (.slice Ao33 t698.length co33)) (fun _ hk => hk.2) (.int .i64 t701)) (fun _ hk => hk.2) (.int .i64 t702)) (fun _ hk => hk.2) (.int .i64 t703)) (fun _ h_ => h_.1))))) (Kd.R_lt (by (with_reducible repeat (first | apply Kd.R_alloc | apply Kd.R_drewN | apply Kd.R_drew)); exact (Kd.R_mono (Kd.R_far (p := ⟨gb704, 6, none⟩) (Kd.R_far (p := ⟨gb704, 5, none⟩) (Kd.R_far (p := ⟨gb704, 4, none⟩) (Kd.R_far (p := ⟨gb704, 3, none⟩) (Kd.R_far (p := ⟨gb704, 2, none⟩) (Kd.R_far (p := ⟨gb704, 1, none⟩) (Kd.R_far (p := ⟨gb704, 0, none⟩) (Kd.R_types HO687.out BK704.out (by decide)) (fun _ hk => hk.2) (.bool t693)) (fun _ hk => hk.2) (.bool t694)) (fun _ hk => hk.2) (.slice Ao32 t695.length co32)) (fun _ hk => hk.2) (.slice Ao33 t698.length co33)) (fun _ hk => hk.2) (.int .i64 t701)) (fun _ hk => hk.2) (.int .i64 t702)) (fun _ hk => hk.2) (.int .i64 t703)) (fun _ h_ => h_.1))))) (Kd.R_lt (by (with_reducible repeat (first | apply Kd.R_alloc | apply Kd.R_drewN | apply Kd.R_drew)); exact (Kd.R_mono (Kd.R_far (p := ⟨gb704, 6, none⟩) (Kd.R_far (p := ⟨gb704, 5, none⟩) (Kd.R_far (p := ⟨gb704, 4, none⟩) (Kd.R_far (p := ⟨gb704, 3, none⟩) (Kd.R_far (p := ⟨gb704, 2, none⟩) (Kd.R_far (p := ⟨gb704, 1, none⟩) (Kd.R_far (p := ⟨gb704, 0, none⟩) (Kd.R_types HO697.out BK704.out (by decide)) (fun _ hk => hk.2) (.bool t693)) (fun _ hk => hk.2) (.bool t694)) (fun _ hk => hk.2) (.slice Ao32 t695.length co32)) (fun _ hk => hk.2) (.slice Ao33 t698.length co33)) (fun _ hk => hk.2) (.int .i64 t701)) (fun _ hk => hk.2) (.int .i64 t702)) (fun _ hk => hk.2) (.int .i64 t703)) (fun _ h_ => h_.1))))) (Kd.R_lt (by (with_reducible repeat (first | apply Kd.R_alloc | apply Kd.R_drewN | apply Kd.R_drew)); exact (Kd.R_mono (Kd.R_far (p := ⟨gb704, 6, none⟩) (Kd.R_far (p := ⟨gb704, 5, none⟩) (Kd.R_far (p := ⟨gb704, 4, none⟩) (Kd.R_far (p := ⟨gb704, 3, none⟩) (Kd.R_far (p := ⟨gb704, 2, none⟩) (Kd.R_far (p := ⟨gb704, 1, none⟩) (Kd.R_far (p := ⟨gb704, 0, none⟩) (Kd.R_types HO700.out BK704.out (by decide)) (fun _ hk => hk.2) (.bool t693)) (fun _ hk => hk.2) (.bool t694)) (fun _ hk => hk.2) (.slice Ao32 t695.length co32)) (fun _ hk => hk.2) (.slice Ao33 t698.length co33)) (fun _ hk => hk.2) (.int .i64 t701)) (fun _ hk => hk.2) (.int .i64 t702)) (fun _ hk => hk.2) (.int .i64 t703)) (fun _ h_ => h_.1))))) (below_size (by repeat (first | (with_reducible first | exact HB.out | apply below_alloc | apply pw_below_drewN | apply below_drew1 | refine below_set ?_ GE667.out | refine below_set ?_ GE692.out | refine below_set ?_ GE704.out) | exact HB.out)))); have n8_ := Aside0.mk (blk_below (g := gb667) (o := .cells #[.bool a0_0, .bool a0_1, .slice A0_2 l0_2.length c0_2, .slice A0_3 l0_3.length c0_3, .int .i64 a0_4, .int .i64 a0_5, .int .i64 a0_6] 24 (0, 0)) (by (with_reducible repeat (first | refine blk_drewN ?_ _ | refine blk_drew ?_ | refine blk_alloc ?_ _)); refine blk_far ?_ NB667_704.out _; (with_reducible repeat (first | refine blk_drewN ?_ _ | refine blk_drew ?_ | refine blk_alloc ?_ _)); refine blk_far ?_ NB667_704.out _; (with_reducible repeat (first | refine blk_drewN ?_ _ | refine blk_drew ?_ | refine blk_alloc ?_ _)); refine blk_far ?_ NB667_704.out _; (with_reducible repeat (first | refine blk_drewN ?_ _ | refine blk_drew ?_ | refine blk_alloc ?_ _)); refine blk_far ?_ NB667_704.out _; (with_reducible repeat (first | refine blk_drewN ?_ _ | refine blk_drew ?_ | refine blk_alloc ?_ _)); refine blk_far ?_ NB667_704.out _; (with_reducible repeat (first | refine blk_drewN ?_ _ | refine blk_drew ?_ | refine blk_alloc ?_ _)); refine blk_far ?_ NB667_704.out _; (with_reducible repeat (first | refine blk_drewN ?_ _ | refine blk_drew ?_ | refine blk_alloc ?_ _)); refine blk_far ?_ NB667_704.out _; (with_reducible repeat (first | refine blk_drewN ?_ _ | refine blk_drew ?_ | refine blk_alloc ?_ _)); exact BK667.out) hb); have n9_ := Aside0.mk (blk_below (g := gb692) (o := .cells #[.bool t680, .bool t681, .slice Ao24 t682.length co24, .slice Ao25 t685.length co25, .int .i64 t688, .int .i64 t689, .int .i64 t690] 27 (0, 0)) (by (with_reducible repeat (first | refine blk_drewN ?_ _ | refine blk_drew ?_ | refine blk_alloc ?_ _)); refine blk_far ?_ NB692_704.out _; (with_reducible repeat (first | refine blk_drewN ?_ _ | refine blk_drew ?_ | refine blk_alloc ?_ _)); refine blk_far ?_ NB692_704.out _; (with_reducible repeat (first | refine blk_drewN ?_ _ | refine blk_drew ?_ | refine blk_alloc ?_ _)); refine blk_far ?_ NB692_704.out _; (with_reducible repeat (first | refine blk_drewN ?_ _ | refine blk_drew ?_ | refine blk_alloc ?_ _)); refine blk_far ?_ NB692_704.out _; (with_reducible repeat (first | refine blk_drewN ?_ _ | refine blk_drew ?_ | refine blk_alloc ?_ _)); refine blk_far ?_ NB692_704.out _; (with_reducible repeat (first | refine blk_drewN ?_ _ | refine blk_drew ?_ | refine blk_alloc ?_ _)); refine blk_far ?_ NB692_704.out _; (with_reducible repeat (first | refine blk_drewN ?_ _ | refine blk_drew ?_ | refine blk_alloc ?_ _)); refine blk_far ?_ NB692_704.out _; (with_reducible repeat (first | refine blk_drewN ?_ _ | refine blk_drew ?_ | refine blk_alloc ?_ _)); exact BK692.out) hb); have n10_ := Aside0.mk (blk_below (g := gb704) (o := .cells #[.bool t693, .bool t694, .slice Ao32 t695.length co32, .slice Ao33 t698.length co33, .int .i64 t701, .int .i64 t702, .int .i64 t703] 27 (0, 0)) (by (with_reducible repeat (first | refine blk_drewN ?_ _ | refine blk_drew ?_ | refine blk_alloc ?_ _)); refine blk_put (cs := #[.bool t693, .bool t694, .slice Ao32 t695.length co32, .slice Ao33 t698.length co33, .int .i64 t701, .int .i64 t702, .int .i64 0]) ?_ 6 _ rfl; (with_reducible repeat (first | refine blk_drewN ?_ _ | refine blk_drew ?_ | refine blk_alloc ?_ _)); refine blk_put (cs := #[.bool t693, .bool t694, .slice Ao32 t695.length co32, .slice Ao33 t698.length co33, .int .i64 t701, .int .i64 0, .int .i64 0]) ?_ 5 _ rfl; (with_reducible repeat (first | refine blk_drewN ?_ _ | refine blk_drew ?_ | refine blk_alloc ?_ _)); refine blk_put (cs := #[.bool t693, .bool t694, .slice Ao32 t695.length co32, .slice Ao33 t698.length co33, .int .i64 0, .int .i64 0, .int .i64 0]) ?_ 4 _ rfl; (with_reducible repeat (first | refine blk_drewN ?_ _ | refine blk_drew ?_ | refine blk_alloc ?_ _)); refine blk_put (cs := #[.bool t693, .bool t694, .slice Ao32 t695.length co32, .slice none 0 0, .int .i64 0, .int .i64 0, .int .i64 0]) ?_ 3 _ rfl; (with_reducible repeat (first | refine blk_drewN ?_ _ | refine blk_drew ?_ | refine blk_alloc ?_ _)); refine blk_put (cs := #[.bool t693, .bool t694, .slice none 0 0, .slice none 0 0, .int .i64 0, .int .i64 0, .int .i64 0]) ?_ 2 _ rfl; (with_reducible repeat (first | refine blk_drewN ?_ _ | refine blk_drew ?_ | refine blk_alloc ?_ _)); refine blk_put (cs := #[.bool t693, .bool false, .slice none 0 0, .slice none 0 0, .int .i64 0, .int .i64 0, .int .i64 0]) ?_ 1 _ rfl; (with_reducible repeat (first | refine blk_drewN ?_ _ | refine blk_drew ?_ | refine blk_alloc ?_ _)); refine blk_put (cs := #[.bool false, .bool false, .slice none 0 0, .slice none 0 0, .int .i64 0, .int .i64 0, .int .i64 0]) ?_ 0 _ rfl; (with_reducible repeat (first | refine blk_drewN ?_ _ | refine blk_drew ?_ | refine blk_alloc ?_ _)); exact BK704.out) hb); have n11_ := Aside0.mk (below_step (by repeat (first | (with_reducible first | exact HB.out | apply below_alloc | apply pw_below_drewN | apply below_drew1 | refine below_set ?_ GE667.out | refine below_set ?_ GE692.out | refine below_set ?_ GE704.out) | exact HB.out)) hb); clear HO673 HO676 HO684 HO687 HO697 HO700 BK667 BK692 BK704 HB; have HO673 := n0_; have HO676 := n1_; have HO684 := n2_; have HO687 := n3_; have HO697 := n4_; have HO700 := n5_; have HO709 := n6_; have HO712 := n7_; have BK667 := n8_; have BK692 := n9_; have BK704 := n10_; have HB := n11_; clear n0_ n1_ n2_ n3_ n4_ n5_ n6_ n7_ n8_ n9_ n10_ n11_; (try clear hb); (try clear hb2); (try clear hk); (try clear hi); (try clear ho0); (try clear ho1)) | ((with_reducible refine gate_dst (N := 9) rfl ?_); refine box_event ?hg (N := 9) ?hd (cs := #[.bool false, .bool false, .slice none 0 0, .slice none 0 0, .int .i64 0, .int .i64 0, .int .i64 0]) (t := 27) ?hr ?_; (case hd => rfl); (case hg => rfl); (case hr => first | (go_simp; done) | (go_simp; rfl)); intro gb717 hg w35 hbox hb; have n0_ := Aside0.mk (Kd.R_below (pkR HO673.out) hb); have n1_ := Aside0.mk (Kd.R_below (pkR HO676.out) hb); have n2_ := Aside0.mk (Kd.R_below (pkR HO684.out) hb); have n3_ := Aside0.mk (Kd.R_below (pkR HO687.out) hb); have n4_ := Aside0.mk (Kd.R_below (pkR HO697.out) hb); have n5_ := Aside0.mk (Kd.R_below (pkR HO700.out) hb); have n6_ := Aside0.mk (Kd.R_below (pkR HO709.out) hb); have n7_ := Aside0.mk (Kd.R_below (pkR HO712.out) hb); have n8_ := Aside0.mk (blk_below (g := gb667) (o := .cells #[.bool a0_0, .bool a0_1, .slice A0_2 l0_2.length c0_2, .slice A0_3 l0_3.length c0_3, .int .i64 a0_4, .int .i64 a0_5, .int .i64 a0_6] 24 (0, 0)) (pkK BK667.out) hb); have n9_ := Aside0.mk (blk_below (g := gb692) (o := .cells #[.bool t680, .bool t681, .slice Ao24 t682.length co24, .slice Ao25 t685.length co25, .int .i64 t688, .int .i64 t689, .int .i64 t690] 27 (0, 0)) (pkK BK692.out) hb); have n10_ := Aside0.mk (blk_below (g := gb704) (o := .cells #[.bool t693, .bool t694, .slice Ao32 t695.length co32, .slice Ao33 t698.length co33, .int .i64 t701, .int .i64 t702, .int .i64 t703] 27 (0, 0)) (pkK BK704.out) hb); have n11_ := Aside0.mk (below_step (by repeat (first | (with_reducible first | exact HB.out | apply below_alloc | apply pw_below_drewN | apply below_drew1 | refine below_set ?_ GE667.out | refine below_set ?_ GE692.out | refine below_set ?_ GE704.out) | exact HB.out)) hb); have n12_ := Aside0.mk (hbox); have n13_ := Aside0.mk ((by rw [hg]; exact (below_size (by repeat (first | (with_reducible first | exact HB.out | apply below_alloc | apply pw_below_drewN | apply below_drew1 | refine below_set ?_ GE667.out | refine below_set ?_ GE692.out | refine below_set ?_ GE704.out) | exact HB.out))) : w.heap.size ≤ gb717)); have n14_ := Aside0.mk ((by rw [hg]; exact (below_size (by repeat (first | (with_reducible first | exact HB.out | apply below_alloc | apply pw_below_drewN | apply below_drew1 | refine below_set ?_ GE667.out | refine below_set ?_ GE692.out | refine below_set ?_ GE704.out) | exact HB.out))) : w.heap.size ≤ gb717)); have n15_ := Aside0.mk ((by rw [hg]; exact Nat.ne_of_lt (blk_lt (g := gb667) (o := .cells #[.bool a0_0, .bool a0_1, .slice A0_2 l0_2.length c0_2, .slice A0_3 l0_3.length c0_3, .int .i64 a0_4, .int .i64 a0_5, .int .i64 a0_6] 24 (0, 0)) (pkK BK667.out)) : gb667 ≠ gb717)); have n16_ := Aside0.mk ((by rw [hg]; exact Nat.ne_of_gt (blk_lt (g := gb667) (o := .cells #[.bool a0_0, .bool a0_1, .slice A0_2 l0_2.length c0_2, .slice A0_3 l0_3.length c0_3, .int .i64 a0_4, .int .i64 a0_5, .int .i64 a0_6] 24 (0, 0)) (pkK BK667.out)) : gb717 ≠ gb667)); have n17_ := Aside0.mk ((by rw [hg]; exact Nat.ne_of_lt (blk_lt (g := gb692) (o := .cells #[.bool t680, .bool t681, .slice Ao24 t682.length co24, .slice Ao25 t685.length co25, .int .i64 t688, .int .i64 t689, .int .i64 t690] 27 (0, 0)) (pkK BK692.out)) : gb692 ≠ gb717)); have n18_ := Aside0.mk ((by rw [hg]; exact Nat.ne_of_gt (blk_lt (g := gb692) (o := .cells #[.bool t680, .bool t681, .slice Ao24 t682.length co24, .slice Ao25 t685.length co25, .int .i64 t688, .int .i64 t689, .int .i64 t690] 27 (0, 0)) (pkK BK692.out)) : gb717 ≠ gb692)); have n19_ := Aside0.mk ((by rw [hg]; exact Nat.ne_of_lt (blk_lt (g := gb704) (o := .cells #[.bool t693, .bool t694, .slice Ao32 t695.length co32, .slice Ao33 t698.length co33, .int .i64 t701, .int .i64 t702, .int .i64 t703] 27 (0, 0)) (pkK BK704.out)) : gb704 ≠ gb717)); have n20_ := Aside0.mk ((by rw [hg]; exact Nat.ne_of_gt (blk_lt (g := gb704) (o := .cells #[.bool t693, .bool t694, .slice Ao32 t695.length co32, .slice Ao33 t698.length co33, .int .i64 t701, .int .i64 t702, .int .i64 t703] 27 (0, 0)) (pkK BK704.out)) : gb717 ≠ gb704)); clear HO673 HO676 HO684 HO687 HO697 HO700 HO709 HO712 BK667 BK692 BK704 HB; have HO673 := n0_; have HO676 := n1_; have HO684 := n2_; have HO687 := n3_; have HO697 := n4_; have HO700 := n5_; have HO709 := n6_; have HO712 := n7_; have BK667 := n8_; have BK692 := n9_; have BK704 := n10_; have HB := n11_; have BK717 := n12_; have GW717 := n13_; have GE717 := n14_; have NB667_717 := n15_; have NB717_667 := n16_; have NB692_717 := n17_; have NB717_692 := n18_; have NB704_717 := n19_; have NB717_704 := n20_; clear n0_ n1_ n2_ n3_ n4_ n5_ n6_ n7_ n8_ n9_ n10_ n11_ n12_ n13_ n14_ n15_ n16_ n17_ n18_ n19_ n20_; clear hb hbox hg; have hnb36 := NB717_667.out; have hnc36 := NB667_717.out; have hnb37 := NB717_692.out; have hnc37 := NB692_717.out; have hnb38 := NB717_704.out; have hnc38 := NB704_717.out; have hcz39_0 : w35.cell? ⟨gb717, 0, none⟩ = some (.bool false) := (blk_cell BK717.out 0).trans rfl; have hcz39_1 : w35.cell? ⟨gb717, 1, none⟩ = some (.bool false) := (blk_cell BK717.out 1).trans rfl; have hcz39_2 : w35.cell? ⟨gb717, 2, none⟩ = some (.slice none 0 0) := (blk_cell BK717.out 2).trans rfl; have hcz39_3 : w35.cell? ⟨gb717, 3, none⟩ = some (.slice none 0 0) := (blk_cell BK717.out 3).trans rfl; have hcz39_4 : w35.cell? ⟨gb717, 4, none⟩ = some (.int .i64 0) := (blk_cell BK717.out 4).trans rfl; have hcz39_5 : w35.cell? ⟨gb717, 5, none⟩ = some (.int .i64 0) := (blk_cell BK717.out 5).trans rfl; have hcz39_6 : w35.cell? ⟨gb717, 6, none⟩ = some (.int .i64 0) := (blk_cell BK717.out 6).trans rfl; have hfz39_0 := blk_frozen BK717.out 0; have hfz39_1 := blk_frozen BK717.out 1; have hfz39_2 := blk_frozen BK717.out 2; have hfz39_3 := blk_frozen BK717.out 3; have hfz39_4 := blk_frozen BK717.out 4; have hfz39_5 := blk_frozen BK717.out 5; have hfz39_6 := blk_frozen BK717.out 6; obtain ⟨Ao40, co40, eo40⟩ := Kd.R_slice HO709.out; subst eo40; obtain ⟨Ao41, co41, eo41⟩ := Kd.R_slice HO712.out; subst eo41))
    (try simp only [Act.put, List.setIfInBounds_toArray, List.set_cons_zero, List.set_cons_succ])
    go_cut [44] (fun v44 wc => ∃ (kq : Nat) (x44_11 : Bool), v44 = .bool x44_11 ∧ Aside0 (laws_FnExactGoOn.j0 kq a1 t691 t716 x44_11 a0_0 a0_1 l0_2 l0_3 a0_4 a0_5 a0_6 t680 t681 t682 t685 t688 t689 t690 t693 t694 t695 t698 t701 t702 t703 t705 t706 t707 t710 t713 t714 t715 = some r) ∧ Aside0 (kq ≤ k) ∧ Aside0 (Kd.R (Kd.int .i64) 3 wc w.heap.size (fun k_ => some k_ ≠ ((.slice Ao25 t685.length co25) : Value).ownBlock ∧ some k_ ≠ ((.slice Ao32 t695.length co32) : Value).ownBlock ∧ some k_ ≠ ((.slice Ao33 t698.length co33) : Value).ownBlock ∧ some k_ ≠ ((.slice Ao40 t707.length co40) : Value).ownBlock ∧ some k_ ≠ ((.slice Ao41 t710.length co41) : Value).ownBlock) (.slice Ao24 t682.length co24) t682) ∧ Aside0 (Kd.R (Kd.int .i64) 3 wc w.heap.size (fun k_ => some k_ ≠ ((.slice Ao24 t682.length co24) : Value).ownBlock ∧ some k_ ≠ ((.slice Ao32 t695.length co32) : Value).ownBlock ∧ some k_ ≠ ((.slice Ao33 t698.length co33) : Value).ownBlock ∧ some k_ ≠ ((.slice Ao40 t707.length co40) : Value).ownBlock ∧ some k_ ≠ ((.slice Ao41 t710.length co41) : Value).ownBlock) (.slice Ao25 t685.length co25) t685) ∧ Aside0 (Kd.R (Kd.int .i64) 3 wc w.heap.size (fun k_ => some k_ ≠ ((.slice Ao24 t682.length co24) : Value).ownBlock ∧ some k_ ≠ ((.slice Ao25 t685.length co25) : Value).ownBlock ∧ some k_ ≠ ((.slice Ao33 t698.length co33) : Value).ownBlock ∧ some k_ ≠ ((.slice Ao40 t707.length co40) : Value).ownBlock ∧ some k_ ≠ ((.slice Ao41 t710.length co41) : Value).ownBlock) (.slice Ao32 t695.length co32) t695) ∧ Aside0 (Kd.R (Kd.int .i64) 3 wc w.heap.size (fun k_ => some k_ ≠ ((.slice Ao24 t682.length co24) : Value).ownBlock ∧ some k_ ≠ ((.slice Ao25 t685.length co25) : Value).ownBlock ∧ some k_ ≠ ((.slice Ao32 t695.length co32) : Value).ownBlock ∧ some k_ ≠ ((.slice Ao40 t707.length co40) : Value).ownBlock ∧ some k_ ≠ ((.slice Ao41 t710.length co41) : Value).ownBlock) (.slice Ao33 t698.length co33) t698) ∧ Aside0 (Kd.R (Kd.int .i64) 3 wc w.heap.size (fun k_ => some k_ ≠ ((.slice Ao24 t682.length co24) : Value).ownBlock ∧ some k_ ≠ ((.slice Ao25 t685.length co25) : Value).ownBlock ∧ some k_ ≠ ((.slice Ao32 t695.length co32) : Value).ownBlock ∧ some k_ ≠ ((.slice Ao33 t698.length co33) : Value).ownBlock ∧ some k_ ≠ ((.slice Ao41 t710.length co41) : Value).ownBlock) (.slice Ao40 t707.length co40) t707) ∧ Aside0 (Kd.R (Kd.int .i64) 3 wc w.heap.size (fun k_ => some k_ ≠ ((.slice Ao24 t682.length co24) : Value).ownBlock ∧ some k_ ≠ ((.slice Ao25 t685.length co25) : Value).ownBlock ∧ some k_ ≠ ((.slice Ao32 t695.length co32) : Value).ownBlock ∧ some k_ ≠ ((.slice Ao33 t698.length co33) : Value).ownBlock ∧ some k_ ≠ ((.slice Ao40 t707.length co40) : Value).ownBlock) (.slice Ao41 t710.length co41) t710) ∧ Aside0 (wc.heap[gb667]? = some (.cells #[.bool a0_0, .bool a0_1, (.slice A0_2 l0_2.length c0_2), (.slice A0_3 l0_3.length c0_3), .int .i64 a0_4, .int .i64 a0_5, .int .i64 a0_6] 24 (0, 0))) ∧ Aside0 (wc.heap[gb692]? = some (.cells #[.bool t680, .bool t681, (.slice Ao24 t682.length co24), (.slice Ao25 t685.length co25), .int .i64 t688, .int .i64 t689, .int .i64 t690] 27 (0, 0))) ∧ Aside0 (wc.heap[gb704]? = some (.cells #[.bool t693, .bool t694, (.slice Ao32 t695.length co32), (.slice Ao33 t698.length co33), .int .i64 t701, .int .i64 t702, .int .i64 t703] 27 (0, 0))) ∧ Aside0 (wc.heap[gb717]? = some (.cells #[.bool t705, .bool t706, (.slice Ao40 t707.length co40), (.slice Ao41 t710.length co41), .int .i64 t713, .int .i64 t714, .int .i64 t715] 27 (0, 0))) ∧ Aside0 (Below w.heap.size w wc))
    case first =>
      have H := HC12.out
      clear HC12
      replace H := Option.bind_eq_some_iff.mp H
      obtain ⟨t718, A420, H⟩ := H
      replace H : (if t718 = true then (laws_FnExactGoOn.j0 k a1 t691 t716 (t716 != t691) a0_0 a0_1 l0_2 l0_3 a0_4 a0_5 a0_6 t680 t681 t682 t685 t688 t689 t690 t693 t694 t695 t698 t701 t702 t703 t705 t706 t707 t710 t713 t714 t715) else (laws_FnExactGoOn.j0 k a1 t691 t716 true a0_0 a0_1 l0_2 l0_3 a0_4 a0_5 a0_6 t680 t681 t682 t685 t688 t689 t690 t693 t694 t695 t698 t701 t702 t703 t705 t706 t707 t710 t713 t714 t715)) = some r := H
      have A42 := Aside0.mk A420
      clear A420
      by_cases c43 : t718 = true
      · subst c43
        have H1 : (laws_FnExactGoOn.j0 k a1 t691 t716 (t716 != t691) a0_0 a0_1 l0_2 l0_3 a0_4 a0_5 a0_6 t680 t681 t682 t685 t688 t689 t690 t693 t694 t695 t698 t701 t702 t703 t705 t706 t707 t710 t713 t714 t715) = some r := by rw [if_pos rfl] at H; exact H
        clear H
        have H := H1
        clear H1
        have H' := Aside0.mk H
        clear H
        have hnb44 := NB717_667.out
        have hnc44 := NB667_717.out
        have hnb45 := NB717_692.out
        have hnc45 := NB692_717.out
        have hnb46 := NB717_704.out
        have hnc46 := NB704_717.out
        have hcz47_0 : w35.cell? ⟨gb717, 0, none⟩ = some (.bool false) := (blk_cell BK717.out 0).trans rfl
        have hcz47_1 : w35.cell? ⟨gb717, 1, none⟩ = some (.bool false) := (blk_cell BK717.out 1).trans rfl
        have hcz47_2 : w35.cell? ⟨gb717, 2, none⟩ = some (.slice none 0 0) := (blk_cell BK717.out 2).trans rfl
        have hcz47_3 : w35.cell? ⟨gb717, 3, none⟩ = some (.slice none 0 0) := (blk_cell BK717.out 3).trans rfl
        have hcz47_4 : w35.cell? ⟨gb717, 4, none⟩ = some (.int .i64 0) := (blk_cell BK717.out 4).trans rfl
        have hcz47_5 : w35.cell? ⟨gb717, 5, none⟩ = some (.int .i64 0) := (blk_cell BK717.out 5).trans rfl
        have hcz47_6 : w35.cell? ⟨gb717, 6, none⟩ = some (.int .i64 0) := (blk_cell BK717.out 6).trans rfl
        have hfz47_0 := blk_frozen BK717.out 0
        have hfz47_1 := blk_frozen BK717.out 1
        have hfz47_2 := blk_frozen BK717.out 2
        have hfz47_3 := blk_frozen BK717.out 3
        have hfz47_4 := blk_frozen BK717.out 4
        have hfz47_5 := blk_frozen BK717.out 5
        have hfz47_6 := blk_frozen BK717.out 6
        have hnb48 := NB692_667.out
        have hnc48 := NB667_692.out
        have hnb49 := NB692_704.out
        have hnc49 := NB704_692.out
        have hcz50_0 : w35.cell? ⟨gb692, 0, none⟩ = some (.bool t680) := (blk_cell BK692.out 0).trans rfl
        have hcz50_1 : w35.cell? ⟨gb692, 1, none⟩ = some (.bool t681) := (blk_cell BK692.out 1).trans rfl
        have hcz50_2 : w35.cell? ⟨gb692, 2, none⟩ = some (.slice Ao24 t682.length co24) := (blk_cell BK692.out 2).trans rfl
        have hcz50_3 : w35.cell? ⟨gb692, 3, none⟩ = some (.slice Ao25 t685.length co25) := (blk_cell BK692.out 3).trans rfl
        have hcz50_4 : w35.cell? ⟨gb692, 4, none⟩ = some (.int .i64 t688) := (blk_cell BK692.out 4).trans rfl
        have hcz50_5 : w35.cell? ⟨gb692, 5, none⟩ = some (.int .i64 t689) := (blk_cell BK692.out 5).trans rfl
        have hcz50_6 : w35.cell? ⟨gb692, 6, none⟩ = some (.int .i64 t690) := (blk_cell BK692.out 6).trans rfl
        have hfz50_0 := blk_frozen BK692.out 0
        have hfz50_1 := blk_frozen BK692.out 1
        have hfz50_2 := blk_frozen BK692.out 2
        have hfz50_3 := blk_frozen BK692.out 3
        have hfz50_4 := blk_frozen BK692.out 4
        have hfz50_5 := blk_frozen BK692.out 5
        have hfz50_6 := blk_frozen BK692.out 6
        go_wp2_with (first | ((with_reducible refine gate_callee (f := 18) rfl ?_); refine goesL_ (some 38) rfl rfl Try.func18 (by kernel_rfl) rfl #[.agg #[.bool t705, .bool t706, .slice Ao40 t707.length co40, .slice Ao41 t710.length co41, .int .i64 t713, .int .i64 t714, .int .i64 t715], .agg #[.bool t680, .bool t681, .slice Ao24 t682.length co24, .slice Ao25 t685.length co25, .int .i64 t688, .int .i64 t689, .int .i64 t690]] rfl (by (try simp only [List.map_toArray, List.map_cons, List.map_nil]); first | done | rfl | (simp only [List.length_drop, List.length_take]; rfl) | (go_simp; done) | (simp [*]; done)) ?_; (with_reducible refine (laws_eqEvent.calls k t705 t706 _ _ t707 _ _ t710 t713 t714 t715 t680 t681 _ _ t682 _ _ t685 t688 t689 t690 true _ ?side1 ?side2 ?side3 ?side4 ?side5 ?side6 ?side7 ?side8 A42.out).mono ?_); (case side1 => refine (Kd.R_reads' (e := 3) (base := w.heap.size) (ok := fun k_ => ((((((some k_ ≠ (.slice Ao41 t710.length co41 : Value).ownBlock ∧ some k_ ≠ (.slice Ao18 t671.length co18 : Value).ownBlock) ∧ some k_ ≠ (.slice Ao19 t674.length co19 : Value).ownBlock) ∧ some k_ ≠ (.slice Ao24 t682.length co24 : Value).ownBlock) ∧ some k_ ≠ (.slice Ao25 t685.length co25 : Value).ownBlock) ∧ some k_ ≠ (.slice Ao32 t695.length co32 : Value).ownBlock) ∧ some k_ ≠ (.slice Ao33 t698.length co33 : Value).ownBlock)) (n := t707.length) (c := co40) ?_).2.2; exact (by (with_reducible repeat (first | apply Kd.R_alloc | apply Kd.R_drewN | apply Kd.R_drew)); exact (Kd.R_mono (Kd.R_far (p := ⟨gb717, 6, none⟩) (Kd.R_far (p := ⟨gb717, 5, none⟩) (Kd.R_far (p := ⟨gb717, 4, none⟩) (Kd.R_far (p := ⟨gb717, 3, none⟩) (Kd.R_far (p := ⟨gb717, 2, none⟩) (Kd.R_far (p := ⟨gb717, 1, none⟩) (Kd.R_far (p := ⟨gb717, 0, none⟩) (Kd.R_types HO709.out BK717.out (by decide)) (fun _ hk => hk.2) (.bool t705)) (fun _ hk => hk.2) (.bool t706)) (fun _ hk => hk.2) (.slice Ao40 t707.length co40)) (fun _ hk => hk.2) (.slice Ao41 t710.length co41)) (fun _ hk => hk.2) (.int .i64 t713)) (fun _ hk => hk.2) (.int .i64 t714)) (fun _ hk => hk.2) (.int .i64 t715)) (fun _ h_ => h_.1)))); (case side2 => exact (Kd.R_reads' HO709.out).2.1); (case side3 => refine (Kd.R_reads' (e := 3) (base := w.heap.size) (ok := fun k_ => ((((((some k_ ≠ (.slice Ao40 t707.length co40 : Value).ownBlock ∧ some k_ ≠ (.slice Ao18 t671.length co18 : Value).ownBlock) ∧ some k_ ≠ (.slice Ao19 t674.length co19 : Value).ownBlock) ∧ some k_ ≠ (.slice Ao24 t682.length co24 : Value).ownBlock) ∧ some k_ ≠ (.slice Ao25 t685.length co25 : Value).ownBlock) ∧ some k_ ≠ (.slice Ao32 t695.length co32 : Value).ownBlock) ∧ some k_ ≠ (.slice Ao33 t698.length co33 : Value).ownBlock)) (n := t710.length) (c := co41) ?_).2.2; exact (by (with_reducible repeat (first | apply Kd.R_alloc | apply Kd.R_drewN | apply Kd.R_drew)); exact (Kd.R_mono (Kd.R_far (p := ⟨gb717, 6, none⟩) (Kd.R_far (p := ⟨gb717, 5, none⟩) (Kd.R_far (p := ⟨gb717, 4, none⟩) (Kd.R_far (p := ⟨gb717, 3, none⟩) (Kd.R_far (p := ⟨gb717, 2, none⟩) (Kd.R_far (p := ⟨gb717, 1, none⟩) (Kd.R_far (p := ⟨gb717, 0, none⟩) (Kd.R_types HO712.out BK717.out (by decide)) (fun _ hk => hk.2) (.bool t705)) (fun _ hk => hk.2) (.bool t706)) (fun _ hk => hk.2) (.slice Ao40 t707.length co40)) (fun _ hk => hk.2) (.slice Ao41 t710.length co41)) (fun _ hk => hk.2) (.int .i64 t713)) (fun _ hk => hk.2) (.int .i64 t714)) (fun _ hk => hk.2) (.int .i64 t715)) (fun _ h_ => h_.1)))); (case side4 => exact (Kd.R_reads' HO712.out).2.1); (case side5 => refine (Kd.R_reads' (e := 3) (base := w.heap.size) (ok := fun k_ => ((((((some k_ ≠ (.slice Ao25 t685.length co25 : Value).ownBlock ∧ some k_ ≠ (.slice Ao18 t671.length co18 : Value).ownBlock) ∧ some k_ ≠ (.slice Ao19 t674.length co19 : Value).ownBlock) ∧ some k_ ≠ (.slice Ao32 t695.length co32 : Value).ownBlock) ∧ some k_ ≠ (.slice Ao33 t698.length co33 : Value).ownBlock) ∧ some k_ ≠ (.slice Ao40 t707.length co40 : Value).ownBlock) ∧ some k_ ≠ (.slice Ao41 t710.length co41 : Value).ownBlock)) (n := t682.length) (c := co24) ?_).2.2; exact (by (with_reducible repeat (first | apply Kd.R_alloc | apply Kd.R_drewN | apply Kd.R_drew)); exact (Kd.R_mono (Kd.R_far (p := ⟨gb717, 6, none⟩) (Kd.R_far (p := ⟨gb717, 5, none⟩) (Kd.R_far (p := ⟨gb717, 4, none⟩) (Kd.R_far (p := ⟨gb717, 3, none⟩) (Kd.R_far (p := ⟨gb717, 2, none⟩) (Kd.R_far (p := ⟨gb717, 1, none⟩) (Kd.R_far (p := ⟨gb717, 0, none⟩) (Kd.R_types HO684.out BK717.out (by decide)) (fun _ hk => hk.2) (.bool t705)) (fun _ hk => hk.2) (.bool t706)) (fun _ hk => hk.2) (.slice Ao40 t707.length co40)) (fun _ hk => hk.2) (.slice Ao41 t710.length co41)) (fun _ hk => hk.2) (.int .i64 t713)) (fun _ hk => hk.2) (.int .i64 t714)) (fun _ hk => hk.2) (.int .i64 t715)) (fun _ h_ => h_.1)))); (case side6 => exact (Kd.R_reads' HO684.out).2.1); (case side7 => refine (Kd.R_reads' (e := 3) (base := w.heap.size) (ok := fun k_ => ((((((some k_ ≠ (.slice Ao24 t682.length co24 : Value).ownBlock ∧ some k_ ≠ (.slice Ao18 t671.length co18 : Value).ownBlock) ∧ some k_ ≠ (.slice Ao19 t674.length co19 : Value).ownBlock) ∧ some k_ ≠ (.slice Ao32 t695.length co32 : Value).ownBlock) ∧ some k_ ≠ (.slice Ao33 t698.length co33 : Value).ownBlock) ∧ some k_ ≠ (.slice Ao40 t707.length co40 : Value).ownBlock) ∧ some k_ ≠ (.slice Ao41 t710.length co41 : Value).ownBlock)) (n := t685.length) (c := co25) ?_).2.2; exact (by (with_reducible repeat (first | apply Kd.R_alloc | apply Kd.R_drewN | apply Kd.R_drew)); exact (Kd.R_mono (Kd.R_far (p := ⟨gb717, 6, none⟩) (Kd.R_far (p := ⟨gb717, 5, none⟩) (Kd.R_far (p := ⟨gb717, 4, none⟩) (Kd.R_far (p := ⟨gb717, 3, none⟩) (Kd.R_far (p := ⟨gb717, 2, none⟩) (Kd.R_far (p := ⟨gb717, 1, none⟩) (Kd.R_far (p := ⟨gb717, 0, none⟩) (Kd.R_types HO687.out BK717.out (by decide)) (fun _ hk => hk.2) (.bool t705)) (fun _ hk => hk.2) (.bool t706)) (fun _ hk => hk.2) (.slice Ao40 t707.length co40)) (fun _ hk => hk.2) (.slice Ao41 t710.length co41)) (fun _ hk => hk.2) (.int .i64 t713)) (fun _ hk => hk.2) (.int .i64 t714)) (fun _ hk => hk.2) (.int .i64 t715)) (fun _ h_ => h_.1)))); (case side8 => exact (Kd.R_reads' HO687.out).2.1); rintro e w51 ⟨rfl, hb⟩; refine ⟨_, rfl, ?_⟩; have n0_ := Aside0.mk (Kd.R_below (by (with_reducible repeat (first | apply Kd.R_alloc | apply Kd.R_drewN | apply Kd.R_drew)); exact (Kd.R_mono (Kd.R_far (p := ⟨gb717, 6, none⟩) (Kd.R_far (p := ⟨gb717, 5, none⟩) (Kd.R_far (p := ⟨gb717, 4, none⟩) (Kd.R_far (p := ⟨gb717, 3, none⟩) (Kd.R_far (p := ⟨gb717, 2, none⟩) (Kd.R_far (p := ⟨gb717, 1, none⟩) (Kd.R_far (p := ⟨gb717, 0, none⟩) (Kd.R_types HO673.out BK717.out (by decide)) (fun _ hk => hk.2) (.bool t705)) (fun _ hk => hk.2) (.bool t706)) (fun _ hk => hk.2) (.slice Ao40 t707.length co40)) (fun _ hk => hk.2) (.slice Ao41 t710.length co41)) (fun _ hk => hk.2) (.int .i64 t713)) (fun _ hk => hk.2) (.int .i64 t714)) (fun _ hk => hk.2) (.int .i64 t715)) (fun _ h_ => h_.1))) hb); have n1_ := Aside0.mk (Kd.R_below (by (with_reducible repeat (first | apply Kd.R_alloc | apply Kd.R_drewN | apply Kd.R_drew)); exact (Kd.R_mono (Kd.R_far (p := ⟨gb717, 6, none⟩) (Kd.R_far (p := ⟨gb717, 5, none⟩) (Kd.R_far (p := ⟨gb717, 4, none⟩) (Kd.R_far (p := ⟨gb717, 3, none⟩) (Kd.R_far (p := ⟨gb717, 2, none⟩) (Kd.R_far (p := ⟨gb717, 1, none⟩) (Kd.R_far (p := ⟨gb717, 0, none⟩) (Kd.R_types HO676.out BK717.out (by decide)) (fun _ hk => hk.2) (.bool t705)) (fun _ hk => hk.2) (.bool t706)) (fun _ hk => hk.2) (.slice Ao40 t707.length co40)) (fun _ hk => hk.2) (.slice Ao41 t710.length co41)) (fun _ hk => hk.2) (.int .i64 t713)) (fun _ hk => hk.2) (.int .i64 t714)) (fun _ hk => hk.2) (.int .i64 t715)) (fun _ h_ => h_.1))) hb); have n2_ := Aside0.mk (Kd.R_below (by (with_reducible repeat (first | apply Kd.R_alloc | apply Kd.R_drewN | apply Kd.R_drew)); exact (Kd.R_mono (Kd.R_far (p := ⟨gb717, 6, none⟩) (Kd.R_far (p := ⟨gb717, 5, none⟩) (Kd.R_far (p := ⟨gb717, 4, none⟩) (Kd.R_far (p := ⟨gb717, 3, none⟩) (Kd.R_far (p := ⟨gb717, 2, none⟩) (Kd.R_far (p := ⟨gb717, 1, none⟩) (Kd.R_far (p := ⟨gb717, 0, none⟩) (Kd.R_types HO684.out BK717.out (by decide)) (fun _ hk => hk.2) (.bool t705)) (fun _ hk => hk.2) (.bool t706)) (fun _ hk => hk.2) (.slice Ao40 t707.length co40)) (fun _ hk => hk.2) (.slice Ao41 t710.length co41)) (fun _ hk => hk.2) (.int .i64 t713)) (fun _ hk => hk.2) (.int .i64 t714)) (fun _ hk => hk.2) (.int .i64 t715)) (fun _ h_ => h_.1))) hb); have n3_ := Aside0.mk (Kd.R_below (by (with_reducible repeat (first | apply Kd.R_alloc | apply Kd.R_drewN | apply Kd.R_drew)); exact (Kd.R_mono (Kd.R_far (p := ⟨gb717, 6, none⟩) (Kd.R_far (p := ⟨gb717, 5, none⟩) (Kd.R_far (p := ⟨gb717, 4, none⟩) (Kd.R_far (p := ⟨gb717, 3, none⟩) (Kd.R_far (p := ⟨gb717, 2, none⟩) (Kd.R_far (p := ⟨gb717, 1, none⟩) (Kd.R_far (p := ⟨gb717, 0, none⟩) (Kd.R_types HO687.out BK717.out (by decide)) (fun _ hk => hk.2) (.bool t705)) (fun _ hk => hk.2) (.bool t706)) (fun _ hk => hk.2) (.slice Ao40 t707.length co40)) (fun _ hk => hk.2) (.slice Ao41 t710.length co41)) (fun _ hk => hk.2) (.int .i64 t713)) (fun _ hk => hk.2) (.int .i64 t714)) (fun _ hk => hk.2) (.int .i64 t715)) (fun _ h_ => h_.1))) hb); have n4_ := Aside0.mk (Kd.R_below (by (with_reducible repeat (first | apply Kd.R_alloc | apply Kd.R_drewN | apply Kd.R_drew)); exact (Kd.R_mono (Kd.R_far (p := ⟨gb717, 6, none⟩) (Kd.R_far (p := ⟨gb717, 5, none⟩) (Kd.R_far (p := ⟨gb717, 4, none⟩) (Kd.R_far (p := ⟨gb717, 3, none⟩) (Kd.R_far (p := ⟨gb717, 2, none⟩) (Kd.R_far (p := ⟨gb717, 1, none⟩) (Kd.R_far (p := ⟨gb717, 0, none⟩) (Kd.R_types HO697.out BK717.out (by decide)) (fun _ hk => hk.2) (.bool t705)) (fun _ hk => hk.2) (.bool t706)) (fun _ hk => hk.2) (.slice Ao40 t707.length co40)) (fun _ hk => hk.2) (.slice Ao41 t710.length co41)) (fun _ hk => hk.2) (.int .i64 t713)) (fun _ hk => hk.2) (.int .i64 t714)) (fun _ hk => hk.2) (.int .i64 t715)) (fun _ h_ => h_.1))) hb); have n5_ := Aside0.mk (Kd.R_below (by (with_reducible repeat (first | apply Kd.R_alloc | apply Kd.R_drewN | apply Kd.R_drew)); exact (Kd.R_mono (Kd.R_far (p := ⟨gb717, 6, none⟩) (Kd.R_far (p := ⟨gb717, 5, none⟩) (Kd.R_far (p := ⟨gb717, 4, none⟩) (Kd.R_far (p := ⟨gb717, 3, none⟩) (Kd.R_far (p := ⟨gb717, 2, none⟩) (Kd.R_far (p := ⟨gb717, 1, none⟩) (Kd.R_far (p := ⟨gb717, 0, none⟩) (Kd.R_types HO700.out BK717.out (by decide)) (fun _ hk => hk.2) (.bool t705)) (fun _ hk => hk.2) (.bool t706)) (fun _ hk => hk.2) (.slice Ao40 t707.length co40)) (fun _ hk => hk.2) (.slice Ao41 t710.length co41)) (fun _ hk => hk.2) (.int .i64 t713)) (fun _ hk => hk.2) (.int .i64 t714)) (fun _ hk => hk.2) (.int .i64 t715)) (fun _ h_ => h_.1))) hb); have n6_ := Aside0.mk (Kd.R_below (by (with_reducible repeat (first | apply Kd.R_alloc | apply Kd.R_drewN | apply Kd.R_drew)); exact (Kd.R_mono (Kd.R_far (p := ⟨gb717, 6, none⟩) (Kd.R_far (p := ⟨gb717, 5, none⟩) (Kd.R_far (p := ⟨gb717, 4, none⟩) (Kd.R_far (p := ⟨gb717, 3, none⟩) (Kd.R_far (p := ⟨gb717, 2, none⟩) (Kd.R_far (p := ⟨gb717, 1, none⟩) (Kd.R_far (p := ⟨gb717, 0, none⟩) (Kd.R_types HO709.out BK717.out (by decide)) (fun _ hk => hk.2) (.bool t705)) (fun _ hk => hk.2) (.bool t706)) (fun _ hk => hk.2) (.slice Ao40 t707.length co40)) (fun _ hk => hk.2) (.slice Ao41 t710.length co41)) (fun _ hk => hk.2) (.int .i64 t713)) (fun _ hk => hk.2) (.int .i64 t714)) (fun _ hk => hk.2) (.int .i64 t715)) (fun _ h_ => h_.1))) hb); have n7_ := Aside0.mk (Kd.R_below (by (with_reducible repeat (first | apply Kd.R_alloc | apply Kd.R_drewN | apply Kd.R_drew)); exact (Kd.R_mono (Kd.R_far (p := ⟨gb717, 6, none⟩) (Kd.R_far (p := ⟨gb717, 5, none⟩) (Kd.R_far (p := ⟨gb717, 4, none⟩) (Kd.R_far (p := ⟨gb717, 3, none⟩) (Kd.R_far (p := ⟨gb717, 2, none⟩) (Kd.R_far (p := ⟨gb717, 1, none⟩) (Kd.R_far (p := ⟨gb717, 0, none⟩) (Kd.R_types HO712.out BK717.out (by decide)) (fun _ hk => hk.2) (.bool t705)) (fun _ hk => hk.2) (.bool t706)) (fun _ hk => hk.2) (.slice Ao40 t707.length co40)) (fun _ hk => hk.2) (.slice Ao41 t710.length co41)) (fun _ hk => hk.2) (.int .i64 t713)) (fun _ hk => hk.2) (.int .i64 t714)) (fun _ hk => hk.2) (.int .i64 t715)) (fun _ h_ => h_.1))) hb); have n8_ := Aside0.mk (blk_below (g := gb667) (o := .cells #[.bool a0_0, .bool a0_1, .slice A0_2 l0_2.length c0_2, .slice A0_3 l0_3.length c0_3, .int .i64 a0_4, .int .i64 a0_5, .int .i64 a0_6] 24 (0, 0)) (by (with_reducible repeat (first | refine blk_drewN ?_ _ | refine blk_drew ?_ | refine blk_alloc ?_ _)); refine blk_far ?_ NB667_717.out _; (with_reducible repeat (first | refine blk_drewN ?_ _ | refine blk_drew ?_ | refine blk_alloc ?_ _)); refine blk_far ?_ NB667_717.out _; (with_reducible repeat (first | refine blk_drewN ?_ _ | refine blk_drew ?_ | refine blk_alloc ?_ _)); refine blk_far ?_ NB667_717.out _; (with_reducible repeat (first | refine blk_drewN ?_ _ | refine blk_drew ?_ | refine blk_alloc ?_ _)); refine blk_far ?_ NB667_717.out _; (with_reducible repeat (first | refine blk_drewN ?_ _ | refine blk_drew ?_ | refine blk_alloc ?_ _)); refine blk_far ?_ NB667_717.out _; (with_reducible repeat (first | refine blk_drewN ?_ _ | refine blk_drew ?_ | refine blk_alloc ?_ _)); refine blk_far ?_ NB667_717.out _; (with_reducible repeat (first | refine blk_drewN ?_ _ | refine blk_drew ?_ | refine blk_alloc ?_ _)); refine blk_far ?_ NB667_717.out _; (with_reducible repeat (first | refine blk_drewN ?_ _ | refine blk_drew ?_ | refine blk_alloc ?_ _)); exact BK667.out) hb); have n9_ := Aside0.mk (blk_below (g := gb692) (o := .cells #[.bool t680, .bool t681, .slice Ao24 t682.length co24, .slice Ao25 t685.length co25, .int .i64 t688, .int .i64 t689, .int .i64 t690] 27 (0, 0)) (by (with_reducible repeat (first | refine blk_drewN ?_ _ | refine blk_drew ?_ | refine blk_alloc ?_ _)); refine blk_far ?_ NB692_717.out _; (with_reducible repeat (first | refine blk_drewN ?_ _ | refine blk_drew ?_ | refine blk_alloc ?_ _)); refine blk_far ?_ NB692_717.out _; (with_reducible repeat (first | refine blk_drewN ?_ _ | refine blk_drew ?_ | refine blk_alloc ?_ _)); refine blk_far ?_ NB692_717.out _; (with_reducible repeat (first | refine blk_drewN ?_ _ | refine blk_drew ?_ | refine blk_alloc ?_ _)); refine blk_far ?_ NB692_717.out _; (with_reducible repeat (first | refine blk_drewN ?_ _ | refine blk_drew ?_ | refine blk_alloc ?_ _)); refine blk_far ?_ NB692_717.out _; (with_reducible repeat (first | refine blk_drewN ?_ _ | refine blk_drew ?_ | refine blk_alloc ?_ _)); refine blk_far ?_ NB692_717.out _; (with_reducible repeat (first | refine blk_drewN ?_ _ | refine blk_drew ?_ | refine blk_alloc ?_ _)); refine blk_far ?_ NB692_717.out _; (with_reducible repeat (first | refine blk_drewN ?_ _ | refine blk_drew ?_ | refine blk_alloc ?_ _)); exact BK692.out) hb); have n10_ := Aside0.mk (blk_below (g := gb704) (o := .cells #[.bool t693, .bool t694, .slice Ao32 t695.length co32, .slice Ao33 t698.length co33, .int .i64 t701, .int .i64 t702, .int .i64 t703] 27 (0, 0)) (by (with_reducible repeat (first | refine blk_drewN ?_ _ | refine blk_drew ?_ | refine blk_alloc ?_ _)); refine blk_far ?_ NB704_717.out _; (with_reducible repeat (first | refine blk_drewN ?_ _ | refine blk_drew ?_ | refine blk_alloc ?_ _)); refine blk_far ?_ NB704_717.out _; (with_reducible repeat (first | refine blk_drewN ?_ _ | refine blk_drew ?_ | refine blk_alloc ?_ _)); refine blk_far ?_ NB704_717.out _; (with_reducible repeat (first | refine blk_drewN ?_ _ | refine blk_drew ?_ | refine blk_alloc ?_ _)); refine blk_far ?_ NB704_717.out _; (with_reducible repeat (first | refine blk_drewN ?_ _ | refine blk_drew ?_ | refine blk_alloc ?_ _)); refine blk_far ?_ NB704_717.out _; (with_reducible repeat (first | refine blk_drewN ?_ _ | refine blk_drew ?_ | refine blk_alloc ?_ _)); refine blk_far ?_ NB704_717.out _; (with_reducible repeat (first | refine blk_drewN ?_ _ | refine blk_drew ?_ | refine blk_alloc ?_ _)); refine blk_far ?_ NB704_717.out _; (with_reducible repeat (first | refine blk_drewN ?_ _ | refine blk_drew ?_ | refine blk_alloc ?_ _)); exact BK704.out) hb); have n11_ := Aside0.mk (blk_below (g := gb717) (o := .cells #[.bool t705, .bool t706, .slice Ao40 t707.length co40, .slice Ao41 t710.length co41, .int .i64 t713, .int .i64 t714, .int .i64 t715] 27 (0, 0)) (by (with_reducible repeat (first | refine blk_drewN ?_ _ | refine blk_drew ?_ | refine blk_alloc ?_ _)); refine blk_put (cs := #[.bool t705, .bool t706, .slice Ao40 t707.length co40, .slice Ao41 t710.length co41, .int .i64 t713, .int .i64 t714, .int .i64 0]) ?_ 6 _ rfl; (with_reducible repeat (first | refine blk_drewN ?_ _ | refine blk_drew ?_ | refine blk_alloc ?_ _)); refine blk_put (cs := #[.bool t705, .bool t706, .slice Ao40 t707.length co40, .slice Ao41 t710.length co41, .int .i64 t713, .int .i64 0, .int .i64 0]) ?_ 5 _ rfl; (with_reducible repeat (first | refine blk_drewN ?_ _ | refine blk_drew ?_ | refine blk_alloc ?_ _)); refine blk_put (cs := #[.bool t705, .bool t706, .slice Ao40 t707.length co40, .slice Ao41 t710.length co41, .int .i64 0, .int .i64 0, .int .i64 0]) ?_ 4 _ rfl; (with_reducible repeat (first | refine blk_drewN ?_ _ | refine blk_drew ?_ | refine blk_alloc ?_ _)); refine blk_put (cs := #[.bool t705, .bool t706, .slice Ao40 t707.length co40, .slice none 0 0, .int .i64 0, .int .i64 0, .int .i64 0]) ?_ 3 _ rfl; (with_reducible repeat (first | refine blk_drewN ?_ _ | refine blk_drew ?_ | refine blk_alloc ?_ _)); refine blk_put (cs := #[.bool t705, .bool t706, .slice none 0 0, .slice none 0 0, .int .i64 0, .int .i64 0, .int .i64 0]) ?_ 2 _ rfl; (with_reducible repeat (first | refine blk_drewN ?_ _ | refine blk_drew ?_ | refine blk_alloc ?_ _)); refine blk_put (cs := #[.bool t705, .bool false, .slice none 0 0, .slice none 0 0, .int .i64 0, .int .i64 0, .int .i64 0]) ?_ 1 _ rfl; (with_reducible repeat (first | refine blk_drewN ?_ _ | refine blk_drew ?_ | refine blk_alloc ?_ _)); refine blk_put (cs := #[.bool false, .bool false, .slice none 0 0, .slice none 0 0, .int .i64 0, .int .i64 0, .int .i64 0]) ?_ 0 _ rfl; (with_reducible repeat (first | refine blk_drewN ?_ _ | refine blk_drew ?_ | refine blk_alloc ?_ _)); exact BK717.out) hb); have n12_ := Aside0.mk (below_step (by repeat (first | (with_reducible first | exact HB.out | apply below_alloc | apply pw_below_drewN | apply below_drew1 | refine below_set ?_ GE667.out | refine below_set ?_ GE692.out | refine below_set ?_ GE704.out | refine below_set ?_ GE717.out) | exact HB.out)) hb); clear HO673 HO676 HO684 HO687 HO697 HO700 HO709 HO712 BK667 BK692 BK704 BK717 HB; have HO673 := n0_; have HO676 := n1_; have HO684 := n2_; have HO687 := n3_; have HO697 := n4_; have HO700 := n5_; have HO709 := n6_; have HO712 := n7_; have BK667 := n8_; have BK692 := n9_; have BK704 := n10_; have BK717 := n11_; have HB := n12_; clear n0_ n1_ n2_ n3_ n4_ n5_ n6_ n7_ n8_ n9_ n10_ n11_ n12_; (try clear hb); (try clear hb2); (try clear hk); (try clear hi)))
        go_meet
        case rel => exact ⟨_, ((t716 != t691)), (by first | rfl | (simp; done) | (simp [*]; done)), H', ⟨by first | omega | exact Nat.le_refl _⟩, ⟨by (with_reducible repeat (first | apply Kd.R_alloc | apply Kd.R_drewN | apply Kd.R_drew)); exact Kd.R_mono HO684.out (fun _ hk => ⟨hk.1.1.1.1.1.1, ⟨hk.1.1.1.2, ⟨hk.1.1.2, ⟨hk.1.2, hk.2⟩⟩⟩⟩)⟩, ⟨by (with_reducible repeat (first | apply Kd.R_alloc | apply Kd.R_drewN | apply Kd.R_drew)); exact Kd.R_mono HO687.out (fun _ hk => ⟨hk.1.1.1.1.1.1, ⟨hk.1.1.1.2, ⟨hk.1.1.2, ⟨hk.1.2, hk.2⟩⟩⟩⟩)⟩, ⟨by (with_reducible repeat (first | apply Kd.R_alloc | apply Kd.R_drewN | apply Kd.R_drew)); exact Kd.R_mono HO697.out (fun _ hk => ⟨hk.1.1.1.2, ⟨hk.1.1.2, ⟨hk.1.1.1.1.1.1, ⟨hk.1.2, hk.2⟩⟩⟩⟩)⟩, ⟨by (with_reducible repeat (first | apply Kd.R_alloc | apply Kd.R_drewN | apply Kd.R_drew)); exact Kd.R_mono HO700.out (fun _ hk => ⟨hk.1.1.1.2, ⟨hk.1.1.2, ⟨hk.1.1.1.1.1.1, ⟨hk.1.2, hk.2⟩⟩⟩⟩)⟩, ⟨by (with_reducible repeat (first | apply Kd.R_alloc | apply Kd.R_drewN | apply Kd.R_drew)); exact Kd.R_mono HO709.out (fun _ hk => ⟨hk.1.1.1.2, ⟨hk.1.1.2, ⟨hk.1.2, ⟨hk.2, hk.1.1.1.1.1.1⟩⟩⟩⟩)⟩, ⟨by (with_reducible repeat (first | apply Kd.R_alloc | apply Kd.R_drewN | apply Kd.R_drew)); exact Kd.R_mono HO712.out (fun _ hk => ⟨hk.1.1.1.2, ⟨hk.1.1.2, ⟨hk.1.2, ⟨hk.2, hk.1.1.1.1.1.1⟩⟩⟩⟩)⟩, ⟨pkK BK667.out⟩, ⟨pkK BK692.out⟩, ⟨pkK BK704.out⟩, ⟨pkK BK717.out⟩, ⟨by repeat (first | (with_reducible first | exact HB.out | apply below_alloc | apply pw_below_drewN | apply below_drew1 | refine below_set ?_ GE667.out | refine below_set ?_ GE692.out | refine below_set ?_ GE704.out | refine below_set ?_ GE717.out) | exact HB.out)⟩⟩
      · replace c43 := Bool.eq_false_iff.mpr c43
        subst c43
        have H1 : (laws_FnExactGoOn.j0 k a1 t691 t716 true a0_0 a0_1 l0_2 l0_3 a0_4 a0_5 a0_6 t680 t681 t682 t685 t688 t689 t690 t693 t694 t695 t698 t701 t702 t703 t705 t706 t707 t710 t713 t714 t715) = some r := by rw [if_neg (show ¬ (false = true) by decide)] at H; exact H
        clear H
        have H := H1
        clear H1
        cases k with
        | zero => exact absurd H (by simp [laws_FnExactGoOn.j0])
        | succ k_ => (simp only [laws_FnExactGoOn.j0, if_pos] at H; exact absurd (Option.some.inj H) (by rw [HQ_.out]; simp))
    case rest =>
      clear HC12
      try clear c1
      try clear c2
      try clear p2
      try clear c3
      try clear c4
      try clear c4b0
      try clear c7
      try clear c14
      try clear c16
      try clear c18
      try clear c22
      try clear c29
      try clear c30
      try clear c31
      try clear c36
      try clear c37
      try clear c38
      try clear c43
      try clear c44
      try clear c45
      try clear c46
      try clear c48
      try clear c49
      try clear hcz14_0
      try clear hcz14_1
      try clear hcz14_2
      try clear hcz14_3
      try clear hcz14_4
      try clear hcz14_5
      try clear hcz14_6
      try clear hcz16_0
      try clear hcz16_1
      try clear hcz16_2
      try clear hcz16_3
      try clear hcz16_4
      try clear hcz16_5
      try clear hcz16_6
      try clear hcz23_0
      try clear hcz23_1
      try clear hcz23_2
      try clear hcz23_3
      try clear hcz23_4
      try clear hcz23_5
      try clear hcz23_6
      try clear hcz26_0
      try clear hcz26_1
      try clear hcz26_2
      try clear hcz26_3
      try clear hcz26_4
      try clear hcz26_5
      try clear hcz26_6
      try clear hcz31_0
      try clear hcz31_1
      try clear hcz31_2
      try clear hcz31_3
      try clear hcz31_4
      try clear hcz31_5
      try clear hcz31_6
      try clear hcz39_0
      try clear hcz39_1
      try clear hcz39_2
      try clear hcz39_3
      try clear hcz39_4
      try clear hcz39_5
      try clear hcz39_6
      try clear hcz47_0
      try clear hcz47_1
      try clear hcz47_2
      try clear hcz47_3
      try clear hcz47_4
      try clear hcz47_5
      try clear hcz47_6
      try clear hcz50_0
      try clear hcz50_1
      try clear hcz50_2
      try clear hcz50_3
      try clear hcz50_4
      try clear hcz50_5
      try clear hcz50_6
      try clear hcz6_0
      try clear hcz6_1
      try clear hcz6_2
      try clear hcz6_3
      try clear hcz6_4
      try clear hcz6_5
      try clear hcz6_6
      try clear hfz14_0
      try clear hfz14_1
      try clear hfz14_2
      try clear hfz14_3
      try clear hfz14_4
      try clear hfz14_5
      try clear hfz14_6
      try clear hfz16_0
      try clear hfz16_1
      try clear hfz16_2
      try clear hfz16_3
      try clear hfz16_4
      try clear hfz16_5
      try clear hfz16_6
      try clear hfz23_0
      try clear hfz23_1
      try clear hfz23_2
      try clear hfz23_3
      try clear hfz23_4
      try clear hfz23_5
      try clear hfz23_6
      try clear hfz26_0
      try clear hfz26_1
      try clear hfz26_2
      try clear hfz26_3
      try clear hfz26_4
      try clear hfz26_5
      try clear hfz26_6
      try clear hfz31_0
      try clear hfz31_1
      try clear hfz31_2
      try clear hfz31_3
      try clear hfz31_4
      try clear hfz31_5
      try clear hfz31_6
      try clear hfz39_0
      try clear hfz39_1
      try clear hfz39_2
      try clear hfz39_3
      try clear hfz39_4
      try clear hfz39_5
      try clear hfz39_6
      try clear hfz47_0
      try clear hfz47_1
      try clear hfz47_2
      try clear hfz47_3
      try clear hfz47_4
      try clear hfz47_5
      try clear hfz47_6
      try clear hfz50_0
      try clear hfz50_1
      try clear hfz50_2
      try clear hfz50_3
      try clear hfz50_4
      try clear hfz50_5
      try clear hfz50_6
      try clear hfz6_0
      try clear hfz6_1
      try clear hfz6_2
      try clear hfz6_3
      try clear hfz6_4
      try clear hfz6_5
      try clear hfz6_6
      obtain ⟨kq, x44_11, rfl, HA, HJ11, HO_693002, HO_693003, HO_705002, HO_705003, HO_718002, HO_718003, BK667, BK692, BK704, BK717, HB⟩ := hcut
      cases kq with
      | zero => exact absurd HA.out (by simp [laws_FnExactGoOn.j0])
      | succ kj11 =>
        have H := HA.out
        clear HA
        simp only [laws_FnExactGoOn.j0] at H
        by_cases c52 : x44_11 = true
        · subst c52
          have H1 : (some false) = some r := by rw [if_pos rfl] at H; exact H
          clear H
          have H := H1
          clear H1
          exact absurd (Option.some.inj H) (by rw [HQ_.out]; simp)
        · replace c52 := Bool.eq_false_iff.mpr c52
          subst c52
          have H1 : ((laws_toEvent.f kj11 a0_0 a0_1 l0_2 l0_3 a0_4 a0_5 a0_6).bind fun bt719 => ((laws_eqEvent.f kj11 t693 t694 t695 t698 t701 t702 t703 bt719.1 bt719.2.1 bt719.2.2.1 bt719.2.2.2.1 bt719.2.2.2.2.1 bt719.2.2.2.2.2.1 bt719.2.2.2.2.2.2).bind fun t730 => (if t730 = true then ((laws_markEvent.f kj11 t693 t694 t695 t698 t701 t702 t703 1).bind fun bt731 => (if bt731.1 < 0 then (laws_FnExactGoOn.j1 kj11 a1 t691 true a0_0 a0_1 l0_2 l0_3 a0_4 a0_5 a0_6 t680 t681 t682 t685 t688 t689 t690 t705 t706 t707 t710 t713 t714 t715) else ((laws_eqEvent.f kj11 t705 t706 t707 t710 t713 t714 t715 t680 t681 t682 t685 t688 t689 t690).bind fun t734 => (if t734 = true then (laws_FnExactGoOn.j1 kj11 a1 t691 (t716 != t691) a0_0 a0_1 l0_2 l0_3 a0_4 a0_5 a0_6 t680 t681 t682 t685 t688 t689 t690 t705 t706 t707 t710 t713 t714 t715) else (laws_FnExactGoOn.j1 kj11 a1 t691 true a0_0 a0_1 l0_2 l0_3 a0_4 a0_5 a0_6 t680 t681 t682 t685 t688 t689 t690 t705 t706 t707 t710 t713 t714 t715))))) else (some false)))) = some r := by rw [if_neg (show ¬ (false = true) by decide)] at H; exact H
          clear H
          have H := H1
          clear H1
          replace H := Option.bind_eq_some_iff.mp H
          obtain ⟨⟨t719, t720, t721, t724, t727, t728, t729⟩, A530, H⟩ := H
          replace H : ((laws_eqEvent.f kj11 t693 t694 t695 t698 t701 t702 t703 t719 t720 t721 t724 t727 t728 t729).bind fun t730 => (if t730 = true then ((laws_markEvent.f kj11 t693 t694 t695 t698 t701 t702 t703 1).bind fun bt731 => (if bt731.1 < 0 then (laws_FnExactGoOn.j1 kj11 a1 t691 true a0_0 a0_1 l0_2 l0_3 a0_4 a0_5 a0_6 t680 t681 t682 t685 t688 t689 t690 t705 t706 t707 t710 t713 t714 t715) else ((laws_eqEvent.f kj11 t705 t706 t707 t710 t713 t714 t715 t680 t681 t682 t685 t688 t689 t690).bind fun t734 => (if t734 = true then (laws_FnExactGoOn.j1 kj11 a1 t691 (t716 != t691) a0_0 a0_1 l0_2 l0_3 a0_4 a0_5 a0_6 t680 t681 t682 t685 t688 t689 t690 t705 t706 t707 t710 t713 t714 t715) else (laws_FnExactGoOn.j1 kj11 a1 t691 true a0_0 a0_1 l0_2 l0_3 a0_4 a0_5 a0_6 t680 t681 t682 t685 t688 t689 t690 t705 t706 t707 t710 t713 t714 t715))))) else (some false))) = some r := H
          have A53 := Aside0.mk A530
          clear A530
          replace H := Option.bind_eq_some_iff.mp H
          obtain ⟨t730, A540, H⟩ := H
          replace H : (if t730 = true then ((laws_markEvent.f kj11 t693 t694 t695 t698 t701 t702 t703 1).bind fun bt731 => (if bt731.1 < 0 then (laws_FnExactGoOn.j1 kj11 a1 t691 true a0_0 a0_1 l0_2 l0_3 a0_4 a0_5 a0_6 t680 t681 t682 t685 t688 t689 t690 t705 t706 t707 t710 t713 t714 t715) else ((laws_eqEvent.f kj11 t705 t706 t707 t710 t713 t714 t715 t680 t681 t682 t685 t688 t689 t690).bind fun t734 => (if t734 = true then (laws_FnExactGoOn.j1 kj11 a1 t691 (t716 != t691) a0_0 a0_1 l0_2 l0_3 a0_4 a0_5 a0_6 t680 t681 t682 t685 t688 t689 t690 t705 t706 t707 t710 t713 t714 t715) else (laws_FnExactGoOn.j1 kj11 a1 t691 true a0_0 a0_1 l0_2 l0_3 a0_4 a0_5 a0_6 t680 t681 t682 t685 t688 t689 t690 t705 t706 t707 t710 t713 t714 t715))))) else (some false)) = some r := H
          have A54 := Aside0.mk A540
          clear A540
          by_cases c55 : t730 = true
          · subst c55
            have H1 : ((laws_markEvent.f kj11 t693 t694 t695 t698 t701 t702 t703 1).bind fun bt731 => (if bt731.1 < 0 then (laws_FnExactGoOn.j1 kj11 a1 t691 true a0_0 a0_1 l0_2 l0_3 a0_4 a0_5 a0_6 t680 t681 t682 t685 t688 t689 t690 t705 t706 t707 t710 t713 t714 t715) else ((laws_eqEvent.f kj11 t705 t706 t707 t710 t713 t714 t715 t680 t681 t682 t685 t688 t689 t690).bind fun t734 => (if t734 = true then (laws_FnExactGoOn.j1 kj11 a1 t691 (t716 != t691) a0_0 a0_1 l0_2 l0_3 a0_4 a0_5 a0_6 t680 t681 t682 t685 t688 t689 t690 t705 t706 t707 t710 t713 t714 t715) else (laws_FnExactGoOn.j1 kj11 a1 t691 true a0_0 a0_1 l0_2 l0_3 a0_4 a0_5 a0_6 t680 t681 t682 t685 t688 t689 t690 t705 t706 t707 t710 t713 t714 t715))))) = some r := by rw [if_pos rfl] at H; exact H
            clear H
            have H := H1
            clear H1
            replace H := Option.bind_eq_some_iff.mp H
            obtain ⟨⟨t731, t732, t733⟩, A560, H⟩ := H
            replace H : (if t731 < 0 then (laws_FnExactGoOn.j1 kj11 a1 t691 true a0_0 a0_1 l0_2 l0_3 a0_4 a0_5 a0_6 t680 t681 t682 t685 t688 t689 t690 t705 t706 t707 t710 t713 t714 t715) else ((laws_eqEvent.f kj11 t705 t706 t707 t710 t713 t714 t715 t680 t681 t682 t685 t688 t689 t690).bind fun t734 => (if t734 = true then (laws_FnExactGoOn.j1 kj11 a1 t691 (t716 != t691) a0_0 a0_1 l0_2 l0_3 a0_4 a0_5 a0_6 t680 t681 t682 t685 t688 t689 t690 t705 t706 t707 t710 t713 t714 t715) else (laws_FnExactGoOn.j1 kj11 a1 t691 true a0_0 a0_1 l0_2 l0_3 a0_4 a0_5 a0_6 t680 t681 t682 t685 t688 t689 t690 t705 t706 t707 t710 t713 t714 t715)))) = some r := H
            have A56 := Aside0.mk A560
            clear A560
            have HC57 := Aside0.mk H
            clear H
            try go_wp2
            have n0_ := Aside0.mk (Kd.R_drew HO_693002.out)
            have n1_ := Aside0.mk (Kd.R_drew HO_693003.out)
            have n2_ := Aside0.mk (Kd.R_drew HO_705002.out)
            have n3_ := Aside0.mk (Kd.R_drew HO_705003.out)
            have n4_ := Aside0.mk (Kd.R_drew HO_718002.out)
            have n5_ := Aside0.mk (Kd.R_drew HO_718003.out)
            have n6_ := Aside0.mk (blk_drew BK667.out)
            have n7_ := Aside0.mk (blk_drew BK692.out)
            have n8_ := Aside0.mk (blk_drew BK704.out)
            have n9_ := Aside0.mk (blk_drew BK717.out)
            have n10_ := Aside0.mk (below_drew1 HB.out)
            clear HO_693002 HO_693003 HO_705002 HO_705003 HO_718002 HO_718003 BK667 BK692 BK704 BK717 HB
            have HO_693002 := n0_; have HO_693003 := n1_; have HO_705002 := n2_; have HO_705003 := n3_; have HO_718002 := n4_; have HO_718003 := n5_; have BK667 := n6_; have BK692 := n7_; have BK704 := n8_; have BK717 := n9_; have HB := n10_
            clear n0_ n1_ n2_ n3_ n4_ n5_ n6_ n7_ n8_ n9_ n10_
            refine start_ (n := 5) (S := fun w' => w'.cell? ⟨gb704, 0, none⟩ = some (.bool t693) ∧ w'.cell? ⟨gb704, 1, none⟩ = some (.bool t694) ∧ w'.cell? ⟨gb704, 2, none⟩ = some (.slice Ao32 t695.length co32) ∧ w'.cell? ⟨gb704, 3, none⟩ = some (.slice Ao33 t698.length co33) ∧ w'.cell? ⟨gb704, 4, none⟩ = some (.int .i64 t701) ∧ w'.cell? ⟨gb704, 5, none⟩ = some (.int .i64 t702) ∧ w'.cell? ⟨gb704, 6, none⟩ = some (.int .i64 t703) ∧ w'.cell? ⟨gb667, 0, none⟩ = some (.bool a0_0) ∧ w'.cell? ⟨gb667, 1, none⟩ = some (.bool a0_1) ∧ w'.cell? ⟨gb667, 2, none⟩ = some (.slice A0_2 l0_2.length c0_2) ∧ w'.cell? ⟨gb667, 3, none⟩ = some (.slice A0_3 l0_3.length c0_3) ∧ w'.cell? ⟨gb667, 4, none⟩ = some (.int .i64 a0_4) ∧ w'.cell? ⟨gb667, 5, none⟩ = some (.int .i64 a0_5) ∧ w'.cell? ⟨gb667, 6, none⟩ = some (.int .i64 a0_6)) (ds := []) #[false, false, false, false, false] (by kernel_rfl) rfl rfl ⟨(blk_cell BK704.out 0).trans rfl, (blk_cell BK704.out 1).trans rfl, (blk_cell BK704.out 2).trans rfl, (blk_cell BK704.out 3).trans rfl, (blk_cell BK704.out 4).trans rfl, (blk_cell BK704.out 5).trans rfl, (blk_cell BK704.out 6).trans rfl, (blk_cell BK667.out 0).trans rfl, (blk_cell BK667.out 1).trans rfl, (blk_cell BK667.out 2).trans rfl, (blk_cell BK667.out 3).trans rfl, (blk_cell BK667.out 4).trans rfl, (blk_cell BK667.out 5).trans rfl, (blk_cell BK667.out 6).trans rfl⟩ (fun hHeld => ?_)
            generalize wc.drew = w58 at HO_693002 HO_693003 HO_705002 HO_705003 HO_718002 HO_718003 BK667 BK692 BK704 BK717 HB hHeld ⊢
            refine take_ (i := 0) (N := some 45) (v := ?_) (a' := ?_) #[true, false, false, false, false] rfl rfl (by kernel_rfl) (fun _ _ _ h => h) (Or.inl ⟨by rfl, ?_⟩) hHeld ?_ ?_
            rotate_left
            · rintro w' ⟨s0, s1, s2, s3, s4, s5, s6, s7, s8, s9, s10, s11, s12, s13⟩
              go_simp
              with_reducible rfl
            rotate_left
            · simp only [Act.put, List.setIfInBounds_toArray, List.set_cons_zero, List.set_cons_succ, i64_w, i32_w]
              rfl
            refine take_ (i := 1) (N := some 46) (v := ?_) (a' := ?_) #[true, true, false, false, false] rfl rfl (by kernel_rfl) (fun _ _ _ h => h) (Or.inl ⟨by rfl, ?_⟩) hHeld ?_ ?_
            rotate_left
            · rintro w' ⟨s0, s1, s2, s3, s4, s5, s6, s7, s8, s9, s10, s11, s12, s13⟩
              go_simp
              with_reducible rfl
            rotate_left
            · simp only [Act.put, List.setIfInBounds_toArray, List.set_cons_zero, List.set_cons_succ, i64_w, i32_w]
              rfl
            refine one_ (i := 2) (N := some 47) #[true, true, true, false, false] rfl rfl (by kernel_rfl) (by decide) (fun K hK => ?_)
            refine goes_ Try.func16 (by kernel_rfl) rfl #[.agg #[.bool a0_0, .bool a0_1, .slice A0_2 l0_2.length c0_2, .slice A0_3 l0_3.length c0_3, .int .i64 a0_4, .int .i64 a0_5, .int .i64 a0_6]] (by rfl) rfl rfl (by (try simp only [List.map_toArray, List.map_cons, List.map_nil]); first | done | rfl | (simp only [List.length_drop, List.length_take]; rfl) | (go_simp; done) | (simp [*]; done)) ?_
            with_reducible refine (laws_toEvent.calls kj11 a0_0 a0_1 _ _ l0_2 _ _ l0_3 a0_4 a0_5 a0_6 t719 t720 t721 t724 t727 t728 t729 _ ?side1 ?side2 ?side3 ?side4 A53.out).mono ?_
            (case side1 => exact pkC (Kd.C_below HR0_2.out HB.out))
            (case side2 => exact HC0_2.out)
            (case side3 => exact pkC (Kd.C_below HR0_3.out HB.out))
            (case side4 => exact HC0_3.out)
            rintro e w59 ⟨v722, v725, rfl, ho0, ho1, hb⟩
            refine ⟨_, rfl, ?_⟩
            have n0_ := Aside0.mk (Kd.R_mono (Kd.R_told (Kd.R_told (Kd.R_old (pkR HO_693002.out) hb) (Kd.R_base ho0)) (Kd.R_base ho1)) (fun _ h_ => h_.1))
            have n1_ := Aside0.mk (Kd.R_mono (Kd.R_told (Kd.R_told (Kd.R_old (pkR HO_693003.out) hb) (Kd.R_base ho0)) (Kd.R_base ho1)) (fun _ h_ => h_.1))
            have n2_ := Aside0.mk (Kd.R_mono (Kd.R_told (Kd.R_told (Kd.R_old (pkR HO_705002.out) hb) (Kd.R_base ho0)) (Kd.R_base ho1)) (fun _ h_ => h_.1))
            have n3_ := Aside0.mk (Kd.R_mono (Kd.R_told (Kd.R_told (Kd.R_old (pkR HO_705003.out) hb) (Kd.R_base ho0)) (Kd.R_base ho1)) (fun _ h_ => h_.1))
            have n4_ := Aside0.mk (Kd.R_mono (Kd.R_told (Kd.R_told (Kd.R_old (pkR HO_718002.out) hb) (Kd.R_base ho0)) (Kd.R_base ho1)) (fun _ h_ => h_.1))
            have n5_ := Aside0.mk (Kd.R_mono (Kd.R_told (Kd.R_told (Kd.R_old (pkR HO_718003.out) hb) (Kd.R_base ho0)) (Kd.R_base ho1)) (fun _ h_ => h_.1))
            have n6_ := Aside0.mk (Kd.R_lower (Kd.R_new' (Kd.R_new' (Kd.R_new' (Kd.R_new' (Kd.R_new' (Kd.R_new' ho0 (Kd.R_lt (pkR HO_693002.out))) (Kd.R_lt (pkR HO_693003.out))) (Kd.R_lt (pkR HO_705002.out))) (Kd.R_lt (pkR HO_705003.out))) (Kd.R_lt (pkR HO_718002.out))) (Kd.R_lt (pkR HO_718003.out))) (below_size (by repeat (first | (with_reducible first | exact HB.out | apply below_alloc | apply pw_below_drewN | apply below_drew1 | refine below_set ?_ GE667.out | refine below_set ?_ GE692.out | refine below_set ?_ GE704.out | refine below_set ?_ GE717.out) | exact HB.out))))
            have n7_ := Aside0.mk (Kd.R_lower (Kd.R_new' (Kd.R_new' (Kd.R_new' (Kd.R_new' (Kd.R_new' (Kd.R_new' ho1 (Kd.R_lt (pkR HO_693002.out))) (Kd.R_lt (pkR HO_693003.out))) (Kd.R_lt (pkR HO_705002.out))) (Kd.R_lt (pkR HO_705003.out))) (Kd.R_lt (pkR HO_718002.out))) (Kd.R_lt (pkR HO_718003.out))) (below_size (by repeat (first | (with_reducible first | exact HB.out | apply below_alloc | apply pw_below_drewN | apply below_drew1 | refine below_set ?_ GE667.out | refine below_set ?_ GE692.out | refine below_set ?_ GE704.out | refine below_set ?_ GE717.out) | exact HB.out))))
            have n8_ := Aside0.mk (blk_below (g := gb667) (o := .cells #[.bool a0_0, .bool a0_1, .slice A0_2 l0_2.length c0_2, .slice A0_3 l0_3.length c0_3, .int .i64 a0_4, .int .i64 a0_5, .int .i64 a0_6] 24 (0, 0)) (pkK BK667.out) hb)
            have n9_ := Aside0.mk (blk_below (g := gb692) (o := .cells #[.bool t680, .bool t681, .slice Ao24 t682.length co24, .slice Ao25 t685.length co25, .int .i64 t688, .int .i64 t689, .int .i64 t690] 27 (0, 0)) (pkK BK692.out) hb)
            have n10_ := Aside0.mk (blk_below (g := gb704) (o := .cells #[.bool t693, .bool t694, .slice Ao32 t695.length co32, .slice Ao33 t698.length co33, .int .i64 t701, .int .i64 t702, .int .i64 t703] 27 (0, 0)) (pkK BK704.out) hb)
            have n11_ := Aside0.mk (blk_below (g := gb717) (o := .cells #[.bool t705, .bool t706, .slice Ao40 t707.length co40, .slice Ao41 t710.length co41, .int .i64 t713, .int .i64 t714, .int .i64 t715] 27 (0, 0)) (pkK BK717.out) hb)
            have n12_ := Aside0.mk (below_step (by repeat (first | (with_reducible first | exact HB.out | apply below_alloc | apply pw_below_drewN | apply below_drew1 | refine below_set ?_ GE667.out | refine below_set ?_ GE692.out | refine below_set ?_ GE704.out | refine below_set ?_ GE717.out) | exact HB.out)) hb)
            clear HO_693002 HO_693003 HO_705002 HO_705003 HO_718002 HO_718003 BK667 BK692 BK704 BK717 HB
            have HO_693002 := n0_; have HO_693003 := n1_; have HO_705002 := n2_; have HO_705003 := n3_; have HO_718002 := n4_; have HO_718003 := n5_; have HO723 := n6_; have HO726 := n7_; have BK667 := n8_; have BK692 := n9_; have BK704 := n10_; have BK717 := n11_; have HB := n12_
            clear n0_ n1_ n2_ n3_ n4_ n5_ n6_ n7_ n8_ n9_ n10_ n11_ n12_
            (try clear hb); (try clear hb2); (try clear hk); (try clear hi); (try clear ho0); (try clear ho1)
            obtain ⟨Ao60, co60, eo60⟩ := Kd.R_slice HO723.out
            (first | subst eo60 | (injection eo60 with f1_ f2_ f3_; have f4_ := f1_.symm; have f5_ := f3_.symm; clear f1_ f2_ f3_; subst f4_; subst f5_))
            obtain ⟨Ao61, co61, eo61⟩ := Kd.R_slice HO726.out
            (first | subst eo61 | (injection eo61 with f1_ f2_ f3_; have f4_ := f1_.symm; have f5_ := f3_.symm; clear f1_ f2_ f3_; subst f4_; subst f5_))
            refine hK.out _ _ ⟨(blk_cell BK704.out 0).trans rfl, (blk_cell BK704.out 1).trans rfl, (blk_cell BK704.out 2).trans rfl, (blk_cell BK704.out 3).trans rfl, (blk_cell BK704.out 4).trans rfl, (blk_cell BK704.out 5).trans rfl, (blk_cell BK704.out 6).trans rfl, (blk_cell BK667.out 0).trans rfl, (blk_cell BK667.out 1).trans rfl, (blk_cell BK667.out 2).trans rfl, (blk_cell BK667.out 3).trans rfl, (blk_cell BK667.out 4).trans rfl, (blk_cell BK667.out 5).trans rfl, (blk_cell BK667.out 6).trans rfl⟩ (fun hHeld => ?_)
            clear hK K
            refine norm_ (a' := ?_) ?_ ?_
            rotate_left
            · show Act.put _ (some 47) _ = _
              simp only [Act.put, List.setIfInBounds_toArray, List.set_cons_zero, List.set_cons_succ, i64_w, i32_w]
              rfl
            refine one_ (i := 3) (N := some 48) #[true, true, true, true, false] rfl rfl (by kernel_rfl) (by decide) (fun K hK => ?_)
            refine goes_ Try.func18 (by kernel_rfl) rfl #[.agg #[.bool t693, .bool t694, .slice Ao32 t695.length co32, .slice Ao33 t698.length co33, .int .i64 t701, .int .i64 t702, .int .i64 t703], .agg #[.bool t719, .bool t720, .slice Ao60 t721.length co60, .slice Ao61 t724.length co61, .int .i64 t727, .int .i64 t728, .int .i64 t729]] (by rfl) rfl rfl (by (try simp only [List.map_toArray, List.map_cons, List.map_nil]); first | done | rfl | (simp only [List.length_drop, List.length_take]; rfl) | (go_simp; done) | (simp [*]; done)) ?_
            with_reducible refine (laws_eqEvent.calls kj11 t693 t694 _ _ t695 _ _ t698 t701 t702 t703 t719 t720 _ _ t721 _ _ t724 t727 t728 t729 true _ ?side1 ?side2 ?side3 ?side4 ?side5 ?side6 ?side7 ?side8 A54.out).mono ?_
            (case side1 => exact pkC (Kd.R_reads' HO_705002.out).2.2)
            (case side2 => exact (Kd.R_reads' HO_705002.out).2.1)
            (case side3 => exact pkC (Kd.R_reads' HO_705003.out).2.2)
            (case side4 => exact (Kd.R_reads' HO_705003.out).2.1)
            (case side5 => exact pkC (Kd.R_reads' HO723.out).2.2)
            (case side6 => exact (Kd.R_reads' HO723.out).2.1)
            (case side7 => exact pkC (Kd.R_reads' HO726.out).2.2)
            (case side8 => exact (Kd.R_reads' HO726.out).2.1)
            rintro e w62 ⟨rfl, hb⟩
            refine ⟨_, rfl, ?_⟩
            have n0_ := Aside0.mk (Kd.R_below (pkR HO_693002.out) hb)
            have n1_ := Aside0.mk (Kd.R_below (pkR HO_693003.out) hb)
            have n2_ := Aside0.mk (Kd.R_below (pkR HO_705002.out) hb)
            have n3_ := Aside0.mk (Kd.R_below (pkR HO_705003.out) hb)
            have n4_ := Aside0.mk (Kd.R_below (pkR HO_718002.out) hb)
            have n5_ := Aside0.mk (Kd.R_below (pkR HO_718003.out) hb)
            have n6_ := Aside0.mk (Kd.R_below (pkR HO723.out) hb)
            have n7_ := Aside0.mk (Kd.R_below (pkR HO726.out) hb)
            have n8_ := Aside0.mk (blk_below (g := gb667) (o := .cells #[.bool a0_0, .bool a0_1, .slice A0_2 l0_2.length c0_2, .slice A0_3 l0_3.length c0_3, .int .i64 a0_4, .int .i64 a0_5, .int .i64 a0_6] 24 (0, 0)) (pkK BK667.out) hb)
            have n9_ := Aside0.mk (blk_below (g := gb692) (o := .cells #[.bool t680, .bool t681, .slice Ao24 t682.length co24, .slice Ao25 t685.length co25, .int .i64 t688, .int .i64 t689, .int .i64 t690] 27 (0, 0)) (pkK BK692.out) hb)
            have n10_ := Aside0.mk (blk_below (g := gb704) (o := .cells #[.bool t693, .bool t694, .slice Ao32 t695.length co32, .slice Ao33 t698.length co33, .int .i64 t701, .int .i64 t702, .int .i64 t703] 27 (0, 0)) (pkK BK704.out) hb)
            have n11_ := Aside0.mk (blk_below (g := gb717) (o := .cells #[.bool t705, .bool t706, .slice Ao40 t707.length co40, .slice Ao41 t710.length co41, .int .i64 t713, .int .i64 t714, .int .i64 t715] 27 (0, 0)) (pkK BK717.out) hb)
            have n12_ := Aside0.mk (below_step (by repeat (first | (with_reducible first | exact HB.out | apply below_alloc | apply pw_below_drewN | apply below_drew1 | refine below_set ?_ GE667.out | refine below_set ?_ GE692.out | refine below_set ?_ GE704.out | refine below_set ?_ GE717.out) | exact HB.out)) hb)
            clear HO_693002 HO_693003 HO_705002 HO_705003 HO_718002 HO_718003 HO723 HO726 BK667 BK692 BK704 BK717 HB
            have HO_693002 := n0_; have HO_693003 := n1_; have HO_705002 := n2_; have HO_705003 := n3_; have HO_718002 := n4_; have HO_718003 := n5_; have HO723 := n6_; have HO726 := n7_; have BK667 := n8_; have BK692 := n9_; have BK704 := n10_; have BK717 := n11_; have HB := n12_
            clear n0_ n1_ n2_ n3_ n4_ n5_ n6_ n7_ n8_ n9_ n10_ n11_ n12_
            (try clear hb); (try clear hb2); (try clear hk); (try clear hi)
            refine hK.out _ _ ⟨(blk_cell BK704.out 0).trans rfl, (blk_cell BK704.out 1).trans rfl, (blk_cell BK704.out 2).trans rfl, (blk_cell BK704.out 3).trans rfl, (blk_cell BK704.out 4).trans rfl, (blk_cell BK704.out 5).trans rfl, (blk_cell BK704.out 6).trans rfl, (blk_cell BK667.out 0).trans rfl, (blk_cell BK667.out 1).trans rfl, (blk_cell BK667.out 2).trans rfl, (blk_cell BK667.out 3).trans rfl, (blk_cell BK667.out 4).trans rfl, (blk_cell BK667.out 5).trans rfl, (blk_cell BK667.out 6).trans rfl⟩ (fun hHeld => ?_)
            clear hK K
            refine norm_ (a' := ?_) ?_ ?_
            rotate_left
            · show Act.put _ (some 48) _ = _
              simp only [Act.put, List.setIfInBounds_toArray, List.set_cons_zero, List.set_cons_succ, i64_w, i32_w]
              rfl
            refine pure_ (i := 4) (N := some 49) (v := ?_) (a' := ?_) #[true, true, true, true, true] rfl rfl (by kernel_rfl) (fun _ _ _ h => h) (Or.inl ⟨by rfl, ?_⟩) ?_ ?_
            rotate_left
            · intro w'
              go_simp
              with_reducible rfl
            rotate_left
            · simp only [Act.put, List.setIfInBounds_toArray, List.set_cons_zero, List.set_cons_succ, i64_w, i32_w]
              rfl
            refine done_ (by kernel_rfl) ?_
            have hnb63 := NB704_667.out
            have hnc63 := NB667_704.out
            have hnb64 := NB704_692.out
            have hnc64 := NB692_704.out
            have hnb65 := NB704_717.out
            have hnc65 := NB717_704.out
            have hcz66_0 : w62.cell? ⟨gb704, 0, none⟩ = some (.bool t693) := (blk_cell BK704.out 0).trans rfl
            have hcz66_1 : w62.cell? ⟨gb704, 1, none⟩ = some (.bool t694) := (blk_cell BK704.out 1).trans rfl
            have hcz66_2 : w62.cell? ⟨gb704, 2, none⟩ = some (.slice Ao32 t695.length co32) := (blk_cell BK704.out 2).trans rfl
            have hcz66_3 : w62.cell? ⟨gb704, 3, none⟩ = some (.slice Ao33 t698.length co33) := (blk_cell BK704.out 3).trans rfl
            have hcz66_4 : w62.cell? ⟨gb704, 4, none⟩ = some (.int .i64 t701) := (blk_cell BK704.out 4).trans rfl
            have hcz66_5 : w62.cell? ⟨gb704, 5, none⟩ = some (.int .i64 t702) := (blk_cell BK704.out 5).trans rfl
            have hcz66_6 : w62.cell? ⟨gb704, 6, none⟩ = some (.int .i64 t703) := (blk_cell BK704.out 6).trans rfl
            have hfz66_0 := blk_frozen BK704.out 0
            have hfz66_1 := blk_frozen BK704.out 1
            have hfz66_2 := blk_frozen BK704.out 2
            have hfz66_3 := blk_frozen BK704.out 3
            have hfz66_4 := blk_frozen BK704.out 4
            have hfz66_5 := blk_frozen BK704.out 5
            have hfz66_6 := blk_frozen BK704.out 6
            go_upto_region 14 with (first | ((with_reducible refine gate_callee (f := 26) rfl ?_); refine goesL_ (some 52) rfl rfl Try.func26 (by kernel_rfl) rfl #[.agg #[.bool t693, .bool t694, .slice Ao32 t695.length co32, .slice Ao33 t698.length co33, .int .i64 t701, .int .i64 t702, .int .i64 t703], .int .i64 1] rfl (by (try simp only [List.map_toArray, List.map_cons, List.map_nil]); first | done | rfl | (simp only [List.length_drop, List.length_take]; rfl) | (go_simp; done) | (simp [*]; done)) ?_; (with_reducible refine (laws_markEvent.calls kj11 t693 t694 (fun k_ => some k_ = (.slice Ao32 t695.length co32 : Value).ownBlock) (.slice Ao32 t695.length co32) t695 (fun k_ => some k_ = (.slice Ao33 t698.length co33 : Value).ownBlock) (.slice Ao33 t698.length co33) t698 t701 t702 t703 1 t731 t732 t733 w _ ?side1 ?side2 ?side3 ?side4 ?side5 A56.out).mono ?_); (case side1 => repeat (first | (with_reducible first | exact HB.out | apply below_alloc | apply pw_below_drewN | apply below_drew1 | refine below_set ?_ GE667.out | refine below_set ?_ GE692.out | refine below_set ?_ GE704.out | refine below_set ?_ GE717.out) | exact HB.out)); (case side2 => exact Kd.R_tight rfl HO_705002.out); (case side3 => exact fun k_ e_ => (HO_705002.out.1 k_ e_.symm).1.1.2.2.1); (case side4 => exact Kd.R_tight rfl HO_705003.out); (case side5 => exact fun k_ e_ => (HO_705003.out.1 k_ e_.symm).1.1.2.2.1); rintro e w67 ⟨rfl, hy0, hy1, hb, hkp⟩; refine ⟨_, rfl, ?_⟩; have n0_ := Aside0.mk (Kd.R_mono (ok' := fun k_ => some k_ ≠ (.slice Ao25 t685.length co25 : Value).ownBlock ∧ some k_ ≠ (.slice Ao32 t695.length co32 : Value).ownBlock ∧ some k_ ≠ (.slice Ao33 t698.length co33 : Value).ownBlock ∧ some k_ ≠ (.slice Ao40 t707.length co40 : Value).ownBlock ∧ some k_ ≠ (.slice Ao41 t710.length co41 : Value).ownBlock ∧ some k_ ≠ (.slice Ao60 t721.length co60 : Value).ownBlock ∧ some k_ ≠ (.slice Ao61 t724.length co61 : Value).ownBlock) (Kd.R_keptB (HO_693002.out) hkp (fun k_ hk_ hs_ => Or.elim hs_ (fun e_ => (hk_.1.1.2.1) e_) (fun e_ => (hk_.1.1.2.2.1) e_))) (fun k_ hk_ => ⟨hk_.1.1.1.1, hk_.1.1.1.2.1, hk_.1.1.1.2.2.1, hk_.1.1.1.2.2.2.1, hk_.1.1.1.2.2.2.2, hk_.1.1.2, hk_.1.2⟩)); have n1_ := Aside0.mk (Kd.R_mono (ok' := fun k_ => some k_ ≠ (.slice Ao24 t682.length co24 : Value).ownBlock ∧ some k_ ≠ (.slice Ao32 t695.length co32 : Value).ownBlock ∧ some k_ ≠ (.slice Ao33 t698.length co33 : Value).ownBlock ∧ some k_ ≠ (.slice Ao40 t707.length co40 : Value).ownBlock ∧ some k_ ≠ (.slice Ao41 t710.length co41 : Value).ownBlock ∧ some k_ ≠ (.slice Ao60 t721.length co60 : Value).ownBlock ∧ some k_ ≠ (.slice Ao61 t724.length co61 : Value).ownBlock) (Kd.R_keptB (HO_693003.out) hkp (fun k_ hk_ hs_ => Or.elim hs_ (fun e_ => (hk_.1.1.2.1) e_) (fun e_ => (hk_.1.1.2.2.1) e_))) (fun k_ hk_ => ⟨hk_.1.1.1.1, hk_.1.1.1.2.1, hk_.1.1.1.2.2.1, hk_.1.1.1.2.2.2.1, hk_.1.1.1.2.2.2.2, hk_.1.1.2, hk_.1.2⟩)); have n2_ := Aside0.mk (Kd.R_reok rfl hy0 (fun k_ e_ => HO_705002.out.1 k_ e_)); have n3_ := Aside0.mk (Kd.R_reok rfl hy1 (fun k_ e_ => HO_705003.out.1 k_ e_)); have n4_ := Aside0.mk (Kd.R_mono (ok' := fun k_ => some k_ ≠ (.slice Ao24 t682.length co24 : Value).ownBlock ∧ some k_ ≠ (.slice Ao25 t685.length co25 : Value).ownBlock ∧ some k_ ≠ (.slice Ao32 t695.length co32 : Value).ownBlock ∧ some k_ ≠ (.slice Ao33 t698.length co33 : Value).ownBlock ∧ some k_ ≠ (.slice Ao41 t710.length co41 : Value).ownBlock ∧ some k_ ≠ (.slice Ao60 t721.length co60 : Value).ownBlock ∧ some k_ ≠ (.slice Ao61 t724.length co61 : Value).ownBlock) (Kd.R_keptB (HO_718002.out) hkp (fun k_ hk_ hs_ => Or.elim hs_ (fun e_ => (hk_.1.1.2.2.1) e_) (fun e_ => (hk_.1.1.2.2.2.1) e_))) (fun k_ hk_ => ⟨hk_.1.1.1.1, hk_.1.1.1.2.1, hk_.1.1.1.2.2.1, hk_.1.1.1.2.2.2.1, hk_.1.1.1.2.2.2.2, hk_.1.1.2, hk_.1.2⟩)); have n5_ := Aside0.mk (Kd.R_mono (ok' := fun k_ => some k_ ≠ (.slice Ao24 t682.length co24 : Value).ownBlock ∧ some k_ ≠ (.slice Ao25 t685.length co25 : Value).ownBlock ∧ some k_ ≠ (.slice Ao32 t695.length co32 : Value).ownBlock ∧ some k_ ≠ (.slice Ao33 t698.length co33 : Value).ownBlock ∧ some k_ ≠ (.slice Ao40 t707.length co40 : Value).ownBlock ∧ some k_ ≠ (.slice Ao60 t721.length co60 : Value).ownBlock ∧ some k_ ≠ (.slice Ao61 t724.length co61 : Value).ownBlock) (Kd.R_keptB (HO_718003.out) hkp (fun k_ hk_ hs_ => Or.elim hs_ (fun e_ => (hk_.1.1.2.2.1) e_) (fun e_ => (hk_.1.1.2.2.2.1) e_))) (fun k_ hk_ => ⟨hk_.1.1.1.1, hk_.1.1.1.2.1, hk_.1.1.1.2.2.1, hk_.1.1.1.2.2.2.1, hk_.1.1.1.2.2.2.2, hk_.1.1.2, hk_.1.2⟩)); have n6_ := Aside0.mk (blk_kept (pkK BK667.out) hkp (fun hs_ => Or.elim hs_ (fun e_ => (fun e_ => (Kd.R_ne HO_705002.out BK667.out (by decide)) e_) e_) (fun e_ => (fun e_ => (Kd.R_ne HO_705003.out BK667.out (by decide)) e_) e_))); have n7_ := Aside0.mk (blk_kept (pkK BK692.out) hkp (fun hs_ => Or.elim hs_ (fun e_ => (fun e_ => (Kd.R_ne HO_705002.out BK692.out (by decide)) e_) e_) (fun e_ => (fun e_ => (Kd.R_ne HO_705003.out BK692.out (by decide)) e_) e_))); have n8_ := Aside0.mk (blk_kept (pkK BK704.out) hkp (fun hs_ => Or.elim hs_ (fun e_ => (fun e_ => (Kd.R_ne HO_705002.out BK704.out (by decide)) e_) e_) (fun e_ => (fun e_ => (Kd.R_ne HO_705003.out BK704.out (by decide)) e_) e_))); have n9_ := Aside0.mk (blk_kept (pkK BK717.out) hkp (fun hs_ => Or.elim hs_ (fun e_ => (fun e_ => (Kd.R_ne HO_705002.out BK717.out (by decide)) e_) e_) (fun e_ => (fun e_ => (Kd.R_ne HO_705003.out BK717.out (by decide)) e_) e_))); have n10_ := Aside0.mk (Kd.R_mono (ok' := fun k_ => some k_ ≠ (.slice Ao24 t682.length co24 : Value).ownBlock ∧ some k_ ≠ (.slice Ao25 t685.length co25 : Value).ownBlock ∧ some k_ ≠ (.slice Ao32 t695.length co32 : Value).ownBlock ∧ some k_ ≠ (.slice Ao33 t698.length co33 : Value).ownBlock ∧ some k_ ≠ (.slice Ao40 t707.length co40 : Value).ownBlock ∧ some k_ ≠ (.slice Ao41 t710.length co41 : Value).ownBlock ∧ some k_ ≠ (.slice Ao61 t724.length co61 : Value).ownBlock) (Kd.R_keptB (HO723.out) hkp (fun k_ hk_ hs_ => Or.elim hs_ (fun e_ => (hk_.1.1.1.2) e_) (fun e_ => (hk_.1.1.2) e_))) (fun k_ hk_ => ⟨hk_.1.1.1.1.1.1.2, hk_.1.1.1.1.1.2, hk_.1.1.1.1.2, hk_.1.1.1.2, hk_.1.1.2, hk_.1.2, hk_.1.1.1.1.1.1.1⟩)); have n11_ := Aside0.mk (Kd.R_mono (ok' := fun k_ => some k_ ≠ (.slice Ao24 t682.length co24 : Value).ownBlock ∧ some k_ ≠ (.slice Ao25 t685.length co25 : Value).ownBlock ∧ some k_ ≠ (.slice Ao32 t695.length co32 : Value).ownBlock ∧ some k_ ≠ (.slice Ao33 t698.length co33 : Value).ownBlock ∧ some k_ ≠ (.slice Ao40 t707.length co40 : Value).ownBlock ∧ some k_ ≠ (.slice Ao41 t710.length co41 : Value).ownBlock ∧ some k_ ≠ (.slice Ao60 t721.length co60 : Value).ownBlock) (Kd.R_keptB (HO726.out) hkp (fun k_ hk_ hs_ => Or.elim hs_ (fun e_ => (hk_.1.1.1.2) e_) (fun e_ => (hk_.1.1.2) e_))) (fun k_ hk_ => ⟨hk_.1.1.1.1.1.1.2, hk_.1.1.1.1.1.2, hk_.1.1.1.1.2, hk_.1.1.1.2, hk_.1.1.2, hk_.1.2, hk_.1.1.1.1.1.1.1⟩)); have n12_ := Aside0.mk (hb); clear HO_693002 HO_693003 HO_705002 HO_705003 HO_718002 HO_718003 BK667 BK692 BK704 BK717 HO723 HO726 HB; have HO_693002 := n0_; have HO_693003 := n1_; have HO_705002 := n2_; have HO_705003 := n3_; have HO_718002 := n4_; have HO_718003 := n5_; have BK667 := n6_; have BK692 := n7_; have BK704 := n8_; have BK717 := n9_; have HO723 := n10_; have HO726 := n11_; have HB := n12_; clear n0_ n1_ n2_ n3_ n4_ n5_ n6_ n7_ n8_ n9_ n10_ n11_ n12_; (try clear hb); (try clear hkp); (try clear hy0); (try clear hy1)))
            (try simp only [Act.put, List.setIfInBounds_toArray, List.set_cons_zero, List.set_cons_succ])
            go_cut [65] (fun v65 wc => ∃ (kq : Nat) (x65_56 : Bool), v65 = .bool x65_56 ∧ Aside0 (laws_FnExactGoOn.j1 kq a1 t691 x65_56 a0_0 a0_1 l0_2 l0_3 a0_4 a0_5 a0_6 t680 t681 t682 t685 t688 t689 t690 t705 t706 t707 t710 t713 t714 t715 = some r) ∧ Aside0 (kq ≤ kj11) ∧ Aside0 (Kd.R (Kd.int .i64) 3 wc w.heap.size (fun k_ => some k_ ≠ ((.slice Ao25 t685.length co25) : Value).ownBlock ∧ some k_ ≠ ((.slice Ao32 t695.length co32) : Value).ownBlock ∧ some k_ ≠ ((.slice Ao33 t698.length co33) : Value).ownBlock ∧ some k_ ≠ ((.slice Ao40 t707.length co40) : Value).ownBlock ∧ some k_ ≠ ((.slice Ao41 t710.length co41) : Value).ownBlock) (.slice Ao24 t682.length co24) t682) ∧ Aside0 (Kd.R (Kd.int .i64) 3 wc w.heap.size (fun k_ => some k_ ≠ ((.slice Ao24 t682.length co24) : Value).ownBlock ∧ some k_ ≠ ((.slice Ao32 t695.length co32) : Value).ownBlock ∧ some k_ ≠ ((.slice Ao33 t698.length co33) : Value).ownBlock ∧ some k_ ≠ ((.slice Ao40 t707.length co40) : Value).ownBlock ∧ some k_ ≠ ((.slice Ao41 t710.length co41) : Value).ownBlock) (.slice Ao25 t685.length co25) t685) ∧ Aside0 (Kd.R (Kd.int .i64) 3 wc w.heap.size (fun k_ => some k_ ≠ ((.slice Ao24 t682.length co24) : Value).ownBlock ∧ some k_ ≠ ((.slice Ao25 t685.length co25) : Value).ownBlock ∧ some k_ ≠ ((.slice Ao33 t698.length co33) : Value).ownBlock ∧ some k_ ≠ ((.slice Ao40 t707.length co40) : Value).ownBlock ∧ some k_ ≠ ((.slice Ao41 t710.length co41) : Value).ownBlock) (.slice Ao32 t695.length co32) t732) ∧ Aside0 (Kd.R (Kd.int .i64) 3 wc w.heap.size (fun k_ => some k_ ≠ ((.slice Ao24 t682.length co24) : Value).ownBlock ∧ some k_ ≠ ((.slice Ao25 t685.length co25) : Value).ownBlock ∧ some k_ ≠ ((.slice Ao32 t695.length co32) : Value).ownBlock ∧ some k_ ≠ ((.slice Ao40 t707.length co40) : Value).ownBlock ∧ some k_ ≠ ((.slice Ao41 t710.length co41) : Value).ownBlock) (.slice Ao33 t698.length co33) t733) ∧ Aside0 (Kd.R (Kd.int .i64) 3 wc w.heap.size (fun k_ => some k_ ≠ ((.slice Ao24 t682.length co24) : Value).ownBlock ∧ some k_ ≠ ((.slice Ao25 t685.length co25) : Value).ownBlock ∧ some k_ ≠ ((.slice Ao32 t695.length co32) : Value).ownBlock ∧ some k_ ≠ ((.slice Ao33 t698.length co33) : Value).ownBlock ∧ some k_ ≠ ((.slice Ao41 t710.length co41) : Value).ownBlock) (.slice Ao40 t707.length co40) t707) ∧ Aside0 (Kd.R (Kd.int .i64) 3 wc w.heap.size (fun k_ => some k_ ≠ ((.slice Ao24 t682.length co24) : Value).ownBlock ∧ some k_ ≠ ((.slice Ao25 t685.length co25) : Value).ownBlock ∧ some k_ ≠ ((.slice Ao32 t695.length co32) : Value).ownBlock ∧ some k_ ≠ ((.slice Ao33 t698.length co33) : Value).ownBlock ∧ some k_ ≠ ((.slice Ao40 t707.length co40) : Value).ownBlock) (.slice Ao41 t710.length co41) t710) ∧ Aside0 (wc.heap[gb667]? = some (.cells #[.bool a0_0, .bool a0_1, (.slice A0_2 l0_2.length c0_2), (.slice A0_3 l0_3.length c0_3), .int .i64 a0_4, .int .i64 a0_5, .int .i64 a0_6] 24 (0, 0))) ∧ Aside0 (wc.heap[gb692]? = some (.cells #[.bool t680, .bool t681, (.slice Ao24 t682.length co24), (.slice Ao25 t685.length co25), .int .i64 t688, .int .i64 t689, .int .i64 t690] 27 (0, 0))) ∧ Aside0 (wc.heap[gb704]? = some (.cells #[.bool t693, .bool t694, (.slice Ao32 t695.length co32), (.slice Ao33 t698.length co33), .int .i64 t701, .int .i64 t702, .int .i64 t703] 27 (0, 0))) ∧ Aside0 (wc.heap[gb717]? = some (.cells #[.bool t705, .bool t706, (.slice Ao40 t707.length co40), (.slice Ao41 t710.length co41), .int .i64 t713, .int .i64 t714, .int .i64 t715] 27 (0, 0))) ∧ Aside0 (Below w.heap.size w wc))
            case first =>
              have H := HC57.out
              clear HC57
              by_cases c68 : t731 < 0
              · rw [if_pos c68] at H
                have c68b0 : decide (t731 < 0) = true := decide_eq_true c68
                clear c68
                (first | rw [c68b0] | (simp only [i64_w, i32_w]; rw [c68b0]) | skip)
                cases kj11 with
                | zero => exact absurd H (by simp [laws_FnExactGoOn.j1])
                | succ k_ => (simp only [laws_FnExactGoOn.j1, if_pos] at H; exact absurd (Option.some.inj H) (by rw [HQ_.out]; simp))
              · rw [if_neg c68] at H
                have c68b0 : decide (t731 < 0) = false := decide_eq_false c68
                clear c68
                (first | rw [c68b0] | (simp only [i64_w, i32_w]; rw [c68b0]) | skip)
                replace H := Option.bind_eq_some_iff.mp H
                obtain ⟨t734, A690, H⟩ := H
                replace H : (if t734 = true then (laws_FnExactGoOn.j1 kj11 a1 t691 (t716 != t691) a0_0 a0_1 l0_2 l0_3 a0_4 a0_5 a0_6 t680 t681 t682 t685 t688 t689 t690 t705 t706 t707 t710 t713 t714 t715) else (laws_FnExactGoOn.j1 kj11 a1 t691 true a0_0 a0_1 l0_2 l0_3 a0_4 a0_5 a0_6 t680 t681 t682 t685 t688 t689 t690 t705 t706 t707 t710 t713 t714 t715)) = some r := H
                have A69 := Aside0.mk A690
                clear A690
                by_cases c70 : t734 = true
                · subst c70
                  have H1 : (laws_FnExactGoOn.j1 kj11 a1 t691 (t716 != t691) a0_0 a0_1 l0_2 l0_3 a0_4 a0_5 a0_6 t680 t681 t682 t685 t688 t689 t690 t705 t706 t707 t710 t713 t714 t715) = some r := by rw [if_pos rfl] at H; exact H
                  clear H
                  have H := H1
                  clear H1
                  have H' := Aside0.mk H
                  clear H
                  have hnb71 := NB717_667.out
                  have hnc71 := NB667_717.out
                  have hnb72 := NB717_692.out
                  have hnc72 := NB692_717.out
                  have hnb73 := NB717_704.out
                  have hnc73 := NB704_717.out
                  have hcz74_0 : w67.cell? ⟨gb717, 0, none⟩ = some (.bool t705) := (blk_cell BK717.out 0).trans rfl
                  have hcz74_1 : w67.cell? ⟨gb717, 1, none⟩ = some (.bool t706) := (blk_cell BK717.out 1).trans rfl
                  have hcz74_2 : w67.cell? ⟨gb717, 2, none⟩ = some (.slice Ao40 t707.length co40) := (blk_cell BK717.out 2).trans rfl
                  have hcz74_3 : w67.cell? ⟨gb717, 3, none⟩ = some (.slice Ao41 t710.length co41) := (blk_cell BK717.out 3).trans rfl
                  have hcz74_4 : w67.cell? ⟨gb717, 4, none⟩ = some (.int .i64 t713) := (blk_cell BK717.out 4).trans rfl
                  have hcz74_5 : w67.cell? ⟨gb717, 5, none⟩ = some (.int .i64 t714) := (blk_cell BK717.out 5).trans rfl
                  have hcz74_6 : w67.cell? ⟨gb717, 6, none⟩ = some (.int .i64 t715) := (blk_cell BK717.out 6).trans rfl
                  have hfz74_0 := blk_frozen BK717.out 0
                  have hfz74_1 := blk_frozen BK717.out 1
                  have hfz74_2 := blk_frozen BK717.out 2
                  have hfz74_3 := blk_frozen BK717.out 3
                  have hfz74_4 := blk_frozen BK717.out 4
                  have hfz74_5 := blk_frozen BK717.out 5
                  have hfz74_6 := blk_frozen BK717.out 6
                  have hnb75 := NB692_667.out
                  have hnc75 := NB667_692.out
                  have hnb76 := NB692_704.out
                  have hnc76 := NB704_692.out
                  have hcz77_0 : w67.cell? ⟨gb692, 0, none⟩ = some (.bool t680) := (blk_cell BK692.out 0).trans rfl
                  have hcz77_1 : w67.cell? ⟨gb692, 1, none⟩ = some (.bool t681) := (blk_cell BK692.out 1).trans rfl
                  have hcz77_2 : w67.cell? ⟨gb692, 2, none⟩ = some (.slice Ao24 t682.length co24) := (blk_cell BK692.out 2).trans rfl
                  have hcz77_3 : w67.cell? ⟨gb692, 3, none⟩ = some (.slice Ao25 t685.length co25) := (blk_cell BK692.out 3).trans rfl
                  have hcz77_4 : w67.cell? ⟨gb692, 4, none⟩ = some (.int .i64 t688) := (blk_cell BK692.out 4).trans rfl
                  have hcz77_5 : w67.cell? ⟨gb692, 5, none⟩ = some (.int .i64 t689) := (blk_cell BK692.out 5).trans rfl
                  have hcz77_6 : w67.cell? ⟨gb692, 6, none⟩ = some (.int .i64 t690) := (blk_cell BK692.out 6).trans rfl
                  have hfz77_0 := blk_frozen BK692.out 0
                  have hfz77_1 := blk_frozen BK692.out 1
                  have hfz77_2 := blk_frozen BK692.out 2
                  have hfz77_3 := blk_frozen BK692.out 3
                  have hfz77_4 := blk_frozen BK692.out 4
                  have hfz77_5 := blk_frozen BK692.out 5
                  have hfz77_6 := blk_frozen BK692.out 6
                  go_wp2_with (first | (go_at_call 18; (with_reducible refine (laws_eqEvent.calls kj11 t705 t706 _ _ t707 _ _ t710 t713 t714 t715 t680 t681 _ _ t682 _ _ t685 t688 t689 t690 true _ ?side1 ?side2 ?side3 ?side4 ?side5 ?side6 ?side7 ?side8 A69.out).mono ?_); (case side1 => exact pkC (Kd.R_reads' HO_718002.out).2.2); (case side2 => exact (Kd.R_reads' HO_718002.out).2.1); (case side3 => exact pkC (Kd.R_reads' HO_718003.out).2.2); (case side4 => exact (Kd.R_reads' HO_718003.out).2.1); (case side5 => exact pkC (Kd.R_reads' HO_693002.out).2.2); (case side6 => exact (Kd.R_reads' HO_693002.out).2.1); (case side7 => exact pkC (Kd.R_reads' HO_693003.out).2.2); (case side8 => exact (Kd.R_reads' HO_693003.out).2.1); rintro e w78 ⟨rfl, hb⟩; have n0_ := Aside0.mk (Kd.R_below (pkR HO_693002.out) hb); have n1_ := Aside0.mk (Kd.R_below (pkR HO_693003.out) hb); have n2_ := Aside0.mk (Kd.R_below (pkR HO_705002.out) hb); have n3_ := Aside0.mk (Kd.R_below (pkR HO_705003.out) hb); have n4_ := Aside0.mk (Kd.R_below (pkR HO_718002.out) hb); have n5_ := Aside0.mk (Kd.R_below (pkR HO_718003.out) hb); have n6_ := Aside0.mk (Kd.R_below (pkR HO723.out) hb); have n7_ := Aside0.mk (Kd.R_below (pkR HO726.out) hb); have n8_ := Aside0.mk (blk_below (g := gb667) (o := .cells #[.bool a0_0, .bool a0_1, .slice A0_2 l0_2.length c0_2, .slice A0_3 l0_3.length c0_3, .int .i64 a0_4, .int .i64 a0_5, .int .i64 a0_6] 24 (0, 0)) (pkK BK667.out) hb); have n9_ := Aside0.mk (blk_below (g := gb692) (o := .cells #[.bool t680, .bool t681, .slice Ao24 t682.length co24, .slice Ao25 t685.length co25, .int .i64 t688, .int .i64 t689, .int .i64 t690] 27 (0, 0)) (pkK BK692.out) hb); have n10_ := Aside0.mk (blk_below (g := gb704) (o := .cells #[.bool t693, .bool t694, .slice Ao32 t695.length co32, .slice Ao33 t698.length co33, .int .i64 t701, .int .i64 t702, .int .i64 t703] 27 (0, 0)) (pkK BK704.out) hb); have n11_ := Aside0.mk (blk_below (g := gb717) (o := .cells #[.bool t705, .bool t706, .slice Ao40 t707.length co40, .slice Ao41 t710.length co41, .int .i64 t713, .int .i64 t714, .int .i64 t715] 27 (0, 0)) (pkK BK717.out) hb); have n12_ := Aside0.mk (below_step (by repeat (first | (with_reducible first | exact HB.out | apply below_alloc | apply pw_below_drewN | apply below_drew1 | refine below_set ?_ GE667.out | refine below_set ?_ GE692.out | refine below_set ?_ GE704.out | refine below_set ?_ GE717.out) | exact HB.out)) hb); clear HO_693002 HO_693003 HO_705002 HO_705003 HO_718002 HO_718003 HO723 HO726 BK667 BK692 BK704 BK717 HB; have HO_693002 := n0_; have HO_693003 := n1_; have HO_705002 := n2_; have HO_705003 := n3_; have HO_718002 := n4_; have HO_718003 := n5_; have HO723 := n6_; have HO726 := n7_; have BK667 := n8_; have BK692 := n9_; have BK704 := n10_; have BK717 := n11_; have HB := n12_; clear n0_ n1_ n2_ n3_ n4_ n5_ n6_ n7_ n8_ n9_ n10_ n11_ n12_; (try clear hb); (try clear hb2); (try clear hk); (try clear hi)))
                  go_meet
                  case rel => exact ⟨_, ((t716 != t691)), (by first | rfl | (simp; done) | (simp [*]; done)), H', ⟨by have := HJ11.out; first | omega | exact Nat.le_refl _⟩, ⟨by (with_reducible repeat (first | apply Kd.R_alloc | apply Kd.R_drewN | apply Kd.R_drew)); exact Kd.R_mono HO_693002.out (fun _ hk => ⟨hk.1, ⟨hk.2.1, ⟨hk.2.2.1, ⟨hk.2.2.2.1, hk.2.2.2.2.1⟩⟩⟩⟩)⟩, ⟨by (with_reducible repeat (first | apply Kd.R_alloc | apply Kd.R_drewN | apply Kd.R_drew)); exact Kd.R_mono HO_693003.out (fun _ hk => ⟨hk.1, ⟨hk.2.1, ⟨hk.2.2.1, ⟨hk.2.2.2.1, hk.2.2.2.2.1⟩⟩⟩⟩)⟩, ⟨by (with_reducible repeat (first | apply Kd.R_alloc | apply Kd.R_drewN | apply Kd.R_drew)); exact Kd.R_mono HO_705002.out (fun _ hk => ⟨hk.1.1.1, ⟨hk.1.1.2.1, ⟨hk.1.1.2.2.1, ⟨hk.1.1.2.2.2.1, hk.1.1.2.2.2.2⟩⟩⟩⟩)⟩, ⟨by (with_reducible repeat (first | apply Kd.R_alloc | apply Kd.R_drewN | apply Kd.R_drew)); exact Kd.R_mono HO_705003.out (fun _ hk => ⟨hk.1.1.1, ⟨hk.1.1.2.1, ⟨hk.1.1.2.2.1, ⟨hk.1.1.2.2.2.1, hk.1.1.2.2.2.2⟩⟩⟩⟩)⟩, ⟨by (with_reducible repeat (first | apply Kd.R_alloc | apply Kd.R_drewN | apply Kd.R_drew)); exact Kd.R_mono HO_718002.out (fun _ hk => ⟨hk.1, ⟨hk.2.1, ⟨hk.2.2.1, ⟨hk.2.2.2.1, hk.2.2.2.2.1⟩⟩⟩⟩)⟩, ⟨by (with_reducible repeat (first | apply Kd.R_alloc | apply Kd.R_drewN | apply Kd.R_drew)); exact Kd.R_mono HO_718003.out (fun _ hk => ⟨hk.1, ⟨hk.2.1, ⟨hk.2.2.1, ⟨hk.2.2.2.1, hk.2.2.2.2.1⟩⟩⟩⟩)⟩, ⟨pkK BK667.out⟩, ⟨pkK BK692.out⟩, ⟨pkK BK704.out⟩, ⟨pkK BK717.out⟩, ⟨by repeat (first | (with_reducible first | exact HB.out | apply below_alloc | apply pw_below_drewN | apply below_drew1 | refine below_set ?_ GE667.out | refine below_set ?_ GE692.out | refine below_set ?_ GE704.out | refine below_set ?_ GE717.out) | exact HB.out)⟩⟩
                · replace c70 := Bool.eq_false_iff.mpr c70
                  subst c70
                  have H1 : (laws_FnExactGoOn.j1 kj11 a1 t691 true a0_0 a0_1 l0_2 l0_3 a0_4 a0_5 a0_6 t680 t681 t682 t685 t688 t689 t690 t705 t706 t707 t710 t713 t714 t715) = some r := by rw [if_neg (show ¬ (false = true) by decide)] at H; exact H
                  clear H
                  have H := H1
                  clear H1
                  cases kj11 with
                  | zero => exact absurd H (by simp [laws_FnExactGoOn.j1])
                  | succ k_ => (simp only [laws_FnExactGoOn.j1, if_pos] at H; exact absurd (Option.some.inj H) (by rw [HQ_.out]; simp))
            case rest =>
              clear HC57
              try clear c1
              try clear c2
              try clear p2
              try clear c3
              try clear c4
              try clear c4b0
              try clear c5
              try clear c6
              try clear c7
              try clear c14
              try clear c16
              try clear c18
              try clear c22
              try clear c26
              try clear c29
              try clear c30
              try clear c31
              try clear c36
              try clear c37
              try clear c38
              try clear c43
              try clear c44
              try clear c45
              try clear c46
              try clear c48
              try clear c49
              try clear c52
              try clear c55
              try clear c63
              try clear c64
              try clear c65
              try clear c68
              try clear c68b0
              try clear c70
              try clear c71
              try clear c72
              try clear c73
              try clear c75
              try clear c76
              try clear hcz14_0
              try clear hcz14_1
              try clear hcz14_2
              try clear hcz14_3
              try clear hcz14_4
              try clear hcz14_5
              try clear hcz14_6
              try clear hcz16_0
              try clear hcz16_1
              try clear hcz16_2
              try clear hcz16_3
              try clear hcz16_4
              try clear hcz16_5
              try clear hcz16_6
              try clear hcz23_0
              try clear hcz23_1
              try clear hcz23_2
              try clear hcz23_3
              try clear hcz23_4
              try clear hcz23_5
              try clear hcz23_6
              try clear hcz26_0
              try clear hcz26_1
              try clear hcz26_2
              try clear hcz26_3
              try clear hcz26_4
              try clear hcz26_5
              try clear hcz26_6
              try clear hcz31_0
              try clear hcz31_1
              try clear hcz31_2
              try clear hcz31_3
              try clear hcz31_4
              try clear hcz31_5
              try clear hcz31_6
              try clear hcz39_0
              try clear hcz39_1
              try clear hcz39_2
              try clear hcz39_3
              try clear hcz39_4
              try clear hcz39_5
              try clear hcz39_6
              try clear hcz47_0
              try clear hcz47_1
              try clear hcz47_2
              try clear hcz47_3
              try clear hcz47_4
              try clear hcz47_5
              try clear hcz47_6
              try clear hcz50_0
              try clear hcz50_1
              try clear hcz50_2
              try clear hcz50_3
              try clear hcz50_4
              try clear hcz50_5
              try clear hcz50_6
              try clear hcz66_0
              try clear hcz66_1
              try clear hcz66_2
              try clear hcz66_3
              try clear hcz66_4
              try clear hcz66_5
              try clear hcz66_6
              try clear hcz6_0
              try clear hcz6_1
              try clear hcz6_2
              try clear hcz6_3
              try clear hcz6_4
              try clear hcz6_5
              try clear hcz6_6
              try clear hcz74_0
              try clear hcz74_1
              try clear hcz74_2
              try clear hcz74_3
              try clear hcz74_4
              try clear hcz74_5
              try clear hcz74_6
              try clear hcz77_0
              try clear hcz77_1
              try clear hcz77_2
              try clear hcz77_3
              try clear hcz77_4
              try clear hcz77_5
              try clear hcz77_6
              try clear hfz14_0
              try clear hfz14_1
              try clear hfz14_2
              try clear hfz14_3
              try clear hfz14_4
              try clear hfz14_5
              try clear hfz14_6
              try clear hfz16_0
              try clear hfz16_1
              try clear hfz16_2
              try clear hfz16_3
              try clear hfz16_4
              try clear hfz16_5
              try clear hfz16_6
              try clear hfz23_0
              try clear hfz23_1
              try clear hfz23_2
              try clear hfz23_3
              try clear hfz23_4
              try clear hfz23_5
              try clear hfz23_6
              try clear hfz26_0
              try clear hfz26_1
              try clear hfz26_2
              try clear hfz26_3
              try clear hfz26_4
              try clear hfz26_5
              try clear hfz26_6
              try clear hfz31_0
              try clear hfz31_1
              try clear hfz31_2
              try clear hfz31_3
              try clear hfz31_4
              try clear hfz31_5
              try clear hfz31_6
              try clear hfz39_0
              try clear hfz39_1
              try clear hfz39_2
              try clear hfz39_3
              try clear hfz39_4
              try clear hfz39_5
              try clear hfz39_6
              try clear hfz47_0
              try clear hfz47_1
              try clear hfz47_2
              try clear hfz47_3
              try clear hfz47_4
              try clear hfz47_5
              try clear hfz47_6
              try clear hfz50_0
              try clear hfz50_1
              try clear hfz50_2
              try clear hfz50_3
              try clear hfz50_4
              try clear hfz50_5
              try clear hfz50_6
              try clear hfz66_0
              try clear hfz66_1
              try clear hfz66_2
              try clear hfz66_3
              try clear hfz66_4
              try clear hfz66_5
              try clear hfz66_6
              try clear hfz6_0
              try clear hfz6_1
              try clear hfz6_2
              try clear hfz6_3
              try clear hfz6_4
              try clear hfz6_5
              try clear hfz6_6
              try clear hfz74_0
              try clear hfz74_1
              try clear hfz74_2
              try clear hfz74_3
              try clear hfz74_4
              try clear hfz74_5
              try clear hfz74_6
              try clear hfz77_0
              try clear hfz77_1
              try clear hfz77_2
              try clear hfz77_3
              try clear hfz77_4
              try clear hfz77_5
              try clear hfz77_6
              try clear p2
              obtain ⟨kq, x65_56, rfl, HA, HJ56, HO_693002, HO_693003, HO_705002, HO_705003, HO_718002, HO_718003, BK667, BK692, BK704, BK717, HB⟩ := hcut
              have hl705002_56 := (Kd.R_reads' HO_705002.out).1
              rw [hl705002_56] at HO_705002
              (try simp only [hl705002_56])
              (try simp only [hl705002_56] at BK667)
              (try simp only [hl705002_56] at BK692)
              (try simp only [hl705002_56] at BK704)
              (try simp only [hl705002_56] at BK717)
              (try simp only [hl705002_56] at HO_693002)
              (try simp only [hl705002_56] at HO_693003)
              (try simp only [hl705002_56] at HO_705003)
              (try simp only [hl705002_56] at HO_718002)
              (try simp only [hl705002_56] at HO_718003)
              have hl705003_56 := (Kd.R_reads' HO_705003.out).1
              rw [hl705003_56] at HO_705003
              (try simp only [hl705003_56])
              (try simp only [hl705003_56] at BK667)
              (try simp only [hl705003_56] at BK692)
              (try simp only [hl705003_56] at BK704)
              (try simp only [hl705003_56] at BK717)
              (try simp only [hl705003_56] at HO_693002)
              (try simp only [hl705003_56] at HO_693003)
              (try simp only [hl705003_56] at HO_705002)
              (try simp only [hl705003_56] at HO_718002)
              (try simp only [hl705003_56] at HO_718003)
              cases kq with
              | zero => exact absurd HA.out (by simp [laws_FnExactGoOn.j1])
              | succ kj56 =>
                have H := HA.out
                clear HA
                simp only [laws_FnExactGoOn.j1] at H
                by_cases c79 : x65_56 = true
                · subst c79
                  have H1 : (some false) = some r := by rw [if_pos rfl] at H; exact H
                  clear H
                  have H := H1
                  clear H1
                  exact absurd (Option.some.inj H) (by rw [HQ_.out]; simp)
                · replace c79 := Bool.eq_false_iff.mpr c79
                  subst c79
                  have H1 : ((laws_markEvent.f kj56 t705 t706 t707 t710 t713 t714 t715 1).bind fun bt735 => ((laws_heldEvent.f kj56 t705 t706 bt735.2.1 bt735.2.2 t713 t714 t715 1).bind fun t738 => (if t738 < 0 then (some false) else (if t738 = bt735.1 then ((laws_toEvent.f kj56 a0_0 a0_1 l0_2 l0_3 a0_4 a0_5 a0_6).bind fun bt739 => ((impl_GoOn.f kj56 bt739.1 bt739.2.1 bt739.2.2.1 bt739.2.2.2.1 bt739.2.2.2.2.1 bt739.2.2.2.2.2.1 bt739.2.2.2.2.2.2 a1).bind fun bt750 => ((laws_eqEvent.f kj56 bt750.1 bt750.2.1 bt750.2.2.1 bt750.2.2.2.1 bt750.2.2.2.2.1 bt750.2.2.2.2.2.1 bt750.2.2.2.2.2.2.1 t680 t681 t682 t685 t688 t689 t690).bind fun t763 => (if t763 = true then (laws_FnExactGoOn.j2 kj56 bt735.1 (bt750.2.2.2.2.2.2.2 != t691) t705 t706 bt735.2.1 bt735.2.2 t713 t714 t715) else (laws_FnExactGoOn.j2 kj56 bt735.1 true t705 t706 bt735.2.1 bt735.2.2 t713 t714 t715))))) else (some false))))) = some r := by rw [if_neg (show ¬ (false = true) by decide)] at H; exact H
                  clear H
                  have H := H1
                  clear H1
                  replace H := Option.bind_eq_some_iff.mp H
                  obtain ⟨⟨t735, t736, t737⟩, A800, H⟩ := H
                  replace H : ((laws_heldEvent.f kj56 t705 t706 t736 t737 t713 t714 t715 1).bind fun t738 => (if t738 < 0 then (some false) else (if t738 = t735 then ((laws_toEvent.f kj56 a0_0 a0_1 l0_2 l0_3 a0_4 a0_5 a0_6).bind fun bt739 => ((impl_GoOn.f kj56 bt739.1 bt739.2.1 bt739.2.2.1 bt739.2.2.2.1 bt739.2.2.2.2.1 bt739.2.2.2.2.2.1 bt739.2.2.2.2.2.2 a1).bind fun bt750 => ((laws_eqEvent.f kj56 bt750.1 bt750.2.1 bt750.2.2.1 bt750.2.2.2.1 bt750.2.2.2.2.1 bt750.2.2.2.2.2.1 bt750.2.2.2.2.2.2.1 t680 t681 t682 t685 t688 t689 t690).bind fun t763 => (if t763 = true then (laws_FnExactGoOn.j2 kj56 t735 (bt750.2.2.2.2.2.2.2 != t691) t705 t706 t736 t737 t713 t714 t715) else (laws_FnExactGoOn.j2 kj56 t735 true t705 t706 t736 t737 t713 t714 t715))))) else (some false)))) = some r := H
                  have A80 := Aside0.mk A800
                  clear A800
                  replace H := Option.bind_eq_some_iff.mp H
                  obtain ⟨t738, A810, H⟩ := H
                  replace H : (if t738 < 0 then (some false) else (if t738 = t735 then ((laws_toEvent.f kj56 a0_0 a0_1 l0_2 l0_3 a0_4 a0_5 a0_6).bind fun bt739 => ((impl_GoOn.f kj56 bt739.1 bt739.2.1 bt739.2.2.1 bt739.2.2.2.1 bt739.2.2.2.2.1 bt739.2.2.2.2.2.1 bt739.2.2.2.2.2.2 a1).bind fun bt750 => ((laws_eqEvent.f kj56 bt750.1 bt750.2.1 bt750.2.2.1 bt750.2.2.2.1 bt750.2.2.2.2.1 bt750.2.2.2.2.2.1 bt750.2.2.2.2.2.2.1 t680 t681 t682 t685 t688 t689 t690).bind fun t763 => (if t763 = true then (laws_FnExactGoOn.j2 kj56 t735 (bt750.2.2.2.2.2.2.2 != t691) t705 t706 t736 t737 t713 t714 t715) else (laws_FnExactGoOn.j2 kj56 t735 true t705 t706 t736 t737 t713 t714 t715))))) else (some false))) = some r := H
                  have A81 := Aside0.mk A810
                  clear A810
                  by_cases c82 : t738 < 0
                  · rw [if_pos c82] at H
                    have c82b0 : decide (t738 < 0) = true := decide_eq_true c82
                    clear c82
                    exact absurd (Option.some.inj H) (by rw [HQ_.out]; simp)
                  · rw [if_neg c82] at H
                    have c82b0 : decide (t738 < 0) = false := decide_eq_false c82
                    clear c82
                    by_cases c83 : t738 = t735
                    · rw [if_pos c83] at H
                      have c83b0 : (t738 == t735) = true := beq_iff_eq.mpr c83
                      have c83b1 : (t738 != t735) = false := bne_eq_false_iff_eq.mpr c83
                      clear c83
                      replace H := Option.bind_eq_some_iff.mp H
                      obtain ⟨⟨t739, t740, t741, t744, t747, t748, t749⟩, A840, H⟩ := H
                      replace H : ((impl_GoOn.f kj56 t739 t740 t741 t744 t747 t748 t749 a1).bind fun bt750 => ((laws_eqEvent.f kj56 bt750.1 bt750.2.1 bt750.2.2.1 bt750.2.2.2.1 bt750.2.2.2.2.1 bt750.2.2.2.2.2.1 bt750.2.2.2.2.2.2.1 t680 t681 t682 t685 t688 t689 t690).bind fun t763 => (if t763 = true then (laws_FnExactGoOn.j2 kj56 t735 (bt750.2.2.2.2.2.2.2 != t691) t705 t706 t736 t737 t713 t714 t715) else (laws_FnExactGoOn.j2 kj56 t735 true t705 t706 t736 t737 t713 t714 t715)))) = some r := H
                      have A84 := Aside0.mk A840
                      clear A840
                      replace H := Option.bind_eq_some_iff.mp H
                      obtain ⟨⟨t750, t751, t752, t755, t758, t759, t760, t761⟩, A850, H⟩ := H
                      replace H : ((laws_eqEvent.f kj56 t750 t751 t752 t755 t758 t759 t760 t680 t681 t682 t685 t688 t689 t690).bind fun t763 => (if t763 = true then (laws_FnExactGoOn.j2 kj56 t735 (t761 != t691) t705 t706 t736 t737 t713 t714 t715) else (laws_FnExactGoOn.j2 kj56 t735 true t705 t706 t736 t737 t713 t714 t715))) = some r := H
                      have A85 := Aside0.mk A850
                      clear A850
                      have HC86 := Aside0.mk H
                      clear H
                      have hnb87 := NB717_667.out
                      have hnc87 := NB667_717.out
                      have hnb88 := NB717_692.out
                      have hnc88 := NB692_717.out
                      have hnb89 := NB717_704.out
                      have hnc89 := NB704_717.out
                      have hcz90_0 : wc.cell? ⟨gb717, 0, none⟩ = some (.bool t705) := (blk_cell BK717.out 0).trans rfl
                      have hcz90_1 : wc.cell? ⟨gb717, 1, none⟩ = some (.bool t706) := (blk_cell BK717.out 1).trans rfl
                      have hcz90_2 : wc.cell? ⟨gb717, 2, none⟩ = some (.slice Ao40 t707.length co40) := (blk_cell BK717.out 2).trans rfl
                      have hcz90_3 : wc.cell? ⟨gb717, 3, none⟩ = some (.slice Ao41 t710.length co41) := (blk_cell BK717.out 3).trans rfl
                      have hcz90_4 : wc.cell? ⟨gb717, 4, none⟩ = some (.int .i64 t713) := (blk_cell BK717.out 4).trans rfl
                      have hcz90_5 : wc.cell? ⟨gb717, 5, none⟩ = some (.int .i64 t714) := (blk_cell BK717.out 5).trans rfl
                      have hcz90_6 : wc.cell? ⟨gb717, 6, none⟩ = some (.int .i64 t715) := (blk_cell BK717.out 6).trans rfl
                      have hfz90_0 := blk_frozen BK717.out 0
                      have hfz90_1 := blk_frozen BK717.out 1
                      have hfz90_2 := blk_frozen BK717.out 2
                      have hfz90_3 := blk_frozen BK717.out 3
                      have hfz90_4 := blk_frozen BK717.out 4
                      have hfz90_5 := blk_frozen BK717.out 5
                      have hfz90_6 := blk_frozen BK717.out 6
                      go_upto_region 25 with (first | ((with_reducible refine gate_callee (f := 26) rfl ?_); refine goesL_ (some 68) rfl rfl Try.func26 (by kernel_rfl) rfl #[.agg #[.bool t705, .bool t706, .slice Ao40 t707.length co40, .slice Ao41 t710.length co41, .int .i64 t713, .int .i64 t714, .int .i64 t715], .int .i64 1] rfl (by (try simp only [List.map_toArray, List.map_cons, List.map_nil]); first | done | rfl | (simp only [List.length_drop, List.length_take]; rfl) | (go_simp; done) | (simp [*]; done)) ?_; (with_reducible refine (laws_markEvent.calls kj56 t705 t706 (fun k_ => some k_ = (.slice Ao40 t707.length co40 : Value).ownBlock) (.slice Ao40 t707.length co40) t707 (fun k_ => some k_ = (.slice Ao41 t710.length co41 : Value).ownBlock) (.slice Ao41 t710.length co41) t710 t713 t714 t715 1 t735 t736 t737 w _ ?side1 ?side2 ?side3 ?side4 ?side5 A80.out).mono ?_); (case side1 => repeat (first | (with_reducible first | exact HB.out | apply below_alloc | apply pw_below_drewN | apply below_drew1 | refine below_set ?_ GE667.out | refine below_set ?_ GE692.out | refine below_set ?_ GE704.out | refine below_set ?_ GE717.out) | exact HB.out)); (case side2 => exact Kd.R_tight rfl HO_718002.out); (case side3 => exact fun k_ e_ => (HO_718002.out.1 k_ e_.symm).2.2.2.2); (case side4 => exact Kd.R_tight rfl HO_718003.out); (case side5 => exact fun k_ e_ => (HO_718003.out.1 k_ e_.symm).2.2.2.2); rintro e w91 ⟨rfl, hy0, hy1, hb, hkp⟩; refine ⟨_, rfl, ?_⟩; have n0_ := Aside0.mk (Kd.R_mono (ok' := fun k_ => some k_ ≠ (.slice Ao25 t685.length co25 : Value).ownBlock ∧ some k_ ≠ (.slice Ao32 t732.length co32 : Value).ownBlock ∧ some k_ ≠ (.slice Ao33 t733.length co33 : Value).ownBlock ∧ some k_ ≠ (.slice Ao40 t707.length co40 : Value).ownBlock ∧ some k_ ≠ (.slice Ao41 t710.length co41 : Value).ownBlock) (Kd.R_keptB (HO_693002.out) hkp (fun k_ hk_ hs_ => Or.elim hs_ (fun e_ => (hk_.2.2.2.1) e_) (fun e_ => (hk_.2.2.2.2) e_))) (fun k_ hk_ => ⟨hk_.1.1, hk_.1.2.1, hk_.1.2.2.1, hk_.1.2.2.2.1, hk_.1.2.2.2.2⟩)); have n1_ := Aside0.mk (Kd.R_mono (ok' := fun k_ => some k_ ≠ (.slice Ao24 t682.length co24 : Value).ownBlock ∧ some k_ ≠ (.slice Ao32 t732.length co32 : Value).ownBlock ∧ some k_ ≠ (.slice Ao33 t733.length co33 : Value).ownBlock ∧ some k_ ≠ (.slice Ao40 t707.length co40 : Value).ownBlock ∧ some k_ ≠ (.slice Ao41 t710.length co41 : Value).ownBlock) (Kd.R_keptB (HO_693003.out) hkp (fun k_ hk_ hs_ => Or.elim hs_ (fun e_ => (hk_.2.2.2.1) e_) (fun e_ => (hk_.2.2.2.2) e_))) (fun k_ hk_ => ⟨hk_.1.1, hk_.1.2.1, hk_.1.2.2.1, hk_.1.2.2.2.1, hk_.1.2.2.2.2⟩)); have n2_ := Aside0.mk (Kd.R_mono (ok' := fun k_ => some k_ ≠ (.slice Ao24 t682.length co24 : Value).ownBlock ∧ some k_ ≠ (.slice Ao25 t685.length co25 : Value).ownBlock ∧ some k_ ≠ (.slice Ao33 t733.length co33 : Value).ownBlock ∧ some k_ ≠ (.slice Ao40 t707.length co40 : Value).ownBlock ∧ some k_ ≠ (.slice Ao41 t710.length co41 : Value).ownBlock) (Kd.R_keptB (HO_705002.out) hkp (fun k_ hk_ hs_ => Or.elim hs_ (fun e_ => (hk_.2.2.2.1) e_) (fun e_ => (hk_.2.2.2.2) e_))) (fun k_ hk_ => ⟨hk_.1.1, hk_.1.2.1, hk_.1.2.2.1, hk_.1.2.2.2.1, hk_.1.2.2.2.2⟩)); have n3_ := Aside0.mk (Kd.R_mono (ok' := fun k_ => some k_ ≠ (.slice Ao24 t682.length co24 : Value).ownBlock ∧ some k_ ≠ (.slice Ao25 t685.length co25 : Value).ownBlock ∧ some k_ ≠ (.slice Ao32 t732.length co32 : Value).ownBlock ∧ some k_ ≠ (.slice Ao40 t707.length co40 : Value).ownBlock ∧ some k_ ≠ (.slice Ao41 t710.length co41 : Value).ownBlock) (Kd.R_keptB (HO_705003.out) hkp (fun k_ hk_ hs_ => Or.elim hs_ (fun e_ => (hk_.2.2.2.1) e_) (fun e_ => (hk_.2.2.2.2) e_))) (fun k_ hk_ => ⟨hk_.1.1, hk_.1.2.1, hk_.1.2.2.1, hk_.1.2.2.2.1, hk_.1.2.2.2.2⟩)); have n4_ := Aside0.mk (Kd.R_reok rfl hy0 (fun k_ e_ => HO_718002.out.1 k_ e_)); have n5_ := Aside0.mk (Kd.R_reok rfl hy1 (fun k_ e_ => HO_718003.out.1 k_ e_)); have n6_ := Aside0.mk (blk_kept (pkK BK667.out) hkp (fun hs_ => Or.elim hs_ (fun e_ => (fun e_ => (Kd.R_ne HO_718002.out BK667.out (by decide)) e_) e_) (fun e_ => (fun e_ => (Kd.R_ne HO_718003.out BK667.out (by decide)) e_) e_))); have n7_ := Aside0.mk (blk_kept (pkK BK692.out) hkp (fun hs_ => Or.elim hs_ (fun e_ => (fun e_ => (Kd.R_ne HO_718002.out BK692.out (by decide)) e_) e_) (fun e_ => (fun e_ => (Kd.R_ne HO_718003.out BK692.out (by decide)) e_) e_))); have n8_ := Aside0.mk (blk_kept (pkK BK704.out) hkp (fun hs_ => Or.elim hs_ (fun e_ => (fun e_ => (Kd.R_ne HO_718002.out BK704.out (by decide)) e_) e_) (fun e_ => (fun e_ => (Kd.R_ne HO_718003.out BK704.out (by decide)) e_) e_))); have n9_ := Aside0.mk (blk_kept (pkK BK717.out) hkp (fun hs_ => Or.elim hs_ (fun e_ => (fun e_ => (Kd.R_ne HO_718002.out BK717.out (by decide)) e_) e_) (fun e_ => (fun e_ => (Kd.R_ne HO_718003.out BK717.out (by decide)) e_) e_))); have n10_ := Aside0.mk (hb); clear HO_693002 HO_693003 HO_705002 HO_705003 HO_718002 HO_718003 BK667 BK692 BK704 BK717 HB; have HO_693002 := n0_; have HO_693003 := n1_; have HO_705002 := n2_; have HO_705003 := n3_; have HO_718002 := n4_; have HO_718003 := n5_; have BK667 := n6_; have BK692 := n7_; have BK704 := n8_; have BK717 := n9_; have HB := n10_; clear n0_ n1_ n2_ n3_ n4_ n5_ n6_ n7_ n8_ n9_ n10_; (try clear hb); (try clear hkp); (try clear hy0); (try clear hy1); have hcz92_0 : w91.cell? ⟨gb717, 0, none⟩ = some (.bool t705) := (blk_cell BK717.out 0).trans rfl; have hcz92_1 : w91.cell? ⟨gb717, 1, none⟩ = some (.bool t706) := (blk_cell BK717.out 1).trans rfl; have hcz92_2 : w91.cell? ⟨gb717, 2, none⟩ = some (.slice Ao40 t707.length co40) := (blk_cell BK717.out 2).trans rfl; have hcz92_3 : w91.cell? ⟨gb717, 3, none⟩ = some (.slice Ao41 t710.length co41) := (blk_cell BK717.out 3).trans rfl; have hcz92_4 : w91.cell? ⟨gb717, 4, none⟩ = some (.int .i64 t713) := (blk_cell BK717.out 4).trans rfl; have hcz92_5 : w91.cell? ⟨gb717, 5, none⟩ = some (.int .i64 t714) := (blk_cell BK717.out 5).trans rfl; have hcz92_6 : w91.cell? ⟨gb717, 6, none⟩ = some (.int .i64 t715) := (blk_cell BK717.out 6).trans rfl; have hfz92_0 := blk_frozen BK717.out 0; have hfz92_1 := blk_frozen BK717.out 1; have hfz92_2 := blk_frozen BK717.out 2; have hfz92_3 := blk_frozen BK717.out 3; have hfz92_4 := blk_frozen BK717.out 4; have hfz92_5 := blk_frozen BK717.out 5; have hfz92_6 := blk_frozen BK717.out 6) | ((with_reducible refine gate_callee (f := 27) rfl ?_); refine goesL_ (some 71) rfl rfl Try.func27 (by kernel_rfl) rfl #[.agg #[.bool t705, .bool t706, .slice Ao40 t736.length co40, .slice Ao41 t737.length co41, .int .i64 t713, .int .i64 t714, .int .i64 t715], .int .i64 1] rfl (by (try simp only [List.map_toArray, List.map_cons, List.map_nil]); first | done | (rw [show t736.length = t707.length from (Kd.R_reads' HO_718002.out).1.symm, show t737.length = t710.length from (Kd.R_reads' HO_718003.out).1.symm] <;> rfl) | rfl | (simp only [List.length_drop, List.length_take]; rfl) | (go_simp; done) | (simp [*]; done)) ?_; (with_reducible refine (laws_heldEvent.calls kj56 t705 t706 _ _ t736 _ _ t737 t713 t714 t715 1 t738 _ ?side1 ?side2 ?side3 ?side4 A81.out).mono ?_); (case side1 => exact pkC (Kd.R_reads' HO_718002.out).2.2); (case side2 => rw [show t736.length = t707.length from (Kd.R_reads' HO_718002.out).1.symm]; exact (Kd.R_reads' HO_718002.out).2.1); (case side3 => exact pkC (Kd.R_reads' HO_718003.out).2.2); (case side4 => rw [show t737.length = t710.length from (Kd.R_reads' HO_718003.out).1.symm]; exact (Kd.R_reads' HO_718003.out).2.1); rintro e w93 ⟨rfl, hb⟩; refine ⟨_, rfl, ?_⟩; have n0_ := Aside0.mk (Kd.R_below (pkR HO_693002.out) hb); have n1_ := Aside0.mk (Kd.R_below (pkR HO_693003.out) hb); have n2_ := Aside0.mk (Kd.R_below (pkR HO_705002.out) hb); have n3_ := Aside0.mk (Kd.R_below (pkR HO_705003.out) hb); have n4_ := Aside0.mk (Kd.R_below (pkR HO_718002.out) hb); have n5_ := Aside0.mk (Kd.R_below (pkR HO_718003.out) hb); have n6_ := Aside0.mk (blk_below (g := gb667) (o := .cells #[.bool a0_0, .bool a0_1, .slice A0_2 l0_2.length c0_2, .slice A0_3 l0_3.length c0_3, .int .i64 a0_4, .int .i64 a0_5, .int .i64 a0_6] 24 (0, 0)) (pkK BK667.out) hb); have n7_ := Aside0.mk (blk_below (g := gb692) (o := .cells #[.bool t680, .bool t681, .slice Ao24 t682.length co24, .slice Ao25 t685.length co25, .int .i64 t688, .int .i64 t689, .int .i64 t690] 27 (0, 0)) (pkK BK692.out) hb); have n8_ := Aside0.mk (blk_below (g := gb704) (o := .cells #[.bool t693, .bool t694, .slice Ao32 t732.length co32, .slice Ao33 t733.length co33, .int .i64 t701, .int .i64 t702, .int .i64 t703] 27 (0, 0)) (pkK BK704.out) hb); have n9_ := Aside0.mk (blk_below (g := gb717) (o := .cells #[.bool t705, .bool t706, .slice Ao40 t707.length co40, .slice Ao41 t710.length co41, .int .i64 t713, .int .i64 t714, .int .i64 t715] 27 (0, 0)) (pkK BK717.out) hb); have n10_ := Aside0.mk (below_step (by repeat (first | (with_reducible first | exact HB.out | apply below_alloc | apply pw_below_drewN | apply below_drew1 | refine below_set ?_ GE667.out | refine below_set ?_ GE692.out | refine below_set ?_ GE704.out | refine below_set ?_ GE717.out) | exact HB.out)) hb); clear HO_693002 HO_693003 HO_705002 HO_705003 HO_718002 HO_718003 BK667 BK692 BK704 BK717 HB; have HO_693002 := n0_; have HO_693003 := n1_; have HO_705002 := n2_; have HO_705003 := n3_; have HO_718002 := n4_; have HO_718003 := n5_; have BK667 := n6_; have BK692 := n7_; have BK704 := n8_; have BK717 := n9_; have HB := n10_; clear n0_ n1_ n2_ n3_ n4_ n5_ n6_ n7_ n8_ n9_ n10_; (try clear hb); (try clear hb2); (try clear hk); (try clear hi); have hnb94 := NB667_692.out; have hnc94 := NB692_667.out; have hnb95 := NB667_704.out; have hnc95 := NB704_667.out; have hcz96_0 : w93.cell? ⟨gb667, 0, none⟩ = some (.bool a0_0) := (blk_cell BK667.out 0).trans rfl; have hcz96_1 : w93.cell? ⟨gb667, 1, none⟩ = some (.bool a0_1) := (blk_cell BK667.out 1).trans rfl; have hcz96_2 : w93.cell? ⟨gb667, 2, none⟩ = some (.slice A0_2 l0_2.length c0_2) := (blk_cell BK667.out 2).trans rfl; have hcz96_3 : w93.cell? ⟨gb667, 3, none⟩ = some (.slice A0_3 l0_3.length c0_3) := (blk_cell BK667.out 3).trans rfl; have hcz96_4 : w93.cell? ⟨gb667, 4, none⟩ = some (.int .i64 a0_4) := (blk_cell BK667.out 4).trans rfl; have hcz96_5 : w93.cell? ⟨gb667, 5, none⟩ = some (.int .i64 a0_5) := (blk_cell BK667.out 5).trans rfl; have hcz96_6 : w93.cell? ⟨gb667, 6, none⟩ = some (.int .i64 a0_6) := (blk_cell BK667.out 6).trans rfl; have hfz96_0 := blk_frozen BK667.out 0; have hfz96_1 := blk_frozen BK667.out 1; have hfz96_2 := blk_frozen BK667.out 2; have hfz96_3 := blk_frozen BK667.out 3; have hfz96_4 := blk_frozen BK667.out 4; have hfz96_5 := blk_frozen BK667.out 5; have hfz96_6 := blk_frozen BK667.out 6) | ((with_reducible refine gate_callee (f := 16) rfl ?_); refine goesL_ (some 79) rfl rfl Try.func16 (by kernel_rfl) rfl #[.agg #[.bool a0_0, .bool a0_1, .slice A0_2 l0_2.length c0_2, .slice A0_3 l0_3.length c0_3, .int .i64 a0_4, .int .i64 a0_5, .int .i64 a0_6]] rfl (by (try simp only [List.map_toArray, List.map_cons, List.map_nil]); first | done | rfl | (simp only [List.length_drop, List.length_take]; rfl) | (go_simp; done) | (simp [*]; done)) ?_; (with_reducible refine (laws_toEvent.calls kj56 a0_0 a0_1 _ _ l0_2 _ _ l0_3 a0_4 a0_5 a0_6 t739 t740 t741 t744 t747 t748 t749 _ ?side1 ?side2 ?side3 ?side4 A84.out).mono ?_); (case side1 => exact pkC (Kd.C_below HR0_2.out HB.out)); (case side2 => exact HC0_2.out); (case side3 => exact pkC (Kd.C_below HR0_3.out HB.out)); (case side4 => exact HC0_3.out); rintro e w97 ⟨v742, v745, rfl, ho0, ho1, hb⟩; refine ⟨_, rfl, ?_⟩; have n0_ := Aside0.mk (Kd.R_mono (Kd.R_told (Kd.R_told (Kd.R_old (pkR HO_693002.out) hb) (Kd.R_base ho0)) (Kd.R_base ho1)) (fun _ h_ => h_.1)); have n1_ := Aside0.mk (Kd.R_mono (Kd.R_told (Kd.R_told (Kd.R_old (pkR HO_693003.out) hb) (Kd.R_base ho0)) (Kd.R_base ho1)) (fun _ h_ => h_.1)); have n2_ := Aside0.mk (Kd.R_mono (Kd.R_told (Kd.R_told (Kd.R_old (pkR HO_705002.out) hb) (Kd.R_base ho0)) (Kd.R_base ho1)) (fun _ h_ => h_.1)); have n3_ := Aside0.mk (Kd.R_mono (Kd.R_told (Kd.R_told (Kd.R_old (pkR HO_705003.out) hb) (Kd.R_base ho0)) (Kd.R_base ho1)) (fun _ h_ => h_.1)); have n4_ := Aside0.mk (Kd.R_mono (Kd.R_told (Kd.R_told (Kd.R_old (pkR HO_718002.out) hb) (Kd.R_base ho0)) (Kd.R_base ho1)) (fun _ h_ => h_.1)); have n5_ := Aside0.mk (Kd.R_mono (Kd.R_told (Kd.R_told (Kd.R_old (pkR HO_718003.out) hb) (Kd.R_base ho0)) (Kd.R_base ho1)) (fun _ h_ => h_.1)); have n6_ := Aside0.mk (Kd.R_lower (Kd.R_new' (Kd.R_new' (Kd.R_new' (Kd.R_new' (Kd.R_new' (Kd.R_new' ho0 (Kd.R_lt (pkR HO_693002.out))) (Kd.R_lt (pkR HO_693003.out))) (Kd.R_lt (pkR HO_705002.out))) (Kd.R_lt (pkR HO_705003.out))) (Kd.R_lt (pkR HO_718002.out))) (Kd.R_lt (pkR HO_718003.out))) (below_size (by repeat (first | (with_reducible first | exact HB.out | apply below_alloc | apply pw_below_drewN | apply below_drew1 | refine below_set ?_ GE667.out | refine below_set ?_ GE692.out | refine below_set ?_ GE704.out | refine below_set ?_ GE717.out) | exact HB.out)))); have n7_ := Aside0.mk (Kd.R_lower (Kd.R_new' (Kd.R_new' (Kd.R_new' (Kd.R_new' (Kd.R_new' (Kd.R_new' ho1 (Kd.R_lt (pkR HO_693002.out))) (Kd.R_lt (pkR HO_693003.out))) (Kd.R_lt (pkR HO_705002.out))) (Kd.R_lt (pkR HO_705003.out))) (Kd.R_lt (pkR HO_718002.out))) (Kd.R_lt (pkR HO_718003.out))) (below_size (by repeat (first | (with_reducible first | exact HB.out | apply below_alloc | apply pw_below_drewN | apply below_drew1 | refine below_set ?_ GE667.out | refine below_set ?_ GE692.out | refine below_set ?_ GE704.out | refine below_set ?_ GE717.out) | exact HB.out)))); have n8_ := Aside0.mk (blk_below (g := gb667) (o := .cells #[.bool a0_0, .bool a0_1, .slice A0_2 l0_2.length c0_2, .slice A0_3 l0_3.length c0_3, .int .i64 a0_4, .int .i64 a0_5, .int .i64 a0_6] 24 (0, 0)) (pkK BK667.out) hb); have n9_ := Aside0.mk (blk_below (g := gb692) (o := .cells #[.bool t680, .bool t681, .slice Ao24 t682.length co24, .slice Ao25 t685.length co25, .int .i64 t688, .int .i64 t689, .int .i64 t690] 27 (0, 0)) (pkK BK692.out) hb); have n10_ := Aside0.mk (blk_below (g := gb704) (o := .cells #[.bool t693, .bool t694, .slice Ao32 t732.length co32, .slice Ao33 t733.length co33, .int .i64 t701, .int .i64 t702, .int .i64 t703] 27 (0, 0)) (pkK BK704.out) hb); have n11_ := Aside0.mk (blk_below (g := gb717) (o := .cells #[.bool t705, .bool t706, .slice Ao40 t707.length co40, .slice Ao41 t710.length co41, .int .i64 t713, .int .i64 t714, .int .i64 t715] 27 (0, 0)) (pkK BK717.out) hb); have n12_ := Aside0.mk (below_step (by repeat (first | (with_reducible first | exact HB.out | apply below_alloc | apply pw_below_drewN | apply below_drew1 | refine below_set ?_ GE667.out | refine below_set ?_ GE692.out | refine below_set ?_ GE704.out | refine below_set ?_ GE717.out) | exact HB.out)) hb); clear HO_693002 HO_693003 HO_705002 HO_705003 HO_718002 HO_718003 BK667 BK692 BK704 BK717 HB; have HO_693002 := n0_; have HO_693003 := n1_; have HO_705002 := n2_; have HO_705003 := n3_; have HO_718002 := n4_; have HO_718003 := n5_; have HO743 := n6_; have HO746 := n7_; have BK667 := n8_; have BK692 := n9_; have BK704 := n10_; have BK717 := n11_; have HB := n12_; clear n0_ n1_ n2_ n3_ n4_ n5_ n6_ n7_ n8_ n9_ n10_ n11_ n12_; (try clear hb); (try clear hb2); (try clear hk); (try clear hi); (try clear ho0); (try clear ho1); obtain ⟨Ao98, co98, eo98⟩ := Kd.R_slice HO743.out; subst eo98; obtain ⟨Ao99, co99, eo99⟩ := Kd.R_slice HO746.out; subst eo99) | ((with_reducible refine gate_callee (f := 31) rfl ?_); refine goesL_ (some 81) rfl rfl Try.func31 (by kernel_rfl) rfl #[.agg #[.bool t739, .bool t740, .slice Ao98 t741.length co98, .slice Ao99 t744.length co99, .int .i64 t747, .int .i64 t748, .int .i64 t749], .int .i64 a1] rfl (by (try simp only [List.map_toArray, List.map_cons, List.map_nil]); first | done | rfl | (simp only [List.length_drop, List.length_take]; rfl) | (go_simp; done) | (simp [*]; done)) ?_; (with_reducible refine (impl_GoOn.calls kj56 t739 t740 _ _ t741 _ _ t744 t747 t748 t749 a1 t750 t751 t752 t755 t758 t759 t760 t761 _ ?side1 ?side2 ?side3 ?side4 A85.out).mono ?_); (case side1 => exact pkC (Kd.R_reads' HO743.out).2.2); (case side2 => exact (Kd.R_reads' HO743.out).2.1); (case side3 => exact pkC (Kd.R_reads' HO746.out).2.2); (case side4 => exact (Kd.R_reads' HO746.out).2.1); rintro e w100 ⟨v753, v756, rfl, ho0, ho1, hb⟩; refine ⟨_, rfl, ?_⟩; have n0_ := Aside0.mk (Kd.R_mono (Kd.R_told (Kd.R_told (Kd.R_old (pkR HO_693002.out) hb) (Kd.R_base ho0)) (Kd.R_base ho1)) (fun _ h_ => h_.1)); have n1_ := Aside0.mk (Kd.R_mono (Kd.R_told (Kd.R_told (Kd.R_old (pkR HO_693003.out) hb) (Kd.R_base ho0)) (Kd.R_base ho1)) (fun _ h_ => h_.1)); have n2_ := Aside0.mk (Kd.R_mono (Kd.R_told (Kd.R_told (Kd.R_old (pkR HO_705002.out) hb) (Kd.R_base ho0)) (Kd.R_base ho1)) (fun _ h_ => h_.1)); have n3_ := Aside0.mk (Kd.R_mono (Kd.R_told (Kd.R_told (Kd.R_old (pkR HO_705003.out) hb) (Kd.R_base ho0)) (Kd.R_base ho1)) (fun _ h_ => h_.1)); have n4_ := Aside0.mk (Kd.R_mono (Kd.R_told (Kd.R_told (Kd.R_old (pkR HO_718002.out) hb) (Kd.R_base ho0)) (Kd.R_base ho1)) (fun _ h_ => h_.1)); have n5_ := Aside0.mk (Kd.R_mono (Kd.R_told (Kd.R_told (Kd.R_old (pkR HO_718003.out) hb) (Kd.R_base ho0)) (Kd.R_base ho1)) (fun _ h_ => h_.1)); have n6_ := Aside0.mk (Kd.R_mono (Kd.R_told (Kd.R_told (Kd.R_old (pkR HO743.out) hb) (Kd.R_base ho0)) (Kd.R_base ho1)) (fun _ h_ => h_.1)); have n7_ := Aside0.mk (Kd.R_mono (Kd.R_told (Kd.R_told (Kd.R_old (pkR HO746.out) hb) (Kd.R_base ho0)) (Kd.R_base ho1)) (fun _ h_ => h_.1)); have n8_ := Aside0.mk (Kd.R_lower (Kd.R_new' (Kd.R_new' (Kd.R_new' (Kd.R_new' (Kd.R_new' (Kd.R_new' (Kd.R_new' (Kd.R_new' ho0 (Kd.R_lt (pkR HO_693002.out))) (Kd.R_lt (pkR HO_693003.out))) (Kd.R_lt (pkR HO_705002.out))) (Kd.R_lt (pkR HO_705003.out))) (Kd.R_lt (pkR HO_718002.out))) (Kd.R_lt (pkR HO_718003.out))) (Kd.R_lt (pkR HO743.out))) (Kd.R_lt (pkR HO746.out))) (below_size (by repeat (first | (with_reducible first | exact HB.out | apply below_alloc | apply pw_below_drewN | apply below_drew1 | refine below_set ?_ GE667.out | refine below_set ?_ GE692.out | refine below_set ?_ GE704.out | refine below_set ?_ GE717.out) | exact HB.out)))); have n9_ := Aside0.mk (Kd.R_lower (Kd.R_new' (Kd.R_new' (Kd.R_new' (Kd.R_new' (Kd.R_new' (Kd.R_new' (Kd.R_new' (Kd.R_new' ho1 (Kd.R_lt (pkR HO_693002.out))) (Kd.R_lt (pkR HO_693003.out))) (Kd.R_lt (pkR HO_705002.out))) (Kd.R_lt (pkR HO_705003.out))) (Kd.R_lt (pkR HO_718002.out))) (Kd.R_lt (pkR HO_718003.out))) (Kd.R_lt (pkR HO743.out))) (Kd.R_lt (pkR HO746.out))) (below_size (by repeat (first | (with_reducible first | exact HB.out | apply below_alloc | apply pw_below_drewN | apply below_drew1 | refine below_set ?_ GE667.out | refine below_set ?_ GE692.out | refine below_set ?_ GE704.out | refine below_set ?_ GE717.out) | exact HB.out)))); have n10_ := Aside0.mk (blk_below (g := gb667) (o := .cells #[.bool a0_0, .bool a0_1, .slice A0_2 l0_2.length c0_2, .slice A0_3 l0_3.length c0_3, .int .i64 a0_4, .int .i64 a0_5, .int .i64 a0_6] 24 (0, 0)) (pkK BK667.out) hb); have n11_ := Aside0.mk (blk_below (g := gb692) (o := .cells #[.bool t680, .bool t681, .slice Ao24 t682.length co24, .slice Ao25 t685.length co25, .int .i64 t688, .int .i64 t689, .int .i64 t690] 27 (0, 0)) (pkK BK692.out) hb); have n12_ := Aside0.mk (blk_below (g := gb704) (o := .cells #[.bool t693, .bool t694, .slice Ao32 t732.length co32, .slice Ao33 t733.length co33, .int .i64 t701, .int .i64 t702, .int .i64 t703] 27 (0, 0)) (pkK BK704.out) hb); have n13_ := Aside0.mk (blk_below (g := gb717) (o := .cells #[.bool t705, .bool t706, .slice Ao40 t707.length co40, .slice Ao41 t710.length co41, .int .i64 t713, .int .i64 t714, .int .i64 t715] 27 (0, 0)) (pkK BK717.out) hb); have n14_ := Aside0.mk (below_step (by repeat (first | (with_reducible first | exact HB.out | apply below_alloc | apply pw_below_drewN | apply below_drew1 | refine below_set ?_ GE667.out | refine below_set ?_ GE692.out | refine below_set ?_ GE704.out | refine below_set ?_ GE717.out) | exact HB.out)) hb); clear HO_693002 HO_693003 HO_705002 HO_705003 HO_718002 HO_718003 HO743 HO746 BK667 BK692 BK704 BK717 HB; have HO_693002 := n0_; have HO_693003 := n1_; have HO_705002 := n2_; have HO_705003 := n3_; have HO_718002 := n4_; have HO_718003 := n5_; have HO743 := n6_; have HO746 := n7_; have HO754 := n8_; have HO757 := n9_; have BK667 := n10_; have BK692 := n11_; have BK704 := n12_; have BK717 := n13_; have HB := n14_; clear n0_ n1_ n2_ n3_ n4_ n5_ n6_ n7_ n8_ n9_ n10_ n11_ n12_ n13_ n14_; (try clear hb); (try clear hb2); (try clear hk); (try clear hi); (try clear ho0); (try clear ho1)) | ((with_reducible refine gate_dst (N := 14) rfl ?_); refine box_event ?hg (N := 14) ?hd (cs := #[.bool false, .bool false, .slice none 0 0, .slice none 0 0, .int .i64 0, .int .i64 0, .int .i64 0]) (t := 27) ?hr ?_; (case hd => rfl); (case hg => rfl); (case hr => first | (go_simp; done) | (go_simp; rfl)); intro gb762 hg w101 hbox hb; have n0_ := Aside0.mk (Kd.R_below (pkR HO_693002.out) hb); have n1_ := Aside0.mk (Kd.R_below (pkR HO_693003.out) hb); have n2_ := Aside0.mk (Kd.R_below (pkR HO_705002.out) hb); have n3_ := Aside0.mk (Kd.R_below (pkR HO_705003.out) hb); have n4_ := Aside0.mk (Kd.R_below (pkR HO_718002.out) hb); have n5_ := Aside0.mk (Kd.R_below (pkR HO_718003.out) hb); have n6_ := Aside0.mk (Kd.R_below (pkR HO743.out) hb); have n7_ := Aside0.mk (Kd.R_below (pkR HO746.out) hb); have n8_ := Aside0.mk (Kd.R_below (pkR HO754.out) hb); have n9_ := Aside0.mk (Kd.R_below (pkR HO757.out) hb); have n10_ := Aside0.mk (blk_below (g := gb667) (o := .cells #[.bool a0_0, .bool a0_1, .slice A0_2 l0_2.length c0_2, .slice A0_3 l0_3.length c0_3, .int .i64 a0_4, .int .i64 a0_5, .int .i64 a0_6] 24 (0, 0)) (pkK BK667.out) hb); have n11_ := Aside0.mk (blk_below (g := gb692) (o := .cells #[.bool t680, .bool t681, .slice Ao24 t682.length co24, .slice Ao25 t685.length co25, .int .i64 t688, .int .i64 t689, .int .i64 t690] 27 (0, 0)) (pkK BK692.out) hb); have n12_ := Aside0.mk (blk_below (g := gb704) (o := .cells #[.bool t693, .bool t694, .slice Ao32 t732.length co32, .slice Ao33 t733.length co33, .int .i64 t701, .int .i64 t702, .int .i64 t703] 27 (0, 0)) (pkK BK704.out) hb); have n13_ := Aside0.mk (blk_below (g := gb717) (o := .cells #[.bool t705, .bool t706, .slice Ao40 t707.length co40, .slice Ao41 t710.length co41, .int .i64 t713, .int .i64 t714, .int .i64 t715] 27 (0, 0)) (pkK BK717.out) hb); have n14_ := Aside0.mk (below_step (by repeat (first | (with_reducible first | exact HB.out | apply below_alloc | apply pw_below_drewN | apply below_drew1 | refine below_set ?_ GE667.out | refine below_set ?_ GE692.out | refine below_set ?_ GE704.out | refine below_set ?_ GE717.out) | exact HB.out)) hb); have n15_ := Aside0.mk (hbox); have n16_ := Aside0.mk ((by rw [hg]; exact (below_size (by repeat (first | (with_reducible first | exact HB.out | apply below_alloc | apply pw_below_drewN | apply below_drew1 | refine below_set ?_ GE667.out | refine below_set ?_ GE692.out | refine below_set ?_ GE704.out | refine below_set ?_ GE717.out) | exact HB.out))) : w.heap.size ≤ gb762)); have n17_ := Aside0.mk ((by rw [hg]; exact (below_size (by repeat (first | (with_reducible first | exact HB.out | apply below_alloc | apply pw_below_drewN | apply below_drew1 | refine below_set ?_ GE667.out | refine below_set ?_ GE692.out | refine below_set ?_ GE704.out | refine below_set ?_ GE717.out) | exact HB.out))) : w.heap.size ≤ gb762)); have n18_ := Aside0.mk ((by rw [hg]; exact Nat.ne_of_lt (blk_lt (g := gb667) (o := .cells #[.bool a0_0, .bool a0_1, .slice A0_2 l0_2.length c0_2, .slice A0_3 l0_3.length c0_3, .int .i64 a0_4, .int .i64 a0_5, .int .i64 a0_6] 24 (0, 0)) (pkK BK667.out)) : gb667 ≠ gb762)); have n19_ := Aside0.mk ((by rw [hg]; exact Nat.ne_of_gt (blk_lt (g := gb667) (o := .cells #[.bool a0_0, .bool a0_1, .slice A0_2 l0_2.length c0_2, .slice A0_3 l0_3.length c0_3, .int .i64 a0_4, .int .i64 a0_5, .int .i64 a0_6] 24 (0, 0)) (pkK BK667.out)) : gb762 ≠ gb667)); have n20_ := Aside0.mk ((by rw [hg]; exact Nat.ne_of_lt (blk_lt (g := gb692) (o := .cells #[.bool t680, .bool t681, .slice Ao24 t682.length co24, .slice Ao25 t685.length co25, .int .i64 t688, .int .i64 t689, .int .i64 t690] 27 (0, 0)) (pkK BK692.out)) : gb692 ≠ gb762)); have n21_ := Aside0.mk ((by rw [hg]; exact Nat.ne_of_gt (blk_lt (g := gb692) (o := .cells #[.bool t680, .bool t681, .slice Ao24 t682.length co24, .slice Ao25 t685.length co25, .int .i64 t688, .int .i64 t689, .int .i64 t690] 27 (0, 0)) (pkK BK692.out)) : gb762 ≠ gb692)); have n22_ := Aside0.mk ((by rw [hg]; exact Nat.ne_of_lt (blk_lt (g := gb704) (o := .cells #[.bool t693, .bool t694, .slice Ao32 t732.length co32, .slice Ao33 t733.length co33, .int .i64 t701, .int .i64 t702, .int .i64 t703] 27 (0, 0)) (pkK BK704.out)) : gb704 ≠ gb762)); have n23_ := Aside0.mk ((by rw [hg]; exact Nat.ne_of_gt (blk_lt (g := gb704) (o := .cells #[.bool t693, .bool t694, .slice Ao32 t732.length co32, .slice Ao33 t733.length co33, .int .i64 t701, .int .i64 t702, .int .i64 t703] 27 (0, 0)) (pkK BK704.out)) : gb762 ≠ gb704)); have n24_ := Aside0.mk ((by rw [hg]; exact Nat.ne_of_lt (blk_lt (g := gb717) (o := .cells #[.bool t705, .bool t706, .slice Ao40 t707.length co40, .slice Ao41 t710.length co41, .int .i64 t713, .int .i64 t714, .int .i64 t715] 27 (0, 0)) (pkK BK717.out)) : gb717 ≠ gb762)); have n25_ := Aside0.mk ((by rw [hg]; exact Nat.ne_of_gt (blk_lt (g := gb717) (o := .cells #[.bool t705, .bool t706, .slice Ao40 t707.length co40, .slice Ao41 t710.length co41, .int .i64 t713, .int .i64 t714, .int .i64 t715] 27 (0, 0)) (pkK BK717.out)) : gb762 ≠ gb717)); clear HO_693002 HO_693003 HO_705002 HO_705003 HO_718002 HO_718003 HO743 HO746 HO754 HO757 BK667 BK692 BK704 BK717 HB; have HO_693002 := n0_; have HO_693003 := n1_; have HO_705002 := n2_; have HO_705003 := n3_; have HO_718002 := n4_; have HO_718003 := n5_; have HO743 := n6_; have HO746 := n7_; have HO754 := n8_; have HO757 := n9_; have BK667 := n10_; have BK692 := n11_; have BK704 := n12_; have BK717 := n13_; have HB := n14_; have BK762 := n15_; have GW762 := n16_; have GE762 := n17_; have NB667_762 := n18_; have NB762_667 := n19_; have NB692_762 := n20_; have NB762_692 := n21_; have NB704_762 := n22_; have NB762_704 := n23_; have NB717_762 := n24_; have NB762_717 := n25_; clear n0_ n1_ n2_ n3_ n4_ n5_ n6_ n7_ n8_ n9_ n10_ n11_ n12_ n13_ n14_ n15_ n16_ n17_ n18_ n19_ n20_ n21_ n22_ n23_ n24_ n25_; clear hb hbox hg; have hnb102 := NB762_667.out; have hnc102 := NB667_762.out; have hnb103 := NB762_692.out; have hnc103 := NB692_762.out; have hnb104 := NB762_704.out; have hnc104 := NB704_762.out; have hnb105 := NB762_717.out; have hnc105 := NB717_762.out; have hcz106_0 : w101.cell? ⟨gb762, 0, none⟩ = some (.bool false) := (blk_cell BK762.out 0).trans rfl; have hcz106_1 : w101.cell? ⟨gb762, 1, none⟩ = some (.bool false) := (blk_cell BK762.out 1).trans rfl; have hcz106_2 : w101.cell? ⟨gb762, 2, none⟩ = some (.slice none 0 0) := (blk_cell BK762.out 2).trans rfl; have hcz106_3 : w101.cell? ⟨gb762, 3, none⟩ = some (.slice none 0 0) := (blk_cell BK762.out 3).trans rfl; have hcz106_4 : w101.cell? ⟨gb762, 4, none⟩ = some (.int .i64 0) := (blk_cell BK762.out 4).trans rfl; have hcz106_5 : w101.cell? ⟨gb762, 5, none⟩ = some (.int .i64 0) := (blk_cell BK762.out 5).trans rfl; have hcz106_6 : w101.cell? ⟨gb762, 6, none⟩ = some (.int .i64 0) := (blk_cell BK762.out 6).trans rfl; have hfz106_0 := blk_frozen BK762.out 0; have hfz106_1 := blk_frozen BK762.out 1; have hfz106_2 := blk_frozen BK762.out 2; have hfz106_3 := blk_frozen BK762.out 3; have hfz106_4 := blk_frozen BK762.out 4; have hfz106_5 := blk_frozen BK762.out 5; have hfz106_6 := blk_frozen BK762.out 6; obtain ⟨Ao107, co107, eo107⟩ := Kd.R_slice HO754.out; subst eo107; obtain ⟨Ao108, co108, eo108⟩ := Kd.R_slice HO757.out; subst eo108))
                      (try simp only [Act.put, List.setIfInBounds_toArray, List.set_cons_zero, List.set_cons_succ])
                      go_cut [92] (fun v92 wc => ∃ (kq : Nat) (x92_85 : Bool), v92 = .bool x92_85 ∧ Aside0 (laws_FnExactGoOn.j2 kq t735 x92_85 t705 t706 t736 t737 t713 t714 t715 = some r) ∧ Aside0 (kq ≤ kj56) ∧ Aside0 (Kd.R (Kd.int .i64) 3 wc w.heap.size (fun k_ => some k_ ≠ ((.slice Ao25 t685.length co25) : Value).ownBlock ∧ some k_ ≠ ((.slice Ao32 t732.length co32) : Value).ownBlock ∧ some k_ ≠ ((.slice Ao33 t733.length co33) : Value).ownBlock ∧ some k_ ≠ ((.slice Ao40 t707.length co40) : Value).ownBlock ∧ some k_ ≠ ((.slice Ao41 t710.length co41) : Value).ownBlock ∧ some k_ ≠ ((.slice Ao107 t752.length co107) : Value).ownBlock ∧ some k_ ≠ ((.slice Ao108 t755.length co108) : Value).ownBlock) (.slice Ao24 t682.length co24) t682) ∧ Aside0 (Kd.R (Kd.int .i64) 3 wc w.heap.size (fun k_ => some k_ ≠ ((.slice Ao24 t682.length co24) : Value).ownBlock ∧ some k_ ≠ ((.slice Ao32 t732.length co32) : Value).ownBlock ∧ some k_ ≠ ((.slice Ao33 t733.length co33) : Value).ownBlock ∧ some k_ ≠ ((.slice Ao40 t707.length co40) : Value).ownBlock ∧ some k_ ≠ ((.slice Ao41 t710.length co41) : Value).ownBlock ∧ some k_ ≠ ((.slice Ao107 t752.length co107) : Value).ownBlock ∧ some k_ ≠ ((.slice Ao108 t755.length co108) : Value).ownBlock) (.slice Ao25 t685.length co25) t685) ∧ Aside0 (Kd.R (Kd.int .i64) 3 wc w.heap.size (fun k_ => some k_ ≠ ((.slice Ao24 t682.length co24) : Value).ownBlock ∧ some k_ ≠ ((.slice Ao25 t685.length co25) : Value).ownBlock ∧ some k_ ≠ ((.slice Ao33 t733.length co33) : Value).ownBlock ∧ some k_ ≠ ((.slice Ao40 t707.length co40) : Value).ownBlock ∧ some k_ ≠ ((.slice Ao41 t710.length co41) : Value).ownBlock ∧ some k_ ≠ ((.slice Ao107 t752.length co107) : Value).ownBlock ∧ some k_ ≠ ((.slice Ao108 t755.length co108) : Value).ownBlock) (.slice Ao32 t732.length co32) t732) ∧ Aside0 (Kd.R (Kd.int .i64) 3 wc w.heap.size (fun k_ => some k_ ≠ ((.slice Ao24 t682.length co24) : Value).ownBlock ∧ some k_ ≠ ((.slice Ao25 t685.length co25) : Value).ownBlock ∧ some k_ ≠ ((.slice Ao32 t732.length co32) : Value).ownBlock ∧ some k_ ≠ ((.slice Ao40 t707.length co40) : Value).ownBlock ∧ some k_ ≠ ((.slice Ao41 t710.length co41) : Value).ownBlock ∧ some k_ ≠ ((.slice Ao107 t752.length co107) : Value).ownBlock ∧ some k_ ≠ ((.slice Ao108 t755.length co108) : Value).ownBlock) (.slice Ao33 t733.length co33) t733) ∧ Aside0 (Kd.R (Kd.int .i64) 3 wc w.heap.size (fun k_ => some k_ ≠ ((.slice Ao24 t682.length co24) : Value).ownBlock ∧ some k_ ≠ ((.slice Ao25 t685.length co25) : Value).ownBlock ∧ some k_ ≠ ((.slice Ao32 t732.length co32) : Value).ownBlock ∧ some k_ ≠ ((.slice Ao33 t733.length co33) : Value).ownBlock ∧ some k_ ≠ ((.slice Ao41 t710.length co41) : Value).ownBlock ∧ some k_ ≠ ((.slice Ao107 t752.length co107) : Value).ownBlock ∧ some k_ ≠ ((.slice Ao108 t755.length co108) : Value).ownBlock) (.slice Ao40 t707.length co40) t736) ∧ Aside0 (Kd.R (Kd.int .i64) 3 wc w.heap.size (fun k_ => some k_ ≠ ((.slice Ao24 t682.length co24) : Value).ownBlock ∧ some k_ ≠ ((.slice Ao25 t685.length co25) : Value).ownBlock ∧ some k_ ≠ ((.slice Ao32 t732.length co32) : Value).ownBlock ∧ some k_ ≠ ((.slice Ao33 t733.length co33) : Value).ownBlock ∧ some k_ ≠ ((.slice Ao40 t707.length co40) : Value).ownBlock ∧ some k_ ≠ ((.slice Ao107 t752.length co107) : Value).ownBlock ∧ some k_ ≠ ((.slice Ao108 t755.length co108) : Value).ownBlock) (.slice Ao41 t710.length co41) t737) ∧ Aside0 (Kd.R (Kd.int .i64) 3 wc w.heap.size (fun k_ => some k_ ≠ ((.slice Ao24 t682.length co24) : Value).ownBlock ∧ some k_ ≠ ((.slice Ao25 t685.length co25) : Value).ownBlock ∧ some k_ ≠ ((.slice Ao32 t732.length co32) : Value).ownBlock ∧ some k_ ≠ ((.slice Ao33 t733.length co33) : Value).ownBlock ∧ some k_ ≠ ((.slice Ao40 t707.length co40) : Value).ownBlock ∧ some k_ ≠ ((.slice Ao41 t710.length co41) : Value).ownBlock ∧ some k_ ≠ ((.slice Ao108 t755.length co108) : Value).ownBlock) (.slice Ao107 t752.length co107) t752) ∧ Aside0 (Kd.R (Kd.int .i64) 3 wc w.heap.size (fun k_ => some k_ ≠ ((.slice Ao24 t682.length co24) : Value).ownBlock ∧ some k_ ≠ ((.slice Ao25 t685.length co25) : Value).ownBlock ∧ some k_ ≠ ((.slice Ao32 t732.length co32) : Value).ownBlock ∧ some k_ ≠ ((.slice Ao33 t733.length co33) : Value).ownBlock ∧ some k_ ≠ ((.slice Ao40 t707.length co40) : Value).ownBlock ∧ some k_ ≠ ((.slice Ao41 t710.length co41) : Value).ownBlock ∧ some k_ ≠ ((.slice Ao107 t752.length co107) : Value).ownBlock) (.slice Ao108 t755.length co108) t755) ∧ Aside0 (wc.heap[gb667]? = some (.cells #[.bool a0_0, .bool a0_1, (.slice A0_2 l0_2.length c0_2), (.slice A0_3 l0_3.length c0_3), .int .i64 a0_4, .int .i64 a0_5, .int .i64 a0_6] 24 (0, 0))) ∧ Aside0 (wc.heap[gb692]? = some (.cells #[.bool t680, .bool t681, (.slice Ao24 t682.length co24), (.slice Ao25 t685.length co25), .int .i64 t688, .int .i64 t689, .int .i64 t690] 27 (0, 0))) ∧ Aside0 (wc.heap[gb704]? = some (.cells #[.bool t693, .bool t694, (.slice Ao32 t732.length co32), (.slice Ao33 t733.length co33), .int .i64 t701, .int .i64 t702, .int .i64 t703] 27 (0, 0))) ∧ Aside0 (wc.heap[gb717]? = some (.cells #[.bool t705, .bool t706, (.slice Ao40 t707.length co40), (.slice Ao41 t710.length co41), .int .i64 t713, .int .i64 t714, .int .i64 t715] 27 (0, 0))) ∧ Aside0 (wc.heap[gb762]? = some (.cells #[.bool t750, .bool t751, (.slice Ao107 t752.length co107), (.slice Ao108 t755.length co108), .int .i64 t758, .int .i64 t759, .int .i64 t760] 27 (0, 0))) ∧ Aside0 (Below w.heap.size w wc))
                      case first =>
                        have H := HC86.out
                        clear HC86
                        replace H := Option.bind_eq_some_iff.mp H
                        obtain ⟨t763, A1090, H⟩ := H
                        replace H : (if t763 = true then (laws_FnExactGoOn.j2 kj56 t735 (t761 != t691) t705 t706 t736 t737 t713 t714 t715) else (laws_FnExactGoOn.j2 kj56 t735 true t705 t706 t736 t737 t713 t714 t715)) = some r := H
                        have A109 := Aside0.mk A1090
                        clear A1090
                        by_cases c110 : t763 = true
                        · subst c110
                          have H1 : (laws_FnExactGoOn.j2 kj56 t735 (t761 != t691) t705 t706 t736 t737 t713 t714 t715) = some r := by rw [if_pos rfl] at H; exact H
                          clear H
                          have H := H1
                          clear H1
                          have H' := Aside0.mk H
                          clear H
                          have hnb111 := NB762_667.out
                          have hnc111 := NB667_762.out
                          have hnb112 := NB762_692.out
                          have hnc112 := NB692_762.out
                          have hnb113 := NB762_704.out
                          have hnc113 := NB704_762.out
                          have hnb114 := NB762_717.out
                          have hnc114 := NB717_762.out
                          have hcz115_0 : w101.cell? ⟨gb762, 0, none⟩ = some (.bool false) := (blk_cell BK762.out 0).trans rfl
                          have hcz115_1 : w101.cell? ⟨gb762, 1, none⟩ = some (.bool false) := (blk_cell BK762.out 1).trans rfl
                          have hcz115_2 : w101.cell? ⟨gb762, 2, none⟩ = some (.slice none 0 0) := (blk_cell BK762.out 2).trans rfl
                          have hcz115_3 : w101.cell? ⟨gb762, 3, none⟩ = some (.slice none 0 0) := (blk_cell BK762.out 3).trans rfl
                          have hcz115_4 : w101.cell? ⟨gb762, 4, none⟩ = some (.int .i64 0) := (blk_cell BK762.out 4).trans rfl
                          have hcz115_5 : w101.cell? ⟨gb762, 5, none⟩ = some (.int .i64 0) := (blk_cell BK762.out 5).trans rfl
                          have hcz115_6 : w101.cell? ⟨gb762, 6, none⟩ = some (.int .i64 0) := (blk_cell BK762.out 6).trans rfl
                          have hfz115_0 := blk_frozen BK762.out 0
                          have hfz115_1 := blk_frozen BK762.out 1
                          have hfz115_2 := blk_frozen BK762.out 2
                          have hfz115_3 := blk_frozen BK762.out 3
                          have hfz115_4 := blk_frozen BK762.out 4
                          have hfz115_5 := blk_frozen BK762.out 5
                          have hfz115_6 := blk_frozen BK762.out 6
                          have hnb116 := NB692_667.out
                          have hnc116 := NB667_692.out
                          have hnb117 := NB692_704.out
                          have hnc117 := NB704_692.out
                          have hnb118 := NB692_717.out
                          have hnc118 := NB717_692.out
                          have hcz119_0 : w101.cell? ⟨gb692, 0, none⟩ = some (.bool t680) := (blk_cell BK692.out 0).trans rfl
                          have hcz119_1 : w101.cell? ⟨gb692, 1, none⟩ = some (.bool t681) := (blk_cell BK692.out 1).trans rfl
                          have hcz119_2 : w101.cell? ⟨gb692, 2, none⟩ = some (.slice Ao24 t682.length co24) := (blk_cell BK692.out 2).trans rfl
                          have hcz119_3 : w101.cell? ⟨gb692, 3, none⟩ = some (.slice Ao25 t685.length co25) := (blk_cell BK692.out 3).trans rfl
                          have hcz119_4 : w101.cell? ⟨gb692, 4, none⟩ = some (.int .i64 t688) := (blk_cell BK692.out 4).trans rfl
                          have hcz119_5 : w101.cell? ⟨gb692, 5, none⟩ = some (.int .i64 t689) := (blk_cell BK692.out 5).trans rfl
                          have hcz119_6 : w101.cell? ⟨gb692, 6, none⟩ = some (.int .i64 t690) := (blk_cell BK692.out 6).trans rfl
                          have hfz119_0 := blk_frozen BK692.out 0
                          have hfz119_1 := blk_frozen BK692.out 1
                          have hfz119_2 := blk_frozen BK692.out 2
                          have hfz119_3 := blk_frozen BK692.out 3
                          have hfz119_4 := blk_frozen BK692.out 4
                          have hfz119_5 := blk_frozen BK692.out 5
                          have hfz119_6 := blk_frozen BK692.out 6
                          go_wp2_with (first | ((with_reducible refine gate_callee (f := 18) rfl ?_); refine goesL_ (some 86) rfl rfl Try.func18 (by kernel_rfl) rfl #[.agg #[.bool t750, .bool t751, .slice Ao107 t752.length co107, .slice Ao108 t755.length co108, .int .i64 t758, .int .i64 t759, .int .i64 t760], .agg #[.bool t680, .bool t681, .slice Ao24 t682.length co24, .slice Ao25 t685.length co25, .int .i64 t688, .int .i64 t689, .int .i64 t690]] rfl (by (try simp only [List.map_toArray, List.map_cons, List.map_nil]); first | done | rfl | (simp only [List.length_drop, List.length_take]; rfl) | (go_simp; done) | (simp [*]; done)) ?_; (with_reducible refine (laws_eqEvent.calls kj56 t750 t751 _ _ t752 _ _ t755 t758 t759 t760 t680 t681 _ _ t682 _ _ t685 t688 t689 t690 true _ ?side1 ?side2 ?side3 ?side4 ?side5 ?side6 ?side7 ?side8 A109.out).mono ?_); (case side1 => refine (Kd.R_reads' (e := 3) (base := w.heap.size) (ok := fun k_ => ((((((((some k_ ≠ (.slice Ao108 t755.length co108 : Value).ownBlock ∧ some k_ ≠ (.slice Ao24 t682.length co24 : Value).ownBlock) ∧ some k_ ≠ (.slice Ao25 t685.length co25 : Value).ownBlock) ∧ some k_ ≠ (.slice Ao32 t732.length co32 : Value).ownBlock) ∧ some k_ ≠ (.slice Ao33 t733.length co33 : Value).ownBlock) ∧ some k_ ≠ (.slice Ao40 t707.length co40 : Value).ownBlock) ∧ some k_ ≠ (.slice Ao41 t710.length co41 : Value).ownBlock) ∧ some k_ ≠ (.slice Ao98 t741.length co98 : Value).ownBlock) ∧ some k_ ≠ (.slice Ao99 t744.length co99 : Value).ownBlock)) (n := t752.length) (c := co107) ?_).2.2; exact (by (with_reducible repeat (first | apply Kd.R_alloc | apply Kd.R_drewN | apply Kd.R_drew)); exact (Kd.R_mono (Kd.R_far (p := ⟨gb762, 6, none⟩) (Kd.R_far (p := ⟨gb762, 5, none⟩) (Kd.R_far (p := ⟨gb762, 4, none⟩) (Kd.R_far (p := ⟨gb762, 3, none⟩) (Kd.R_far (p := ⟨gb762, 2, none⟩) (Kd.R_far (p := ⟨gb762, 1, none⟩) (Kd.R_far (p := ⟨gb762, 0, none⟩) (Kd.R_types HO754.out BK762.out (by decide)) (fun _ hk => hk.2) (.bool t750)) (fun _ hk => hk.2) (.bool t751)) (fun _ hk => hk.2) (.slice Ao107 t752.length co107)) (fun _ hk => hk.2) (.slice Ao108 t755.length co108)) (fun _ hk => hk.2) (.int .i64 t758)) (fun _ hk => hk.2) (.int .i64 t759)) (fun _ hk => hk.2) (.int .i64 t760)) (fun _ h_ => h_.1)))); (case side2 => exact (Kd.R_reads' HO754.out).2.1); (case side3 => refine (Kd.R_reads' (e := 3) (base := w.heap.size) (ok := fun k_ => ((((((((some k_ ≠ (.slice Ao107 t752.length co107 : Value).ownBlock ∧ some k_ ≠ (.slice Ao24 t682.length co24 : Value).ownBlock) ∧ some k_ ≠ (.slice Ao25 t685.length co25 : Value).ownBlock) ∧ some k_ ≠ (.slice Ao32 t732.length co32 : Value).ownBlock) ∧ some k_ ≠ (.slice Ao33 t733.length co33 : Value).ownBlock) ∧ some k_ ≠ (.slice Ao40 t707.length co40 : Value).ownBlock) ∧ some k_ ≠ (.slice Ao41 t710.length co41 : Value).ownBlock) ∧ some k_ ≠ (.slice Ao98 t741.length co98 : Value).ownBlock) ∧ some k_ ≠ (.slice Ao99 t744.length co99 : Value).ownBlock)) (n := t755.length) (c := co108) ?_).2.2; exact (by (with_reducible repeat (first | apply Kd.R_alloc | apply Kd.R_drewN | apply Kd.R_drew)); exact (Kd.R_mono (Kd.R_far (p := ⟨gb762, 6, none⟩) (Kd.R_far (p := ⟨gb762, 5, none⟩) (Kd.R_far (p := ⟨gb762, 4, none⟩) (Kd.R_far (p := ⟨gb762, 3, none⟩) (Kd.R_far (p := ⟨gb762, 2, none⟩) (Kd.R_far (p := ⟨gb762, 1, none⟩) (Kd.R_far (p := ⟨gb762, 0, none⟩) (Kd.R_types HO757.out BK762.out (by decide)) (fun _ hk => hk.2) (.bool t750)) (fun _ hk => hk.2) (.bool t751)) (fun _ hk => hk.2) (.slice Ao107 t752.length co107)) (fun _ hk => hk.2) (.slice Ao108 t755.length co108)) (fun _ hk => hk.2) (.int .i64 t758)) (fun _ hk => hk.2) (.int .i64 t759)) (fun _ hk => hk.2) (.int .i64 t760)) (fun _ h_ => h_.1)))); (case side4 => exact (Kd.R_reads' HO757.out).2.1); (case side5 => refine (Kd.R_reads' (e := 3) (base := w.heap.size) (ok := fun k_ => (((((some k_ ≠ (.slice Ao25 t685.length co25 : Value).ownBlock ∧ (some k_ ≠ (.slice Ao32 t732.length co32 : Value).ownBlock ∧ (some k_ ≠ (.slice Ao33 t733.length co33 : Value).ownBlock ∧ (some k_ ≠ (.slice Ao40 t707.length co40 : Value).ownBlock ∧ some k_ ≠ (.slice Ao41 t710.length co41 : Value).ownBlock)))) ∧ some k_ ≠ (.slice Ao98 t741.length co98 : Value).ownBlock) ∧ some k_ ≠ (.slice Ao99 t744.length co99 : Value).ownBlock) ∧ some k_ ≠ (.slice Ao107 t752.length co107 : Value).ownBlock) ∧ some k_ ≠ (.slice Ao108 t755.length co108 : Value).ownBlock)) (n := t682.length) (c := co24) ?_).2.2; exact (by (with_reducible repeat (first | apply Kd.R_alloc | apply Kd.R_drewN | apply Kd.R_drew)); exact (Kd.R_mono (Kd.R_far (p := ⟨gb762, 6, none⟩) (Kd.R_far (p := ⟨gb762, 5, none⟩) (Kd.R_far (p := ⟨gb762, 4, none⟩) (Kd.R_far (p := ⟨gb762, 3, none⟩) (Kd.R_far (p := ⟨gb762, 2, none⟩) (Kd.R_far (p := ⟨gb762, 1, none⟩) (Kd.R_far (p := ⟨gb762, 0, none⟩) (Kd.R_types HO_693002.out BK762.out (by decide)) (fun _ hk => hk.2) (.bool t750)) (fun _ hk => hk.2) (.bool t751)) (fun _ hk => hk.2) (.slice Ao107 t752.length co107)) (fun _ hk => hk.2) (.slice Ao108 t755.length co108)) (fun _ hk => hk.2) (.int .i64 t758)) (fun _ hk => hk.2) (.int .i64 t759)) (fun _ hk => hk.2) (.int .i64 t760)) (fun _ h_ => h_.1)))); (case side6 => exact (Kd.R_reads' HO_693002.out).2.1); (case side7 => refine (Kd.R_reads' (e := 3) (base := w.heap.size) (ok := fun k_ => (((((some k_ ≠ (.slice Ao24 t682.length co24 : Value).ownBlock ∧ (some k_ ≠ (.slice Ao32 t732.length co32 : Value).ownBlock ∧ (some k_ ≠ (.slice Ao33 t733.length co33 : Value).ownBlock ∧ (some k_ ≠ (.slice Ao40 t707.length co40 : Value).ownBlock ∧ some k_ ≠ (.slice Ao41 t710.length co41 : Value).ownBlock)))) ∧ some k_ ≠ (.slice Ao98 t741.length co98 : Value).ownBlock) ∧ some k_ ≠ (.slice Ao99 t744.length co99 : Value).ownBlock) ∧ some k_ ≠ (.slice Ao107 t752.length co107 : Value).ownBlock) ∧ some k_ ≠ (.slice Ao108 t755.length co108 : Value).ownBlock)) (n := t685.length) (c := co25) ?_).2.2; exact (by (with_reducible repeat (first | apply Kd.R_alloc | apply Kd.R_drewN | apply Kd.R_drew)); exact (Kd.R_mono (Kd.R_far (p := ⟨gb762, 6, none⟩) (Kd.R_far (p := ⟨gb762, 5, none⟩) (Kd.R_far (p := ⟨gb762, 4, none⟩) (Kd.R_far (p := ⟨gb762, 3, none⟩) (Kd.R_far (p := ⟨gb762, 2, none⟩) (Kd.R_far (p := ⟨gb762, 1, none⟩) (Kd.R_far (p := ⟨gb762, 0, none⟩) (Kd.R_types HO_693003.out BK762.out (by decide)) (fun _ hk => hk.2) (.bool t750)) (fun _ hk => hk.2) (.bool t751)) (fun _ hk => hk.2) (.slice Ao107 t752.length co107)) (fun _ hk => hk.2) (.slice Ao108 t755.length co108)) (fun _ hk => hk.2) (.int .i64 t758)) (fun _ hk => hk.2) (.int .i64 t759)) (fun _ hk => hk.2) (.int .i64 t760)) (fun _ h_ => h_.1)))); (case side8 => exact (Kd.R_reads' HO_693003.out).2.1); rintro e w120 ⟨rfl, hb⟩; refine ⟨_, rfl, ?_⟩; have n0_ := Aside0.mk (Kd.R_below (by (with_reducible repeat (first | apply Kd.R_alloc | apply Kd.R_drewN | apply Kd.R_drew)); exact (Kd.R_mono (Kd.R_far (p := ⟨gb762, 6, none⟩) (Kd.R_far (p := ⟨gb762, 5, none⟩) (Kd.R_far (p := ⟨gb762, 4, none⟩) (Kd.R_far (p := ⟨gb762, 3, none⟩) (Kd.R_far (p := ⟨gb762, 2, none⟩) (Kd.R_far (p := ⟨gb762, 1, none⟩) (Kd.R_far (p := ⟨gb762, 0, none⟩) (Kd.R_types HO_693002.out BK762.out (by decide)) (fun _ hk => hk.2) (.bool t750)) (fun _ hk => hk.2) (.bool t751)) (fun _ hk => hk.2) (.slice Ao107 t752.length co107)) (fun _ hk => hk.2) (.slice Ao108 t755.length co108)) (fun _ hk => hk.2) (.int .i64 t758)) (fun _ hk => hk.2) (.int .i64 t759)) (fun _ hk => hk.2) (.int .i64 t760)) (fun _ h_ => h_.1))) hb); have n1_ := Aside0.mk (Kd.R_below (by (with_reducible repeat (first | apply Kd.R_alloc | apply Kd.R_drewN | apply Kd.R_drew)); exact (Kd.R_mono (Kd.R_far (p := ⟨gb762, 6, none⟩) (Kd.R_far (p := ⟨gb762, 5, none⟩) (Kd.R_far (p := ⟨gb762, 4, none⟩) (Kd.R_far (p := ⟨gb762, 3, none⟩) (Kd.R_far (p := ⟨gb762, 2, none⟩) (Kd.R_far (p := ⟨gb762, 1, none⟩) (Kd.R_far (p := ⟨gb762, 0, none⟩) (Kd.R_types HO_693003.out BK762.out (by decide)) (fun _ hk => hk.2) (.bool t750)) (fun _ hk => hk.2) (.bool t751)) (fun _ hk => hk.2) (.slice Ao107 t752.length co107)) (fun _ hk => hk.2) (.slice Ao108 t755.length co108)) (fun _ hk => hk.2) (.int .i64 t758)) (fun _ hk => hk.2) (.int .i64 t759)) (fun _ hk => hk.2) (.int .i64 t760)) (fun _ h_ => h_.1))) hb); have n2_ := Aside0.mk (Kd.R_below (by (with_reducible repeat (first | apply Kd.R_alloc | apply Kd.R_drewN | apply Kd.R_drew)); exact (Kd.R_mono (Kd.R_far (p := ⟨gb762, 6, none⟩) (Kd.R_far (p := ⟨gb762, 5, none⟩) (Kd.R_far (p := ⟨gb762, 4, none⟩) (Kd.R_far (p := ⟨gb762, 3, none⟩) (Kd.R_far (p := ⟨gb762, 2, none⟩) (Kd.R_far (p := ⟨gb762, 1, none⟩) (Kd.R_far (p := ⟨gb762, 0, none⟩) (Kd.R_types HO_705002.out BK762.out (by decide)) (fun _ hk => hk.2) (.bool t750)) (fun _ hk => hk.2) (.bool t751)) (fun _ hk => hk.2) (.slice Ao107 t752.length co107)) (fun _ hk => hk.2) (.slice Ao108 t755.length co108)) (fun _ hk => hk.2) (.int .i64 t758)) (fun _ hk => hk.2) (.int .i64 t759)) (fun _ hk => hk.2) (.int .i64 t760)) (fun _ h_ => h_.1))) hb); have n3_ := Aside0.mk (Kd.R_below (by (with_reducible repeat (first | apply Kd.R_alloc | apply Kd.R_drewN | apply Kd.R_drew)); exact (Kd.R_mono (Kd.R_far (p := ⟨gb762, 6, none⟩) (Kd.R_far (p := ⟨gb762, 5, none⟩) (Kd.R_far (p := ⟨gb762, 4, none⟩) (Kd.R_far (p := ⟨gb762, 3, none⟩) (Kd.R_far (p := ⟨gb762, 2, none⟩) (Kd.R_far (p := ⟨gb762, 1, none⟩) (Kd.R_far (p := ⟨gb762, 0, none⟩) (Kd.R_types HO_705003.out BK762.out (by decide)) (fun _ hk => hk.2) (.bool t750)) (fun _ hk => hk.2) (.bool t751)) (fun _ hk => hk.2) (.slice Ao107 t752.length co107)) (fun _ hk => hk.2) (.slice Ao108 t755.length co108)) (fun _ hk => hk.2) (.int .i64 t758)) (fun _ hk => hk.2) (.int .i64 t759)) (fun _ hk => hk.2) (.int .i64 t760)) (fun _ h_ => h_.1))) hb); have n4_ := Aside0.mk (Kd.R_below (by (with_reducible repeat (first | apply Kd.R_alloc | apply Kd.R_drewN | apply Kd.R_drew)); exact (Kd.R_mono (Kd.R_far (p := ⟨gb762, 6, none⟩) (Kd.R_far (p := ⟨gb762, 5, none⟩) (Kd.R_far (p := ⟨gb762, 4, none⟩) (Kd.R_far (p := ⟨gb762, 3, none⟩) (Kd.R_far (p := ⟨gb762, 2, none⟩) (Kd.R_far (p := ⟨gb762, 1, none⟩) (Kd.R_far (p := ⟨gb762, 0, none⟩) (Kd.R_types HO_718002.out BK762.out (by decide)) (fun _ hk => hk.2) (.bool t750)) (fun _ hk => hk.2) (.bool t751)) (fun _ hk => hk.2) (.slice Ao107 t752.length co107)) (fun _ hk => hk.2) (.slice Ao108 t755.length co108)) (fun _ hk => hk.2) (.int .i64 t758)) (fun _ hk => hk.2) (.int .i64 t759)) (fun _ hk => hk.2) (.int .i64 t760)) (fun _ h_ => h_.1))) hb); have n5_ := Aside0.mk (Kd.R_below (by (with_reducible repeat (first | apply Kd.R_alloc | apply Kd.R_drewN | apply Kd.R_drew)); exact (Kd.R_mono (Kd.R_far (p := ⟨gb762, 6, none⟩) (Kd.R_far (p := ⟨gb762, 5, none⟩) (Kd.R_far (p := ⟨gb762, 4, none⟩) (Kd.R_far (p := ⟨gb762, 3, none⟩) (Kd.R_far (p := ⟨gb762, 2, none⟩) (Kd.R_far (p := ⟨gb762, 1, none⟩) (Kd.R_far (p := ⟨gb762, 0, none⟩) (Kd.R_types HO_718003.out BK762.out (by decide)) (fun _ hk => hk.2) (.bool t750)) (fun _ hk => hk.2) (.bool t751)) (fun _ hk => hk.2) (.slice Ao107 t752.length co107)) (fun _ hk => hk.2) (.slice Ao108 t755.length co108)) (fun _ hk => hk.2) (.int .i64 t758)) (fun _ hk => hk.2) (.int .i64 t759)) (fun _ hk => hk.2) (.int .i64 t760)) (fun _ h_ => h_.1))) hb); have n6_ := Aside0.mk (Kd.R_below (by (with_reducible repeat (first | apply Kd.R_alloc | apply Kd.R_drewN | apply Kd.R_drew)); exact (Kd.R_mono (Kd.R_far (p := ⟨gb762, 6, none⟩) (Kd.R_far (p := ⟨gb762, 5, none⟩) (Kd.R_far (p := ⟨gb762, 4, none⟩) (Kd.R_far (p := ⟨gb762, 3, none⟩) (Kd.R_far (p := ⟨gb762, 2, none⟩) (Kd.R_far (p := ⟨gb762, 1, none⟩) (Kd.R_far (p := ⟨gb762, 0, none⟩) (Kd.R_types HO743.out BK762.out (by decide)) (fun _ hk => hk.2) (.bool t750)) (fun _ hk => hk.2) (.bool t751)) (fun _ hk => hk.2) (.slice Ao107 t752.length co107)) (fun _ hk => hk.2) (.slice Ao108 t755.length co108)) (fun _ hk => hk.2) (.int .i64 t758)) (fun _ hk => hk.2) (.int .i64 t759)) (fun _ hk => hk.2) (.int .i64 t760)) (fun _ h_ => h_.1))) hb); have n7_ := Aside0.mk (Kd.R_below (by (with_reducible repeat (first | apply Kd.R_alloc | apply Kd.R_drewN | apply Kd.R_drew)); exact (Kd.R_mono (Kd.R_far (p := ⟨gb762, 6, none⟩) (Kd.R_far (p := ⟨gb762, 5, none⟩) (Kd.R_far (p := ⟨gb762, 4, none⟩) (Kd.R_far (p := ⟨gb762, 3, none⟩) (Kd.R_far (p := ⟨gb762, 2, none⟩) (Kd.R_far (p := ⟨gb762, 1, none⟩) (Kd.R_far (p := ⟨gb762, 0, none⟩) (Kd.R_types HO746.out BK762.out (by decide)) (fun _ hk => hk.2) (.bool t750)) (fun _ hk => hk.2) (.bool t751)) (fun _ hk => hk.2) (.slice Ao107 t752.length co107)) (fun _ hk => hk.2) (.slice Ao108 t755.length co108)) (fun _ hk => hk.2) (.int .i64 t758)) (fun _ hk => hk.2) (.int .i64 t759)) (fun _ hk => hk.2) (.int .i64 t760)) (fun _ h_ => h_.1))) hb); have n8_ := Aside0.mk (Kd.R_below (by (with_reducible repeat (first | apply Kd.R_alloc | apply Kd.R_drewN | apply Kd.R_drew)); exact (Kd.R_mono (Kd.R_far (p := ⟨gb762, 6, none⟩) (Kd.R_far (p := ⟨gb762, 5, none⟩) (Kd.R_far (p := ⟨gb762, 4, none⟩) (Kd.R_far (p := ⟨gb762, 3, none⟩) (Kd.R_far (p := ⟨gb762, 2, none⟩) (Kd.R_far (p := ⟨gb762, 1, none⟩) (Kd.R_far (p := ⟨gb762, 0, none⟩) (Kd.R_types HO754.out BK762.out (by decide)) (fun _ hk => hk.2) (.bool t750)) (fun _ hk => hk.2) (.bool t751)) (fun _ hk => hk.2) (.slice Ao107 t752.length co107)) (fun _ hk => hk.2) (.slice Ao108 t755.length co108)) (fun _ hk => hk.2) (.int .i64 t758)) (fun _ hk => hk.2) (.int .i64 t759)) (fun _ hk => hk.2) (.int .i64 t760)) (fun _ h_ => h_.1))) hb); have n9_ := Aside0.mk (Kd.R_below (by (with_reducible repeat (first | apply Kd.R_alloc | apply Kd.R_drewN | apply Kd.R_drew)); exact (Kd.R_mono (Kd.R_far (p := ⟨gb762, 6, none⟩) (Kd.R_far (p := ⟨gb762, 5, none⟩) (Kd.R_far (p := ⟨gb762, 4, none⟩) (Kd.R_far (p := ⟨gb762, 3, none⟩) (Kd.R_far (p := ⟨gb762, 2, none⟩) (Kd.R_far (p := ⟨gb762, 1, none⟩) (Kd.R_far (p := ⟨gb762, 0, none⟩) (Kd.R_types HO757.out BK762.out (by decide)) (fun _ hk => hk.2) (.bool t750)) (fun _ hk => hk.2) (.bool t751)) (fun _ hk => hk.2) (.slice Ao107 t752.length co107)) (fun _ hk => hk.2) (.slice Ao108 t755.length co108)) (fun _ hk => hk.2) (.int .i64 t758)) (fun _ hk => hk.2) (.int .i64 t759)) (fun _ hk => hk.2) (.int .i64 t760)) (fun _ h_ => h_.1))) hb); have n10_ := Aside0.mk (blk_below (g := gb667) (o := .cells #[.bool a0_0, .bool a0_1, .slice A0_2 l0_2.length c0_2, .slice A0_3 l0_3.length c0_3, .int .i64 a0_4, .int .i64 a0_5, .int .i64 a0_6] 24 (0, 0)) (by (with_reducible repeat (first | refine blk_drewN ?_ _ | refine blk_drew ?_ | refine blk_alloc ?_ _)); refine blk_far ?_ NB667_762.out _; (with_reducible repeat (first | refine blk_drewN ?_ _ | refine blk_drew ?_ | refine blk_alloc ?_ _)); refine blk_far ?_ NB667_762.out _; (with_reducible repeat (first | refine blk_drewN ?_ _ | refine blk_drew ?_ | refine blk_alloc ?_ _)); refine blk_far ?_ NB667_762.out _; (with_reducible repeat (first | refine blk_drewN ?_ _ | refine blk_drew ?_ | refine blk_alloc ?_ _)); refine blk_far ?_ NB667_762.out _; (with_reducible repeat (first | refine blk_drewN ?_ _ | refine blk_drew ?_ | refine blk_alloc ?_ _)); refine blk_far ?_ NB667_762.out _; (with_reducible repeat (first | refine blk_drewN ?_ _ | refine blk_drew ?_ | refine blk_alloc ?_ _)); refine blk_far ?_ NB667_762.out _; (with_reducible repeat (first | refine blk_drewN ?_ _ | refine blk_drew ?_ | refine blk_alloc ?_ _)); refine blk_far ?_ NB667_762.out _; (with_reducible repeat (first | refine blk_drewN ?_ _ | refine blk_drew ?_ | refine blk_alloc ?_ _)); exact BK667.out) hb); have n11_ := Aside0.mk (blk_below (g := gb692) (o := .cells #[.bool t680, .bool t681, .slice Ao24 t682.length co24, .slice Ao25 t685.length co25, .int .i64 t688, .int .i64 t689, .int .i64 t690] 27 (0, 0)) (by (with_reducible repeat (first | refine blk_drewN ?_ _ | refine blk_drew ?_ | refine blk_alloc ?_ _)); refine blk_far ?_ NB692_762.out _; (with_reducible repeat (first | refine blk_drewN ?_ _ | refine blk_drew ?_ | refine blk_alloc ?_ _)); refine blk_far ?_ NB692_762.out _; (with_reducible repeat (first | refine blk_drewN ?_ _ | refine blk_drew ?_ | refine blk_alloc ?_ _)); refine blk_far ?_ NB692_762.out _; (with_reducible repeat (first | refine blk_drewN ?_ _ | refine blk_drew ?_ | refine blk_alloc ?_ _)); refine blk_far ?_ NB692_762.out _; (with_reducible repeat (first | refine blk_drewN ?_ _ | refine blk_drew ?_ | refine blk_alloc ?_ _)); refine blk_far ?_ NB692_762.out _; (with_reducible repeat (first | refine blk_drewN ?_ _ | refine blk_drew ?_ | refine blk_alloc ?_ _)); refine blk_far ?_ NB692_762.out _; (with_reducible repeat (first | refine blk_drewN ?_ _ | refine blk_drew ?_ | refine blk_alloc ?_ _)); refine blk_far ?_ NB692_762.out _; (with_reducible repeat (first | refine blk_drewN ?_ _ | refine blk_drew ?_ | refine blk_alloc ?_ _)); exact BK692.out) hb); have n12_ := Aside0.mk (blk_below (g := gb704) (o := .cells #[.bool t693, .bool t694, .slice Ao32 t732.length co32, .slice Ao33 t733.length co33, .int .i64 t701, .int .i64 t702, .int .i64 t703] 27 (0, 0)) (by (with_reducible repeat (first | refine blk_drewN ?_ _ | refine blk_drew ?_ | refine blk_alloc ?_ _)); refine blk_far ?_ NB704_762.out _; (with_reducible repeat (first | refine blk_drewN ?_ _ | refine blk_drew ?_ | refine blk_alloc ?_ _)); refine blk_far ?_ NB704_762.out _; (with_reducible repeat (first | refine blk_drewN ?_ _ | refine blk_drew ?_ | refine blk_alloc ?_ _)); refine blk_far ?_ NB704_762.out _; (with_reducible repeat (first | refine blk_drewN ?_ _ | refine blk_drew ?_ | refine blk_alloc ?_ _)); refine blk_far ?_ NB704_762.out _; (with_reducible repeat (first | refine blk_drewN ?_ _ | refine blk_drew ?_ | refine blk_alloc ?_ _)); refine blk_far ?_ NB704_762.out _; (with_reducible repeat (first | refine blk_drewN ?_ _ | refine blk_drew ?_ | refine blk_alloc ?_ _)); refine blk_far ?_ NB704_762.out _; (with_reducible repeat (first | refine blk_drewN ?_ _ | refine blk_drew ?_ | refine blk_alloc ?_ _)); refine blk_far ?_ NB704_762.out _; (with_reducible repeat (first | refine blk_drewN ?_ _ | refine blk_drew ?_ | refine blk_alloc ?_ _)); exact BK704.out) hb); have n13_ := Aside0.mk (blk_below (g := gb717) (o := .cells #[.bool t705, .bool t706, .slice Ao40 t707.length co40, .slice Ao41 t710.length co41, .int .i64 t713, .int .i64 t714, .int .i64 t715] 27 (0, 0)) (by (with_reducible repeat (first | refine blk_drewN ?_ _ | refine blk_drew ?_ | refine blk_alloc ?_ _)); refine blk_far ?_ NB717_762.out _; (with_reducible repeat (first | refine blk_drewN ?_ _ | refine blk_drew ?_ | refine blk_alloc ?_ _)); refine blk_far ?_ NB717_762.out _; (with_reducible repeat (first | refine blk_drewN ?_ _ | refine blk_drew ?_ | refine blk_alloc ?_ _)); refine blk_far ?_ NB717_762.out _; (with_reducible repeat (first | refine blk_drewN ?_ _ | refine blk_drew ?_ | refine blk_alloc ?_ _)); refine blk_far ?_ NB717_762.out _; (with_reducible repeat (first | refine blk_drewN ?_ _ | refine blk_drew ?_ | refine blk_alloc ?_ _)); refine blk_far ?_ NB717_762.out _; (with_reducible repeat (first | refine blk_drewN ?_ _ | refine blk_drew ?_ | refine blk_alloc ?_ _)); refine blk_far ?_ NB717_762.out _; (with_reducible repeat (first | refine blk_drewN ?_ _ | refine blk_drew ?_ | refine blk_alloc ?_ _)); refine blk_far ?_ NB717_762.out _; (with_reducible repeat (first | refine blk_drewN ?_ _ | refine blk_drew ?_ | refine blk_alloc ?_ _)); exact BK717.out) hb); have n14_ := Aside0.mk (blk_below (g := gb762) (o := .cells #[.bool t750, .bool t751, .slice Ao107 t752.length co107, .slice Ao108 t755.length co108, .int .i64 t758, .int .i64 t759, .int .i64 t760] 27 (0, 0)) (by (with_reducible repeat (first | refine blk_drewN ?_ _ | refine blk_drew ?_ | refine blk_alloc ?_ _)); refine blk_put (cs := #[.bool t750, .bool t751, .slice Ao107 t752.length co107, .slice Ao108 t755.length co108, .int .i64 t758, .int .i64 t759, .int .i64 0]) ?_ 6 _ rfl; (with_reducible repeat (first | refine blk_drewN ?_ _ | refine blk_drew ?_ | refine blk_alloc ?_ _)); refine blk_put (cs := #[.bool t750, .bool t751, .slice Ao107 t752.length co107, .slice Ao108 t755.length co108, .int .i64 t758, .int .i64 0, .int .i64 0]) ?_ 5 _ rfl; (with_reducible repeat (first | refine blk_drewN ?_ _ | refine blk_drew ?_ | refine blk_alloc ?_ _)); refine blk_put (cs := #[.bool t750, .bool t751, .slice Ao107 t752.length co107, .slice Ao108 t755.length co108, .int .i64 0, .int .i64 0, .int .i64 0]) ?_ 4 _ rfl; (with_reducible repeat (first | refine blk_drewN ?_ _ | refine blk_drew ?_ | refine blk_alloc ?_ _)); refine blk_put (cs := #[.bool t750, .bool t751, .slice Ao107 t752.length co107, .slice none 0 0, .int .i64 0, .int .i64 0, .int .i64 0]) ?_ 3 _ rfl; (with_reducible repeat (first | refine blk_drewN ?_ _ | refine blk_drew ?_ | refine blk_alloc ?_ _)); refine blk_put (cs := #[.bool t750, .bool t751, .slice none 0 0, .slice none 0 0, .int .i64 0, .int .i64 0, .int .i64 0]) ?_ 2 _ rfl; (with_reducible repeat (first | refine blk_drewN ?_ _ | refine blk_drew ?_ | refine blk_alloc ?_ _)); refine blk_put (cs := #[.bool t750, .bool false, .slice none 0 0, .slice none 0 0, .int .i64 0, .int .i64 0, .int .i64 0]) ?_ 1 _ rfl; (with_reducible repeat (first | refine blk_drewN ?_ _ | refine blk_drew ?_ | refine blk_alloc ?_ _)); refine blk_put (cs := #[.bool false, .bool false, .slice none 0 0, .slice none 0 0, .int .i64 0, .int .i64 0, .int .i64 0]) ?_ 0 _ rfl; (with_reducible repeat (first | refine blk_drewN ?_ _ | refine blk_drew ?_ | refine blk_alloc ?_ _)); exact BK762.out) hb); have n15_ := Aside0.mk (below_step (by repeat (first | (with_reducible first | exact HB.out | apply below_alloc | apply pw_below_drewN | apply below_drew1 | refine below_set ?_ GE667.out | refine below_set ?_ GE692.out | refine below_set ?_ GE704.out | refine below_set ?_ GE717.out | refine below_set ?_ GE762.out) | exact HB.out)) hb); clear HO_693002 HO_693003 HO_705002 HO_705003 HO_718002 HO_718003 HO743 HO746 HO754 HO757 BK667 BK692 BK704 BK717 BK762 HB; have HO_693002 := n0_; have HO_693003 := n1_; have HO_705002 := n2_; have HO_705003 := n3_; have HO_718002 := n4_; have HO_718003 := n5_; have HO743 := n6_; have HO746 := n7_; have HO754 := n8_; have HO757 := n9_; have BK667 := n10_; have BK692 := n11_; have BK704 := n12_; have BK717 := n13_; have BK762 := n14_; have HB := n15_; clear n0_ n1_ n2_ n3_ n4_ n5_ n6_ n7_ n8_ n9_ n10_ n11_ n12_ n13_ n14_ n15_; (try clear hb); (try clear hb2); (try clear hk); (try clear hi)))
                          go_meet
                          case rel => exact ⟨_, ((t761 != t691)), (by first | rfl | (simp; done) | (simp [*]; done)), H', ⟨by have := HJ11.out; have := HJ56.out; first | omega | exact Nat.le_refl _⟩, ⟨by (try simp only [hl705002_56]); (try simp only [hl705003_56]); (with_reducible repeat (first | apply Kd.R_alloc | apply Kd.R_drewN | apply Kd.R_drew)); exact Kd.R_mono HO_693002.out (fun _ hk => ⟨hk.1.1.1.1.1, ⟨hk.1.1.1.1.2.1, ⟨hk.1.1.1.1.2.2.1, ⟨hk.1.1.1.1.2.2.2.1, ⟨hk.1.1.1.1.2.2.2.2, ⟨hk.1.2, hk.2⟩⟩⟩⟩⟩⟩)⟩, ⟨by (try simp only [hl705002_56]); (try simp only [hl705003_56]); (with_reducible repeat (first | apply Kd.R_alloc | apply Kd.R_drewN | apply Kd.R_drew)); exact Kd.R_mono HO_693003.out (fun _ hk => ⟨hk.1.1.1.1.1, ⟨hk.1.1.1.1.2.1, ⟨hk.1.1.1.1.2.2.1, ⟨hk.1.1.1.1.2.2.2.1, ⟨hk.1.1.1.1.2.2.2.2, ⟨hk.1.2, hk.2⟩⟩⟩⟩⟩⟩)⟩, ⟨by (try simp only [hl705002_56]); (try simp only [hl705003_56]); (with_reducible repeat (first | apply Kd.R_alloc | apply Kd.R_drewN | apply Kd.R_drew)); exact Kd.R_mono HO_705002.out (fun _ hk => ⟨hk.1.1.1.1.1, ⟨hk.1.1.1.1.2.1, ⟨hk.1.1.1.1.2.2.1, ⟨hk.1.1.1.1.2.2.2.1, ⟨hk.1.1.1.1.2.2.2.2, ⟨hk.1.2, hk.2⟩⟩⟩⟩⟩⟩)⟩, ⟨by (try simp only [hl705002_56]); (try simp only [hl705003_56]); (with_reducible repeat (first | apply Kd.R_alloc | apply Kd.R_drewN | apply Kd.R_drew)); exact Kd.R_mono HO_705003.out (fun _ hk => ⟨hk.1.1.1.1.1, ⟨hk.1.1.1.1.2.1, ⟨hk.1.1.1.1.2.2.1, ⟨hk.1.1.1.1.2.2.2.1, ⟨hk.1.1.1.1.2.2.2.2, ⟨hk.1.2, hk.2⟩⟩⟩⟩⟩⟩)⟩, ⟨by (try simp only [hl705002_56]); (try simp only [hl705003_56]); (with_reducible repeat (first | apply Kd.R_alloc | apply Kd.R_drewN | apply Kd.R_drew)); exact Kd.R_mono HO_718002.out (fun _ hk => ⟨hk.1.1.1.1.1, ⟨hk.1.1.1.1.2.1, ⟨hk.1.1.1.1.2.2.1, ⟨hk.1.1.1.1.2.2.2.1, ⟨hk.1.1.1.1.2.2.2.2, ⟨hk.1.2, hk.2⟩⟩⟩⟩⟩⟩)⟩, ⟨by (try simp only [hl705002_56]); (try simp only [hl705003_56]); (with_reducible repeat (first | apply Kd.R_alloc | apply Kd.R_drewN | apply Kd.R_drew)); exact Kd.R_mono HO_718003.out (fun _ hk => ⟨hk.1.1.1.1.1, ⟨hk.1.1.1.1.2.1, ⟨hk.1.1.1.1.2.2.1, ⟨hk.1.1.1.1.2.2.2.1, ⟨hk.1.1.1.1.2.2.2.2, ⟨hk.1.2, hk.2⟩⟩⟩⟩⟩⟩)⟩, ⟨by (try simp only [hl705002_56]); (try simp only [hl705003_56]); (with_reducible repeat (first | apply Kd.R_alloc | apply Kd.R_drewN | apply Kd.R_drew)); exact Kd.R_mono HO754.out (fun _ hk => ⟨hk.1.1.1.1.1.1.1.2, ⟨hk.1.1.1.1.1.1.2, ⟨hk.1.1.1.1.1.2, ⟨hk.1.1.1.1.2, ⟨hk.1.1.1.2, ⟨hk.1.1.2, hk.1.1.1.1.1.1.1.1⟩⟩⟩⟩⟩⟩)⟩, ⟨by (try simp only [hl705002_56]); (try simp only [hl705003_56]); (with_reducible repeat (first | apply Kd.R_alloc | apply Kd.R_drewN | apply Kd.R_drew)); exact Kd.R_mono HO757.out (fun _ hk => ⟨hk.1.1.1.1.1.1.1.2, ⟨hk.1.1.1.1.1.1.2, ⟨hk.1.1.1.1.1.2, ⟨hk.1.1.1.1.2, ⟨hk.1.1.1.2, ⟨hk.1.1.2, hk.1.1.1.1.1.1.1.1⟩⟩⟩⟩⟩⟩)⟩, ⟨by (try simp only [hl705002_56]); (try simp only [hl705003_56]); (with_reducible repeat (first | refine blk_drewN ?_ _ | refine blk_drew ?_ | refine blk_alloc ?_ _)); exact BK667.out⟩, ⟨by (try simp only [hl705002_56]); (try simp only [hl705003_56]); (with_reducible repeat (first | refine blk_drewN ?_ _ | refine blk_drew ?_ | refine blk_alloc ?_ _)); exact BK692.out⟩, ⟨by (try simp only [hl705002_56]); (try simp only [hl705003_56]); (with_reducible repeat (first | refine blk_drewN ?_ _ | refine blk_drew ?_ | refine blk_alloc ?_ _)); exact BK704.out⟩, ⟨by (try simp only [hl705002_56]); (try simp only [hl705003_56]); (with_reducible repeat (first | refine blk_drewN ?_ _ | refine blk_drew ?_ | refine blk_alloc ?_ _)); exact BK717.out⟩, ⟨by (try simp only [hl705002_56]); (try simp only [hl705003_56]); (with_reducible repeat (first | refine blk_drewN ?_ _ | refine blk_drew ?_ | refine blk_alloc ?_ _)); exact BK762.out⟩, ⟨by repeat (first | (with_reducible first | exact HB.out | apply below_alloc | apply pw_below_drewN | apply below_drew1 | refine below_set ?_ GE667.out | refine below_set ?_ GE692.out | refine below_set ?_ GE704.out | refine below_set ?_ GE717.out | refine below_set ?_ GE762.out) | exact HB.out)⟩⟩
                        · replace c110 := Bool.eq_false_iff.mpr c110
                          subst c110
                          have H1 : (laws_FnExactGoOn.j2 kj56 t735 true t705 t706 t736 t737 t713 t714 t715) = some r := by rw [if_neg (show ¬ (false = true) by decide)] at H; exact H
                          clear H
                          have H := H1
                          clear H1
                          cases kj56 with
                          | zero => exact absurd H (by simp [laws_FnExactGoOn.j2])
                          | succ k_ => (simp only [laws_FnExactGoOn.j2, if_pos] at H; exact absurd (Option.some.inj H) (by rw [HQ_.out]; simp))
                      case rest =>
                        clear HC86
                        try clear c1
                        try clear c2
                        try clear p2
                        try clear c3
                        try clear c4
                        try clear c4b0
                        try clear c5
                        try clear c6
                        try clear c7
                        try clear c8
                        try clear c9
                        try clear c10
                        try clear c11
                        try clear c14
                        try clear c16
                        try clear c18
                        try clear c22
                        try clear c26
                        try clear c27
                        try clear c29
                        try clear c30
                        try clear c31
                        try clear c36
                        try clear c37
                        try clear c38
                        try clear c43
                        try clear c44
                        try clear c45
                        try clear c46
                        try clear c48
                        try clear c49
                        try clear c52
                        try clear c55
                        try clear c63
                        try clear c64
                        try clear c65
                        try clear c68
                        try clear c68b0
                        try clear c70
                        try clear c71
                        try clear c72
                        try clear c73
                        try clear c75
                        try clear c76
                        try clear c79
                        try clear c82
                        try clear c82b0
                        try clear c83
                        try clear c83b0
                        try clear c83b1
                        try clear c87
                        try clear c88
                        try clear c89
                        try clear c94
                        try clear c95
                        try clear c102
                        try clear c103
                        try clear c104
                        try clear c105
                        try clear c110
                        try clear c111
                        try clear c112
                        try clear c113
                        try clear c114
                        try clear c116
                        try clear c117
                        try clear c118
                        try clear hcz106_0
                        try clear hcz106_1
                        try clear hcz106_2
                        try clear hcz106_3
                        try clear hcz106_4
                        try clear hcz106_5
                        try clear hcz106_6
                        try clear hcz115_0
                        try clear hcz115_1
                        try clear hcz115_2
                        try clear hcz115_3
                        try clear hcz115_4
                        try clear hcz115_5
                        try clear hcz115_6
                        try clear hcz119_0
                        try clear hcz119_1
                        try clear hcz119_2
                        try clear hcz119_3
                        try clear hcz119_4
                        try clear hcz119_5
                        try clear hcz119_6
                        try clear hcz14_0
                        try clear hcz14_1
                        try clear hcz14_2
                        try clear hcz14_3
                        try clear hcz14_4
                        try clear hcz14_5
                        try clear hcz14_6
                        try clear hcz16_0
                        try clear hcz16_1
                        try clear hcz16_2
                        try clear hcz16_3
                        try clear hcz16_4
                        try clear hcz16_5
                        try clear hcz16_6
                        try clear hcz23_0
                        try clear hcz23_1
                        try clear hcz23_2
                        try clear hcz23_3
                        try clear hcz23_4
                        try clear hcz23_5
                        try clear hcz23_6
                        try clear hcz26_0
                        try clear hcz26_1
                        try clear hcz26_2
                        try clear hcz26_3
                        try clear hcz26_4
                        try clear hcz26_5
                        try clear hcz26_6
                        try clear hcz31_0
                        try clear hcz31_1
                        try clear hcz31_2
                        try clear hcz31_3
                        try clear hcz31_4
                        try clear hcz31_5
                        try clear hcz31_6
                        try clear hcz39_0
                        try clear hcz39_1
                        try clear hcz39_2
                        try clear hcz39_3
                        try clear hcz39_4
                        try clear hcz39_5
                        try clear hcz39_6
                        try clear hcz47_0
                        try clear hcz47_1
                        try clear hcz47_2
                        try clear hcz47_3
                        try clear hcz47_4
                        try clear hcz47_5
                        try clear hcz47_6
                        try clear hcz50_0
                        try clear hcz50_1
                        try clear hcz50_2
                        try clear hcz50_3
                        try clear hcz50_4
                        try clear hcz50_5
                        try clear hcz50_6
                        try clear hcz66_0
                        try clear hcz66_1
                        try clear hcz66_2
                        try clear hcz66_3
                        try clear hcz66_4
                        try clear hcz66_5
                        try clear hcz66_6
                        try clear hcz6_0
                        try clear hcz6_1
                        try clear hcz6_2
                        try clear hcz6_3
                        try clear hcz6_4
                        try clear hcz6_5
                        try clear hcz6_6
                        try clear hcz74_0
                        try clear hcz74_1
                        try clear hcz74_2
                        try clear hcz74_3
                        try clear hcz74_4
                        try clear hcz74_5
                        try clear hcz74_6
                        try clear hcz77_0
                        try clear hcz77_1
                        try clear hcz77_2
                        try clear hcz77_3
                        try clear hcz77_4
                        try clear hcz77_5
                        try clear hcz77_6
                        try clear hcz90_0
                        try clear hcz90_1
                        try clear hcz90_2
                        try clear hcz90_3
                        try clear hcz90_4
                        try clear hcz90_5
                        try clear hcz90_6
                        try clear hcz92_0
                        try clear hcz92_1
                        try clear hcz92_2
                        try clear hcz92_3
                        try clear hcz92_4
                        try clear hcz92_5
                        try clear hcz92_6
                        try clear hcz96_0
                        try clear hcz96_1
                        try clear hcz96_2
                        try clear hcz96_3
                        try clear hcz96_4
                        try clear hcz96_5
                        try clear hcz96_6
                        try clear hfz106_0
                        try clear hfz106_1
                        try clear hfz106_2
                        try clear hfz106_3
                        try clear hfz106_4
                        try clear hfz106_5
                        try clear hfz106_6
                        try clear hfz115_0
                        try clear hfz115_1
                        try clear hfz115_2
                        try clear hfz115_3
                        try clear hfz115_4
                        try clear hfz115_5
                        try clear hfz115_6
                        try clear hfz119_0
                        try clear hfz119_1
                        try clear hfz119_2
                        try clear hfz119_3
                        try clear hfz119_4
                        try clear hfz119_5
                        try clear hfz119_6
                        try clear hfz14_0
                        try clear hfz14_1
                        try clear hfz14_2
                        try clear hfz14_3
                        try clear hfz14_4
                        try clear hfz14_5
                        try clear hfz14_6
                        try clear hfz16_0
                        try clear hfz16_1
                        try clear hfz16_2
                        try clear hfz16_3
                        try clear hfz16_4
                        try clear hfz16_5
                        try clear hfz16_6
                        try clear hfz23_0
                        try clear hfz23_1
                        try clear hfz23_2
                        try clear hfz23_3
                        try clear hfz23_4
                        try clear hfz23_5
                        try clear hfz23_6
                        try clear hfz26_0
                        try clear hfz26_1
                        try clear hfz26_2
                        try clear hfz26_3
                        try clear hfz26_4
                        try clear hfz26_5
                        try clear hfz26_6
                        try clear hfz31_0
                        try clear hfz31_1
                        try clear hfz31_2
                        try clear hfz31_3
                        try clear hfz31_4
                        try clear hfz31_5
                        try clear hfz31_6
                        try clear hfz39_0
                        try clear hfz39_1
                        try clear hfz39_2
                        try clear hfz39_3
                        try clear hfz39_4
                        try clear hfz39_5
                        try clear hfz39_6
                        try clear hfz47_0
                        try clear hfz47_1
                        try clear hfz47_2
                        try clear hfz47_3
                        try clear hfz47_4
                        try clear hfz47_5
                        try clear hfz47_6
                        try clear hfz50_0
                        try clear hfz50_1
                        try clear hfz50_2
                        try clear hfz50_3
                        try clear hfz50_4
                        try clear hfz50_5
                        try clear hfz50_6
                        try clear hfz66_0
                        try clear hfz66_1
                        try clear hfz66_2
                        try clear hfz66_3
                        try clear hfz66_4
                        try clear hfz66_5
                        try clear hfz66_6
                        try clear hfz6_0
                        try clear hfz6_1
                        try clear hfz6_2
                        try clear hfz6_3
                        try clear hfz6_4
                        try clear hfz6_5
                        try clear hfz6_6
                        try clear hfz74_0
                        try clear hfz74_1
                        try clear hfz74_2
                        try clear hfz74_3
                        try clear hfz74_4
                        try clear hfz74_5
                        try clear hfz74_6
                        try clear hfz77_0
                        try clear hfz77_1
                        try clear hfz77_2
                        try clear hfz77_3
                        try clear hfz77_4
                        try clear hfz77_5
                        try clear hfz77_6
                        try clear hfz90_0
                        try clear hfz90_1
                        try clear hfz90_2
                        try clear hfz90_3
                        try clear hfz90_4
                        try clear hfz90_5
                        try clear hfz90_6
                        try clear hfz92_0
                        try clear hfz92_1
                        try clear hfz92_2
                        try clear hfz92_3
                        try clear hfz92_4
                        try clear hfz92_5
                        try clear hfz92_6
                        try clear hfz96_0
                        try clear hfz96_1
                        try clear hfz96_2
                        try clear hfz96_3
                        try clear hfz96_4
                        try clear hfz96_5
                        try clear hfz96_6
                        try clear p2
                        obtain ⟨kq, x92_85, rfl, HA, HJ85, HO_693002, HO_693003, HO_705002, HO_705003, HO_718002, HO_718003, HO_763002, HO_763003, BK667, BK692, BK704, BK717, BK762, HB⟩ := hcut
                        have hl718002_85 := (Kd.R_reads' HO_718002.out).1
                        rw [hl718002_85] at HO_718002
                        (try simp only [hl718002_85])
                        (try simp only [hl718002_85] at BK667)
                        (try simp only [hl718002_85] at BK692)
                        (try simp only [hl718002_85] at BK704)
                        (try simp only [hl718002_85] at BK717)
                        (try simp only [hl718002_85] at BK762)
                        (try simp only [hl718002_85] at HO_693002)
                        (try simp only [hl718002_85] at HO_693003)
                        (try simp only [hl718002_85] at HO_705002)
                        (try simp only [hl718002_85] at HO_705003)
                        (try simp only [hl718002_85] at HO_718003)
                        (try simp only [hl718002_85] at HO_763002)
                        (try simp only [hl718002_85] at HO_763003)
                        have hl718003_85 := (Kd.R_reads' HO_718003.out).1
                        rw [hl718003_85] at HO_718003
                        (try simp only [hl718003_85])
                        (try simp only [hl718003_85] at BK667)
                        (try simp only [hl718003_85] at BK692)
                        (try simp only [hl718003_85] at BK704)
                        (try simp only [hl718003_85] at BK717)
                        (try simp only [hl718003_85] at BK762)
                        (try simp only [hl718003_85] at HO_693002)
                        (try simp only [hl718003_85] at HO_693003)
                        (try simp only [hl718003_85] at HO_705002)
                        (try simp only [hl718003_85] at HO_705003)
                        (try simp only [hl718003_85] at HO_718002)
                        (try simp only [hl718003_85] at HO_763002)
                        (try simp only [hl718003_85] at HO_763003)
                        cases kq with
                        | zero => exact absurd HA.out (by simp [laws_FnExactGoOn.j2])
                        | succ kj85 =>
                          have H := HA.out
                          clear HA
                          simp only [laws_FnExactGoOn.j2] at H
                          by_cases c121 : x92_85 = true
                          · subst c121
                            have H1 : (some false) = some r := by rw [if_pos rfl] at H; exact H
                            clear H
                            have H := H1
                            clear H1
                            exact absurd (Option.some.inj H) (by rw [HQ_.out]; simp)
                          · replace c121 := Bool.eq_false_iff.mpr c121
                            subst c121
                            have H1 : ((laws_heldEvent.f kj85 t705 t706 t736 t737 t713 t714 t715 1).bind fun t764 => (if t764 < 0 then (some false) else (if t764 = t735 then (some true) else (some false)))) = some r := by rw [if_neg (show ¬ (false = true) by decide)] at H; exact H
                            clear H
                            have H := H1
                            clear H1
                            replace H := Option.bind_eq_some_iff.mp H
                            obtain ⟨t764, A1220, H⟩ := H
                            replace H : (if t764 < 0 then (some false) else (if t764 = t735 then (some true) else (some false))) = some r := H
                            have A122 := Aside0.mk A1220
                            clear A1220
                            by_cases c123 : t764 < 0
                            · rw [if_pos c123] at H
                              have c123b0 : decide (t764 < 0) = true := decide_eq_true c123
                              clear c123
                              exact absurd (Option.some.inj H) (by rw [HQ_.out]; simp)
                            · rw [if_neg c123] at H
                              have c123b0 : decide (t764 < 0) = false := decide_eq_false c123
                              clear c123
                              by_cases c124 : t764 = t735
                              · rw [if_pos c124] at H
                                have c124b0 : (t764 == t735) = true := beq_iff_eq.mpr c124
                                have c124b1 : (t764 != t735) = false := bne_eq_false_iff_eq.mpr c124
                                clear c124
                                obtain rfl := Option.some.inj H
                                have hnb125 := NB717_667.out
                                have hnc125 := NB667_717.out
                                have hnb126 := NB717_692.out
                                have hnc126 := NB692_717.out
                                have hnb127 := NB717_704.out
                                have hnc127 := NB704_717.out
                                have hnb128 := NB717_762.out
                                have hnc128 := NB762_717.out
                                have hcz129_0 : wc.cell? ⟨gb717, 0, none⟩ = some (.bool t705) := (blk_cell BK717.out 0).trans rfl
                                have hcz129_1 : wc.cell? ⟨gb717, 1, none⟩ = some (.bool t706) := (blk_cell BK717.out 1).trans rfl
                                have hcz129_2 : wc.cell? ⟨gb717, 2, none⟩ = some (.slice Ao40 t736.length co40) := (blk_cell BK717.out 2).trans rfl
                                have hcz129_3 : wc.cell? ⟨gb717, 3, none⟩ = some (.slice Ao41 t737.length co41) := (blk_cell BK717.out 3).trans rfl
                                have hcz129_4 : wc.cell? ⟨gb717, 4, none⟩ = some (.int .i64 t713) := (blk_cell BK717.out 4).trans rfl
                                have hcz129_5 : wc.cell? ⟨gb717, 5, none⟩ = some (.int .i64 t714) := (blk_cell BK717.out 5).trans rfl
                                have hcz129_6 : wc.cell? ⟨gb717, 6, none⟩ = some (.int .i64 t715) := (blk_cell BK717.out 6).trans rfl
                                have hfz129_0 := blk_frozen BK717.out 0
                                have hfz129_1 := blk_frozen BK717.out 1
                                have hfz129_2 := blk_frozen BK717.out 2
                                have hfz129_3 := blk_frozen BK717.out 3
                                have hfz129_4 := blk_frozen BK717.out 4
                                have hfz129_5 := blk_frozen BK717.out 5
                                have hfz129_6 := blk_frozen BK717.out 6
                                go_wp2_with (first | ((with_reducible refine gate_callee (f := 27) rfl ?_); refine goesL_ (some 95) rfl rfl Try.func27 (by kernel_rfl) rfl #[.agg #[.bool t705, .bool t706, .slice Ao40 t736.length co40, .slice Ao41 t737.length co41, .int .i64 t713, .int .i64 t714, .int .i64 t715], .int .i64 1] rfl (by (try simp only [List.map_toArray, List.map_cons, List.map_nil]); first | done | rfl | (simp only [List.length_drop, List.length_take]; rfl) | (go_simp; done) | (simp [*]; done)) ?_; (with_reducible refine (laws_heldEvent.calls kj85 t705 t706 _ _ t736 _ _ t737 t713 t714 t715 1 t764 _ ?side1 ?side2 ?side3 ?side4 A122.out).mono ?_); (case side1 => exact pkC (Kd.R_reads' HO_718002.out).2.2); (case side2 => exact (Kd.R_reads' HO_718002.out).2.1); (case side3 => exact pkC (Kd.R_reads' HO_718003.out).2.2); (case side4 => exact (Kd.R_reads' HO_718003.out).2.1); rintro e w130 ⟨rfl, hb⟩; refine ⟨_, rfl, ?_⟩; have n0_ := Aside0.mk (Kd.R_below (pkR HO_693002.out) hb); have n1_ := Aside0.mk (Kd.R_below (pkR HO_693003.out) hb); have n2_ := Aside0.mk (Kd.R_below (pkR HO_705002.out) hb); have n3_ := Aside0.mk (Kd.R_below (pkR HO_705003.out) hb); have n4_ := Aside0.mk (Kd.R_below (pkR HO_718002.out) hb); have n5_ := Aside0.mk (Kd.R_below (pkR HO_718003.out) hb); have n6_ := Aside0.mk (Kd.R_below (pkR HO_763002.out) hb); have n7_ := Aside0.mk (Kd.R_below (pkR HO_763003.out) hb); have n8_ := Aside0.mk (blk_below (g := gb667) (o := .cells #[.bool a0_0, .bool a0_1, .slice A0_2 l0_2.length c0_2, .slice A0_3 l0_3.length c0_3, .int .i64 a0_4, .int .i64 a0_5, .int .i64 a0_6] 24 (0, 0)) (pkK BK667.out) hb); have n9_ := Aside0.mk (blk_below (g := gb692) (o := .cells #[.bool t680, .bool t681, .slice Ao24 t682.length co24, .slice Ao25 t685.length co25, .int .i64 t688, .int .i64 t689, .int .i64 t690] 27 (0, 0)) (pkK BK692.out) hb); have n10_ := Aside0.mk (blk_below (g := gb704) (o := .cells #[.bool t693, .bool t694, .slice Ao32 t732.length co32, .slice Ao33 t733.length co33, .int .i64 t701, .int .i64 t702, .int .i64 t703] 27 (0, 0)) (pkK BK704.out) hb); have n11_ := Aside0.mk (blk_below (g := gb717) (o := .cells #[.bool t705, .bool t706, .slice Ao40 t736.length co40, .slice Ao41 t737.length co41, .int .i64 t713, .int .i64 t714, .int .i64 t715] 27 (0, 0)) (pkK BK717.out) hb); have n12_ := Aside0.mk (blk_below (g := gb762) (o := .cells #[.bool t750, .bool t751, .slice Ao107 t752.length co107, .slice Ao108 t755.length co108, .int .i64 t758, .int .i64 t759, .int .i64 t760] 27 (0, 0)) (pkK BK762.out) hb); have n13_ := Aside0.mk (below_step (by repeat (first | (with_reducible first | exact HB.out | apply below_alloc | apply pw_below_drewN | apply below_drew1 | refine below_set ?_ GE667.out | refine below_set ?_ GE692.out | refine below_set ?_ GE704.out | refine below_set ?_ GE717.out | refine below_set ?_ GE762.out) | exact HB.out)) hb); clear HO_693002 HO_693003 HO_705002 HO_705003 HO_718002 HO_718003 HO_763002 HO_763003 BK667 BK692 BK704 BK717 BK762 HB; have HO_693002 := n0_; have HO_693003 := n1_; have HO_705002 := n2_; have HO_705003 := n3_; have HO_718002 := n4_; have HO_718003 := n5_; have HO_763002 := n6_; have HO_763003 := n7_; have BK667 := n8_; have BK692 := n9_; have BK704 := n10_; have BK717 := n11_; have BK762 := n12_; have HB := n13_; clear n0_ n1_ n2_ n3_ n4_ n5_ n6_ n7_ n8_ n9_ n10_ n11_ n12_ n13_; (try clear hb); (try clear hb2); (try clear hk); (try clear hi)))
                                go_ret
                                exact ⟨by first | rfl | (simp [errW_none, errW_some] <;> rfl) | (simp [*, errW_none, errW_some] <;> rfl), by repeat (first | (with_reducible first | exact HB.out | apply below_alloc | apply pw_below_drewN | apply below_drew1 | refine below_set ?_ GE667.out | refine below_set ?_ GE692.out | refine below_set ?_ GE704.out | refine below_set ?_ GE717.out | refine below_set ?_ GE762.out) | exact HB.out)⟩
                              · rw [if_neg c124] at H
                                have c124b0 : (t764 == t735) = false := beq_eq_false_iff_ne.mpr c124
                                have c124b1 : (t764 != t735) = true := bne_iff_ne.mpr c124
                                exact absurd (Option.some.inj H) (by rw [HQ_.out]; simp)
                    · rw [if_neg c83] at H
                      have c83b0 : (t738 == t735) = false := beq_eq_false_iff_ne.mpr c83
                      have c83b1 : (t738 != t735) = true := bne_iff_ne.mpr c83
                      exact absurd (Option.some.inj H) (by rw [HQ_.out]; simp)
          · replace c55 := Bool.eq_false_iff.mpr c55
            subst c55
            have H1 : (some false) = some r := by rw [if_neg (show ¬ (false = true) by decide)] at H; exact H
            clear H
            have H := H1
            clear H1
            exact absurd (Option.some.inj H) (by rw [HQ_.out]; simp)
end Go.Proofs.Ytdagpmnadapbjaa.Z
