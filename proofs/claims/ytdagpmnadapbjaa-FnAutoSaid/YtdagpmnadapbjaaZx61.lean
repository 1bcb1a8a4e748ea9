/- Go code comes to just these functions; conditions: in each theorem. -/
import Derived.Test.YtdagpmnadapbjaaZx0
import Derived.Test.YtdagpmnadapbjaaZx5
import Derived.Test.YtdagpmnadapbjaaZx23
import Derived.Test.YtdagpmnadapbjaaZx27
import Derived.Test.YtdagpmnadapbjaaZx31
import Derived.Test.YtdagpmnadapbjaaZx41
import Derived.Test.YtdagpmnadapbjaaZx42
import Derived.Test.YtdagpmnadapbjaaZx43
import Derived.Test.YtdagpmnadapbjaaZx47
namespace Go.Proofs.Ytdagpmnadapbjaa.Z
open Go.RowKit Go.Proofs.YtdagpmnadapbjaaW.PrintWords Go.Proofs.YtdagpmnadapbjaaW.PrintLast Go.Proofs.YtdagpmnadapbjaaW.PrintMore
attribute [local go_sem] max2_int min2_int max_two min_two max_three min_three max_four min_four   -- for this text's walks alone
set_option linter.unusedVariables false
set_option linter.unusedSimpArgs false
mutual
def laws_FnAuto.l0 : Nat → List Int → Int → Int → Int → Bool → Bool → List Int → List Int → Int → Int → Int → Option (Bool)
 | 0, _, _, _, _, _, _, _, _, _, _, _ => none
 | k + 1, x0, x4, x5, x6, x1481000, x1481001, x1481002, x1481003, x1481004, x1481005, x1481006 => if x6 < 26 then ((laws_at.f x0 (wrap64 (x6 + 50))).bind fun t1481 => ((laws_at.f x0 (wrap64 (x6 + 1))).bind fun t1482 => (if (Int.tmod t1482 5) = 0 then ((impl_Raise.f k x1481000 x1481001 x1481002 x1481003 x1481004 x1481005 x1481006).bind fun bt1483 => (if bt1483.2.2.2.2.2.2.2.2 = 0 then (if x1481000 = true then (if (bt1483.2.2.2.2.2.2.2.1.length : Int) > 1 then (laws_FnAuto.j1 k x0 x4 x5 x6 true bt1483.1 bt1483.2.1 bt1483.2.2.1 bt1483.2.2.2.1 bt1483.2.2.2.2.1 bt1483.2.2.2.2.2.1 bt1483.2.2.2.2.2.2.1) else (laws_FnAuto.j1 k x0 x4 x5 x6 false bt1483.1 bt1483.2.1 bt1483.2.2.1 bt1483.2.2.2.1 bt1483.2.2.2.2.1 bt1483.2.2.2.2.2.1 bt1483.2.2.2.2.2.2.1)) else ((laws_sameInts.f k bt1483.2.2.2.2.2.2.2.1 x1481002).bind fun t1499 => (laws_FnAuto.j1 k x0 x4 x5 x6 (!t1499) bt1483.1 bt1483.2.1 bt1483.2.2.1 bt1483.2.2.2.1 bt1483.2.2.2.2.1 bt1483.2.2.2.2.2.1 bt1483.2.2.2.2.2.2.1))) else (laws_FnAuto.j1 k x0 x4 x5 x6 true bt1483.1 bt1483.2.1 bt1483.2.2.1 bt1483.2.2.2.1 bt1483.2.2.2.2.1 bt1483.2.2.2.2.2.1 bt1483.2.2.2.2.2.2.1))) else (if (Int.tmod t1482 5) = 1 then ((impl_Reset.f k x1481000 x1481001 x1481002 x1481003 x1481004 x1481005 x1481006).bind fun bt1501 => (if bt1501.2.2.2.2.2.2.2 = 0 then (laws_FnAuto.j2 k x0 x4 x5 x6 bt1501.2.1 bt1501.1 bt1501.2.1 bt1501.2.2.1 bt1501.2.2.2.1 bt1501.2.2.2.2.1 bt1501.2.2.2.2.2.1 bt1501.2.2.2.2.2.2.1) else (laws_FnAuto.j2 k x0 x4 x5 x6 true bt1501.1 bt1501.2.1 bt1501.2.2.1 bt1501.2.2.2.1 bt1501.2.2.2.2.1 bt1501.2.2.2.2.2.1 bt1501.2.2.2.2.2.2.1))) else (if (Int.tmod t1482 5) = 2 then ((impl_GoOn.f k x1481000 x1481001 x1481002 x1481003 x1481004 x1481005 x1481006 (Int.tmod t1481 6)).bind fun bt1515 => (if bt1515.2.2.2.2.2.2.2 = 0 then ((spec_EventOk.f k bt1515.1 bt1515.2.1 bt1515.2.2.1 bt1515.2.2.2.1 bt1515.2.2.2.2.1 bt1515.2.2.2.2.2.1 bt1515.2.2.2.2.2.2.1).bind fun t1528 => (if t1528 = true then (laws_FnAuto.l0 k x0 x4 (wrap64 (x5 + 1)) (wrap64 (x6 + 1)) bt1515.1 bt1515.2.1 bt1515.2.2.1 bt1515.2.2.2.1 bt1515.2.2.2.2.1 bt1515.2.2.2.2.2.1 bt1515.2.2.2.2.2.2.1) else (some false))) else ((spec_EventOk.f k bt1515.1 bt1515.2.1 bt1515.2.2.1 bt1515.2.2.2.1 bt1515.2.2.2.2.1 bt1515.2.2.2.2.2.1 bt1515.2.2.2.2.2.2.1).bind fun t1529 => (if t1529 = true then (laws_FnAuto.l0 k x0 x4 x5 (wrap64 (x6 + 1)) bt1515.1 bt1515.2.1 bt1515.2.2.1 bt1515.2.2.2.1 bt1515.2.2.2.2.1 bt1515.2.2.2.2.2.1 bt1515.2.2.2.2.2.2.1) else (some false))))) else (if (Int.tmod t1482 5) = 3 then ((impl_StepBack.f k x1481000 x1481001 x1481002 x1481003 x1481004 x1481005 x1481006 (Int.tmod t1481 6)).bind fun bt1530 => ((spec_StepBack.f k x1481000 x1481001 x1481002 x1481003 x1481004 x1481005 x1481006 (Int.tmod t1481 6)).bind fun bt1546 => (if bt1530.2.2.2.2.2.2.2.2 = bt1546.2.2.2.2.2.2.2.2 then ((spec_EventOk.f k bt1530.1 bt1530.2.1 bt1530.2.2.1 bt1530.2.2.2.1 bt1530.2.2.2.2.1 bt1530.2.2.2.2.2.1 bt1530.2.2.2.2.2.2.1).bind fun t1562 => (if t1562 = true then (laws_FnAuto.l0 k x0 x4 x5 (wrap64 (x6 + 1)) bt1530.1 bt1530.2.1 bt1530.2.2.1 bt1530.2.2.2.1 bt1530.2.2.2.2.1 bt1530.2.2.2.2.2.1 bt1530.2.2.2.2.2.2.1) else (some false))) else (some false)))) else ((impl_Stand.f k x1481000 x1481001 x1481002 x1481003 x1481004 x1481005 x1481006 (Int.tmod t1481 6)).bind fun bt1563 => (if bt1563.2.2.2.2.2.2.2 = 0 then (if x1481001 = true then (laws_FnAuto.j3 k x0 x4 (wrap64 (x5 + 1)) x6 bt1563.2.2.2.2.2.2.2 x1481000 x1481001 x1481002 x1481003 x1481004 x1481005 x1481006 bt1563.1 bt1563.2.1 bt1563.2.2.1 bt1563.2.2.2.1 bt1563.2.2.2.2.1 bt1563.2.2.2.2.2.1 bt1563.2.2.2.2.2.2.1) else (some false)) else (laws_FnAuto.j3 k x0 x4 x5 x6 bt1563.2.2.2.2.2.2.2 x1481000 x1481001 x1481002 x1481003 x1481004 x1481005 x1481006 bt1563.1 bt1563.2.1 bt1563.2.2.1 bt1563.2.2.2.1 bt1563.2.2.2.2.1 bt1563.2.2.2.2.2.1 bt1563.2.2.2.2.2.2.1))))))))) else (if x1481000 = true then (if x1481004 = x4 then (if x1481006 = x5 then (some (decide (x5 ≤ x4))) else (some false)) else (some false)) else (some true))
def laws_FnAuto.j1 : Nat → List Int → Int → Int → Int → Bool → Bool → Bool → List Int → List Int → Int → Int → Int → Option (Bool)
 | 0, _, _, _, _, _, _, _, _, _, _, _, _ => none
 | k + 1, x0, x4, x5, x6, x94, x1499000, x1499001, x1499002, x1499003, x1499004, x1499005, x1499006 => if x94 = true then (some false) else ((spec_EventOk.f k x1499000 x1499001 x1499002 x1499003 x1499004 x1499005 x1499006).bind fun t1500 => (if t1500 = true then (laws_FnAuto.l0 k x0 (wrap64 (x4 + 1)) x5 (wrap64 (x6 + 1)) x1499000 x1499001 x1499002 x1499003 x1499004 x1499005 x1499006) else (some false)))
def laws_FnAuto.j2 : Nat → List Int → Int → Int → Int → Bool → Bool → Bool → List Int → List Int → Int → Int → Int → Option (Bool)
 | 0, _, _, _, _, _, _, _, _, _, _, _, _ => none
 | k + 1, x0, x4, x5, x6, x110, x1514000, x1514001, x1514002, x1514003, x1514004, x1514005, x1514006 => if x110 = true then (some false) else ((spec_EventOk.f k x1514000 x1514001 x1514002 x1514003 x1514004 x1514005 x1514006).bind fun t1514 => (if t1514 = true then (laws_FnAuto.l0 k x0 x4 x5 (wrap64 (x6 + 1)) x1514000 x1514001 x1514002 x1514003 x1514004 x1514005 x1514006) else (some false)))
def laws_FnAuto.j3 : Nat → List Int → Int → Int → Int → Int → Bool → Bool → List Int → List Int → Int → Int → Int → Bool → Bool → List Int → List Int → Int → Int → Int → Option (Bool)
 | 0, _, _, _, _, _, _, _, _, _, _, _, _, _, _, _, _, _, _, _ => none
 | k + 1, x0, x4, x5, x6, x22, x1481000, x1481001, x1481002, x1481003, x1481004, x1481005, x1481006, x1576000, x1576001, x1576002, x1576003, x1576004, x1576005, x1576006 => if x22 = 4 then (laws_FnAuto.j4 k x0 x4 x5 x6 x1481001 x1576000 x1576001 x1576002 x1576003 x1576004 x1576005 x1576006) else (laws_FnAuto.j4 k x0 x4 x5 x6 false x1576000 x1576001 x1576002 x1576003 x1576004 x1576005 x1576006)
def laws_FnAuto.j4 : Nat → List Int → Int → Int → Int → Bool → Bool → Bool → List Int → List Int → Int → Int → Int → Option (Bool)
 | 0, _, _, _, _, _, _, _, _, _, _, _, _ => none
 | k + 1, x0, x4, x5, x6, x62, x1576000, x1576001, x1576002, x1576003, x1576004, x1576005, x1576006 => if x62 = true then (some false) else ((spec_EventOk.f k x1576000 x1576001 x1576002 x1576003 x1576004 x1576005 x1576006).bind fun t1576 => (if t1576 = true then (laws_FnAuto.l0 k x0 x4 x5 (wrap64 (x6 + 1)) x1576000 x1576001 x1576002 x1576003 x1576004 x1576005 x1576006) else (some false)))
end
def laws_FnAuto.f (k : Nat) (l0 : List Int) : Option (Bool) := (laws_big.f l0).bind fun t1478 => (if t1478 = true then (some true) else ((laws_at.f l0 0).bind fun t1479 => (laws_FnAuto.l0 k l0 0 0 0 ((Int.tmod t1479 2) == 0) false ([] : List Int) ([] : List Int) 0 0 0)))
theorem laws_FnAuto.mono_l : ∀ k, (∀ y0 y1 y2 y3 y4 y5 y6 y7 y8 y9 y10, LeO (laws_FnAuto.l0 k y0 y1 y2 y3 y4 y5 y6 y7 y8 y9 y10) (laws_FnAuto.l0 (k + 1) y0 y1 y2 y3 y4 y5 y6 y7 y8 y9 y10)) ∧ (∀ y0 y1 y2 y3 y4 y5 y6 y7 y8 y9 y10 y11, LeO (laws_FnAuto.j1 k y0 y1 y2 y3 y4 y5 y6 y7 y8 y9 y10 y11) (laws_FnAuto.j1 (k + 1) y0 y1 y2 y3 y4 y5 y6 y7 y8 y9 y10 y11)) ∧ (∀ y0 y1 y2 y3 y4 y5 y6 y7 y8 y9 y10 y11, LeO (laws_FnAuto.j2 k y0 y1 y2 y3 y4 y5 y6 y7 y8 y9 y10 y11) (laws_FnAuto.j2 (k + 1) y0 y1 y2 y3 y4 y5 y6 y7 y8 y9 y10 y11)) ∧ (∀ y0 y1 y2 y3 y4 y5 y6 y7 y8 y9 y10 y11 y12 y13 y14 y15 y16 y17 y18, LeO (laws_FnAuto.j3 k y0 y1 y2 y3 y4 y5 y6 y7 y8 y9 y10 y11 y12 y13 y14 y15 y16 y17 y18) (laws_FnAuto.j3 (k + 1) y0 y1 y2 y3 y4 y5 y6 y7 y8 y9 y10 y11 y12 y13 y14 y15 y16 y17 y18)) ∧ (∀ y0 y1 y2 y3 y4 y5 y6 y7 y8 y9 y10 y11, LeO (laws_FnAuto.j4 k y0 y1 y2 y3 y4 y5 y6 y7 y8 y9 y10 y11) (laws_FnAuto.j4 (k + 1) y0 y1 y2 y3 y4 y5 y6 y7 y8 y9 y10 y11))
 | 0 => ⟨fun _ _ _ _ _ _ _ _ _ _ _ r h => by simp [laws_FnAuto.l0] at h, fun _ _ _ _ _ _ _ _ _ _ _ _ r h => by simp [laws_FnAuto.j1] at h, fun _ _ _ _ _ _ _ _ _ _ _ _ r h => by simp [laws_FnAuto.j2] at h, fun _ _ _ _ _ _ _ _ _ _ _ _ _ _ _ _ _ _ _ r h => by simp [laws_FnAuto.j3] at h, fun _ _ _ _ _ _ _ _ _ _ _ _ r h => by simp [laws_FnAuto.j4] at h⟩
 | k + 1 => by
  obtain ⟨ih0, ih1, ih2, ih3, ih4⟩ := laws_FnAuto.mono_l k
  refine ⟨?_, ?_, ?_, ?_, ?_⟩
  ·intro y0 y1 y2 y3 y4 y5 y6 y7 y8 y9 y10
   unfold laws_FnAuto.l0
   repeat' first
   | (with_reducible exact ih0 _ _ _ _ _ _ _ _ _ _ _)
   | (with_reducible exact ih1 _ _ _ _ _ _ _ _ _ _ _ _)
   | (with_reducible exact ih2 _ _ _ _ _ _ _ _ _ _ _ _)
   | (with_reducible exact ih3 _ _ _ _ _ _ _ _ _ _ _ _ _ _ _ _ _ _ _)
   | (with_reducible exact ih4 _ _ _ _ _ _ _ _ _ _ _ _)
   | (with_reducible exact impl_GoOn.mono _ _ _ _ _ _ _ _ _)
   | (with_reducible exact impl_Raise.mono _ _ _ _ _ _ _ _)
   | (with_reducible exact impl_Reset.mono _ _ _ _ _ _ _ _)
   | (with_reducible exact impl_Stand.mono _ _ _ _ _ _ _ _ _)
   | (with_reducible exact impl_StepBack.mono _ _ _ _ _ _ _ _ _)
   | (with_reducible exact laws_sameInts.mono _ _ _)
   | (with_reducible exact spec_EventOk.mono _ _ _ _ _ _ _ _)
   | (with_reducible exact spec_StepBack.mono _ _ _ _ _ _ _ _ _)
   | (with_reducible exact LeO.refl _)
   | (with_reducible exact LeO.none _)
   | (with_reducible refine LeO.ite ?_ ?_)
   | (with_reducible refine LeO.bind ?_ (fun _ => ?_))
  ·intro y0 y1 y2 y3 y4 y5 y6 y7 y8 y9 y10 y11
   unfold laws_FnAuto.j1
   repeat' first
   | (with_reducible exact ih0 _ _ _ _ _ _ _ _ _ _ _)
   | (with_reducible exact ih1 _ _ _ _ _ _ _ _ _ _ _ _)
   | (with_reducible exact ih2 _ _ _ _ _ _ _ _ _ _ _ _)
   | (with_reducible exact ih3 _ _ _ _ _ _ _ _ _ _ _ _ _ _ _ _ _ _ _)
   | (with_reducible exact ih4 _ _ _ _ _ _ _ _ _ _ _ _)
   | (with_reducible exact impl_GoOn.mono _ _ _ _ _ _ _ _ _)
   | (with_reducible exact impl_Raise.mono _ _ _ _ _ _ _ _)
   | (with_reducible exact impl_Reset.mono _ _ _ _ _ _ _ _)
   | (with_reducible exact impl_Stand.mono _ _ _ _ _ _ _ _ _)
   | (with_reducible exact impl_StepBack.mono _ _ _ _ _ _ _ _ _)
   | (with_reducible exact laws_sameInts.mono _ _ _)
   | (with_reducible exact spec_EventOk.mono _ _ _ _ _ _ _ _)
   | (with_reducible exact spec_StepBack.mono _ _ _ _ _ _ _ _ _)
   | (with_reducible exact LeO.refl _)
   | (with_reducible exact LeO.none _)
   | (with_reducible refine LeO.ite ?_ ?_)
   | (with_reducible refine LeO.bind ?_ (fun _ => ?_))
  ·intro y0 y1 y2 y3 y4 y5 y6 y7 y8 y9 y10 y11
   unfold laws_FnAuto.j2
   repeat' first
   | (with_reducible exact ih0 _ _ _ _ _ _ _ _ _ _ _)
   | (with_reducible exact ih1 _ _ _ _ _ _ _ _ _ _ _ _)
   | (with_reducible exact ih2 _ _ _ _ _ _ _ _ _ _ _ _)
   | (with_reducible exact ih3 _ _ _ _ _ _ _ _ _ _ _ _ _ _ _ _ _ _ _)
   | (with_reducible exact ih4 _ _ _ _ _ _ _ _ _ _ _ _)
   | (with_reducible exact impl_GoOn.mono _ _ _ _ _ _ _ _ _)
   | (with_reducible exact impl_Raise.mono _ _ _ _ _ _ _ _)
   | (with_reducible exact impl_Reset.mono _ _ _ _ _ _ _ _)
   | (with_reducible exact impl_Stand.mono _ _ _ _ _ _ _ _ _)
   | (with_reducible exact impl_StepBack.mono _ _ _ _ _ _ _ _ _)
   | (with_reducible exact laws_sameInts.mono _ _ _)
   | (with_reducible exact spec_EventOk.mono _ _ _ _ _ _ _ _)
   | (with_reducible exact spec_StepBack.mono _ _ _ _ _ _ _ _ _)
   | (with_reducible exact LeO.refl _)
   | (with_reducible exact LeO.none _)
   | (with_reducible refine LeO.ite ?_ ?_)
   | (with_reducible refine LeO.bind ?_ (fun _ => ?_))
  ·intro y0 y1 y2 y3 y4 y5 y6 y7 y8 y9 y10 y11 y12 y13 y14 y15 y16 y17 y18
   unfold laws_FnAuto.j3
   repeat' first
   | (with_reducible exact ih0 _ _ _ _ _ _ _ _ _ _ _)
   | (with_reducible exact ih1 _ _ _ _ _ _ _ _ _ _ _ _)
   | (with_reducible exact ih2 _ _ _ _ _ _ _ _ _ _ _ _)
   | (with_reducible exact ih3 _ _ _ _ _ _ _ _ _ _ _ _ _ _ _ _ _ _ _)
   | (with_reducible exact ih4 _ _ _ _ _ _ _ _ _ _ _ _)
   | (with_reducible exact impl_GoOn.mono _ _ _ _ _ _ _ _ _)
   | (with_reducible exact impl_Raise.mono _ _ _ _ _ _ _ _)
   | (with_reducible exact impl_Reset.mono _ _ _ _ _ _ _ _)
   | (with_reducible exact impl_Stand.mono _ _ _ _ _ _ _ _ _)
   | (with_reducible exact impl_StepBack.mono _ _ _ _ _ _ _ _ _)
   | (with_reducible exact laws_sameInts.mono _ _ _)
   | (with_reducible exact spec_EventOk.mono _ _ _ _ _ _ _ _)
   | (with_reducible exact spec_StepBack.mono _ _ _ _ _ _ _ _ _)
   | (with_reducible exact LeO.refl _)
   | (with_reducible exact LeO.none _)
   | (with_reducible refine LeO.ite ?_ ?_)
   | (with_reducible refine LeO.bind ?_ (fun _ => ?_))
  ·intro y0 y1 y2 y3 y4 y5 y6 y7 y8 y9 y10 y11
   unfold laws_FnAuto.j4
   repeat' first
   | (with_reducible exact ih0 _ _ _ _ _ _ _ _ _ _ _)
   | (with_reducible exact ih1 _ _ _ _ _ _ _ _ _ _ _ _)
   | (with_reducible exact ih2 _ _ _ _ _ _ _ _ _ _ _ _)
   | (with_reducible exact ih3 _ _ _ _ _ _ _ _ _ _ _ _ _ _ _ _ _ _ _)
   | (with_reducible exact ih4 _ _ _ _ _ _ _ _ _ _ _ _)
   | (with_reducible exact impl_GoOn.mono _ _ _ _ _ _ _ _ _)
   | (with_reducible exact impl_Raise.mono _ _ _ _ _ _ _ _)
   | (with_reducible exact impl_Reset.mono _ _ _ _ _ _ _ _)
   | (with_reducible exact impl_Stand.mono _ _ _ _ _ _ _ _ _)
   | (with_reducible exact impl_StepBack.mono _ _ _ _ _ _ _ _ _)
   | (with_reducible exact laws_sameInts.mono _ _ _)
   | (with_reducible exact spec_EventOk.mono _ _ _ _ _ _ _ _)
   | (with_reducible exact spec_StepBack.mono _ _ _ _ _ _ _ _ _)
   | (with_reducible exact LeO.refl _)
   | (with_reducible exact LeO.none _)
   | (with_reducible refine LeO.ite ?_ ?_)
   | (with_reducible refine LeO.bind ?_ (fun _ => ?_))
theorem laws_FnAuto.mono : ∀ a0 k, LeO (laws_FnAuto.f k a0) (laws_FnAuto.f (k + 1) a0) := by
 intro a0 k
 obtain ⟨ih0, ih1, ih2, ih3, ih4⟩ := laws_FnAuto.mono_l k
 unfold laws_FnAuto.f
 repeat' first
   | (with_reducible exact ih0 _ _ _ _ _ _ _ _ _ _ _)
   | (with_reducible exact ih1 _ _ _ _ _ _ _ _ _ _ _ _)
   | (with_reducible exact ih2 _ _ _ _ _ _ _ _ _ _ _ _)
   | (with_reducible exact ih3 _ _ _ _ _ _ _ _ _ _ _ _ _ _ _ _ _ _ _)
   | (with_reducible exact ih4 _ _ _ _ _ _ _ _ _ _ _ _)
   | (with_reducible exact impl_GoOn.mono _ _ _ _ _ _ _ _ _)
   | (with_reducible exact impl_Raise.mono _ _ _ _ _ _ _ _)
   | (with_reducible exact impl_Reset.mono _ _ _ _ _ _ _ _)
   | (with_reducible exact impl_Stand.mono _ _ _ _ _ _ _ _ _)
   | (with_reducible exact impl_StepBack.mono _ _ _ _ _ _ _ _ _)
   | (with_reducible exact laws_sameInts.mono _ _ _)
   | (with_reducible exact spec_EventOk.mono _ _ _ _ _ _ _ _)
   | (with_reducible exact spec_StepBack.mono _ _ _ _ _ _ _ _ _)
   | (with_reducible exact LeO.refl _)
   | (with_reducible exact LeO.none _)
   | (with_reducible refine LeO.ite ?_ ?_)
   | (with_reducible refine LeO.bind ?_ (fun _ => ?_))
set_option maxHeartbeats 8000000 in
set_option maxRecDepth 100000 in
theorem laws_FnAuto.calls (k : Nat) (A0 : Option Addr) (c0 : Nat) (l0 : List Int) (r : Bool) (w : World) (hr0 : Kd.C (Kd.int .u8) w A0 l0.length l0) (hc0 : l0.length ≤ c0) (HQ_ : Aside0 (r = true)) (h : laws_FnAuto.f k l0 = some r) :
  Calls Try.prog 12 #[.slice A0 l0.length c0] w fun e w' => e = .returned (.bool r) ∧ Below w.heap.size w w' := by
 have hu27 := Try.underlying27
 have HR0 := am hr0
 have HC0 := am hc0
 clear hr0 hc0
 have HB := am (Below.refl w.heap.size w)
 have H : ((laws_big.f l0).bind fun t1478 => (if t1478 = true then (some true) else ((laws_at.f l0 0).bind fun t1479 => (laws_FnAuto.l0 k l0 0 0 0 ((Int.tmod t1479 2) == 0) false ([] : List Int) ([] : List Int) 0 0 0)))) = some r := h
 clear h
 replace H := Option.bind_eq_some_iff.mp H
 obtain ⟨t1478, A20, H⟩ := H
 replace H : (if t1478 = true then (some true) else ((laws_at.f l0 0).bind fun t1479 => (laws_FnAuto.l0 k l0 0 0 0 ((Int.tmod t1479 2) == 0) false ([] : List Int) ([] : List Int) 0 0 0))) = some r := H
 have A2 := am A20
 clear A20
 by_cases c3 : t1478 = true
 ·subst c3
  replace H : (some true) = some r := by rw [if_pos rfl] at H; exact H
  obtain rfl := Option.some.inj H
  go_enter Try.func12, Try.ntmps12
  go_wp2_with (first | ((with_reducible refine gate_callee (f := 45) rfl ?_); refine goesL_ (some 24) rfl rfl Try.func45 (by kernel_rfl) rfl #[.slice A0 l0.length c0] rfl mpx ?_; (with_reducible refine (laws_big.calls _ _ l0 true _ ?side1 ?side2 A2.out).mono ?_); (case side1 => exact pkC HR0.out); (case side2 => exact HC0.out); rintro e w' ⟨rfl, nd, rfl⟩; refine ⟨_, rfl, ?_⟩))
  go_ret
  exact ⟨rfe, pkB HB.out⟩
 ·replace c3 := Bool.eq_false_iff.mpr c3
  subst c3
  replace H : ((laws_at.f l0 0).bind fun t1479 => (laws_FnAuto.l0 k l0 0 0 0 ((Int.tmod t1479 2) == 0) false ([] : List Int) ([] : List Int) 0 0 0)) = some r := by rw [if_neg (show ¬ (false = true) by decide)] at H; exact H
  replace H := Option.bind_eq_some_iff.mp H
  obtain ⟨t1479, A40, H⟩ := H
  replace H : (laws_FnAuto.l0 k l0 0 0 0 ((Int.tmod t1479 2) == 0) false ([] : List Int) ([] : List Int) 0 0 0) = some r := H
  have A4 := am A40
  clear A40
  have H' := am H
  clear H
  go_enter Try.func12, Try.ntmps12
  go_wp2_with (first | ((with_reducible refine gate_callee (f := 45) rfl ?_); refine goesL_ (some 24) rfl rfl Try.func45 (by kernel_rfl) rfl #[.slice A0 l0.length c0] rfl mpx ?_; (with_reducible refine (laws_big.calls _ _ l0 false _ ?side1 ?side2 A2.out).mono ?_); (case side1 => exact pkC HR0.out); (case side2 => exact HC0.out); rintro e w' ⟨rfl, nd, rfl⟩; refine ⟨_, rfl, ?_⟩) | ((with_reducible refine gate_callee (f := 46) rfl ?_); refine goesL_ (some 26) rfl rfl Try.func46 (by kernel_rfl) rfl #[.slice A0 l0.length c0, .int .i64 0] rfl mpx ?_; (with_reducible refine (laws_at.calls _ _ l0 0 t1479 _ ?side1 ?side2 A4.out).mono ?_); (case side1 => exact pkC HR0.out); (case side2 => exact HC0.out); rintro e w' ⟨rfl, nd, rfl⟩; refine ⟨_, rfl, ?_⟩) | ((with_reducible refine gate_dst (N := 3) rfl ?_); (try (refine gate_guard (by rfl) ?_; dsimp only)); refine box_event ?hg (N := 3) ?hd (cs := #[.bool false, .bool false, .slice none 0 0, .slice none 0 0, .int .i64 0, .int .i64 0, .int .i64 0]) (t := 27) ?hr ?_; (case hd => rfl); (case hg => rfl); (case hr => first | (go_simp; done) | (go_simp; rfl)); intro gb1480 hg w5 hbox hb; have BK1480 := am (hbox); have GW1480 := am ((by rw [hg]; exact (below_size (pkB HB.out)) : w.heap.size ≤ gb1480)); have GE1480 := am ((by rw [hg]; exact (below_size (pkB HB.out)) : w.heap.size ≤ gb1480)); replace HB := am (below_step (pkB HB.out) hb); clear hb hbox hg; obtain ⟨hcz6_0, hcz6_1, hcz6_2, hcz6_3, hcz6_4, hcz6_5, hcz6_6, hfz6_0, hfz6_1, hfz6_2, hfz6_3, hfz6_4, hfz6_5, hfz6_6⟩ := bk7 BK1480.out))
  go_loopg [4, 5, 6] k (fun kq v4 v5 v6 w' => ∃ (x4_1 : Int) (x5_1 : Int) (x6_1 : Int) (x1481000_1 : Bool) (x1481001_1 : Bool) (x1481002_1 : List Int) (x1481003_1 : List Int) (x1481004_1 : Int) (x1481005_1 : Int) (x1481006_1 : Int) (u1481002 : Value) (u1481003 : Value), v4 = .int .i64 x4_1 ∧ v5 = .int .i64 x5_1 ∧ v6 = .int .i64 x6_1 ∧ Aside0 (laws_FnAuto.l0 kq l0 x4_1 x5_1 x6_1 x1481000_1 x1481001_1 x1481002_1 x1481003_1 x1481004_1 x1481005_1 x1481006_1 = some r) ∧ Aside0 (kq ≤ k) ∧ Aside0 (Kd.Q (Kd.int .i64) 3 w' w.heap.size (fun k_ => some k_ ≠ (u1481003 : Value).ownBlock) u1481002 x1481002_1) ∧ Aside0 (Kd.R (Kd.int .i64) 3 w' w.heap.size (fun k_ => some k_ ≠ (u1481002 : Value).ownBlock) u1481003 x1481003_1) ∧ Aside0 (w'.heap[gb1480]? = some (.cells #[.bool x1481000_1, .bool x1481001_1, u1481002, u1481003, .int .i64 x1481004_1, .int .i64 x1481005_1, .int .i64 x1481006_1] 27 (0, 0))) ∧ Aside0 (Below w.heap.size w w'))
  case atStart => exact ⟨(0), (0), (0), (((Int.tmod t1479 2) == 0)), (false), (([] : List Int)), (([] : List Int)), (0), (0), (0), (.slice none 0 0), (.slice none 0 0), rfx, rfx, rfx, H', ⟨Nat.le_refl _⟩, ⟨Kd.Q_of_R (by first | exact Kd.R_nil _ _ _ _ _ | exact Kd.N_nil _ _ _ _ _ | exact Kd.V_nil _ _ _ _ _ | exact Kd.Q_nil _ _ _ _ _ | exact Kd.S_nil _ _ _ _ _)⟩, ⟨by first | exact Kd.R_nil _ _ _ _ _ | exact Kd.N_nil _ _ _ _ _ | exact Kd.V_nil _ _ _ _ _ | exact Kd.Q_nil _ _ _ _ _ | exact Kd.S_nil _ _ _ _ _⟩, ⟨by (with_reducible repeat (first | refine blk_drewN ?_ _ | refine blk_drew ?_ | refine blk_alloc ?_ _)); refine blk_put (cs := #[.bool ((Int.tmod t1479 2) == 0), .bool false, .slice none 0 0, .slice none 0 0, .int .i64 0, .int .i64 0, .int .i64 0]) ?_ 6 _ rfl; (with_reducible repeat (first | refine blk_drewN ?_ _ | refine blk_drew ?_ | refine blk_alloc ?_ _)); refine blk_put (cs := #[.bool ((Int.tmod t1479 2) == 0), .bool false, .slice none 0 0, .slice none 0 0, .int .i64 0, .int .i64 0, .int .i64 0]) ?_ 5 _ rfl; (with_reducible repeat (first | refine blk_drewN ?_ _ | refine blk_drew ?_ | refine blk_alloc ?_ _)); refine blk_put (cs := #[.bool ((Int.tmod t1479 2) == 0), .bool false, .slice none 0 0, .slice none 0 0, .int .i64 0, .int .i64 0, .int .i64 0]) ?_ 4 _ rfl; (with_reducible repeat (first | refine blk_drewN ?_ _ | refine blk_drew ?_ | refine blk_alloc ?_ _)); refine blk_put (cs := #[.bool ((Int.tmod t1479 2) == 0), .bool false, .slice none 0 0, .slice none 0 0, .int .i64 0, .int .i64 0, .int .i64 0]) ?_ 3 _ rfl; (with_reducible repeat (first | refine blk_drewN ?_ _ | refine blk_drew ?_ | refine blk_alloc ?_ _)); refine blk_put (cs := #[.bool ((Int.tmod t1479 2) == 0), .bool false, .slice none 0 0, .slice none 0 0, .int .i64 0, .int .i64 0, .int .i64 0]) ?_ 2 _ rfl; (with_reducible repeat (first | refine blk_drewN ?_ _ | refine blk_drew ?_ | refine blk_alloc ?_ _)); refine blk_put (cs := #[.bool ((Int.tmod t1479 2) == 0), .bool false, .slice none 0 0, .slice none 0 0, .int .i64 0, .int .i64 0, .int .i64 0]) ?_ 1 _ rfl; (with_reducible repeat (first | refine blk_drewN ?_ _ | refine blk_drew ?_ | refine blk_alloc ?_ _)); refine blk_put (cs := #[.bool false, .bool false, .slice none 0 0, .slice none 0 0, .int .i64 0, .int .i64 0, .int .i64 0]) ?_ 0 _ rfl; exact pkK BK1480.out⟩, ⟨pkW HB.out⟩⟩
  case round =>
   clear H'
   try clear c1
   try clear p2
   try clear c3
   try clear c4
   try clear hcz6_0
   try clear hcz6_1
   try clear hcz6_2
   try clear hcz6_3
   try clear hcz6_4
   try clear hcz6_5
   try clear hcz6_6
   try clear hfz6_0
   try clear hfz6_1
   try clear hfz6_2
   try clear hfz6_3
   try clear hfz6_4
   try clear hfz6_5
   try clear hfz6_6
   obtain ⟨x4_1, x5_1, x6_1, x1481000_1, x1481001_1, x1481002_1, x1481003_1, x1481004_1, x1481005_1, x1481006_1, u1481002, u1481003, rfl, rfl, rfl, HA, HK1, HO_1481002, HO_1481003, BK1480, HB⟩ := hrel
   cases gk with
   | zero => exact absurd HA.out (by simp [laws_FnAuto.l0])
   | succ k1 =>
    have H := HA.out
    clear HA
    simp only [laws_FnAuto.l0] at H
    by_cases c7 : x6_1 < 26
    ·rw [if_pos c7] at H
     have c7b0 : decide (x6_1 < 26) = true := decide_eq_true c7
     clear c7
     replace H := Option.bind_eq_some_iff.mp H
     obtain ⟨t1481, A80, H⟩ := H
     replace H : ((laws_at.f l0 (wrap64 (x6_1 + 1))).bind fun t1482 => (if (Int.tmod t1482 5) = 0 then ((impl_Raise.f k1 x1481000_1 x1481001_1 x1481002_1 x1481003_1 x1481004_1 x1481005_1 x1481006_1).bind fun bt1483 => (if bt1483.2.2.2.2.2.2.2.2 = 0 then (if x1481000_1 = true then (if (bt1483.2.2.2.2.2.2.2.1.length : Int) > 1 then (laws_FnAuto.j1 k1 l0 x4_1 x5_1 x6_1 true bt1483.1 bt1483.2.1 bt1483.2.2.1 bt1483.2.2.2.1 bt1483.2.2.2.2.1 bt1483.2.2.2.2.2.1 bt1483.2.2.2.2.2.2.1) else (laws_FnAuto.j1 k1 l0 x4_1 x5_1 x6_1 false bt1483.1 bt1483.2.1 bt1483.2.2.1 bt1483.2.2.2.1 bt1483.2.2.2.2.1 bt1483.2.2.2.2.2.1 bt1483.2.2.2.2.2.2.1)) else ((laws_sameInts.f k1 bt1483.2.2.2.2.2.2.2.1 x1481002_1).bind fun t1499 => (laws_FnAuto.j1 k1 l0 x4_1 x5_1 x6_1 (!t1499) bt1483.1 bt1483.2.1 bt1483.2.2.1 bt1483.2.2.2.1 bt1483.2.2.2.2.1 bt1483.2.2.2.2.2.1 bt1483.2.2.2.2.2.2.1))) else (laws_FnAuto.j1 k1 l0 x4_1 x5_1 x6_1 true bt1483.1 bt1483.2.1 bt1483.2.2.1 bt1483.2.2.2.1 bt1483.2.2.2.2.1 bt1483.2.2.2.2.2.1 bt1483.2.2.2.2.2.2.1))) else (if (Int.tmod t1482 5) = 1 then ((impl_Reset.f k1 x1481000_1 x1481001_1 x1481002_1 x1481003_1 x1481004_1 x1481005_1 x1481006_1).bind fun bt1501 => (if bt1501.2.2.2.2.2.2.2 = 0 then (laws_FnAuto.j2 k1 l0 x4_1 x5_1 x6_1 bt1501.2.1 bt1501.1 bt1501.2.1 bt1501.2.2.1 bt1501.2.2.2.1 bt1501.2.2.2.2.1 bt1501.2.2.2.2.2.1 bt1501.2.2.2.2.2.2.1) else (laws_FnAuto.j2 k1 l0 x4_1 x5_1 x6_1 true bt1501.1 bt1501.2.1 bt1501.2.2.1 bt1501.2.2.2.1 bt1501.2.2.2.2.1 bt1501.2.2.2.2.2.1 bt1501.2.2.2.2.2.2.1))) else (if (Int.tmod t1482 5) = 2 then ((impl_GoOn.f k1 x1481000_1 x1481001_1 x1481002_1 x1481003_1 x1481004_1 x1481005_1 x1481006_1 (Int.tmod t1481 6)).bind fun bt1515 => (if bt1515.2.2.2.2.2.2.2 = 0 then ((spec_EventOk.f k1 bt1515.1 bt1515.2.1 bt1515.2.2.1 bt1515.2.2.2.1 bt1515.2.2.2.2.1 bt1515.2.2.2.2.2.1 bt1515.2.2.2.2.2.2.1).bind fun t1528 => (if t1528 = true then (laws_FnAuto.l0 k1 l0 x4_1 (wrap64 (x5_1 + 1)) (wrap64 (x6_1 + 1)) bt1515.1 bt1515.2.1 bt1515.2.2.1 bt1515.2.2.2.1 bt1515.2.2.2.2.1 bt1515.2.2.2.2.2.1 bt1515.2.2.2.2.2.2.1) else (some false))) else ((spec_EventOk.f k1 bt1515.1 bt1515.2.1 bt1515.2.2.1 bt1515.2.2.2.1 bt1515.2.2.2.2.1 bt1515.2.2.2.2.2.1 bt1515.2.2.2.2.2.2.1).bind fun t1529 => (if t1529 = true then (laws_FnAuto.l0 k1 l0 x4_1 x5_1 (wrap64 (x6_1 + 1)) bt1515.1 bt1515.2.1 bt1515.2.2.1 bt1515.2.2.2.1 bt1515.2.2.2.2.1 bt1515.2.2.2.2.2.1 bt1515.2.2.2.2.2.2.1) else (some false))))) else (if (Int.tmod t1482 5) = 3 then ((impl_StepBack.f k1 x1481000_1 x1481001_1 x1481002_1 x1481003_1 x1481004_1 x1481005_1 x1481006_1 (Int.tmod t1481 6)).bind fun bt1530 => ((spec_StepBack.f k1 x1481000_1 x1481001_1 x1481002_1 x1481003_1 x1481004_1 x1481005_1 x1481006_1 (Int.tmod t1481 6)).bind fun bt1546 => (if bt1530.2.2.2.2.2.2.2.2 = bt1546.2.2.2.2.2.2.2.2 then ((spec_EventOk.f k1 bt1530.1 bt1530.2.1 bt1530.2.2.1 bt1530.2.2.2.1 bt1530.2.2.2.2.1 bt1530.2.2.2.2.2.1 bt1530.2.2.2.2.2.2.1).bind fun t1562 => (if t1562 = true then (laws_FnAuto.l0 k1 l0 x4_1 x5_1 (wrap64 (x6_1 + 1)) bt1530.1 bt1530.2.1 bt1530.2.2.1 bt1530.2.2.2.1 bt1530.2.2.2.2.1 bt1530.2.2.2.2.2.1 bt1530.2.2.2.2.2.2.1) else (some false))) else (some false)))) else ((impl_Stand.f k1 x1481000_1 x1481001_1 x1481002_1 x1481003_1 x1481004_1 x1481005_1 x1481006_1 (Int.tmod t1481 6)).bind fun bt1563 => (if bt1563.2.2.2.2.2.2.2 = 0 then (if x1481001_1 = true then (laws_FnAuto.j3 k1 l0 x4_1 (wrap64 (x5_1 + 1)) x6_1 bt1563.2.2.2.2.2.2.2 x1481000_1 x1481001_1 x1481002_1 x1481003_1 x1481004_1 x1481005_1 x1481006_1 bt1563.1 bt1563.2.1 bt1563.2.2.1 bt1563.2.2.2.1 bt1563.2.2.2.2.1 bt1563.2.2.2.2.2.1 bt1563.2.2.2.2.2.2.1) else (some false)) else (laws_FnAuto.j3 k1 l0 x4_1 x5_1 x6_1 bt1563.2.2.2.2.2.2.2 x1481000_1 x1481001_1 x1481002_1 x1481003_1 x1481004_1 x1481005_1 x1481006_1 bt1563.1 bt1563.2.1 bt1563.2.2.1 bt1563.2.2.2.1 bt1563.2.2.2.2.1 bt1563.2.2.2.2.2.1 bt1563.2.2.2.2.2.2.1)))))))) = some r := H
     have A8 := am A80
     clear A80
     replace H := Option.bind_eq_some_iff.mp H
     obtain ⟨t1482, A90, H⟩ := H
     replace H : (if (Int.tmod t1482 5) = 0 then ((impl_Raise.f k1 x1481000_1 x1481001_1 x1481002_1 x1481003_1 x1481004_1 x1481005_1 x1481006_1).bind fun bt1483 => (if bt1483.2.2.2.2.2.2.2.2 = 0 then (if x1481000_1 = true then (if (bt1483.2.2.2.2.2.2.2.1.length : Int) > 1 then (laws_FnAuto.j1 k1 l0 x4_1 x5_1 x6_1 true bt1483.1 bt1483.2.1 bt1483.2.2.1 bt1483.2.2.2.1 bt1483.2.2.2.2.1 bt1483.2.2.2.2.2.1 bt1483.2.2.2.2.2.2.1) else (laws_FnAuto.j1 k1 l0 x4_1 x5_1 x6_1 false bt1483.1 bt1483.2.1 bt1483.2.2.1 bt1483.2.2.2.1 bt1483.2.2.2.2.1 bt1483.2.2.2.2.2.1 bt1483.2.2.2.2.2.2.1)) else ((laws_sameInts.f k1 bt1483.2.2.2.2.2.2.2.1 x1481002_1).bind fun t1499 => (laws_FnAuto.j1 k1 l0 x4_1 x5_1 x6_1 (!t1499) bt1483.1 bt1483.2.1 bt1483.2.2.1 bt1483.2.2.2.1 bt1483.2.2.2.2.1 bt1483.2.2.2.2.2.1 bt1483.2.2.2.2.2.2.1))) else (laws_FnAuto.j1 k1 l0 x4_1 x5_1 x6_1 true bt1483.1 bt1483.2.1 bt1483.2.2.1 bt1483.2.2.2.1 bt1483.2.2.2.2.1 bt1483.2.2.2.2.2.1 bt1483.2.2.2.2.2.2.1))) else (if (Int.tmod t1482 5) = 1 then ((impl_Reset.f k1 x1481000_1 x1481001_1 x1481002_1 x1481003_1 x1481004_1 x1481005_1 x1481006_1).bind fun bt1501 => (if bt1501.2.2.2.2.2.2.2 = 0 then (laws_FnAuto.j2 k1 l0 x4_1 x5_1 x6_1 bt1501.2.1 bt1501.1 bt1501.2.1 bt1501.2.2.1 bt1501.2.2.2.1 bt1501.2.2.2.2.1 bt1501.2.2.2.2.2.1 bt1501.2.2.2.2.2.2.1) else (laws_FnAuto.j2 k1 l0 x4_1 x5_1 x6_1 true bt1501.1 bt1501.2.1 bt1501.2.2.1 bt1501.2.2.2.1 bt1501.2.2.2.2.1 bt1501.2.2.2.2.2.1 bt1501.2.2.2.2.2.2.1))) else (if (Int.tmod t1482 5) = 2 then ((impl_GoOn.f k1 x1481000_1 x1481001_1 x1481002_1 x1481003_1 x1481004_1 x1481005_1 x1481006_1 (Int.tmod t1481 6)).bind fun bt1515 => (if bt1515.2.2.2.2.2.2.2 = 0 then ((spec_EventOk.f k1 bt1515.1 bt1515.2.1 bt1515.2.2.1 bt1515.2.2.2.1 bt1515.2.2.2.2.1 bt1515.2.2.2.2.2.1 bt1515.2.2.2.2.2.2.1).bind fun t1528 => (if t1528 = true then (laws_FnAuto.l0 k1 l0 x4_1 (wrap64 (x5_1 + 1)) (wrap64 (x6_1 + 1)) bt1515.1 bt1515.2.1 bt1515.2.2.1 bt1515.2.2.2.1 bt1515.2.2.2.2.1 bt1515.2.2.2.2.2.1 bt1515.2.2.2.2.2.2.1) else (some false))) else ((spec_EventOk.f k1 bt1515.1 bt1515.2.1 bt1515.2.2.1 bt1515.2.2.2.1 bt1515.2.2.2.2.1 bt1515.2.2.2.2.2.1 bt1515.2.2.2.2.2.2.1).bind fun t1529 => (if t1529 = true then (laws_FnAuto.l0 k1 l0 x4_1 x5_1 (wrap64 (x6_1 + 1)) bt1515.1 bt1515.2.1 bt1515.2.2.1 bt1515.2.2.2.1 bt1515.2.2.2.2.1 bt1515.2.2.2.2.2.1 bt1515.2.2.2.2.2.2.1) else (some false))))) else (if (Int.tmod t1482 5) = 3 then ((impl_StepBack.f k1 x1481000_1 x1481001_1 x1481002_1 x1481003_1 x1481004_1 x1481005_1 x1481006_1 (Int.tmod t1481 6)).bind fun bt1530 => ((spec_StepBack.f k1 x1481000_1 x1481001_1 x1481002_1 x1481003_1 x1481004_1 x1481005_1 x1481006_1 (Int.tmod t1481 6)).bind fun bt1546 => (if bt1530.2.2.2.2.2.2.2.2 = bt1546.2.2.2.2.2.2.2.2 then ((spec_EventOk.f k1 bt1530.1 bt1530.2.1 bt1530.2.2.1 bt1530.2.2.2.1 bt1530.2.2.2.2.1 bt1530.2.2.2.2.2.1 bt1530.2.2.2.2.2.2.1).bind fun t1562 => (if t1562 = true then (laws_FnAuto.l0 k1 l0 x4_1 x5_1 (wrap64 (x6_1 + 1)) bt1530.1 bt1530.2.1 bt1530.2.2.1 bt1530.2.2.2.1 bt1530.2.2.2.2.1 bt1530.2.2.2.2.2.1 bt1530.2.2.2.2.2.2.1) else (some false))) else (some false)))) else ((impl_Stand.f k1 x1481000_1 x1481001_1 x1481002_1 x1481003_1 x1481004_1 x1481005_1 x1481006_1 (Int.tmod t1481 6)).bind fun bt1563 => (if bt1563.2.2.2.2.2.2.2 = 0 then (if x1481001_1 = true then (laws_FnAuto.j3 k1 l0 x4_1 (wrap64 (x5_1 + 1)) x6_1 bt1563.2.2.2.2.2.2.2 x1481000_1 x1481001_1 x1481002_1 x1481003_1 x1481004_1 x1481005_1 x1481006_1 bt1563.1 bt1563.2.1 bt1563.2.2.1 bt1563.2.2.2.1 bt1563.2.2.2.2.1 bt1563.2.2.2.2.2.1 bt1563.2.2.2.2.2.2.1) else (some false)) else (laws_FnAuto.j3 k1 l0 x4_1 x5_1 x6_1 bt1563.2.2.2.2.2.2.2 x1481000_1 x1481001_1 x1481002_1 x1481003_1 x1481004_1 x1481005_1 x1481006_1 bt1563.1 bt1563.2.1 bt1563.2.2.1 bt1563.2.2.2.1 bt1563.2.2.2.2.1 bt1563.2.2.2.2.2.1 bt1563.2.2.2.2.2.2.1))))))) = some r := H
     have A9 := am A90
     clear A90
     by_cases c10 : (Int.tmod t1482 5) = 0
     ·rw [if_pos c10] at H
      have c10b0 : ((Int.tmod t1482 5) == 0) = true := beq_iff_eq.mpr c10
      have c10b1 : ((Int.tmod t1482 5) != 0) = false := bne_eq_false_iff_eq.mpr c10
      clear c10
      replace H := Option.bind_eq_some_iff.mp H
      obtain ⟨⟨t1483, t1484, t1485, t1488, t1491, t1492, t1493, t1494, t1497⟩, A110, H⟩ := H
      replace H : (if t1497 = 0 then (if x1481000_1 = true then (if (t1494.length : Int) > 1 then (laws_FnAuto.j1 k1 l0 x4_1 x5_1 x6_1 true t1483 t1484 t1485 t1488 t1491 t1492 t1493) else (laws_FnAuto.j1 k1 l0 x4_1 x5_1 x6_1 false t1483 t1484 t1485 t1488 t1491 t1492 t1493)) else ((laws_sameInts.f k1 t1494 x1481002_1).bind fun t1499 => (laws_FnAuto.j1 k1 l0 x4_1 x5_1 x6_1 (!t1499) t1483 t1484 t1485 t1488 t1491 t1492 t1493))) else (laws_FnAuto.j1 k1 l0 x4_1 x5_1 x6_1 true t1483 t1484 t1485 t1488 t1491 t1492 t1493)) = some r := H
      have A11 := am A110
      clear A110
      have HC12 := am H
      clear H
      go_upto_region 20 with (first | ((with_reducible refine gate_callee (f := 46) rfl ?_); refine goesL_ (some 37) rfl rfl Try.func46 (by kernel_rfl) rfl #[.slice A0 l0.length c0, .int .i64 (wrap64 (x6_1 + 50))] rfl mpx ?_; (with_reducible refine (laws_at.calls _ _ l0 (wrap64 (x6_1 + 50)) t1481 _ ?side1 ?side2 A8.out).mono ?_); (case side1 => exact pkC (Kd.C_below HR0.out HB.out)); (case side2 => exact HC0.out); rintro e w' ⟨rfl, nd, rfl⟩; refine ⟨_, rfl, ?_⟩; (try (rw [drewN_self wr]; generalize hq_ : World.drewN wr _ = wr; replace HO_1481002 : Aside0 (Kd.Q (Kd.int .i64) 3 wr w.heap.size (fun k_ => some k_ ≠ (u1481003 : Value).ownBlock) u1481002 x1481002_1) := ⟨by rw [← hq_]; exact (pkQ HO_1481002.out)⟩; replace HO_1481003 : Aside0 (Kd.R (Kd.int .i64) 3 wr w.heap.size (fun k_ => some k_ ≠ (u1481002 : Value).ownBlock) u1481003 x1481003_1) := ⟨by rw [← hq_]; exact (pkR HO_1481003.out)⟩; replace BK1480 : Aside0 (wr.heap[gb1480]? = some (.cells #[.bool x1481000_1, .bool x1481001_1, u1481002, u1481003, .int .i64 x1481004_1, .int .i64 x1481005_1, .int .i64 x1481006_1] 27 (0, 0))) := ⟨by rw [← hq_]; exact (pkK BK1480.out)⟩; replace HB : Aside0 (Below w.heap.size w wr) := ⟨by rw [← hq_]; exact (pkW HB.out)⟩; clear hq_))) | ((with_reducible refine gate_callee (f := 46) rfl ?_); refine goesL_ (some 42) rfl rfl Try.func46 (by kernel_rfl) rfl #[.slice A0 l0.length c0, .int .i64 (wrap64 (x6_1 + 1))] rfl mpx ?_; (with_reducible refine (laws_at.calls _ _ l0 (wrap64 (x6_1 + 1)) t1482 _ ?side1 ?side2 A9.out).mono ?_); (case side1 => exact pkC (Kd.C_below HR0.out HB.out)); (case side2 => exact HC0.out); rintro e w' ⟨rfl, nd, rfl⟩; refine ⟨_, rfl, ?_⟩; (try (rw [drewN_self wr]; generalize hq_ : World.drewN wr _ = wr; replace HO_1481002 : Aside0 (Kd.Q (Kd.int .i64) 3 wr w.heap.size (fun k_ => some k_ ≠ (u1481003 : Value).ownBlock) u1481002 x1481002_1) := ⟨by rw [← hq_]; exact (pkQ HO_1481002.out)⟩; replace HO_1481003 : Aside0 (Kd.R (Kd.int .i64) 3 wr w.heap.size (fun k_ => some k_ ≠ (u1481002 : Value).ownBlock) u1481003 x1481003_1) := ⟨by rw [← hq_]; exact (pkR HO_1481003.out)⟩; replace BK1480 : Aside0 (wr.heap[gb1480]? = some (.cells #[.bool x1481000_1, .bool x1481001_1, u1481002, u1481003, .int .i64 x1481004_1, .int .i64 x1481005_1, .int .i64 x1481006_1] 27 (0, 0))) := ⟨by rw [← hq_]; exact (pkK BK1480.out)⟩; replace HB : Aside0 (Below w.heap.size w wr) := ⟨by rw [← hq_]; exact (pkW HB.out)⟩; clear hq_)); obtain ⟨hcz13_0, hcz13_1, hcz13_2, hcz13_3, hcz13_4, hcz13_5, hcz13_6, hfz13_0, hfz13_1, hfz13_2, hfz13_3, hfz13_4, hfz13_5, hfz13_6⟩ := bk7 BK1480.out; obtain ⟨Ao14, co14, eo14, _⟩ := Kd.Q_slice HO_1481002.out; subst eo14; obtain ⟨Ao15, co15, eo15⟩ := Kd.R_slice HO_1481003.out; subst eo15) | ((with_reducible refine gate_callee (f := 40) rfl ?_); refine goesL_ (some 68) rfl rfl Try.func40 (by kernel_rfl) rfl #[.agg #[.bool x1481000_1, .bool x1481001_1, .slice Ao14 x1481002_1.length co14, .slice Ao15 x1481003_1.length co15, .int .i64 x1481004_1, .int .i64 x1481005_1, .int .i64 x1481006_1]] rfl mpx ?_; (with_reducible refine (impl_Raise.calls k1 x1481000_1 x1481001_1 _ _ x1481002_1 _ _ x1481003_1 x1481004_1 x1481005_1 x1481006_1 t1483 t1484 t1485 t1488 t1491 t1492 t1493 t1494 t1497 _ ?side1 ?side2 ?side3 ?side4 A11.out).mono ?_); (case side1 => repeat (first | exact (Kd.Q_reads' HO_1481002.out).2.2 | (with_reducible refine Kd.C_alloc ?_ _) | (with_reducible refine Kd.C_drewN ?_ _) | (with_reducible refine Kd.C_drew ?_))); (case side2 => exact (Kd.Q_reads' HO_1481002.out).2.1); (case side3 => exact pkC (Kd.R_reads' HO_1481003.out).2.2); (case side4 => exact (Kd.R_reads' HO_1481003.out).2.1); rintro e w16 ⟨v1486, v1489, v1495, rfl, ho0, ho1, ho2, hb⟩; refine ⟨_, rfl, ?_⟩; have HO1487 := am (Kd.Q_lower (Kd.Q_new' (Kd.Q_new' ho0 (Kd.Q_lt (pkQ HO_1481002.out))) (Kd.R_lt (pkR HO_1481003.out))) (below_size (pkW HB.out))); have HO1490 := am (Kd.R_lower (Kd.R_new' (Kd.R_new' ho1 (Kd.Q_lt (pkQ HO_1481002.out))) (Kd.R_lt (pkR HO_1481003.out))) (below_size (pkW HB.out))); have HO1496 := am (Kd.R_lower (Kd.R_new' (Kd.R_new' ho2 (Kd.Q_lt (pkQ HO_1481002.out))) (Kd.R_lt (pkR HO_1481003.out))) (below_size (pkW HB.out))); replace HO_1481002 := am (Kd.Q_mono (Kd.Q_told (Kd.Q_told (Kd.Q_told (Kd.Q_old (pkQ HO_1481002.out) hb) (Kd.Q_base ho0)) (Kd.R_base ho1)) (Kd.R_base ho2)) (fun _ h_ => h_.1)); replace HO_1481003 := am (Kd.R_mono (Kd.R_told (Kd.R_told (Kd.R_told (Kd.R_old (pkR HO_1481003.out) hb) (Kd.Q_base ho0)) (Kd.R_base ho1)) (Kd.R_base ho2)) (fun _ h_ => h_.1)); replace BK1480 := bbk BK1480 hb; replace HB := bst HB hb; (try clear hb ho0 ho1 ho2)) | ((with_reducible refine gate_dst (N := 8) rfl ?_); (try (refine gate_guard (by rfl) ?_; dsimp only)); refine box_event ?hg (N := 8) ?hd (cs := #[.bool false, .bool false, .slice none 0 0, .slice none 0 0, .int .i64 0, .int .i64 0, .int .i64 0]) (t := 27) ?hr ?_; (case hd => rfl); (case hg => rfl); (case hr => first | (go_simp; done) | (go_simp; rfl)); intro gb1498 hg w17 hbox hb; replace HO_1481002 := am (Kd.Q_below (pkQ HO_1481002.out) hb); replace HO_1481003 := rbl HO_1481003 hb; replace HO1487 := am (Kd.Q_below (pkQ HO1487.out) hb); replace HO1490 := rbl HO1490 hb; replace HO1496 := rbl HO1496 hb; have BK1498 := am (hbox); have GW1498 := am ((by rw [hg]; exact (below_size (pkW HB.out)) : w.heap.size ≤ gb1498)); have GE1498 := am ((by rw [hg]; exact (below_size (pkW HB.out)) : w.heap.size ≤ gb1498)); replace HB := bst HB hb; have NB1480_1498 := am ((by rw [hg]; exact Nat.ne_of_lt (blk_lt (g := gb1480) (o := .cells #[.bool x1481000_1, .bool x1481001_1, .slice Ao14 x1481002_1.length co14, .slice Ao15 x1481003_1.length co15, .int .i64 x1481004_1, .int .i64 x1481005_1, .int .i64 x1481006_1] 27 (0, 0)) (pkK BK1480.out)) : gb1480 ≠ gb1498)); have NB1498_1480 := am ((by rw [hg]; exact Nat.ne_of_gt (blk_lt (g := gb1480) (o := .cells #[.bool x1481000_1, .bool x1481001_1, .slice Ao14 x1481002_1.length co14, .slice Ao15 x1481003_1.length co15, .int .i64 x1481004_1, .int .i64 x1481005_1, .int .i64 x1481006_1] 27 (0, 0)) (pkK BK1480.out)) : gb1498 ≠ gb1480)); replace BK1480 := bbk BK1480 hb; clear hb hbox hg; have hnb18 := NB1498_1480.out; have hnc18 := NB1480_1498.out; obtain ⟨hcz19_0, hcz19_1, hcz19_2, hcz19_3, hcz19_4, hcz19_5, hcz19_6, hfz19_0, hfz19_1, hfz19_2, hfz19_3, hfz19_4, hfz19_5, hfz19_6⟩ := bk7 BK1498.out; obtain ⟨Ao20, co20, eo20, _⟩ := Kd.Q_slice HO1487.out; subst eo20; obtain ⟨Ao21, co21, eo21⟩ := Kd.R_slice HO1490.out; subst eo21))
      (try simp only [Act.put, List.setIfInBounds_toArray, List.set_cons_zero, List.set_cons_succ])
      go_cut [94] (fun v94 wc => ∃ (kq : Nat) (x94_11 : Bool), v94 = .bool x94_11 ∧ Aside0 (laws_FnAuto.j1 kq l0 x4_1 x5_1 x6_1 x94_11 t1483 t1484 t1485 t1488 t1491 t1492 t1493 = some r) ∧ Aside0 (kq ≤ k1) ∧ Aside0 (Kd.Q (Kd.int .i64) 3 wc w.heap.size (fun k_ => some k_ ≠ ((.slice Ao15 x1481003_1.length co15) : Value).ownBlock ∧ some k_ ≠ ((.slice Ao20 t1485.length co20) : Value).ownBlock ∧ some k_ ≠ ((.slice Ao21 t1488.length co21) : Value).ownBlock) (.slice Ao14 x1481002_1.length co14) x1481002_1) ∧ Aside0 (Kd.R (Kd.int .i64) 3 wc w.heap.size (fun k_ => some k_ ≠ ((.slice Ao14 x1481002_1.length co14) : Value).ownBlock ∧ some k_ ≠ ((.slice Ao20 t1485.length co20) : Value).ownBlock ∧ some k_ ≠ ((.slice Ao21 t1488.length co21) : Value).ownBlock) (.slice Ao15 x1481003_1.length co15) x1481003_1) ∧ Aside0 (Kd.Q (Kd.int .i64) 3 wc w.heap.size (fun k_ => some k_ ≠ ((.slice Ao14 x1481002_1.length co14) : Value).ownBlock ∧ some k_ ≠ ((.slice Ao15 x1481003_1.length co15) : Value).ownBlock ∧ some k_ ≠ ((.slice Ao21 t1488.length co21) : Value).ownBlock) (.slice Ao20 t1485.length co20) t1485) ∧ Aside0 (Kd.R (Kd.int .i64) 3 wc w.heap.size (fun k_ => some k_ ≠ ((.slice Ao14 x1481002_1.length co14) : Value).ownBlock ∧ some k_ ≠ ((.slice Ao15 x1481003_1.length co15) : Value).ownBlock ∧ some k_ ≠ ((.slice Ao20 t1485.length co20) : Value).ownBlock) (.slice Ao21 t1488.length co21) t1488) ∧ Aside0 (wc.heap[gb1480]? = some (.cells #[.bool x1481000_1, .bool x1481001_1, (.slice Ao14 x1481002_1.length co14), (.slice Ao15 x1481003_1.length co15), .int .i64 x1481004_1, .int .i64 x1481005_1, .int .i64 x1481006_1] 27 (0, 0))) ∧ Aside0 (wc.heap[gb1498]? = some (.cells #[.bool t1483, .bool t1484, (.slice Ao20 t1485.length co20), (.slice Ao21 t1488.length co21), .int .i64 t1491, .int .i64 t1492, .int .i64 t1493] 27 (0, 0))) ∧ Aside0 (Below w.heap.size w wc))
      case first =>
       have H := HC12.out
       clear HC12
       by_cases c22 : t1497 = 0
       ·rw [if_pos c22] at H
        have c22b0 : (t1497 == 0) = true := beq_iff_eq.mpr c22
        have c22b1 : (t1497 != 0) = false := bne_eq_false_iff_eq.mpr c22
        clear c22
        (first | rw [c22b0] | (simp only [i64_w, i32_w]; rw [c22b0]) | skip)
        by_cases c23 : x1481000_1 = true
        ·subst c23
         replace H : (if (t1494.length : Int) > 1 then (laws_FnAuto.j1 k1 l0 x4_1 x5_1 x6_1 true t1483 t1484 t1485 t1488 t1491 t1492 t1493) else (laws_FnAuto.j1 k1 l0 x4_1 x5_1 x6_1 false t1483 t1484 t1485 t1488 t1491 t1492 t1493)) = some r := by rw [if_pos rfl] at H; exact H
         by_cases c24 : (t1494.length : Int) > 1
         ·rw [if_pos c24] at H
          have c24b0 : decide (1 < (t1494.length : Int)) = true := decide_eq_true c24
          have c24b1 : decide (1 < t1494.length) = true := decide_eq_true (by omega)
          clear c24
          cases k1 with
          | zero => exact absurd H (by simp [laws_FnAuto.j1])
          | succ k_ => (simp only [laws_FnAuto.j1, if_pos] at H; exact absurd (Option.some.inj H) (by rw [HQ_.out]; simp))
         ·rw [if_neg c24] at H
          have c24b0 : decide (1 < (t1494.length : Int)) = false := decide_eq_false c24
          have c24b1 : decide (1 < t1494.length) = false := decide_eq_false (by omega)
          clear c24
          have H' := am H
          clear H
          have hnb25 := NB1480_1498.out
          have hnc25 := NB1498_1480.out
          obtain ⟨hcz26_0, hcz26_1, hcz26_2, hcz26_3, hcz26_4, hcz26_5, hcz26_6, hfz26_0, hfz26_1, hfz26_2, hfz26_3, hfz26_4, hfz26_5, hfz26_6⟩ := bk7 BK1480.out
          obtain ⟨Ao27, co27, eo27⟩ := Kd.R_slice HO1496.out
          subst eo27
          go_wp2
          go_meet
          case rel => exact ⟨_, (false), rfx, H', ⟨by have := HK1.out; first | omega | exact Nat.le_refl _⟩, ⟨by (with_reducible repeat (first | apply Kd.Q_alloc | apply Kd.Q_drewN | apply Kd.Q_drew)); exact Kd.Q_mono (Kd.Q_far (p := ⟨gb1498, 6, none⟩) (Kd.Q_far (p := ⟨gb1498, 5, none⟩) (Kd.Q_far (p := ⟨gb1498, 4, none⟩) (Kd.Q_far (p := ⟨gb1498, 3, none⟩) (Kd.Q_far (p := ⟨gb1498, 2, none⟩) (Kd.Q_far (p := ⟨gb1498, 1, none⟩) (Kd.Q_far (p := ⟨gb1498, 0, none⟩) (Kd.Q_types HO_1481002.out BK1498.out (by decide)) (fun _ hk => hk.2) (.bool t1483)) (fun _ hk => hk.2) (.bool t1484)) (fun _ hk => hk.2) (.slice Ao20 t1485.length co20)) (fun _ hk => hk.2) (.slice Ao21 t1488.length co21)) (fun _ hk => hk.2) (.int .i64 t1491)) (fun _ hk => hk.2) (.int .i64 t1492)) (fun _ hk => hk.2) (.int .i64 t1493)) (fun _ hk => ⟨hk.1.1.1.1, hk.1.1.1.2, hk.1.1.2⟩)⟩, ⟨by (with_reducible repeat (first | apply Kd.R_alloc | apply Kd.R_drewN | apply Kd.R_drew)); exact Kd.R_mono (Kd.R_far (p := ⟨gb1498, 6, none⟩) (Kd.R_far (p := ⟨gb1498, 5, none⟩) (Kd.R_far (p := ⟨gb1498, 4, none⟩) (Kd.R_far (p := ⟨gb1498, 3, none⟩) (Kd.R_far (p := ⟨gb1498, 2, none⟩) (Kd.R_far (p := ⟨gb1498, 1, none⟩) (Kd.R_far (p := ⟨gb1498, 0, none⟩) (Kd.R_types HO_1481003.out BK1498.out (by decide)) (fun _ hk => hk.2) (.bool t1483)) (fun _ hk => hk.2) (.bool t1484)) (fun _ hk => hk.2) (.slice Ao20 t1485.length co20)) (fun _ hk => hk.2) (.slice Ao21 t1488.length co21)) (fun _ hk => hk.2) (.int .i64 t1491)) (fun _ hk => hk.2) (.int .i64 t1492)) (fun _ hk => hk.2) (.int .i64 t1493)) (fun _ hk => ⟨hk.1.1.1.1, hk.1.1.1.2, hk.1.1.2⟩)⟩, ⟨by (with_reducible repeat (first | apply Kd.Q_alloc | apply Kd.Q_drewN | apply Kd.Q_drew)); exact Kd.Q_mono (Kd.Q_far (p := ⟨gb1498, 6, none⟩) (Kd.Q_far (p := ⟨gb1498, 5, none⟩) (Kd.Q_far (p := ⟨gb1498, 4, none⟩) (Kd.Q_far (p := ⟨gb1498, 3, none⟩) (Kd.Q_far (p := ⟨gb1498, 2, none⟩) (Kd.Q_far (p := ⟨gb1498, 1, none⟩) (Kd.Q_far (p := ⟨gb1498, 0, none⟩) (Kd.Q_types HO1487.out BK1498.out (by decide)) (fun _ hk => hk.2) (.bool t1483)) (fun _ hk => hk.2) (.bool t1484)) (fun _ hk => hk.2) (.slice Ao20 t1485.length co20)) (fun _ hk => hk.2) (.slice Ao21 t1488.length co21)) (fun _ hk => hk.2) (.int .i64 t1491)) (fun _ hk => hk.2) (.int .i64 t1492)) (fun _ hk => hk.2) (.int .i64 t1493)) (fun _ hk => ⟨hk.1.1.2, hk.1.2, hk.1.1.1.1⟩)⟩, ⟨by (with_reducible repeat (first | apply Kd.R_alloc | apply Kd.R_drewN | apply Kd.R_drew)); exact Kd.R_mono (Kd.R_far (p := ⟨gb1498, 6, none⟩) (Kd.R_far (p := ⟨gb1498, 5, none⟩) (Kd.R_far (p := ⟨gb1498, 4, none⟩) (Kd.R_far (p := ⟨gb1498, 3, none⟩) (Kd.R_far (p := ⟨gb1498, 2, none⟩) (Kd.R_far (p := ⟨gb1498, 1, none⟩) (Kd.R_far (p := ⟨gb1498, 0, none⟩) (Kd.R_types HO1490.out BK1498.out (by decide)) (fun _ hk => hk.2) (.bool t1483)) (fun _ hk => hk.2) (.bool t1484)) (fun _ hk => hk.2) (.slice Ao20 t1485.length co20)) (fun _ hk => hk.2) (.slice Ao21 t1488.length co21)) (fun _ hk => hk.2) (.int .i64 t1491)) (fun _ hk => hk.2) (.int .i64 t1492)) (fun _ hk => hk.2) (.int .i64 t1493)) (fun _ hk => ⟨hk.1.1.2, hk.1.2, hk.1.1.1.1⟩)⟩, ⟨by (with_reducible repeat (first | refine blk_drewN ?_ _ | refine blk_drew ?_ | refine blk_alloc ?_ _)); refine blk_far ?_ NB1480_1498.out _; (with_reducible repeat (first | refine blk_drewN ?_ _ | refine blk_drew ?_ | refine blk_alloc ?_ _)); refine blk_far ?_ NB1480_1498.out _; (with_reducible repeat (first | refine blk_drewN ?_ _ | refine blk_drew ?_ | refine blk_alloc ?_ _)); refine blk_far ?_ NB1480_1498.out _; (with_reducible repeat (first | refine blk_drewN ?_ _ | refine blk_drew ?_ | refine blk_alloc ?_ _)); refine blk_far ?_ NB1480_1498.out _; (with_reducible repeat (first | refine blk_drewN ?_ _ | refine blk_drew ?_ | refine blk_alloc ?_ _)); refine blk_far ?_ NB1480_1498.out _; (with_reducible repeat (first | refine blk_drewN ?_ _ | refine blk_drew ?_ | refine blk_alloc ?_ _)); refine blk_far ?_ NB1480_1498.out _; (with_reducible repeat (first | refine blk_drewN ?_ _ | refine blk_drew ?_ | refine blk_alloc ?_ _)); refine blk_far ?_ NB1480_1498.out _; exact pkK BK1480.out⟩, ⟨by (with_reducible repeat (first | refine blk_drewN ?_ _ | refine blk_drew ?_ | refine blk_alloc ?_ _)); refine blk_put (cs := #[.bool t1483, .bool t1484, .slice Ao20 t1485.length co20, .slice Ao21 t1488.length co21, .int .i64 t1491, .int .i64 t1492, .int .i64 0]) ?_ 6 _ rfl; (with_reducible repeat (first | refine blk_drewN ?_ _ | refine blk_drew ?_ | refine blk_alloc ?_ _)); refine blk_put (cs := #[.bool t1483, .bool t1484, .slice Ao20 t1485.length co20, .slice Ao21 t1488.length co21, .int .i64 t1491, .int .i64 0, .int .i64 0]) ?_ 5 _ rfl; (with_reducible repeat (first | refine blk_drewN ?_ _ | refine blk_drew ?_ | refine blk_alloc ?_ _)); refine blk_put (cs := #[.bool t1483, .bool t1484, .slice Ao20 t1485.length co20, .slice Ao21 t1488.length co21, .int .i64 0, .int .i64 0, .int .i64 0]) ?_ 4 _ rfl; (with_reducible repeat (first | refine blk_drewN ?_ _ | refine blk_drew ?_ | refine blk_alloc ?_ _)); refine blk_put (cs := #[.bool t1483, .bool t1484, .slice Ao20 t1485.length co20, .slice none 0 0, .int .i64 0, .int .i64 0, .int .i64 0]) ?_ 3 _ rfl; (with_reducible repeat (first | refine blk_drewN ?_ _ | refine blk_drew ?_ | refine blk_alloc ?_ _)); refine blk_put (cs := #[.bool t1483, .bool t1484, .slice none 0 0, .slice none 0 0, .int .i64 0, .int .i64 0, .int .i64 0]) ?_ 2 _ rfl; (with_reducible repeat (first | refine blk_drewN ?_ _ | refine blk_drew ?_ | refine blk_alloc ?_ _)); refine blk_put (cs := #[.bool t1483, .bool false, .slice none 0 0, .slice none 0 0, .int .i64 0, .int .i64 0, .int .i64 0]) ?_ 1 _ rfl; (with_reducible repeat (first | refine blk_drewN ?_ _ | refine blk_drew ?_ | refine blk_alloc ?_ _)); refine blk_put (cs := #[.bool false, .bool false, .slice none 0 0, .slice none 0 0, .int .i64 0, .int .i64 0, .int .i64 0]) ?_ 0 _ rfl; exact pkK BK1498.out⟩, ⟨pkW HB.out⟩⟩
        ·replace c23 := Bool.eq_false_iff.mpr c23
         subst c23
         replace H : ((laws_sameInts.f k1 t1494 x1481002_1).bind fun t1499 => (laws_FnAuto.j1 k1 l0 x4_1 x5_1 x6_1 (!t1499) t1483 t1484 t1485 t1488 t1491 t1492 t1493)) = some r := by rw [if_neg (show ¬ (false = true) by decide)] at H; exact H
         replace H := Option.bind_eq_some_iff.mp H
         obtain ⟨t1499, A280, H⟩ := H
         replace H : (laws_FnAuto.j1 k1 l0 x4_1 x5_1 x6_1 (!t1499) t1483 t1484 t1485 t1488 t1491 t1492 t1493) = some r := H
         have A28 := am A280
         clear A280
         have H' := am H
         clear H
         have hnb29 := NB1480_1498.out
         have hnc29 := NB1498_1480.out
         obtain ⟨hcz30_0, hcz30_1, hcz30_2, hcz30_3, hcz30_4, hcz30_5, hcz30_6, hfz30_0, hfz30_1, hfz30_2, hfz30_3, hfz30_4, hfz30_5, hfz30_6⟩ := bk7 BK1480.out
         obtain ⟨Ao31, co31, eo31⟩ := Kd.R_slice HO1496.out
         subst eo31
         go_wp2_with (first | (go_at_call 47; (with_reducible refine (laws_sameInts.calls k1 _ _ t1494 _ _ x1481002_1 t1499 _ ?side1 ?side2 ?side3 ?side4 A28.out).mono ?_); (case side1 => refine (Kd.R_reads' (e := 3) (base := w.heap.size) (ok := fun k_ => (((some k_ ≠ (.slice Ao20 t1485.length co20 : Value).ownBlock ∧ some k_ ≠ (.slice Ao21 t1488.length co21 : Value).ownBlock) ∧ some k_ ≠ (.slice Ao14 x1481002_1.length co14 : Value).ownBlock) ∧ some k_ ≠ (.slice Ao15 x1481003_1.length co15 : Value).ownBlock)) (n := t1494.length) (c := co31) ?_).2.2; exact (by (with_reducible repeat (first | apply Kd.R_alloc | apply Kd.R_drewN | apply Kd.R_drew)); exact (Kd.R_mono (Kd.R_far (p := ⟨gb1498, 6, none⟩) (Kd.R_far (p := ⟨gb1498, 5, none⟩) (Kd.R_far (p := ⟨gb1498, 4, none⟩) (Kd.R_far (p := ⟨gb1498, 3, none⟩) (Kd.R_far (p := ⟨gb1498, 2, none⟩) (Kd.R_far (p := ⟨gb1498, 1, none⟩) (Kd.R_far (p := ⟨gb1498, 0, none⟩) (Kd.R_types HO1496.out BK1498.out (by decide)) (fun _ hk => hk.2) (.bool t1483)) (fun _ hk => hk.2) (.bool t1484)) (fun _ hk => hk.2) (.slice Ao20 t1485.length co20)) (fun _ hk => hk.2) (.slice Ao21 t1488.length co21)) (fun _ hk => hk.2) (.int .i64 t1491)) (fun _ hk => hk.2) (.int .i64 t1492)) (fun _ hk => hk.2) (.int .i64 t1493)) (fun _ h_ => h_.1)))); (case side2 => exact (Kd.R_reads' HO1496.out).2.1); (case side3 => refine (Kd.Q_reads' (e := 3) (base := w.heap.size) (ok := fun k_ => (((some k_ ≠ (.slice Ao15 x1481003_1.length co15 : Value).ownBlock ∧ some k_ ≠ (.slice Ao20 t1485.length co20 : Value).ownBlock) ∧ some k_ ≠ (.slice Ao21 t1488.length co21 : Value).ownBlock) ∧ some k_ ≠ (.slice Ao31 t1494.length co31 : Value).ownBlock)) (n := x1481002_1.length) (c := co14) ?_).2.2; exact (by (with_reducible repeat (first | apply Kd.Q_alloc | apply Kd.Q_drewN | apply Kd.Q_drew)); exact (Kd.Q_mono (Kd.Q_far (p := ⟨gb1498, 6, none⟩) (Kd.Q_far (p := ⟨gb1498, 5, none⟩) (Kd.Q_far (p := ⟨gb1498, 4, none⟩) (Kd.Q_far (p := ⟨gb1498, 3, none⟩) (Kd.Q_far (p := ⟨gb1498, 2, none⟩) (Kd.Q_far (p := ⟨gb1498, 1, none⟩) (Kd.Q_far (p := ⟨gb1498, 0, none⟩) (Kd.Q_types HO_1481002.out BK1498.out (by decide)) (fun _ hk => hk.2) (.bool t1483)) (fun _ hk => hk.2) (.bool t1484)) (fun _ hk => hk.2) (.slice Ao20 t1485.length co20)) (fun _ hk => hk.2) (.slice Ao21 t1488.length co21)) (fun _ hk => hk.2) (.int .i64 t1491)) (fun _ hk => hk.2) (.int .i64 t1492)) (fun _ hk => hk.2) (.int .i64 t1493)) (fun _ h_ => h_.1)))); (case side4 => exact (Kd.Q_reads' HO_1481002.out).2.1); rintro e w' ⟨rfl, nd, rfl⟩))
         go_meet
         case rel => exact ⟨_, (!t1499), rfx, H', ⟨by have := HK1.out; first | omega | exact Nat.le_refl _⟩, ⟨by (with_reducible repeat (first | apply Kd.Q_alloc | apply Kd.Q_drewN | apply Kd.Q_drew)); exact Kd.Q_mono (Kd.Q_far (p := ⟨gb1498, 6, none⟩) (Kd.Q_far (p := ⟨gb1498, 5, none⟩) (Kd.Q_far (p := ⟨gb1498, 4, none⟩) (Kd.Q_far (p := ⟨gb1498, 3, none⟩) (Kd.Q_far (p := ⟨gb1498, 2, none⟩) (Kd.Q_far (p := ⟨gb1498, 1, none⟩) (Kd.Q_far (p := ⟨gb1498, 0, none⟩) (Kd.Q_types HO_1481002.out BK1498.out (by decide)) (fun _ hk => hk.2) (.bool t1483)) (fun _ hk => hk.2) (.bool t1484)) (fun _ hk => hk.2) (.slice Ao20 t1485.length co20)) (fun _ hk => hk.2) (.slice Ao21 t1488.length co21)) (fun _ hk => hk.2) (.int .i64 t1491)) (fun _ hk => hk.2) (.int .i64 t1492)) (fun _ hk => hk.2) (.int .i64 t1493)) (fun _ hk => ⟨hk.1.1.1.1, hk.1.1.1.2, hk.1.1.2⟩)⟩, ⟨by (with_reducible repeat (first | apply Kd.R_alloc | apply Kd.R_drewN | apply Kd.R_drew)); exact Kd.R_mono (Kd.R_far (p := ⟨gb1498, 6, none⟩) (Kd.R_far (p := ⟨gb1498, 5, none⟩) (Kd.R_far (p := ⟨gb1498, 4, none⟩) (Kd.R_far (p := ⟨gb1498, 3, none⟩) (Kd.R_far (p := ⟨gb1498, 2, none⟩) (Kd.R_far (p := ⟨gb1498, 1, none⟩) (Kd.R_far (p := ⟨gb1498, 0, none⟩) (Kd.R_types HO_1481003.out BK1498.out (by decide)) (fun _ hk => hk.2) (.bool t1483)) (fun _ hk => hk.2) (.bool t1484)) (fun _ hk => hk.2) (.slice Ao20 t1485.length co20)) (fun _ hk => hk.2) (.slice Ao21 t1488.length co21)) (fun _ hk => hk.2) (.int .i64 t1491)) (fun _ hk => hk.2) (.int .i64 t1492)) (fun _ hk => hk.2) (.int .i64 t1493)) (fun _ hk => ⟨hk.1.1.1.1, hk.1.1.1.2, hk.1.1.2⟩)⟩, ⟨by (with_reducible repeat (first | apply Kd.Q_alloc | apply Kd.Q_drewN | apply Kd.Q_drew)); exact Kd.Q_mono (Kd.Q_far (p := ⟨gb1498, 6, none⟩) (Kd.Q_far (p := ⟨gb1498, 5, none⟩) (Kd.Q_far (p := ⟨gb1498, 4, none⟩) (Kd.Q_far (p := ⟨gb1498, 3, none⟩) (Kd.Q_far (p := ⟨gb1498, 2, none⟩) (Kd.Q_far (p := ⟨gb1498, 1, none⟩) (Kd.Q_far (p := ⟨gb1498, 0, none⟩) (Kd.Q_types HO1487.out BK1498.out (by decide)) (fun _ hk => hk.2) (.bool t1483)) (fun _ hk => hk.2) (.bool t1484)) (fun _ hk => hk.2) (.slice Ao20 t1485.length co20)) (fun _ hk => hk.2) (.slice Ao21 t1488.length co21)) (fun _ hk => hk.2) (.int .i64 t1491)) (fun _ hk => hk.2) (.int .i64 t1492)) (fun _ hk => hk.2) (.int .i64 t1493)) (fun _ hk => ⟨hk.1.1.2, hk.1.2, hk.1.1.1.1⟩)⟩, ⟨by (with_reducible repeat (first | apply Kd.R_alloc | apply Kd.R_drewN | apply Kd.R_drew)); exact Kd.R_mono (Kd.R_far (p := ⟨gb1498, 6, none⟩) (Kd.R_far (p := ⟨gb1498, 5, none⟩) (Kd.R_far (p := ⟨gb1498, 4, none⟩) (Kd.R_far (p := ⟨gb1498, 3, none⟩) (Kd.R_far (p := ⟨gb1498, 2, none⟩) (Kd.R_far (p := ⟨gb1498, 1, none⟩) (Kd.R_far (p := ⟨gb1498, 0, none⟩) (Kd.R_types HO1490.out BK1498.out (by decide)) (fun _ hk => hk.2) (.bool t1483)) (fun _ hk => hk.2) (.bool t1484)) (fun _ hk => hk.2) (.slice Ao20 t1485.length co20)) (fun _ hk => hk.2) (.slice Ao21 t1488.length co21)) (fun _ hk => hk.2) (.int .i64 t1491)) (fun _ hk => hk.2) (.int .i64 t1492)) (fun _ hk => hk.2) (.int .i64 t1493)) (fun _ hk => ⟨hk.1.1.2, hk.1.2, hk.1.1.1.1⟩)⟩, ⟨by (with_reducible repeat (first | refine blk_drewN ?_ _ | refine blk_drew ?_ | refine blk_alloc ?_ _)); refine blk_far ?_ NB1480_1498.out _; (with_reducible repeat (first | refine blk_drewN ?_ _ | refine blk_drew ?_ | refine blk_alloc ?_ _)); refine blk_far ?_ NB1480_1498.out _; (with_reducible repeat (first | refine blk_drewN ?_ _ | refine blk_drew ?_ | refine blk_alloc ?_ _)); refine blk_far ?_ NB1480_1498.out _; (with_reducible repeat (first | refine blk_drewN ?_ _ | refine blk_drew ?_ | refine blk_alloc ?_ _)); refine blk_far ?_ NB1480_1498.out _; (with_reducible repeat (first | refine blk_drewN ?_ _ | refine blk_drew ?_ | refine blk_alloc ?_ _)); refine blk_far ?_ NB1480_1498.out _; (with_reducible repeat (first | refine blk_drewN ?_ _ | refine blk_drew ?_ | refine blk_alloc ?_ _)); refine blk_far ?_ NB1480_1498.out _; (with_reducible repeat (first | refine blk_drewN ?_ _ | refine blk_drew ?_ | refine blk_alloc ?_ _)); refine blk_far ?_ NB1480_1498.out _; exact pkK BK1480.out⟩, ⟨by (with_reducible repeat (first | refine blk_drewN ?_ _ | refine blk_drew ?_ | refine blk_alloc ?_ _)); refine blk_put (cs := #[.bool t1483, .bool t1484, .slice Ao20 t1485.length co20, .slice Ao21 t1488.length co21, .int .i64 t1491, .int .i64 t1492, .int .i64 0]) ?_ 6 _ rfl; (with_reducible repeat (first | refine blk_drewN ?_ _ | refine blk_drew ?_ | refine blk_alloc ?_ _)); refine blk_put (cs := #[.bool t1483, .bool t1484, .slice Ao20 t1485.length co20, .slice Ao21 t1488.length co21, .int .i64 t1491, .int .i64 0, .int .i64 0]) ?_ 5 _ rfl; (with_reducible repeat (first | refine blk_drewN ?_ _ | refine blk_drew ?_ | refine blk_alloc ?_ _)); refine blk_put (cs := #[.bool t1483, .bool t1484, .slice Ao20 t1485.length co20, .slice Ao21 t1488.length co21, .int .i64 0, .int .i64 0, .int .i64 0]) ?_ 4 _ rfl; (with_reducible repeat (first | refine blk_drewN ?_ _ | refine blk_drew ?_ | refine blk_alloc ?_ _)); refine blk_put (cs := #[.bool t1483, .bool t1484, .slice Ao20 t1485.length co20, .slice none 0 0, .int .i64 0, .int .i64 0, .int .i64 0]) ?_ 3 _ rfl; (with_reducible repeat (first | refine blk_drewN ?_ _ | refine blk_drew ?_ | refine blk_alloc ?_ _)); refine blk_put (cs := #[.bool t1483, .bool t1484, .slice none 0 0, .slice none 0 0, .int .i64 0, .int .i64 0, .int .i64 0]) ?_ 2 _ rfl; (with_reducible repeat (first | refine blk_drewN ?_ _ | refine blk_drew ?_ | refine blk_alloc ?_ _)); refine blk_put (cs := #[.bool t1483, .bool false, .slice none 0 0, .slice none 0 0, .int .i64 0, .int .i64 0, .int .i64 0]) ?_ 1 _ rfl; (with_reducible repeat (first | refine blk_drewN ?_ _ | refine blk_drew ?_ | refine blk_alloc ?_ _)); refine blk_put (cs := #[.bool false, .bool false, .slice none 0 0, .slice none 0 0, .int .i64 0, .int .i64 0, .int .i64 0]) ?_ 0 _ rfl; exact pkK BK1498.out⟩, ⟨pkW HB.out⟩⟩
       ·rw [if_neg c22] at H
        have c22b0 : (t1497 == 0) = false := beq_eq_false_iff_ne.mpr c22
        have c22b1 : (t1497 != 0) = true := bne_iff_ne.mpr c22
        (first | rw [c22b0] | (simp only [i64_w, i32_w]; rw [c22b0]) | skip)
        cases k1 with
        | zero => exact absurd H (by simp [laws_FnAuto.j1])
        | succ k_ => (simp only [laws_FnAuto.j1, if_pos] at H; exact absurd (Option.some.inj H) (by rw [HQ_.out]; simp))
      case rest =>
       clear HC12
       try clear c1
       try clear c2
       try clear p2
       try clear c3
       try clear c4
       try clear p6
       try clear c7
       try clear c7b0
       try clear c10
       try clear c10b0
       try clear c10b1
       try clear c12
       try clear c18
       try clear c22
       try clear c22b0
       try clear c22b1
       try clear c23
       try clear c24
       try clear c24b0
       try clear c24b1
       try clear c25
       try clear c29
       try clear hcz13_0
       try clear hcz13_1
       try clear hcz13_2
       try clear hcz13_3
       try clear hcz13_4
       try clear hcz13_5
       try clear hcz13_6
       try clear hcz19_0
       try clear hcz19_1
       try clear hcz19_2
       try clear hcz19_3
       try clear hcz19_4
       try clear hcz19_5
       try clear hcz19_6
       try clear hcz26_0
       try clear hcz26_1
       try clear hcz26_2
       try clear hcz26_3
       try clear hcz26_4
       try clear hcz26_5
       try clear hcz26_6
       try clear hcz30_0
       try clear hcz30_1
       try clear hcz30_2
       try clear hcz30_3
       try clear hcz30_4
       try clear hcz30_5
       try clear hcz30_6
       try clear hcz6_0
       try clear hcz6_1
       try clear hcz6_2
       try clear hcz6_3
       try clear hcz6_4
       try clear hcz6_5
       try clear hcz6_6
       try clear hfz13_0
       try clear hfz13_1
       try clear hfz13_2
       try clear hfz13_3
       try clear hfz13_4
       try clear hfz13_5
       try clear hfz13_6
       try clear hfz19_0
       try clear hfz19_1
       try clear hfz19_2
       try clear hfz19_3
       try clear hfz19_4
       try clear hfz19_5
       try clear hfz19_6
       try clear hfz26_0
       try clear hfz26_1
       try clear hfz26_2
       try clear hfz26_3
       try clear hfz26_4
       try clear hfz26_5
       try clear hfz26_6
       try clear hfz30_0
       try clear hfz30_1
       try clear hfz30_2
       try clear hfz30_3
       try clear hfz30_4
       try clear hfz30_5
       try clear hfz30_6
       try clear hfz6_0
       try clear hfz6_1
       try clear hfz6_2
       try clear hfz6_3
       try clear hfz6_4
       try clear hfz6_5
       try clear hfz6_6
       try clear p2
       obtain ⟨kq, x94_11, rfl, HA, HJ11, HO_1481002, HO_1481003, HO_1499002, HO_1499003, BK1480, BK1498, HB⟩ := hcut
       cases kq with
       | zero => exact absurd HA.out (by simp [laws_FnAuto.j1])
       | succ kj11 =>
        have H := HA.out
        clear HA
        simp only [laws_FnAuto.j1] at H
        by_cases c32 : x94_11 = true
        ·subst c32
         replace H : (some false) = some r := by rw [if_pos rfl] at H; exact H
         exact absurd (Option.some.inj H) (by rw [HQ_.out]; simp)
        ·replace c32 := Bool.eq_false_iff.mpr c32
         subst c32
         replace H : ((spec_EventOk.f kj11 t1483 t1484 t1485 t1488 t1491 t1492 t1493).bind fun t1500 => (if t1500 = true then (laws_FnAuto.l0 kj11 l0 (wrap64 (x4_1 + 1)) x5_1 (wrap64 (x6_1 + 1)) t1483 t1484 t1485 t1488 t1491 t1492 t1493) else (some false))) = some r := by rw [if_neg (show ¬ (false = true) by decide)] at H; exact H
         replace H := Option.bind_eq_some_iff.mp H
         obtain ⟨t1500, A330, H⟩ := H
         replace H : (if t1500 = true then (laws_FnAuto.l0 kj11 l0 (wrap64 (x4_1 + 1)) x5_1 (wrap64 (x6_1 + 1)) t1483 t1484 t1485 t1488 t1491 t1492 t1493) else (some false)) = some r := H
         have A33 := am A330
         clear A330
         by_cases c34 : t1500 = true
         ·subst c34
          replace H : (laws_FnAuto.l0 kj11 l0 (wrap64 (x4_1 + 1)) x5_1 (wrap64 (x6_1 + 1)) t1483 t1484 t1485 t1488 t1491 t1492 t1493) = some r := by rw [if_pos rfl] at H; exact H
          have H' := am H
          clear H
          have hnb35 := NB1498_1480.out
          have hnc35 := NB1480_1498.out
          obtain ⟨hcz36_0, hcz36_1, hcz36_2, hcz36_3, hcz36_4, hcz36_5, hcz36_6, hfz36_0, hfz36_1, hfz36_2, hfz36_3, hfz36_4, hfz36_5, hfz36_6⟩ := bk7 BK1498.out
          obtain ⟨hcz37_0, hcz37_1, hcz37_2, hcz37_3, hcz37_4, hcz37_5, hcz37_6, hfz37_0, hfz37_1, hfz37_2, hfz37_3, hfz37_4, hfz37_5, hfz37_6⟩ := bk7 BK1480.out
          go_wp2_with (first | ((with_reducible refine gate_callee (f := 15) rfl ?_); refine goesL_ (some 146) rfl rfl Try.func15 (by kernel_rfl) rfl #[.agg #[.bool t1483, .bool t1484, .slice Ao20 t1485.length co20, .slice Ao21 t1488.length co21, .int .i64 t1491, .int .i64 t1492, .int .i64 t1493]] rfl mpx ?_; (with_reducible refine (spec_EventOk.calls kj11 t1483 t1484 _ _ t1485 _ _ t1488 t1491 t1492 t1493 true _ ?side1 ?side2 ?side3 ?side4 A33.out).mono ?_); (case side1 => refine (Kd.Q_reads' (e := 3) (base := w.heap.size) (ok := fun k_ => (some k_ ≠ (.slice Ao14 x1481002_1.length co14 : Value).ownBlock ∧ (some k_ ≠ (.slice Ao15 x1481003_1.length co15 : Value).ownBlock ∧ some k_ ≠ (.slice Ao21 t1488.length co21 : Value).ownBlock))) (n := t1485.length) (c := co20) ?_).2.2; exact (by (with_reducible repeat (first | apply Kd.Q_alloc | apply Kd.Q_drewN | apply Kd.Q_drew)); exact (Kd.Q_mono (Kd.Q_far (p := ⟨gb1480, 6, none⟩) (Kd.Q_far (p := ⟨gb1480, 5, none⟩) (Kd.Q_far (p := ⟨gb1480, 4, none⟩) (Kd.Q_far (p := ⟨gb1480, 3, none⟩) (Kd.Q_far (p := ⟨gb1480, 2, none⟩) (Kd.Q_far (p := ⟨gb1480, 1, none⟩) (Kd.Q_far (p := ⟨gb1480, 0, none⟩) (Kd.Q_types HO_1499002.out BK1480.out (by decide)) (fun _ hk => hk.2) (.bool t1483)) (fun _ hk => hk.2) (.bool t1484)) (fun _ hk => hk.2) (.slice Ao20 t1485.length co20)) (fun _ hk => hk.2) (.slice Ao21 t1488.length co21)) (fun _ hk => hk.2) (.int .i64 t1491)) (fun _ hk => hk.2) (.int .i64 t1492)) (fun _ hk => hk.2) (.int .i64 t1493)) (fun _ h_ => h_.1)))); (case side2 => exact (Kd.Q_reads' HO_1499002.out).2.1); (case side3 => refine (Kd.R_reads' (e := 3) (base := w.heap.size) (ok := fun k_ => (some k_ ≠ (.slice Ao14 x1481002_1.length co14 : Value).ownBlock ∧ (some k_ ≠ (.slice Ao15 x1481003_1.length co15 : Value).ownBlock ∧ some k_ ≠ (.slice Ao20 t1485.length co20 : Value).ownBlock))) (n := t1488.length) (c := co21) ?_).2.2; exact (by (with_reducible repeat (first | apply Kd.R_alloc | apply Kd.R_drewN | apply Kd.R_drew)); exact (Kd.R_mono (Kd.R_far (p := ⟨gb1480, 6, none⟩) (Kd.R_far (p := ⟨gb1480, 5, none⟩) (Kd.R_far (p := ⟨gb1480, 4, none⟩) (Kd.R_far (p := ⟨gb1480, 3, none⟩) (Kd.R_far (p := ⟨gb1480, 2, none⟩) (Kd.R_far (p := ⟨gb1480, 1, none⟩) (Kd.R_far (p := ⟨gb1480, 0, none⟩) (Kd.R_types HO_1499003.out BK1480.out (by decide)) (fun _ hk => hk.2) (.bool t1483)) (fun _ hk => hk.2) (.bool t1484)) (fun _ hk => hk.2) (.slice Ao20 t1485.length co20)) (fun _ hk => hk.2) (.slice Ao21 t1488.length co21)) (fun _ hk => hk.2) (.int .i64 t1491)) (fun _ hk => hk.2) (.int .i64 t1492)) (fun _ hk => hk.2) (.int .i64 t1493)) (fun _ h_ => h_.1)))); (case side4 => exact (Kd.R_reads' HO_1499003.out).2.1); rintro e w38 ⟨rfl, hb⟩; refine ⟨_, rfl, ?_⟩; replace HO_1481002 := am (Kd.Q_below (by (with_reducible repeat (first | apply Kd.Q_alloc | apply Kd.Q_drewN | apply Kd.Q_drew)); exact (Kd.Q_mono (Kd.Q_far (p := ⟨gb1480, 6, none⟩) (Kd.Q_far (p := ⟨gb1480, 5, none⟩) (Kd.Q_far (p := ⟨gb1480, 4, none⟩) (Kd.Q_far (p := ⟨gb1480, 3, none⟩) (Kd.Q_far (p := ⟨gb1480, 2, none⟩) (Kd.Q_far (p := ⟨gb1480, 1, none⟩) (Kd.Q_far (p := ⟨gb1480, 0, none⟩) (Kd.Q_types HO_1481002.out BK1480.out (by decide)) (fun _ hk => hk.2) (.bool t1483)) (fun _ hk => hk.2) (.bool t1484)) (fun _ hk => hk.2) (.slice Ao20 t1485.length co20)) (fun _ hk => hk.2) (.slice Ao21 t1488.length co21)) (fun _ hk => hk.2) (.int .i64 t1491)) (fun _ hk => hk.2) (.int .i64 t1492)) (fun _ hk => hk.2) (.int .i64 t1493)) (fun _ h_ => h_.1))) hb); replace HO_1481003 := am (Kd.R_below (by (with_reducible repeat (first | apply Kd.R_alloc | apply Kd.R_drewN | apply Kd.R_drew)); exact (Kd.R_mono (Kd.R_far (p := ⟨gb1480, 6, none⟩) (Kd.R_far (p := ⟨gb1480, 5, none⟩) (Kd.R_far (p := ⟨gb1480, 4, none⟩) (Kd.R_far (p := ⟨gb1480, 3, none⟩) (Kd.R_far (p := ⟨gb1480, 2, none⟩) (Kd.R_far (p := ⟨gb1480, 1, none⟩) (Kd.R_far (p := ⟨gb1480, 0, none⟩) (Kd.R_types HO_1481003.out BK1480.out (by decide)) (fun _ hk => hk.2) (.bool t1483)) (fun _ hk => hk.2) (.bool t1484)) (fun _ hk => hk.2) (.slice Ao20 t1485.length co20)) (fun _ hk => hk.2) (.slice Ao21 t1488.length co21)) (fun _ hk => hk.2) (.int .i64 t1491)) (fun _ hk => hk.2) (.int .i64 t1492)) (fun _ hk => hk.2) (.int .i64 t1493)) (fun _ h_ => h_.1))) hb); replace HO_1499002 := am (Kd.Q_below (by (with_reducible repeat (first | apply Kd.Q_alloc | apply Kd.Q_drewN | apply Kd.Q_drew)); exact (Kd.Q_mono (Kd.Q_far (p := ⟨gb1480, 6, none⟩) (Kd.Q_far (p := ⟨gb1480, 5, none⟩) (Kd.Q_far (p := ⟨gb1480, 4, none⟩) (Kd.Q_far (p := ⟨gb1480, 3, none⟩) (Kd.Q_far (p := ⟨gb1480, 2, none⟩) (Kd.Q_far (p := ⟨gb1480, 1, none⟩) (Kd.Q_far (p := ⟨gb1480, 0, none⟩) (Kd.Q_types HO_1499002.out BK1480.out (by decide)) (fun _ hk => hk.2) (.bool t1483)) (fun _ hk => hk.2) (.bool t1484)) (fun _ hk => hk.2) (.slice Ao20 t1485.length co20)) (fun _ hk => hk.2) (.slice Ao21 t1488.length co21)) (fun _ hk => hk.2) (.int .i64 t1491)) (fun _ hk => hk.2) (.int .i64 t1492)) (fun _ hk => hk.2) (.int .i64 t1493)) (fun _ h_ => h_.1))) hb); replace HO_1499003 := am (Kd.R_below (by (with_reducible repeat (first | apply Kd.R_alloc | apply Kd.R_drewN | apply Kd.R_drew)); exact (Kd.R_mono (Kd.R_far (p := ⟨gb1480, 6, none⟩) (Kd.R_far (p := ⟨gb1480, 5, none⟩) (Kd.R_far (p := ⟨gb1480, 4, none⟩) (Kd.R_far (p := ⟨gb1480, 3, none⟩) (Kd.R_far (p := ⟨gb1480, 2, none⟩) (Kd.R_far (p := ⟨gb1480, 1, none⟩) (Kd.R_far (p := ⟨gb1480, 0, none⟩) (Kd.R_types HO_1499003.out BK1480.out (by decide)) (fun _ hk => hk.2) (.bool t1483)) (fun _ hk => hk.2) (.bool t1484)) (fun _ hk => hk.2) (.slice Ao20 t1485.length co20)) (fun _ hk => hk.2) (.slice Ao21 t1488.length co21)) (fun _ hk => hk.2) (.int .i64 t1491)) (fun _ hk => hk.2) (.int .i64 t1492)) (fun _ hk => hk.2) (.int .i64 t1493)) (fun _ h_ => h_.1))) hb); replace BK1480 := am (blk_below (g := gb1480) (o := .cells #[.bool t1483, .bool t1484, .slice Ao20 t1485.length co20, .slice Ao21 t1488.length co21, .int .i64 t1491, .int .i64 t1492, .int .i64 t1493] 27 (0, 0)) (by (with_reducible repeat (first | refine blk_drewN ?_ _ | refine blk_drew ?_ | refine blk_alloc ?_ _)); refine blk_put (cs := #[.bool t1483, .bool t1484, .slice Ao20 t1485.length co20, .slice Ao21 t1488.length co21, .int .i64 t1491, .int .i64 t1492, .int .i64 x1481006_1]) ?_ 6 _ rfl; (with_reducible repeat (first | refine blk_drewN ?_ _ | refine blk_drew ?_ | refine blk_alloc ?_ _)); refine blk_put (cs := #[.bool t1483, .bool t1484, .slice Ao20 t1485.length co20, .slice Ao21 t1488.length co21, .int .i64 t1491, .int .i64 x1481005_1, .int .i64 x1481006_1]) ?_ 5 _ rfl; (with_reducible repeat (first | refine blk_drewN ?_ _ | refine blk_drew ?_ | refine blk_alloc ?_ _)); refine blk_put (cs := #[.bool t1483, .bool t1484, .slice Ao20 t1485.length co20, .slice Ao21 t1488.length co21, .int .i64 x1481004_1, .int .i64 x1481005_1, .int .i64 x1481006_1]) ?_ 4 _ rfl; (with_reducible repeat (first | refine blk_drewN ?_ _ | refine blk_drew ?_ | refine blk_alloc ?_ _)); refine blk_put (cs := #[.bool t1483, .bool t1484, .slice Ao20 t1485.length co20, .slice Ao15 x1481003_1.length co15, .int .i64 x1481004_1, .int .i64 x1481005_1, .int .i64 x1481006_1]) ?_ 3 _ rfl; (with_reducible repeat (first | refine blk_drewN ?_ _ | refine blk_drew ?_ | refine blk_alloc ?_ _)); refine blk_put (cs := #[.bool t1483, .bool t1484, .slice Ao14 x1481002_1.length co14, .slice Ao15 x1481003_1.length co15, .int .i64 x1481004_1, .int .i64 x1481005_1, .int .i64 x1481006_1]) ?_ 2 _ rfl; (with_reducible repeat (first | refine blk_drewN ?_ _ | refine blk_drew ?_ | refine blk_alloc ?_ _)); refine blk_put (cs := #[.bool t1483, .bool x1481001_1, .slice Ao14 x1481002_1.length co14, .slice Ao15 x1481003_1.length co15, .int .i64 x1481004_1, .int .i64 x1481005_1, .int .i64 x1481006_1]) ?_ 1 _ rfl; (with_reducible repeat (first | refine blk_drewN ?_ _ | refine blk_drew ?_ | refine blk_alloc ?_ _)); refine blk_put (cs := #[.bool x1481000_1, .bool x1481001_1, .slice Ao14 x1481002_1.length co14, .slice Ao15 x1481003_1.length co15, .int .i64 x1481004_1, .int .i64 x1481005_1, .int .i64 x1481006_1]) ?_ 0 _ rfl; exact pkK BK1480.out) hb); replace BK1498 := am (blk_below (g := gb1498) (o := .cells #[.bool t1483, .bool t1484, .slice Ao20 t1485.length co20, .slice Ao21 t1488.length co21, .int .i64 t1491, .int .i64 t1492, .int .i64 t1493] 27 (0, 0)) (by (with_reducible repeat (first | refine blk_drewN ?_ _ | refine blk_drew ?_ | refine blk_alloc ?_ _)); refine blk_far ?_ NB1498_1480.out _; (with_reducible repeat (first | refine blk_drewN ?_ _ | refine blk_drew ?_ | refine blk_alloc ?_ _)); refine blk_far ?_ NB1498_1480.out _; (with_reducible repeat (first | refine blk_drewN ?_ _ | refine blk_drew ?_ | refine blk_alloc ?_ _)); refine blk_far ?_ NB1498_1480.out _; (with_reducible repeat (first | refine blk_drewN ?_ _ | refine blk_drew ?_ | refine blk_alloc ?_ _)); refine blk_far ?_ NB1498_1480.out _; (with_reducible repeat (first | refine blk_drewN ?_ _ | refine blk_drew ?_ | refine blk_alloc ?_ _)); refine blk_far ?_ NB1498_1480.out _; (with_reducible repeat (first | refine blk_drewN ?_ _ | refine blk_drew ?_ | refine blk_alloc ?_ _)); refine blk_far ?_ NB1498_1480.out _; (with_reducible repeat (first | refine blk_drewN ?_ _ | refine blk_drew ?_ | refine blk_alloc ?_ _)); refine blk_far ?_ NB1498_1480.out _; exact pkK BK1498.out) hb); replace HB := bst HB hb; (try clear hb)))
          go_roundg kj11
          case measure => have := HK1.out; have := HJ11.out; omega
          case rel => exact ⟨(wrap64 (x4_1 + 1)), (x5_1), (wrap64 (x6_1 + 1)), (t1483), (t1484), (t1485), (t1488), (t1491), (t1492), (t1493), (.slice Ao20 t1485.length co20), (.slice Ao21 t1488.length co21), rfx, rfx, rfx, H', ⟨by have := HK1.out; have := HJ11.out; omega⟩, ⟨by (with_reducible repeat (first | apply Kd.Q_alloc | apply Kd.Q_drewN | apply Kd.Q_drew)); exact Kd.Q_mono HO_1499002.out (fun _ hk => hk.2.2)⟩, ⟨by (with_reducible repeat (first | apply Kd.R_alloc | apply Kd.R_drewN | apply Kd.R_drew)); exact Kd.R_mono HO_1499003.out (fun _ hk => hk.2.2)⟩, ⟨pkK BK1480.out⟩, ⟨pkW HB.out⟩⟩
         ·replace c34 := Bool.eq_false_iff.mpr c34
          subst c34
          replace H : (some false) = some r := by rw [if_neg (show ¬ (false = true) by decide)] at H; exact H
          exact absurd (Option.some.inj H) (by rw [HQ_.out]; simp)
     ·rw [if_neg c10] at H
      have c10b0 : ((Int.tmod t1482 5) == 0) = false := beq_eq_false_iff_ne.mpr c10
      have c10b1 : ((Int.tmod t1482 5) != 0) = true := bne_iff_ne.mpr c10
      by_cases c39 : (Int.tmod t1482 5) = 1
      ·rw [if_pos c39] at H
       have c39b0 : ((Int.tmod t1482 5) == 1) = true := beq_iff_eq.mpr c39
       have c39b1 : ((Int.tmod t1482 5) != 1) = false := bne_eq_false_iff_eq.mpr c39
       clear c39
       replace H := Option.bind_eq_some_iff.mp H
       obtain ⟨⟨t1501, t1502, t1503, t1506, t1509, t1510, t1511, t1512⟩, A400, H⟩ := H
       replace H : (if t1512 = 0 then (laws_FnAuto.j2 k1 l0 x4_1 x5_1 x6_1 t1502 t1501 t1502 t1503 t1506 t1509 t1510 t1511) else (laws_FnAuto.j2 k1 l0 x4_1 x5_1 x6_1 true t1501 t1502 t1503 t1506 t1509 t1510 t1511)) = some r := H
       have A40 := am A400
       clear A400
       have HC41 := am H
       clear H
       go_upto_region 26 with (first | ((with_reducible refine gate_callee (f := 46) rfl ?_); refine goesL_ (some 37) rfl rfl Try.func46 (by kernel_rfl) rfl #[.slice A0 l0.length c0, .int .i64 (wrap64 (x6_1 + 50))] rfl mpx ?_; (with_reducible refine (laws_at.calls _ _ l0 (wrap64 (x6_1 + 50)) t1481 _ ?side1 ?side2 A8.out).mono ?_); (case side1 => exact pkC (Kd.C_below HR0.out HB.out)); (case side2 => exact HC0.out); rintro e w' ⟨rfl, nd, rfl⟩; refine ⟨_, rfl, ?_⟩; (try (rw [drewN_self wr]; generalize hq_ : World.drewN wr _ = wr; replace HO_1481002 : Aside0 (Kd.Q (Kd.int .i64) 3 wr w.heap.size (fun k_ => some k_ ≠ (u1481003 : Value).ownBlock) u1481002 x1481002_1) := ⟨by rw [← hq_]; exact (pkQ HO_1481002.out)⟩; replace HO_1481003 : Aside0 (Kd.R (Kd.int .i64) 3 wr w.heap.size (fun k_ => some k_ ≠ (u1481002 : Value).ownBlock) u1481003 x1481003_1) := ⟨by rw [← hq_]; exact (pkR HO_1481003.out)⟩; replace BK1480 : Aside0 (wr.heap[gb1480]? = some (.cells #[.bool x1481000_1, .bool x1481001_1, u1481002, u1481003, .int .i64 x1481004_1, .int .i64 x1481005_1, .int .i64 x1481006_1] 27 (0, 0))) := ⟨by rw [← hq_]; exact (pkK BK1480.out)⟩; replace HB : Aside0 (Below w.heap.size w wr) := ⟨by rw [← hq_]; exact (pkW HB.out)⟩; clear hq_))) | ((with_reducible refine gate_callee (f := 46) rfl ?_); refine goesL_ (some 42) rfl rfl Try.func46 (by kernel_rfl) rfl #[.slice A0 l0.length c0, .int .i64 (wrap64 (x6_1 + 1))] rfl mpx ?_; (with_reducible refine (laws_at.calls _ _ l0 (wrap64 (x6_1 + 1)) t1482 _ ?side1 ?side2 A9.out).mono ?_); (case side1 => exact pkC (Kd.C_below HR0.out HB.out)); (case side2 => exact HC0.out); rintro e w' ⟨rfl, nd, rfl⟩; refine ⟨_, rfl, ?_⟩; (try (rw [drewN_self wr]; generalize hq_ : World.drewN wr _ = wr; replace HO_1481002 : Aside0 (Kd.Q (Kd.int .i64) 3 wr w.heap.size (fun k_ => some k_ ≠ (u1481003 : Value).ownBlock) u1481002 x1481002_1) := ⟨by rw [← hq_]; exact (pkQ HO_1481002.out)⟩; replace HO_1481003 : Aside0 (Kd.R (Kd.int .i64) 3 wr w.heap.size (fun k_ => some k_ ≠ (u1481002 : Value).ownBlock) u1481003 x1481003_1) := ⟨by rw [← hq_]; exact (pkR HO_1481003.out)⟩; replace BK1480 : Aside0 (wr.heap[gb1480]? = some (.cells #[.bool x1481000_1, .bool x1481001_1, u1481002, u1481003, .int .i64 x1481004_1, .int .i64 x1481005_1, .int .i64 x1481006_1] 27 (0, 0))) := ⟨by rw [← hq_]; exact (pkK BK1480.out)⟩; replace HB : Aside0 (Below w.heap.size w wr) := ⟨by rw [← hq_]; exact (pkW HB.out)⟩; clear hq_)); obtain ⟨hcz42_0, hcz42_1, hcz42_2, hcz42_3, hcz42_4, hcz42_5, hcz42_6, hfz42_0, hfz42_1, hfz42_2, hfz42_3, hfz42_4, hfz42_5, hfz42_6⟩ := bk7 BK1480.out; obtain ⟨Ao43, co43, eo43, _⟩ := Kd.Q_slice HO_1481002.out; subst eo43; obtain ⟨Ao44, co44, eo44⟩ := Kd.R_slice HO_1481003.out; subst eo44) | ((with_reducible refine gate_callee (f := 25) rfl ?_); refine goesL_ (some 102) rfl rfl Try.func25 (by kernel_rfl) rfl #[.agg #[.bool x1481000_1, .bool x1481001_1, .slice Ao43 x1481002_1.length co43, .slice Ao44 x1481003_1.length co44, .int .i64 x1481004_1, .int .i64 x1481005_1, .int .i64 x1481006_1]] rfl mpx ?_; (with_reducible refine (impl_Reset.calls k1 x1481000_1 x1481001_1 _ _ x1481002_1 _ _ x1481003_1 x1481004_1 x1481005_1 x1481006_1 t1501 t1502 t1503 t1506 t1509 t1510 t1511 t1512 _ ?side1 ?side2 ?side3 ?side4 A40.out).mono ?_); (case side1 => repeat (first | exact (Kd.Q_reads' HO_1481002.out).2.2 | (with_reducible refine Kd.C_alloc ?_ _) | (with_reducible refine Kd.C_drewN ?_ _) | (with_reducible refine Kd.C_drew ?_))); (case side2 => exact (Kd.Q_reads' HO_1481002.out).2.1); (case side3 => exact pkC (Kd.R_reads' HO_1481003.out).2.2); (case side4 => exact (Kd.R_reads' HO_1481003.out).2.1); rintro e w45 ⟨v1504, v1507, rfl, ho0, ho1, hb⟩; refine ⟨_, rfl, ?_⟩; have HO1505 := am (Kd.R_lower (Kd.R_new' (Kd.R_new' ho0 (Kd.Q_lt (pkQ HO_1481002.out))) (Kd.R_lt (pkR HO_1481003.out))) (below_size (pkW HB.out))); have HO1508 := am (Kd.R_lower (Kd.R_new' (Kd.R_new' ho1 (Kd.Q_lt (pkQ HO_1481002.out))) (Kd.R_lt (pkR HO_1481003.out))) (below_size (pkW HB.out))); replace HO_1481002 := am (Kd.Q_mono (Kd.Q_told (Kd.Q_told (Kd.Q_old (pkQ HO_1481002.out) hb) (Kd.R_base ho0)) (Kd.R_base ho1)) (fun _ h_ => h_.1)); replace HO_1481003 := am (Kd.R_mono (Kd.R_told (Kd.R_told (Kd.R_old (pkR HO_1481003.out) hb) (Kd.R_base ho0)) (Kd.R_base ho1)) (fun _ h_ => h_.1)); replace BK1480 := bbk BK1480 hb; replace HB := bst HB hb; (try clear hb ho0 ho1)) | ((with_reducible refine gate_dst (N := 11) rfl ?_); (try (refine gate_guard (by rfl) ?_; dsimp only)); refine box_event ?hg (N := 11) ?hd (cs := #[.bool false, .bool false, .slice none 0 0, .slice none 0 0, .int .i64 0, .int .i64 0, .int .i64 0]) (t := 27) ?hr ?_; (case hd => rfl); (case hg => rfl); (case hr => first | (go_simp; done) | (go_simp; rfl)); intro gb1513 hg w46 hbox hb; replace HO_1481002 := am (Kd.Q_below (pkQ HO_1481002.out) hb); replace HO_1481003 := rbl HO_1481003 hb; replace HO1505 := rbl HO1505 hb; replace HO1508 := rbl HO1508 hb; have BK1513 := am (hbox); have GW1513 := am ((by rw [hg]; exact (below_size (pkW HB.out)) : w.heap.size ≤ gb1513)); have GE1513 := am ((by rw [hg]; exact (below_size (pkW HB.out)) : w.heap.size ≤ gb1513)); replace HB := bst HB hb; have NB1480_1513 := am ((by rw [hg]; exact Nat.ne_of_lt (blk_lt (g := gb1480) (o := .cells #[.bool x1481000_1, .bool x1481001_1, .slice Ao43 x1481002_1.length co43, .slice Ao44 x1481003_1.length co44, .int .i64 x1481004_1, .int .i64 x1481005_1, .int .i64 x1481006_1] 27 (0, 0)) (pkK BK1480.out)) : gb1480 ≠ gb1513)); have NB1513_1480 := am ((by rw [hg]; exact Nat.ne_of_gt (blk_lt (g := gb1480) (o := .cells #[.bool x1481000_1, .bool x1481001_1, .slice Ao43 x1481002_1.length co43, .slice Ao44 x1481003_1.length co44, .int .i64 x1481004_1, .int .i64 x1481005_1, .int .i64 x1481006_1] 27 (0, 0)) (pkK BK1480.out)) : gb1513 ≠ gb1480)); replace BK1480 := bbk BK1480 hb; clear hb hbox hg; have hnb47 := NB1513_1480.out; have hnc47 := NB1480_1513.out; obtain ⟨hcz48_0, hcz48_1, hcz48_2, hcz48_3, hcz48_4, hcz48_5, hcz48_6, hfz48_0, hfz48_1, hfz48_2, hfz48_3, hfz48_4, hfz48_5, hfz48_6⟩ := bk7 BK1513.out; obtain ⟨Ao49, co49, eo49⟩ := Kd.R_slice HO1505.out; subst eo49; obtain ⟨Ao50, co50, eo50⟩ := Kd.R_slice HO1508.out; subst eo50))
       (try simp only [Act.put, List.setIfInBounds_toArray, List.set_cons_zero, List.set_cons_succ])
       go_cut [110] (fun v110 wc => ∃ (kq : Nat) (x110_40 : Bool), v110 = .bool x110_40 ∧ Aside0 (laws_FnAuto.j2 kq l0 x4_1 x5_1 x6_1 x110_40 t1501 t1502 t1503 t1506 t1509 t1510 t1511 = some r) ∧ Aside0 (kq ≤ k1) ∧ Aside0 (Kd.Q (Kd.int .i64) 3 wc w.heap.size (fun k_ => some k_ ≠ ((.slice Ao44 x1481003_1.length co44) : Value).ownBlock ∧ some k_ ≠ ((.slice Ao49 t1503.length co49) : Value).ownBlock ∧ some k_ ≠ ((.slice Ao50 t1506.length co50) : Value).ownBlock) (.slice Ao43 x1481002_1.length co43) x1481002_1) ∧ Aside0 (Kd.R (Kd.int .i64) 3 wc w.heap.size (fun k_ => some k_ ≠ ((.slice Ao43 x1481002_1.length co43) : Value).ownBlock ∧ some k_ ≠ ((.slice Ao49 t1503.length co49) : Value).ownBlock ∧ some k_ ≠ ((.slice Ao50 t1506.length co50) : Value).ownBlock) (.slice Ao44 x1481003_1.length co44) x1481003_1) ∧ Aside0 (Kd.Q (Kd.int .i64) 3 wc w.heap.size (fun k_ => some k_ ≠ ((.slice Ao43 x1481002_1.length co43) : Value).ownBlock ∧ some k_ ≠ ((.slice Ao44 x1481003_1.length co44) : Value).ownBlock ∧ some k_ ≠ ((.slice Ao50 t1506.length co50) : Value).ownBlock) (.slice Ao49 t1503.length co49) t1503) ∧ Aside0 (Kd.R (Kd.int .i64) 3 wc w.heap.size (fun k_ => some k_ ≠ ((.slice Ao43 x1481002_1.length co43) : Value).ownBlock ∧ some k_ ≠ ((.slice Ao44 x1481003_1.length co44) : Value).ownBlock ∧ some k_ ≠ ((.slice Ao49 t1503.length co49) : Value).ownBlock) (.slice Ao50 t1506.length co50) t1506) ∧ Aside0 (wc.heap[gb1480]? = some (.cells #[.bool x1481000_1, .bool x1481001_1, (.slice Ao43 x1481002_1.length co43), (.slice Ao44 x1481003_1.length co44), .int .i64 x1481004_1, .int .i64 x1481005_1, .int .i64 x1481006_1] 27 (0, 0))) ∧ Aside0 (wc.heap[gb1513]? = some (.cells #[.bool t1501, .bool t1502, (.slice Ao49 t1503.length co49), (.slice Ao50 t1506.length co50), .int .i64 t1509, .int .i64 t1510, .int .i64 t1511] 27 (0, 0))) ∧ Aside0 (Below w.heap.size w wc))
       case first =>
        have H := HC41.out
        clear HC41
        by_cases c51 : t1512 = 0
        ·rw [if_pos c51] at H
         have c51b0 : (t1512 == 0) = true := beq_iff_eq.mpr c51
         have c51b1 : (t1512 != 0) = false := bne_eq_false_iff_eq.mpr c51
         clear c51
         (first | rw [c51b0] | (simp only [i64_w, i32_w]; rw [c51b0]) | skip)
         have H' := am H
         clear H
         have hnb52 := NB1513_1480.out
         have hnc52 := NB1480_1513.out
         obtain ⟨hcz53_0, hcz53_1, hcz53_2, hcz53_3, hcz53_4, hcz53_5, hcz53_6, hfz53_0, hfz53_1, hfz53_2, hfz53_3, hfz53_4, hfz53_5, hfz53_6⟩ := bk7 BK1513.out
         go_wp2
         go_meet
         case rel => exact ⟨_, (t1502), rfx, H', ⟨by have := HK1.out; first | omega | exact Nat.le_refl _⟩, ⟨by (with_reducible repeat (first | apply Kd.Q_alloc | apply Kd.Q_drewN | apply Kd.Q_drew)); exact Kd.Q_mono (Kd.Q_far (p := ⟨gb1513, 6, none⟩) (Kd.Q_far (p := ⟨gb1513, 5, none⟩) (Kd.Q_far (p := ⟨gb1513, 4, none⟩) (Kd.Q_far (p := ⟨gb1513, 3, none⟩) (Kd.Q_far (p := ⟨gb1513, 2, none⟩) (Kd.Q_far (p := ⟨gb1513, 1, none⟩) (Kd.Q_far (p := ⟨gb1513, 0, none⟩) (Kd.Q_types HO_1481002.out BK1513.out (by decide)) (fun _ hk => hk.2) (.bool t1501)) (fun _ hk => hk.2) (.bool t1502)) (fun _ hk => hk.2) (.slice Ao49 t1503.length co49)) (fun _ hk => hk.2) (.slice Ao50 t1506.length co50)) (fun _ hk => hk.2) (.int .i64 t1509)) (fun _ hk => hk.2) (.int .i64 t1510)) (fun _ hk => hk.2) (.int .i64 t1511)) (fun _ hk => ⟨hk.1.1.1, hk.1.1.2, hk.1.2⟩)⟩, ⟨by (with_reducible repeat (first | apply Kd.R_alloc | apply Kd.R_drewN | apply Kd.R_drew)); exact Kd.R_mono (Kd.R_far (p := ⟨gb1513, 6, none⟩) (Kd.R_far (p := ⟨gb1513, 5, none⟩) (Kd.R_far (p := ⟨gb1513, 4, none⟩) (Kd.R_far (p := ⟨gb1513, 3, none⟩) (Kd.R_far (p := ⟨gb1513, 2, none⟩) (Kd.R_far (p := ⟨gb1513, 1, none⟩) (Kd.R_far (p := ⟨gb1513, 0, none⟩) (Kd.R_types HO_1481003.out BK1513.out (by decide)) (fun _ hk => hk.2) (.bool t1501)) (fun _ hk => hk.2) (.bool t1502)) (fun _ hk => hk.2) (.slice Ao49 t1503.length co49)) (fun _ hk => hk.2) (.slice Ao50 t1506.length co50)) (fun _ hk => hk.2) (.int .i64 t1509)) (fun _ hk => hk.2) (.int .i64 t1510)) (fun _ hk => hk.2) (.int .i64 t1511)) (fun _ hk => ⟨hk.1.1.1, hk.1.1.2, hk.1.2⟩)⟩, ⟨Kd.Q_of_R (by (with_reducible repeat (first | apply Kd.R_alloc | apply Kd.R_drewN | apply Kd.R_drew)); exact Kd.R_mono (Kd.R_far (p := ⟨gb1513, 6, none⟩) (Kd.R_far (p := ⟨gb1513, 5, none⟩) (Kd.R_far (p := ⟨gb1513, 4, none⟩) (Kd.R_far (p := ⟨gb1513, 3, none⟩) (Kd.R_far (p := ⟨gb1513, 2, none⟩) (Kd.R_far (p := ⟨gb1513, 1, none⟩) (Kd.R_far (p := ⟨gb1513, 0, none⟩) (Kd.R_types HO1505.out BK1513.out (by decide)) (fun _ hk => hk.2) (.bool t1501)) (fun _ hk => hk.2) (.bool t1502)) (fun _ hk => hk.2) (.slice Ao49 t1503.length co49)) (fun _ hk => hk.2) (.slice Ao50 t1506.length co50)) (fun _ hk => hk.2) (.int .i64 t1509)) (fun _ hk => hk.2) (.int .i64 t1510)) (fun _ hk => hk.2) (.int .i64 t1511)) (fun _ hk => ⟨hk.1.1.2, hk.1.2, hk.1.1.1⟩))⟩, ⟨by (with_reducible repeat (first | apply Kd.R_alloc | apply Kd.R_drewN | apply Kd.R_drew)); exact Kd.R_mono (Kd.R_far (p := ⟨gb1513, 6, none⟩) (Kd.R_far (p := ⟨gb1513, 5, none⟩) (Kd.R_far (p := ⟨gb1513, 4, none⟩) (Kd.R_far (p := ⟨gb1513, 3, none⟩) (Kd.R_far (p := ⟨gb1513, 2, none⟩) (Kd.R_far (p := ⟨gb1513, 1, none⟩) (Kd.R_far (p := ⟨gb1513, 0, none⟩) (Kd.R_types HO1508.out BK1513.out (by decide)) (fun _ hk => hk.2) (.bool t1501)) (fun _ hk => hk.2) (.bool t1502)) (fun _ hk => hk.2) (.slice Ao49 t1503.length co49)) (fun _ hk => hk.2) (.slice Ao50 t1506.length co50)) (fun _ hk => hk.2) (.int .i64 t1509)) (fun _ hk => hk.2) (.int .i64 t1510)) (fun _ hk => hk.2) (.int .i64 t1511)) (fun _ hk => ⟨hk.1.1.2, hk.1.2, hk.1.1.1⟩)⟩, ⟨by (with_reducible repeat (first | refine blk_drewN ?_ _ | refine blk_drew ?_ | refine blk_alloc ?_ _)); refine blk_far ?_ NB1480_1513.out _; (with_reducible repeat (first | refine blk_drewN ?_ _ | refine blk_drew ?_ | refine blk_alloc ?_ _)); refine blk_far ?_ NB1480_1513.out _; (with_reducible repeat (first | refine blk_drewN ?_ _ | refine blk_drew ?_ | refine blk_alloc ?_ _)); refine blk_far ?_ NB1480_1513.out _; (with_reducible repeat (first | refine blk_drewN ?_ _ | refine blk_drew ?_ | refine blk_alloc ?_ _)); refine blk_far ?_ NB1480_1513.out _; (with_reducible repeat (first | refine blk_drewN ?_ _ | refine blk_drew ?_ | refine blk_alloc ?_ _)); refine blk_far ?_ NB1480_1513.out _; (with_reducible repeat (first | refine blk_drewN ?_ _ | refine blk_drew ?_ | refine blk_alloc ?_ _)); refine blk_far ?_ NB1480_1513.out _; (with_reducible repeat (first | refine blk_drewN ?_ _ | refine blk_drew ?_ | refine blk_alloc ?_ _)); refine blk_far ?_ NB1480_1513.out _; exact pkK BK1480.out⟩, ⟨by (with_reducible repeat (first | refine blk_drewN ?_ _ | refine blk_drew ?_ | refine blk_alloc ?_ _)); refine blk_put (cs := #[.bool t1501, .bool t1502, .slice Ao49 t1503.length co49, .slice Ao50 t1506.length co50, .int .i64 t1509, .int .i64 t1510, .int .i64 0]) ?_ 6 _ rfl; (with_reducible repeat (first | refine blk_drewN ?_ _ | refine blk_drew ?_ | refine blk_alloc ?_ _)); refine blk_put (cs := #[.bool t1501, .bool t1502, .slice Ao49 t1503.length co49, .slice Ao50 t1506.length co50, .int .i64 t1509, .int .i64 0, .int .i64 0]) ?_ 5 _ rfl; (with_reducible repeat (first | refine blk_drewN ?_ _ | refine blk_drew ?_ | refine blk_alloc ?_ _)); refine blk_put (cs := #[.bool t1501, .bool t1502, .slice Ao49 t1503.length co49, .slice Ao50 t1506.length co50, .int .i64 0, .int .i64 0, .int .i64 0]) ?_ 4 _ rfl; (with_reducible repeat (first | refine blk_drewN ?_ _ | refine blk_drew ?_ | refine blk_alloc ?_ _)); refine blk_put (cs := #[.bool t1501, .bool t1502, .slice Ao49 t1503.length co49, .slice none 0 0, .int .i64 0, .int .i64 0, .int .i64 0]) ?_ 3 _ rfl; (with_reducible repeat (first | refine blk_drewN ?_ _ | refine blk_drew ?_ | refine blk_alloc ?_ _)); refine blk_put (cs := #[.bool t1501, .bool t1502, .slice none 0 0, .slice none 0 0, .int .i64 0, .int .i64 0, .int .i64 0]) ?_ 2 _ rfl; (with_reducible repeat (first | refine blk_drewN ?_ _ | refine blk_drew ?_ | refine blk_alloc ?_ _)); refine blk_put (cs := #[.bool t1501, .bool false, .slice none 0 0, .slice none 0 0, .int .i64 0, .int .i64 0, .int .i64 0]) ?_ 1 _ rfl; (with_reducible repeat (first | refine blk_drewN ?_ _ | refine blk_drew ?_ | refine blk_alloc ?_ _)); refine blk_put (cs := #[.bool false, .bool false, .slice none 0 0, .slice none 0 0, .int .i64 0, .int .i64 0, .int .i64 0]) ?_ 0 _ rfl; exact pkK BK1513.out⟩, ⟨pkW HB.out⟩⟩
        ·rw [if_neg c51] at H
         have c51b0 : (t1512 == 0) = false := beq_eq_false_iff_ne.mpr c51
         have c51b1 : (t1512 != 0) = true := bne_iff_ne.mpr c51
         (first | rw [c51b0] | (simp only [i64_w, i32_w]; rw [c51b0]) | skip)
         cases k1 with
         | zero => exact absurd H (by simp [laws_FnAuto.j2])
         | succ k_ => (simp only [laws_FnAuto.j2, if_pos] at H; exact absurd (Option.some.inj H) (by rw [HQ_.out]; simp))
       case rest =>
        clear HC41
        try clear c1
        try clear c2
        try clear p2
        try clear c3
        try clear c4
        try clear c5
        try clear p6
        try clear c7
        try clear c7b0
        try clear c10
        try clear c10b0
        try clear c10b1
        try clear c12
        try clear c15
        try clear c18
        try clear c22
        try clear c22b0
        try clear c22b1
        try clear c23
        try clear c24
        try clear c24b0
        try clear c24b1
        try clear c25
        try clear c29
        try clear c32
        try clear c34
        try clear c35
        try clear c39
        try clear c39b0
        try clear c39b1
        try clear c40
        try clear c45
        try clear c46
        try clear c47
        try clear c51
        try clear c51b0
        try clear c51b1
        try clear c52
        try clear hcz13_0
        try clear hcz13_1
        try clear hcz13_2
        try clear hcz13_3
        try clear hcz13_4
        try clear hcz13_5
        try clear hcz13_6
        try clear hcz19_0
        try clear hcz19_1
        try clear hcz19_2
        try clear hcz19_3
        try clear hcz19_4
        try clear hcz19_5
        try clear hcz19_6
        try clear hcz26_0
        try clear hcz26_1
        try clear hcz26_2
        try clear hcz26_3
        try clear hcz26_4
        try clear hcz26_5
        try clear hcz26_6
        try clear hcz30_0
        try clear hcz30_1
        try clear hcz30_2
        try clear hcz30_3
        try clear hcz30_4
        try clear hcz30_5
        try clear hcz30_6
        try clear hcz36_0
        try clear hcz36_1
        try clear hcz36_2
        try clear hcz36_3
        try clear hcz36_4
        try clear hcz36_5
        try clear hcz36_6
        try clear hcz37_0
        try clear hcz37_1
        try clear hcz37_2
        try clear hcz37_3
        try clear hcz37_4
        try clear hcz37_5
        try clear hcz37_6
        try clear hcz42_0
        try clear hcz42_1
        try clear hcz42_2
        try clear hcz42_3
        try clear hcz42_4
        try clear hcz42_5
        try clear hcz42_6
        try clear hcz48_0
        try clear hcz48_1
        try clear hcz48_2
        try clear hcz48_3
        try clear hcz48_4
        try clear hcz48_5
        try clear hcz48_6
        try clear hcz53_0
        try clear hcz53_1
        try clear hcz53_2
        try clear hcz53_3
        try clear hcz53_4
        try clear hcz53_5
        try clear hcz53_6
        try clear hcz6_0
        try clear hcz6_1
        try clear hcz6_2
        try clear hcz6_3
        try clear hcz6_4
        try clear hcz6_5
        try clear hcz6_6
        try clear hfz13_0
        try clear hfz13_1
        try clear hfz13_2
        try clear hfz13_3
        try clear hfz13_4
        try clear hfz13_5
        try clear hfz13_6
        try clear hfz19_0
        try clear hfz19_1
        try clear hfz19_2
        try clear hfz19_3
        try clear hfz19_4
        try clear hfz19_5
        try clear hfz19_6
        try clear hfz26_0
        try clear hfz26_1
        try clear hfz26_2
        try clear hfz26_3
        try clear hfz26_4
        try clear hfz26_5
        try clear hfz26_6
        try clear hfz30_0
        try clear hfz30_1
        try clear hfz30_2
        try clear hfz30_3
        try clear hfz30_4
        try clear hfz30_5
        try clear hfz30_6
        try clear hfz36_0
        try clear hfz36_1
        try clear hfz36_2
        try clear hfz36_3
        try clear hfz36_4
        try clear hfz36_5
        try clear hfz36_6
        try clear hfz37_0
        try clear hfz37_1
        try clear hfz37_2
        try clear hfz37_3
        try clear hfz37_4
        try clear hfz37_5
        try clear hfz37_6
        try clear hfz42_0
        try clear hfz42_1
        try clear hfz42_2
        try clear hfz42_3
        try clear hfz42_4
        try clear hfz42_5
        try clear hfz42_6
        try clear hfz48_0
        try clear hfz48_1
        try clear hfz48_2
        try clear hfz48_3
        try clear hfz48_4
        try clear hfz48_5
        try clear hfz48_6
        try clear hfz53_0
        try clear hfz53_1
        try clear hfz53_2
        try clear hfz53_3
        try clear hfz53_4
        try clear hfz53_5
        try clear hfz53_6
        try clear hfz6_0
        try clear hfz6_1
        try clear hfz6_2
        try clear hfz6_3
        try clear hfz6_4
        try clear hfz6_5
        try clear hfz6_6
        try clear p2
        try clear p6
        obtain ⟨kq, x110_40, rfl, HA, HJ40, HO_1481002, HO_1481003, HO_1514002, HO_1514003, BK1480, BK1513, HB⟩ := hcut
        cases kq with
        | zero => exact absurd HA.out (by simp [laws_FnAuto.j2])
        | succ kj40 =>
         have H := HA.out
         clear HA
         simp only [laws_FnAuto.j2] at H
         by_cases c54 : x110_40 = true
         ·subst c54
          replace H : (some false) = some r := by rw [if_pos rfl] at H; exact H
          exact absurd (Option.some.inj H) (by rw [HQ_.out]; simp)
         ·replace c54 := Bool.eq_false_iff.mpr c54
          subst c54
          replace H : ((spec_EventOk.f kj40 t1501 t1502 t1503 t1506 t1509 t1510 t1511).bind fun t1514 => (if t1514 = true then (laws_FnAuto.l0 kj40 l0 x4_1 x5_1 (wrap64 (x6_1 + 1)) t1501 t1502 t1503 t1506 t1509 t1510 t1511) else (some false))) = some r := by rw [if_neg (show ¬ (false = true) by decide)] at H; exact H
          replace H := Option.bind_eq_some_iff.mp H
          obtain ⟨t1514, A550, H⟩ := H
          replace H : (if t1514 = true then (laws_FnAuto.l0 kj40 l0 x4_1 x5_1 (wrap64 (x6_1 + 1)) t1501 t1502 t1503 t1506 t1509 t1510 t1511) else (some false)) = some r := H
          have A55 := am A550
          clear A550
          by_cases c56 : t1514 = true
          ·subst c56
           replace H : (laws_FnAuto.l0 kj40 l0 x4_1 x5_1 (wrap64 (x6_1 + 1)) t1501 t1502 t1503 t1506 t1509 t1510 t1511) = some r := by rw [if_pos rfl] at H; exact H
           have H' := am H
           clear H
           have hnb57 := NB1513_1480.out
           have hnc57 := NB1480_1513.out
           obtain ⟨hcz58_0, hcz58_1, hcz58_2, hcz58_3, hcz58_4, hcz58_5, hcz58_6, hfz58_0, hfz58_1, hfz58_2, hfz58_3, hfz58_4, hfz58_5, hfz58_6⟩ := bk7 BK1513.out
           obtain ⟨hcz59_0, hcz59_1, hcz59_2, hcz59_3, hcz59_4, hcz59_5, hcz59_6, hfz59_0, hfz59_1, hfz59_2, hfz59_3, hfz59_4, hfz59_5, hfz59_6⟩ := bk7 BK1480.out
           go_wp2_with (first | ((with_reducible refine gate_callee (f := 15) rfl ?_); refine goesL_ (some 146) rfl rfl Try.func15 (by kernel_rfl) rfl #[.agg #[.bool t1501, .bool t1502, .slice Ao49 t1503.length co49, .slice Ao50 t1506.length co50, .int .i64 t1509, .int .i64 t1510, .int .i64 t1511]] rfl mpx ?_; (with_reducible refine (spec_EventOk.calls kj40 t1501 t1502 _ _ t1503 _ _ t1506 t1509 t1510 t1511 true _ ?side1 ?side2 ?side3 ?side4 A55.out).mono ?_); (case side1 => refine (Kd.Q_reads' (e := 3) (base := w.heap.size) (ok := fun k_ => (some k_ ≠ (.slice Ao43 x1481002_1.length co43 : Value).ownBlock ∧ (some k_ ≠ (.slice Ao44 x1481003_1.length co44 : Value).ownBlock ∧ some k_ ≠ (.slice Ao50 t1506.length co50 : Value).ownBlock))) (n := t1503.length) (c := co49) ?_).2.2; exact (by (with_reducible repeat (first | apply Kd.Q_alloc | apply Kd.Q_drewN | apply Kd.Q_drew)); exact (Kd.Q_mono (Kd.Q_far (p := ⟨gb1480, 6, none⟩) (Kd.Q_far (p := ⟨gb1480, 5, none⟩) (Kd.Q_far (p := ⟨gb1480, 4, none⟩) (Kd.Q_far (p := ⟨gb1480, 3, none⟩) (Kd.Q_far (p := ⟨gb1480, 2, none⟩) (Kd.Q_far (p := ⟨gb1480, 1, none⟩) (Kd.Q_far (p := ⟨gb1480, 0, none⟩) (Kd.Q_types HO_1514002.out BK1480.out (by decide)) (fun _ hk => hk.2) (.bool t1501)) (fun _ hk => hk.2) (.bool t1502)) (fun _ hk => hk.2) (.slice Ao49 t1503.length co49)) (fun _ hk => hk.2) (.slice Ao50 t1506.length co50)) (fun _ hk => hk.2) (.int .i64 t1509)) (fun _ hk => hk.2) (.int .i64 t1510)) (fun _ hk => hk.2) (.int .i64 t1511)) (fun _ h_ => h_.1)))); (case side2 => exact (Kd.Q_reads' HO_1514002.out).2.1); (case side3 => refine (Kd.R_reads' (e := 3) (base := w.heap.size) (ok := fun k_ => (some k_ ≠ (.slice Ao43 x1481002_1.length co43 : Value).ownBlock ∧ (some k_ ≠ (.slice Ao44 x1481003_1.length co44 : Value).ownBlock ∧ some k_ ≠ (.slice Ao49 t1503.length co49 : Value).ownBlock))) (n := t1506.length) (c := co50) ?_).2.2; exact (by (with_reducible repeat (first | apply Kd.R_alloc | apply Kd.R_drewN | apply Kd.R_drew)); exact (Kd.R_mono (Kd.R_far (p := ⟨gb1480, 6, none⟩) (Kd.R_far (p := ⟨gb1480, 5, none⟩) (Kd.R_far (p := ⟨gb1480, 4, none⟩) (Kd.R_far (p := ⟨gb1480, 3, none⟩) (Kd.R_far (p := ⟨gb1480, 2, none⟩) (Kd.R_far (p := ⟨gb1480, 1, none⟩) (Kd.R_far (p := ⟨gb1480, 0, none⟩) (Kd.R_types HO_1514003.out BK1480.out (by decide)) (fun _ hk => hk.2) (.bool t1501)) (fun _ hk => hk.2) (.bool t1502)) (fun _ hk => hk.2) (.slice Ao49 t1503.length co49)) (fun _ hk => hk.2) (.slice Ao50 t1506.length co50)) (fun _ hk => hk.2) (.int .i64 t1509)) (fun _ hk => hk.2) (.int .i64 t1510)) (fun _ hk => hk.2) (.int .i64 t1511)) (fun _ h_ => h_.1)))); (case side4 => exact (Kd.R_reads' HO_1514003.out).2.1); rintro e w60 ⟨rfl, hb⟩; refine ⟨_, rfl, ?_⟩; replace HO_1481002 := am (Kd.Q_below (by (with_reducible repeat (first | apply Kd.Q_alloc | apply Kd.Q_drewN | apply Kd.Q_drew)); exact (Kd.Q_mono (Kd.Q_far (p := ⟨gb1480, 6, none⟩) (Kd.Q_far (p := ⟨gb1480, 5, none⟩) (Kd.Q_far (p := ⟨gb1480, 4, none⟩) (Kd.Q_far (p := ⟨gb1480, 3, none⟩) (Kd.Q_far (p := ⟨gb1480, 2, none⟩) (Kd.Q_far (p := ⟨gb1480, 1, none⟩) (Kd.Q_far (p := ⟨gb1480, 0, none⟩) (Kd.Q_types HO_1481002.out BK1480.out (by decide)) (fun _ hk => hk.2) (.bool t1501)) (fun _ hk => hk.2) (.bool t1502)) (fun _ hk => hk.2) (.slice Ao49 t1503.length co49)) (fun _ hk => hk.2) (.slice Ao50 t1506.length co50)) (fun _ hk => hk.2) (.int .i64 t1509)) (fun _ hk => hk.2) (.int .i64 t1510)) (fun _ hk => hk.2) (.int .i64 t1511)) (fun _ h_ => h_.1))) hb); replace HO_1481003 := am (Kd.R_below (by (with_reducible repeat (first | apply Kd.R_alloc | apply Kd.R_drewN | apply Kd.R_drew)); exact (Kd.R_mono (Kd.R_far (p := ⟨gb1480, 6, none⟩) (Kd.R_far (p := ⟨gb1480, 5, none⟩) (Kd.R_far (p := ⟨gb1480, 4, none⟩) (Kd.R_far (p := ⟨gb1480, 3, none⟩) (Kd.R_far (p := ⟨gb1480, 2, none⟩) (Kd.R_far (p := ⟨gb1480, 1, none⟩) (Kd.R_far (p := ⟨gb1480, 0, none⟩) (Kd.R_types HO_1481003.out BK1480.out (by decide)) (fun _ hk => hk.2) (.bool t1501)) (fun _ hk => hk.2) (.bool t1502)) (fun _ hk => hk.2) (.slice Ao49 t1503.length co49)) (fun _ hk => hk.2) (.slice Ao50 t1506.length co50)) (fun _ hk => hk.2) (.int .i64 t1509)) (fun _ hk => hk.2) (.int .i64 t1510)) (fun _ hk => hk.2) (.int .i64 t1511)) (fun _ h_ => h_.1))) hb); replace HO_1514002 := am (Kd.Q_below (by (with_reducible repeat (first | apply Kd.Q_alloc | apply Kd.Q_drewN | apply Kd.Q_drew)); exact (Kd.Q_mono (Kd.Q_far (p := ⟨gb1480, 6, none⟩) (Kd.Q_far (p := ⟨gb1480, 5, none⟩) (Kd.Q_far (p := ⟨gb1480, 4, none⟩) (Kd.Q_far (p := ⟨gb1480, 3, none⟩) (Kd.Q_far (p := ⟨gb1480, 2, none⟩) (Kd.Q_far (p := ⟨gb1480, 1, none⟩) (Kd.Q_far (p := ⟨gb1480, 0, none⟩) (Kd.Q_types HO_1514002.out BK1480.out (by decide)) (fun _ hk => hk.2) (.bool t1501)) (fun _ hk => hk.2) (.bool t1502)) (fun _ hk => hk.2) (.slice Ao49 t1503.length co49)) (fun _ hk => hk.2) (.slice Ao50 t1506.length co50)) (fun _ hk => hk.2) (.int .i64 t1509)) (fun _ hk => hk.2) (.int .i64 t1510)) (fun _ hk => hk.2) (.int .i64 t1511)) (fun _ h_ => h_.1))) hb); replace HO_1514003 := am (Kd.R_below (by (with_reducible repeat (first | apply Kd.R_alloc | apply Kd.R_drewN | apply Kd.R_drew)); exact (Kd.R_mono (Kd.R_far (p := ⟨gb1480, 6, none⟩) (Kd.R_far (p := ⟨gb1480, 5, none⟩) (Kd.R_far (p := ⟨gb1480, 4, none⟩) (Kd.R_far (p := ⟨gb1480, 3, none⟩) (Kd.R_far (p := ⟨gb1480, 2, none⟩) (Kd.R_far (p := ⟨gb1480, 1, none⟩) (Kd.R_far (p := ⟨gb1480, 0, none⟩) (Kd.R_types HO_1514003.out BK1480.out (by decide)) (fun _ hk => hk.2) (.bool t1501)) (fun _ hk => hk.2) (.bool t1502)) (fun _ hk => hk.2) (.slice Ao49 t1503.length co49)) (fun _ hk => hk.2) (.slice Ao50 t1506.length co50)) (fun _ hk => hk.2) (.int .i64 t1509)) (fun _ hk => hk.2) (.int .i64 t1510)) (fun _ hk => hk.2) (.int .i64 t1511)) (fun _ h_ => h_.1))) hb); replace BK1480 := am (blk_below (g := gb1480) (o := .cells #[.bool t1501, .bool t1502, .slice Ao49 t1503.length co49, .slice Ao50 t1506.length co50, .int .i64 t1509, .int .i64 t1510, .int .i64 t1511] 27 (0, 0)) (by (with_reducible repeat (first | refine blk_drewN ?_ _ | refine blk_drew ?_ | refine blk_alloc ?_ _)); refine blk_put (cs := #[.bool t1501, .bool t1502, .slice Ao49 t1503.length co49, .slice Ao50 t1506.length co50, .int .i64 t1509, .int .i64 t1510, .int .i64 x1481006_1]) ?_ 6 _ rfl; (with_reducible repeat (first | refine blk_drewN ?_ _ | refine blk_drew ?_ | refine blk_alloc ?_ _)); refine blk_put (cs := #[.bool t1501, .bool t1502, .slice Ao49 t1503.length co49, .slice Ao50 t1506.length co50, .int .i64 t1509, .int .i64 x1481005_1, .int .i64 x1481006_1]) ?_ 5 _ rfl; (with_reducible repeat (first | refine blk_drewN ?_ _ | refine blk_drew ?_ | refine blk_alloc ?_ _)); refine blk_put (cs := #[.bool t1501, .bool t1502, .slice Ao49 t1503.length co49, .slice Ao50 t1506.length co50, .int .i64 x1481004_1, .int .i64 x1481005_1, .int .i64 x1481006_1]) ?_ 4 _ rfl; (with_reducible repeat (first | refine blk_drewN ?_ _ | refine blk_drew ?_ | refine blk_alloc ?_ _)); refine blk_put (cs := #[.bool t1501, .bool t1502, .slice Ao49 t1503.length co49, .slice Ao44 x1481003_1.length co44, .int .i64 x1481004_1, .int .i64 x1481005_1, .int .i64 x1481006_1]) ?_ 3 _ rfl; (with_reducible repeat (first | refine blk_drewN ?_ _ | refine blk_drew ?_ | refine blk_alloc ?_ _)); refine blk_put (cs := #[.bool t1501, .bool t1502, .slice Ao43 x1481002_1.length co43, .slice Ao44 x1481003_1.length co44, .int .i64 x1481004_1, .int .i64 x1481005_1, .int .i64 x1481006_1]) ?_ 2 _ rfl; (with_reducible repeat (first | refine blk_drewN ?_ _ | refine blk_drew ?_ | refine blk_alloc ?_ _)); refine blk_put (cs := #[.bool t1501, .bool x1481001_1, .slice Ao43 x1481002_1.length co43, .slice Ao44 x1481003_1.length co44, .int .i64 x1481004_1, .int .i64 x1481005_1, .int .i64 x1481006_1]) ?_ 1 _ rfl; (with_reducible repeat (first | refine blk_drewN ?_ _ | refine blk_drew ?_ | refine blk_alloc ?_ _)); refine blk_put (cs := #[.bool x1481000_1, .bool x1481001_1, .slice Ao43 x1481002_1.length co43, .slice Ao44 x1481003_1.length co44, .int .i64 x1481004_1, .int .i64 x1481005_1, .int .i64 x1481006_1]) ?_ 0 _ rfl; exact pkK BK1480.out) hb); replace BK1513 := am (blk_below (g := gb1513) (o := .cells #[.bool t1501, .bool t1502, .slice Ao49 t1503.length co49, .slice Ao50 t1506.length co50, .int .i64 t1509, .int .i64 t1510, .int .i64 t1511] 27 (0, 0)) (by (with_reducible repeat (first | refine blk_drewN ?_ _ | refine blk_drew ?_ | refine blk_alloc ?_ _)); refine blk_far ?_ NB1513_1480.out _; (with_reducible repeat (first | refine blk_drewN ?_ _ | refine blk_drew ?_ | refine blk_alloc ?_ _)); refine blk_far ?_ NB1513_1480.out _; (with_reducible repeat (first | refine blk_drewN ?_ _ | refine blk_drew ?_ | refine blk_alloc ?_ _)); refine blk_far ?_ NB1513_1480.out _; (with_reducible repeat (first | refine blk_drewN ?_ _ | refine blk_drew ?_ | refine blk_alloc ?_ _)); refine blk_far ?_ NB1513_1480.out _; (with_reducible repeat (first | refine blk_drewN ?_ _ | refine blk_drew ?_ | refine blk_alloc ?_ _)); refine blk_far ?_ NB1513_1480.out _; (with_reducible repeat (first | refine blk_drewN ?_ _ | refine blk_drew ?_ | refine blk_alloc ?_ _)); refine blk_far ?_ NB1513_1480.out _; (with_reducible repeat (first | refine blk_drewN ?_ _ | refine blk_drew ?_ | refine blk_alloc ?_ _)); refine blk_far ?_ NB1513_1480.out _; exact pkK BK1513.out) hb); replace HB := bst HB hb; (try clear hb)))
           go_roundg kj40
           case measure => have := HK1.out; have := HJ40.out; omega
           case rel => exact ⟨(x4_1), (x5_1), (wrap64 (x6_1 + 1)), (t1501), (t1502), (t1503), (t1506), (t1509), (t1510), (t1511), (.slice Ao49 t1503.length co49), (.slice Ao50 t1506.length co50), rfx, rfx, rfx, H', ⟨by have := HK1.out; have := HJ40.out; omega⟩, ⟨by (with_reducible repeat (first | apply Kd.Q_alloc | apply Kd.Q_drewN | apply Kd.Q_drew)); exact Kd.Q_mono HO_1514002.out (fun _ hk => hk.2.2)⟩, ⟨by (with_reducible repeat (first | apply Kd.R_alloc | apply Kd.R_drewN | apply Kd.R_drew)); exact Kd.R_mono HO_1514003.out (fun _ hk => hk.2.2)⟩, ⟨pkK BK1480.out⟩, ⟨pkW HB.out⟩⟩
          ·replace c56 := Bool.eq_false_iff.mpr c56
           subst c56
           replace H : (some false) = some r := by rw [if_neg (show ¬ (false = true) by decide)] at H; exact H
           exact absurd (Option.some.inj H) (by rw [HQ_.out]; simp)
      ·rw [if_neg c39] at H
       have c39b0 : ((Int.tmod t1482 5) == 1) = false := beq_eq_false_iff_ne.mpr c39
       have c39b1 : ((Int.tmod t1482 5) != 1) = true := bne_iff_ne.mpr c39
       by_cases c61 : (Int.tmod t1482 5) = 2
       ·rw [if_pos c61] at H
        have c61b0 : ((Int.tmod t1482 5) == 2) = true := beq_iff_eq.mpr c61
        have c61b1 : ((Int.tmod t1482 5) != 2) = false := bne_eq_false_iff_eq.mpr c61
        clear c61
        replace H := Option.bind_eq_some_iff.mp H
        obtain ⟨⟨t1515, t1516, t1517, t1520, t1523, t1524, t1525, t1526⟩, A620, H⟩ := H
        replace H : (if t1526 = 0 then ((spec_EventOk.f k1 t1515 t1516 t1517 t1520 t1523 t1524 t1525).bind fun t1528 => (if t1528 = true then (laws_FnAuto.l0 k1 l0 x4_1 (wrap64 (x5_1 + 1)) (wrap64 (x6_1 + 1)) t1515 t1516 t1517 t1520 t1523 t1524 t1525) else (some false))) else ((spec_EventOk.f k1 t1515 t1516 t1517 t1520 t1523 t1524 t1525).bind fun t1529 => (if t1529 = true then (laws_FnAuto.l0 k1 l0 x4_1 x5_1 (wrap64 (x6_1 + 1)) t1515 t1516 t1517 t1520 t1523 t1524 t1525) else (some false)))) = some r := H
        have A62 := am A620
        clear A620
        by_cases c63 : t1526 = 0
        ·rw [if_pos c63] at H
         have c63b0 : (t1526 == 0) = true := beq_iff_eq.mpr c63
         have c63b1 : (t1526 != 0) = false := bne_eq_false_iff_eq.mpr c63
         clear c63
         replace H := Option.bind_eq_some_iff.mp H
         obtain ⟨t1528, A640, H⟩ := H
         replace H : (if t1528 = true then (laws_FnAuto.l0 k1 l0 x4_1 (wrap64 (x5_1 + 1)) (wrap64 (x6_1 + 1)) t1515 t1516 t1517 t1520 t1523 t1524 t1525) else (some false)) = some r := H
         have A64 := am A640
         clear A640
         by_cases c65 : t1528 = true
         ·subst c65
          replace H : (laws_FnAuto.l0 k1 l0 x4_1 (wrap64 (x5_1 + 1)) (wrap64 (x6_1 + 1)) t1515 t1516 t1517 t1520 t1523 t1524 t1525) = some r := by rw [if_pos rfl] at H; exact H
          have H' := am H
          clear H
          go_wp2_with (first | ((with_reducible refine gate_callee (f := 46) rfl ?_); refine goesL_ (some 37) rfl rfl Try.func46 (by kernel_rfl) rfl #[.slice A0 l0.length c0, .int .i64 (wrap64 (x6_1 + 50))] rfl mpx ?_; (with_reducible refine (laws_at.calls _ _ l0 (wrap64 (x6_1 + 50)) t1481 _ ?side1 ?side2 A8.out).mono ?_); (case side1 => exact pkC (Kd.C_below HR0.out HB.out)); (case side2 => exact HC0.out); rintro e w' ⟨rfl, nd, rfl⟩; refine ⟨_, rfl, ?_⟩; (try (rw [drewN_self wr]; generalize hq_ : World.drewN wr _ = wr; replace HO_1481002 : Aside0 (Kd.Q (Kd.int .i64) 3 wr w.heap.size (fun k_ => some k_ ≠ (u1481003 : Value).ownBlock) u1481002 x1481002_1) := ⟨by rw [← hq_]; exact (pkQ HO_1481002.out)⟩; replace HO_1481003 : Aside0 (Kd.R (Kd.int .i64) 3 wr w.heap.size (fun k_ => some k_ ≠ (u1481002 : Value).ownBlock) u1481003 x1481003_1) := ⟨by rw [← hq_]; exact (pkR HO_1481003.out)⟩; replace BK1480 : Aside0 (wr.heap[gb1480]? = some (.cells #[.bool x1481000_1, .bool x1481001_1, u1481002, u1481003, .int .i64 x1481004_1, .int .i64 x1481005_1, .int .i64 x1481006_1] 27 (0, 0))) := ⟨by rw [← hq_]; exact (pkK BK1480.out)⟩; replace HB : Aside0 (Below w.heap.size w wr) := ⟨by rw [← hq_]; exact (pkW HB.out)⟩; clear hq_))) | ((with_reducible refine gate_callee (f := 46) rfl ?_); refine goesL_ (some 42) rfl rfl Try.func46 (by kernel_rfl) rfl #[.slice A0 l0.length c0, .int .i64 (wrap64 (x6_1 + 1))] rfl mpx ?_; (with_reducible refine (laws_at.calls _ _ l0 (wrap64 (x6_1 + 1)) t1482 _ ?side1 ?side2 A9.out).mono ?_); (case side1 => exact pkC (Kd.C_below HR0.out HB.out)); (case side2 => exact HC0.out); rintro e w' ⟨rfl, nd, rfl⟩; refine ⟨_, rfl, ?_⟩; (try (rw [drewN_self wr]; generalize hq_ : World.drewN wr _ = wr; replace HO_1481002 : Aside0 (Kd.Q (Kd.int .i64) 3 wr w.heap.size (fun k_ => some k_ ≠ (u1481003 : Value).ownBlock) u1481002 x1481002_1) := ⟨by rw [← hq_]; exact (pkQ HO_1481002.out)⟩; replace HO_1481003 : Aside0 (Kd.R (Kd.int .i64) 3 wr w.heap.size (fun k_ => some k_ ≠ (u1481002 : Value).ownBlock) u1481003 x1481003_1) := ⟨by rw [← hq_]; exact (pkR HO_1481003.out)⟩; replace BK1480 : Aside0 (wr.heap[gb1480]? = some (.cells #[.bool x1481000_1, .bool x1481001_1, u1481002, u1481003, .int .i64 x1481004_1, .int .i64 x1481005_1, .int .i64 x1481006_1] 27 (0, 0))) := ⟨by rw [← hq_]; exact (pkK BK1480.out)⟩; replace HB : Aside0 (Below w.heap.size w wr) := ⟨by rw [← hq_]; exact (pkW HB.out)⟩; clear hq_)); obtain ⟨hcz66_0, hcz66_1, hcz66_2, hcz66_3, hcz66_4, hcz66_5, hcz66_6, hfz66_0, hfz66_1, hfz66_2, hfz66_3, hfz66_4, hfz66_5, hfz66_6⟩ := bk7 BK1480.out; obtain ⟨Ao67, co67, eo67, _⟩ := Kd.Q_slice HO_1481002.out; subst eo67; obtain ⟨Ao68, co68, eo68⟩ := Kd.R_slice HO_1481003.out; subst eo68) | ((with_reducible refine gate_callee (f := 31) rfl ?_); refine goesL_ (some 117) rfl rfl Try.func31 (by kernel_rfl) rfl #[.agg #[.bool x1481000_1, .bool x1481001_1, .slice Ao67 x1481002_1.length co67, .slice Ao68 x1481003_1.length co68, .int .i64 x1481004_1, .int .i64 x1481005_1, .int .i64 x1481006_1], .int .i64 (Int.tmod t1481 6)] rfl mpx ?_; (with_reducible refine (impl_GoOn.calls k1 x1481000_1 x1481001_1 _ _ x1481002_1 _ _ x1481003_1 x1481004_1 x1481005_1 x1481006_1 (Int.tmod t1481 6) t1515 t1516 t1517 t1520 t1523 t1524 t1525 t1526 _ ?side1 ?side2 ?side3 ?side4 A62.out).mono ?_); (case side1 => repeat (first | exact (Kd.Q_reads' HO_1481002.out).2.2 | (with_reducible refine Kd.C_alloc ?_ _) | (with_reducible refine Kd.C_drewN ?_ _) | (with_reducible refine Kd.C_drew ?_))); (case side2 => exact (Kd.Q_reads' HO_1481002.out).2.1); (case side3 => exact pkC (Kd.R_reads' HO_1481003.out).2.2); (case side4 => exact (Kd.R_reads' HO_1481003.out).2.1); rintro e w69 ⟨v1518, v1521, rfl, ho0, ho1, hb⟩; refine ⟨_, rfl, ?_⟩; have HO1519 := am (Kd.R_lower (Kd.R_new' (Kd.R_new' ho0 (Kd.Q_lt (pkQ HO_1481002.out))) (Kd.R_lt (pkR HO_1481003.out))) (below_size (pkW HB.out))); have HO1522 := am (Kd.R_lower (Kd.R_new' (Kd.R_new' ho1 (Kd.Q_lt (pkQ HO_1481002.out))) (Kd.R_lt (pkR HO_1481003.out))) (below_size (pkW HB.out))); replace HO_1481002 := am (Kd.Q_mono (Kd.Q_told (Kd.Q_told (Kd.Q_old (pkQ HO_1481002.out) hb) (Kd.R_base ho0)) (Kd.R_base ho1)) (fun _ h_ => h_.1)); replace HO_1481003 := am (Kd.R_mono (Kd.R_told (Kd.R_told (Kd.R_old (pkR HO_1481003.out) hb) (Kd.R_base ho0)) (Kd.R_base ho1)) (fun _ h_ => h_.1)); replace BK1480 := bbk BK1480 hb; replace HB := bst HB hb; (try clear hb ho0 ho1)) | ((with_reducible refine gate_dst (N := 13) rfl ?_); (try (refine gate_guard (by rfl) ?_; dsimp only)); refine box_event ?hg (N := 13) ?hd (cs := #[.bool false, .bool false, .slice none 0 0, .slice none 0 0, .int .i64 0, .int .i64 0, .int .i64 0]) (t := 27) ?hr ?_; (case hd => rfl); (case hg => rfl); (case hr => first | (go_simp; done) | (go_simp; rfl)); intro gb1527 hg w70 hbox hb; replace HO_1481002 := am (Kd.Q_below (pkQ HO_1481002.out) hb); replace HO_1481003 := rbl HO_1481003 hb; replace HO1519 := rbl HO1519 hb; replace HO1522 := rbl HO1522 hb; have BK1527 := am (hbox); have GW1527 := am ((by rw [hg]; exact (below_size (pkW HB.out)) : w.heap.size ≤ gb1527)); have GE1527 := am ((by rw [hg]; exact (below_size (pkW HB.out)) : w.heap.size ≤ gb1527)); replace HB := bst HB hb; have NB1480_1527 := am ((by rw [hg]; exact Nat.ne_of_lt (blk_lt (g := gb1480) (o := .cells #[.bool x1481000_1, .bool x1481001_1, .slice Ao67 x1481002_1.length co67, .slice Ao68 x1481003_1.length co68, .int .i64 x1481004_1, .int .i64 x1481005_1, .int .i64 x1481006_1] 27 (0, 0)) (pkK BK1480.out)) : gb1480 ≠ gb1527)); have NB1527_1480 := am ((by rw [hg]; exact Nat.ne_of_gt (blk_lt (g := gb1480) (o := .cells #[.bool x1481000_1, .bool x1481001_1, .slice Ao67 x1481002_1.length co67, .slice Ao68 x1481003_1.length co68, .int .i64 x1481004_1, .int .i64 x1481005_1, .int .i64 x1481006_1] 27 (0, 0)) (pkK BK1480.out)) : gb1527 ≠ gb1480)); replace BK1480 := bbk BK1480 hb; clear hb hbox hg; have hnb71 := NB1527_1480.out; have hnc71 := NB1480_1527.out; obtain ⟨hcz72_0, hcz72_1, hcz72_2, hcz72_3, hcz72_4, hcz72_5, hcz72_6, hfz72_0, hfz72_1, hfz72_2, hfz72_3, hfz72_4, hfz72_5, hfz72_6⟩ := bk7 BK1527.out; obtain ⟨Ao73, co73, eo73⟩ := Kd.R_slice HO1519.out; subst eo73; obtain ⟨Ao74, co74, eo74⟩ := Kd.R_slice HO1522.out; subst eo74; obtain ⟨hcz75_0, hcz75_1, hcz75_2, hcz75_3, hcz75_4, hcz75_5, hcz75_6, hfz75_0, hfz75_1, hfz75_2, hfz75_3, hfz75_4, hfz75_5, hfz75_6⟩ := bk7 BK1480.out) | ((with_reducible refine gate_callee (f := 15) rfl ?_); refine goesL_ (some 146) rfl rfl Try.func15 (by kernel_rfl) rfl #[.agg #[.bool t1515, .bool t1516, .slice Ao73 t1517.length co73, .slice Ao74 t1520.length co74, .int .i64 t1523, .int .i64 t1524, .int .i64 t1525]] rfl mpx ?_; (with_reducible refine (spec_EventOk.calls k1 t1515 t1516 _ _ t1517 _ _ t1520 t1523 t1524 t1525 true _ ?side1 ?side2 ?side3 ?side4 A64.out).mono ?_); (case side1 => refine (Kd.R_reads' (e := 3) (base := w.heap.size) (ok := fun k_ => ((some k_ ≠ (.slice Ao74 t1520.length co74 : Value).ownBlock ∧ some k_ ≠ (.slice Ao67 x1481002_1.length co67 : Value).ownBlock) ∧ some k_ ≠ (.slice Ao68 x1481003_1.length co68 : Value).ownBlock)) (n := t1517.length) (c := co73) ?_).2.2; exact (by (with_reducible repeat (first | apply Kd.R_alloc | apply Kd.R_drewN | apply Kd.R_drew)); exact (Kd.R_mono (Kd.R_mono (Kd.R_far (p := ⟨gb1480, 6, none⟩) (Kd.R_far (p := ⟨gb1480, 5, none⟩) (Kd.R_far (p := ⟨gb1480, 4, none⟩) (Kd.R_far (p := ⟨gb1480, 3, none⟩) (Kd.R_far (p := ⟨gb1480, 2, none⟩) (Kd.R_far (p := ⟨gb1480, 1, none⟩) (Kd.R_far (p := ⟨gb1480, 0, none⟩) (Kd.R_far (p := ⟨gb1527, 6, none⟩) (Kd.R_far (p := ⟨gb1527, 5, none⟩) (Kd.R_far (p := ⟨gb1527, 4, none⟩) (Kd.R_far (p := ⟨gb1527, 3, none⟩) (Kd.R_far (p := ⟨gb1527, 2, none⟩) (Kd.R_far (p := ⟨gb1527, 1, none⟩) (Kd.R_far (p := ⟨gb1527, 0, none⟩) (Kd.R_types (Kd.R_types HO1519.out BK1527.out (by decide)) BK1480.out (by decide)) (fun _ hk => hk.1.2) (.bool t1515)) (fun _ hk => hk.1.2) (.bool t1516)) (fun _ hk => hk.1.2) (.slice Ao73 t1517.length co73)) (fun _ hk => hk.1.2) (.slice Ao74 t1520.length co74)) (fun _ hk => hk.1.2) (.int .i64 t1523)) (fun _ hk => hk.1.2) (.int .i64 t1524)) (fun _ hk => hk.1.2) (.int .i64 t1525)) (fun _ hk => hk.2) (.bool t1515)) (fun _ hk => hk.2) (.bool t1516)) (fun _ hk => hk.2) (.slice Ao73 t1517.length co73)) (fun _ hk => hk.2) (.slice Ao74 t1520.length co74)) (fun _ hk => hk.2) (.int .i64 t1523)) (fun _ hk => hk.2) (.int .i64 t1524)) (fun _ hk => hk.2) (.int .i64 t1525)) (fun _ h_ => h_.1)) (fun _ h_ => h_.1)))); (case side2 => exact (Kd.R_reads' HO1519.out).2.1); (case side3 => refine (Kd.R_reads' (e := 3) (base := w.heap.size) (ok := fun k_ => ((some k_ ≠ (.slice Ao73 t1517.length co73 : Value).ownBlock ∧ some k_ ≠ (.slice Ao67 x1481002_1.length co67 : Value).ownBlock) ∧ some k_ ≠ (.slice Ao68 x1481003_1.length co68 : Value).ownBlock)) (n := t1520.length) (c := co74) ?_).2.2; exact (by (with_reducible repeat (first | apply Kd.R_alloc | apply Kd.R_drewN | apply Kd.R_drew)); exact (Kd.R_mono (Kd.R_mono (Kd.R_far (p := ⟨gb1480, 6, none⟩) (Kd.R_far (p := ⟨gb1480, 5, none⟩) (Kd.R_far (p := ⟨gb1480, 4, none⟩) (Kd.R_far (p := ⟨gb1480, 3, none⟩) (Kd.R_far (p := ⟨gb1480, 2, none⟩) (Kd.R_far (p := ⟨gb1480, 1, none⟩) (Kd.R_far (p := ⟨gb1480, 0, none⟩) (Kd.R_far (p := ⟨gb1527, 6, none⟩) (Kd.R_far (p := ⟨gb1527, 5, none⟩) (Kd.R_far (p := ⟨gb1527, 4, none⟩) (Kd.R_far (p := ⟨gb1527, 3, none⟩) (Kd.R_far (p := ⟨gb1527, 2, none⟩) (Kd.R_far (p := ⟨gb1527, 1, none⟩) (Kd.R_far (p := ⟨gb1527, 0, none⟩) (Kd.R_types (Kd.R_types HO1522.out BK1527.out (by decide)) BK1480.out (by decide)) (fun _ hk => hk.1.2) (.bool t1515)) (fun _ hk => hk.1.2) (.bool t1516)) (fun _ hk => hk.1.2) (.slice Ao73 t1517.length co73)) (fun _ hk => hk.1.2) (.slice Ao74 t1520.length co74)) (fun _ hk => hk.1.2) (.int .i64 t1523)) (fun _ hk => hk.1.2) (.int .i64 t1524)) (fun _ hk => hk.1.2) (.int .i64 t1525)) (fun _ hk => hk.2) (.bool t1515)) (fun _ hk => hk.2) (.bool t1516)) (fun _ hk => hk.2) (.slice Ao73 t1517.length co73)) (fun _ hk => hk.2) (.slice Ao74 t1520.length co74)) (fun _ hk => hk.2) (.int .i64 t1523)) (fun _ hk => hk.2) (.int .i64 t1524)) (fun _ hk => hk.2) (.int .i64 t1525)) (fun _ h_ => h_.1)) (fun _ h_ => h_.1)))); (case side4 => exact (Kd.R_reads' HO1522.out).2.1); rintro e w76 ⟨rfl, hb⟩; refine ⟨_, rfl, ?_⟩; replace HO_1481002 := am (Kd.Q_below (by (with_reducible repeat (first | apply Kd.Q_alloc | apply Kd.Q_drewN | apply Kd.Q_drew)); exact (Kd.Q_mono (Kd.Q_mono (Kd.Q_far (p := ⟨gb1480, 6, none⟩) (Kd.Q_far (p := ⟨gb1480, 5, none⟩) (Kd.Q_far (p := ⟨gb1480, 4, none⟩) (Kd.Q_far (p := ⟨gb1480, 3, none⟩) (Kd.Q_far (p := ⟨gb1480, 2, none⟩) (Kd.Q_far (p := ⟨gb1480, 1, none⟩) (Kd.Q_far (p := ⟨gb1480, 0, none⟩) (Kd.Q_far (p := ⟨gb1527, 6, none⟩) (Kd.Q_far (p := ⟨gb1527, 5, none⟩) (Kd.Q_far (p := ⟨gb1527, 4, none⟩) (Kd.Q_far (p := ⟨gb1527, 3, none⟩) (Kd.Q_far (p := ⟨gb1527, 2, none⟩) (Kd.Q_far (p := ⟨gb1527, 1, none⟩) (Kd.Q_far (p := ⟨gb1527, 0, none⟩) (Kd.Q_types (Kd.Q_types HO_1481002.out BK1527.out (by decide)) BK1480.out (by decide)) (fun _ hk => hk.1.2) (.bool t1515)) (fun _ hk => hk.1.2) (.bool t1516)) (fun _ hk => hk.1.2) (.slice Ao73 t1517.length co73)) (fun _ hk => hk.1.2) (.slice Ao74 t1520.length co74)) (fun _ hk => hk.1.2) (.int .i64 t1523)) (fun _ hk => hk.1.2) (.int .i64 t1524)) (fun _ hk => hk.1.2) (.int .i64 t1525)) (fun _ hk => hk.2) (.bool t1515)) (fun _ hk => hk.2) (.bool t1516)) (fun _ hk => hk.2) (.slice Ao73 t1517.length co73)) (fun _ hk => hk.2) (.slice Ao74 t1520.length co74)) (fun _ hk => hk.2) (.int .i64 t1523)) (fun _ hk => hk.2) (.int .i64 t1524)) (fun _ hk => hk.2) (.int .i64 t1525)) (fun _ h_ => h_.1)) (fun _ h_ => h_.1))) hb); replace HO_1481003 := am (Kd.R_below (by (with_reducible repeat (first | apply Kd.R_alloc | apply Kd.R_drewN | apply Kd.R_drew)); exact (Kd.R_mono (Kd.R_mono (Kd.R_far (p := ⟨gb1480, 6, none⟩) (Kd.R_far (p := ⟨gb1480, 5, none⟩) (Kd.R_far (p := ⟨gb1480, 4, none⟩) (Kd.R_far (p := ⟨gb1480, 3, none⟩) (Kd.R_far (p := ⟨gb1480, 2, none⟩) (Kd.R_far (p := ⟨gb1480, 1, none⟩) (Kd.R_far (p := ⟨gb1480, 0, none⟩) (Kd.R_far (p := ⟨gb1527, 6, none⟩) (Kd.R_far (p := ⟨gb1527, 5, none⟩) (Kd.R_far (p := ⟨gb1527, 4, none⟩) (Kd.R_far (p := ⟨gb1527, 3, none⟩) (Kd.R_far (p := ⟨gb1527, 2, none⟩) (Kd.R_far (p := ⟨gb1527, 1, none⟩) (Kd.R_far (p := ⟨gb1527, 0, none⟩) (Kd.R_types (Kd.R_types HO_1481003.out BK1527.out (by decide)) BK1480.out (by decide)) (fun _ hk => hk.1.2) (.bool t1515)) (fun _ hk => hk.1.2) (.bool t1516)) (fun _ hk => hk.1.2) (.slice Ao73 t1517.length co73)) (fun _ hk => hk.1.2) (.slice Ao74 t1520.length co74)) (fun _ hk => hk.1.2) (.int .i64 t1523)) (fun _ hk => hk.1.2) (.int .i64 t1524)) (fun _ hk => hk.1.2) (.int .i64 t1525)) (fun _ hk => hk.2) (.bool t1515)) (fun _ hk => hk.2) (.bool t1516)) (fun _ hk => hk.2) (.slice Ao73 t1517.length co73)) (fun _ hk => hk.2) (.slice Ao74 t1520.length co74)) (fun _ hk => hk.2) (.int .i64 t1523)) (fun _ hk => hk.2) (.int .i64 t1524)) (fun _ hk => hk.2) (.int .i64 t1525)) (fun _ h_ => h_.1)) (fun _ h_ => h_.1))) hb); replace HO1519 := am (Kd.R_below (by (with_reducible repeat (first | apply Kd.R_alloc | apply Kd.R_drewN | apply Kd.R_drew)); exact (Kd.R_mono (Kd.R_mono (Kd.R_far (p := ⟨gb1480, 6, none⟩) (Kd.R_far (p := ⟨gb1480, 5, none⟩) (Kd.R_far (p := ⟨gb1480, 4, none⟩) (Kd.R_far (p := ⟨gb1480, 3, none⟩) (Kd.R_far (p := ⟨gb1480, 2, none⟩) (Kd.R_far (p := ⟨gb1480, 1, none⟩) (Kd.R_far (p := ⟨gb1480, 0, none⟩) (Kd.R_far (p := ⟨gb1527, 6, none⟩) (Kd.R_far (p := ⟨gb1527, 5, none⟩) (Kd.R_far (p := ⟨gb1527, 4, none⟩) (Kd.R_far (p := ⟨gb1527, 3, none⟩) (Kd.R_far (p := ⟨gb1527, 2, none⟩) (Kd.R_far (p := ⟨gb1527, 1, none⟩) (Kd.R_far (p := ⟨gb1527, 0, none⟩) (Kd.R_types (Kd.R_types HO1519.out BK1527.out (by decide)) BK1480.out (by decide)) (fun _ hk => hk.1.2) (.bool t1515)) (fun _ hk => hk.1.2) (.bool t1516)) (fun _ hk => hk.1.2) (.slice Ao73 t1517.length co73)) (fun _ hk => hk.1.2) (.slice Ao74 t1520.length co74)) (fun _ hk => hk.1.2) (.int .i64 t1523)) (fun _ hk => hk.1.2) (.int .i64 t1524)) (fun _ hk => hk.1.2) (.int .i64 t1525)) (fun _ hk => hk.2) (.bool t1515)) (fun _ hk => hk.2) (.bool t1516)) (fun _ hk => hk.2) (.slice Ao73 t1517.length co73)) (fun _ hk => hk.2) (.slice Ao74 t1520.length co74)) (fun _ hk => hk.2) (.int .i64 t1523)) (fun _ hk => hk.2) (.int .i64 t1524)) (fun _ hk => hk.2) (.int .i64 t1525)) (fun _ h_ => h_.1)) (fun _ h_ => h_.1))) hb); replace HO1522 := am (Kd.R_below (by (with_reducible repeat (first | apply Kd.R_alloc | apply Kd.R_drewN | apply Kd.R_drew)); exact (Kd.R_mono (Kd.R_mono (Kd.R_far (p := ⟨gb1480, 6, none⟩) (Kd.R_far (p := ⟨gb1480, 5, none⟩) (Kd.R_far (p := ⟨gb1480, 4, none⟩) (Kd.R_far (p := ⟨gb1480, 3, none⟩) (Kd.R_far (p := ⟨gb1480, 2, none⟩) (Kd.R_far (p := ⟨gb1480, 1, none⟩) (Kd.R_far (p := ⟨gb1480, 0, none⟩) (Kd.R_far (p := ⟨gb1527, 6, none⟩) (Kd.R_far (p := ⟨gb1527, 5, none⟩) (Kd.R_far (p := ⟨gb1527, 4, none⟩) (Kd.R_far (p := ⟨gb1527, 3, none⟩) (Kd.R_far (p := ⟨gb1527, 2, none⟩) (Kd.R_far (p := ⟨gb1527, 1, none⟩) (Kd.R_far (p := ⟨gb1527, 0, none⟩) (Kd.R_types (Kd.R_types HO1522.out BK1527.out (by decide)) BK1480.out (by decide)) (fun _ hk => hk.1.2) (.bool t1515)) (fun _ hk => hk.1.2) (.bool t1516)) (fun _ hk => hk.1.2) (.slice Ao73 t1517.length co73)) (fun _ hk => hk.1.2) (.slice Ao74 t1520.length co74)) (fun _ hk => hk.1.2) (.int .i64 t1523)) (fun _ hk => hk.1.2) (.int .i64 t1524)) (fun _ hk => hk.1.2) (.int .i64 t1525)) (fun _ hk => hk.2) (.bool t1515)) (fun _ hk => hk.2) (.bool t1516)) (fun _ hk => hk.2) (.slice Ao73 t1517.length co73)) (fun _ hk => hk.2) (.slice Ao74 t1520.length co74)) (fun _ hk => hk.2) (.int .i64 t1523)) (fun _ hk => hk.2) (.int .i64 t1524)) (fun _ hk => hk.2) (.int .i64 t1525)) (fun _ h_ => h_.1)) (fun _ h_ => h_.1))) hb); replace BK1480 := am (blk_below (g := gb1480) (o := .cells #[.bool t1515, .bool t1516, .slice Ao73 t1517.length co73, .slice Ao74 t1520.length co74, .int .i64 t1523, .int .i64 t1524, .int .i64 t1525] 27 (0, 0)) (by (with_reducible repeat (first | refine blk_drewN ?_ _ | refine blk_drew ?_ | refine blk_alloc ?_ _)); refine blk_put (cs := #[.bool t1515, .bool t1516, .slice Ao73 t1517.length co73, .slice Ao74 t1520.length co74, .int .i64 t1523, .int .i64 t1524, .int .i64 x1481006_1]) ?_ 6 _ rfl; (with_reducible repeat (first | refine blk_drewN ?_ _ | refine blk_drew ?_ | refine blk_alloc ?_ _)); refine blk_put (cs := #[.bool t1515, .bool t1516, .slice Ao73 t1517.length co73, .slice Ao74 t1520.length co74, .int .i64 t1523, .int .i64 x1481005_1, .int .i64 x1481006_1]) ?_ 5 _ rfl; (with_reducible repeat (first | refine blk_drewN ?_ _ | refine blk_drew ?_ | refine blk_alloc ?_ _)); refine blk_put (cs := #[.bool t1515, .bool t1516, .slice Ao73 t1517.length co73, .slice Ao74 t1520.length co74, .int .i64 x1481004_1, .int .i64 x1481005_1, .int .i64 x1481006_1]) ?_ 4 _ rfl; (with_reducible repeat (first | refine blk_drewN ?_ _ | refine blk_drew ?_ | refine blk_alloc ?_ _)); refine blk_put (cs := #[.bool t1515, .bool t1516, .slice Ao73 t1517.length co73, .slice Ao68 x1481003_1.length co68, .int .i64 x1481004_1, .int .i64 x1481005_1, .int .i64 x1481006_1]) ?_ 3 _ rfl; (with_reducible repeat (first | refine blk_drewN ?_ _ | refine blk_drew ?_ | refine blk_alloc ?_ _)); refine blk_put (cs := #[.bool t1515, .bool t1516, .slice Ao67 x1481002_1.length co67, .slice Ao68 x1481003_1.length co68, .int .i64 x1481004_1, .int .i64 x1481005_1, .int .i64 x1481006_1]) ?_ 2 _ rfl; (with_reducible repeat (first | refine blk_drewN ?_ _ | refine blk_drew ?_ | refine blk_alloc ?_ _)); refine blk_put (cs := #[.bool t1515, .bool x1481001_1, .slice Ao67 x1481002_1.length co67, .slice Ao68 x1481003_1.length co68, .int .i64 x1481004_1, .int .i64 x1481005_1, .int .i64 x1481006_1]) ?_ 1 _ rfl; (with_reducible repeat (first | refine blk_drewN ?_ _ | refine blk_drew ?_ | refine blk_alloc ?_ _)); refine blk_put (cs := #[.bool x1481000_1, .bool x1481001_1, .slice Ao67 x1481002_1.length co67, .slice Ao68 x1481003_1.length co68, .int .i64 x1481004_1, .int .i64 x1481005_1, .int .i64 x1481006_1]) ?_ 0 _ rfl; (with_reducible repeat (first | refine blk_drewN ?_ _ | refine blk_drew ?_ | refine blk_alloc ?_ _)); refine blk_far ?_ NB1480_1527.out _; (with_reducible repeat (first | refine blk_drewN ?_ _ | refine blk_drew ?_ | refine blk_alloc ?_ _)); refine blk_far ?_ NB1480_1527.out _; (with_reducible repeat (first | refine blk_drewN ?_ _ | refine blk_drew ?_ | refine blk_alloc ?_ _)); refine blk_far ?_ NB1480_1527.out _; (with_reducible repeat (first | refine blk_drewN ?_ _ | refine blk_drew ?_ | refine blk_alloc ?_ _)); refine blk_far ?_ NB1480_1527.out _; (with_reducible repeat (first | refine blk_drewN ?_ _ | refine blk_drew ?_ | refine blk_alloc ?_ _)); refine blk_far ?_ NB1480_1527.out _; (with_reducible repeat (first | refine blk_drewN ?_ _ | refine blk_drew ?_ | refine blk_alloc ?_ _)); refine blk_far ?_ NB1480_1527.out _; (with_reducible repeat (first | refine blk_drewN ?_ _ | refine blk_drew ?_ | refine blk_alloc ?_ _)); refine blk_far ?_ NB1480_1527.out _; exact pkK BK1480.out) hb); replace BK1527 := am (blk_below (g := gb1527) (o := .cells #[.bool t1515, .bool t1516, .slice Ao73 t1517.length co73, .slice Ao74 t1520.length co74, .int .i64 t1523, .int .i64 t1524, .int .i64 t1525] 27 (0, 0)) (by (with_reducible repeat (first | refine blk_drewN ?_ _ | refine blk_drew ?_ | refine blk_alloc ?_ _)); refine blk_far ?_ NB1527_1480.out _; (with_reducible repeat (first | refine blk_drewN ?_ _ | refine blk_drew ?_ | refine blk_alloc ?_ _)); refine blk_far ?_ NB1527_1480.out _; (with_reducible repeat (first | refine blk_drewN ?_ _ | refine blk_drew ?_ | refine blk_alloc ?_ _)); refine blk_far ?_ NB1527_1480.out _; (with_reducible repeat (first | refine blk_drewN ?_ _ | refine blk_drew ?_ | refine blk_alloc ?_ _)); refine blk_far ?_ NB1527_1480.out _; (with_reducible repeat (first | refine blk_drewN ?_ _ | refine blk_drew ?_ | refine blk_alloc ?_ _)); refine blk_far ?_ NB1527_1480.out _; (with_reducible repeat (first | refine blk_drewN ?_ _ | refine blk_drew ?_ | refine blk_alloc ?_ _)); refine blk_far ?_ NB1527_1480.out _; (with_reducible repeat (first | refine blk_drewN ?_ _ | refine blk_drew ?_ | refine blk_alloc ?_ _)); refine blk_far ?_ NB1527_1480.out _; (with_reducible repeat (first | refine blk_drewN ?_ _ | refine blk_drew ?_ | refine blk_alloc ?_ _)); refine blk_put (cs := #[.bool t1515, .bool t1516, .slice Ao73 t1517.length co73, .slice Ao74 t1520.length co74, .int .i64 t1523, .int .i64 t1524, .int .i64 0]) ?_ 6 _ rfl; (with_reducible repeat (first | refine blk_drewN ?_ _ | refine blk_drew ?_ | refine blk_alloc ?_ _)); refine blk_put (cs := #[.bool t1515, .bool t1516, .slice Ao73 t1517.length co73, .slice Ao74 t1520.length co74, .int .i64 t1523, .int .i64 0, .int .i64 0]) ?_ 5 _ rfl; (with_reducible repeat (first | refine blk_drewN ?_ _ | refine blk_drew ?_ | refine blk_alloc ?_ _)); refine blk_put (cs := #[.bool t1515, .bool t1516, .slice Ao73 t1517.length co73, .slice Ao74 t1520.length co74, .int .i64 0, .int .i64 0, .int .i64 0]) ?_ 4 _ rfl; (with_reducible repeat (first | refine blk_drewN ?_ _ | refine blk_drew ?_ | refine blk_alloc ?_ _)); refine blk_put (cs := #[.bool t1515, .bool t1516, .slice Ao73 t1517.length co73, .slice none 0 0, .int .i64 0, .int .i64 0, .int .i64 0]) ?_ 3 _ rfl; (with_reducible repeat (first | refine blk_drewN ?_ _ | refine blk_drew ?_ | refine blk_alloc ?_ _)); refine blk_put (cs := #[.bool t1515, .bool t1516, .slice none 0 0, .slice none 0 0, .int .i64 0, .int .i64 0, .int .i64 0]) ?_ 2 _ rfl; (with_reducible repeat (first | refine blk_drewN ?_ _ | refine blk_drew ?_ | refine blk_alloc ?_ _)); refine blk_put (cs := #[.bool t1515, .bool false, .slice none 0 0, .slice none 0 0, .int .i64 0, .int .i64 0, .int .i64 0]) ?_ 1 _ rfl; (with_reducible repeat (first | refine blk_drewN ?_ _ | refine blk_drew ?_ | refine blk_alloc ?_ _)); refine blk_put (cs := #[.bool false, .bool false, .slice none 0 0, .slice none 0 0, .int .i64 0, .int .i64 0, .int .i64 0]) ?_ 0 _ rfl; exact pkK BK1527.out) hb); replace HB := bst HB hb; (try clear hb)))
          go_roundg k1
          case measure => have := HK1.out; omega
          case rel => exact ⟨(x4_1), (wrap64 (x5_1 + 1)), (wrap64 (x6_1 + 1)), (t1515), (t1516), (t1517), (t1520), (t1523), (t1524), (t1525), (.slice Ao73 t1517.length co73), (.slice Ao74 t1520.length co74), rfx, rfx, rfx, H', ⟨by have := HK1.out; omega⟩, ⟨Kd.Q_of_R (by (with_reducible repeat (first | apply Kd.R_alloc | apply Kd.R_drewN | apply Kd.R_drew)); exact Kd.R_mono HO1519.out (fun _ hk => hk.1.1))⟩, ⟨by (with_reducible repeat (first | apply Kd.R_alloc | apply Kd.R_drewN | apply Kd.R_drew)); exact Kd.R_mono HO1522.out (fun _ hk => hk.1.1)⟩, ⟨pkK BK1480.out⟩, ⟨pkW HB.out⟩⟩
         ·replace c65 := Bool.eq_false_iff.mpr c65
          subst c65
          replace H : (some false) = some r := by rw [if_neg (show ¬ (false = true) by decide)] at H; exact H
          exact absurd (Option.some.inj H) (by rw [HQ_.out]; simp)
        ·rw [if_neg c63] at H
         have c63b0 : (t1526 == 0) = false := beq_eq_false_iff_ne.mpr c63
         have c63b1 : (t1526 != 0) = true := bne_iff_ne.mpr c63
         replace H := Option.bind_eq_some_iff.mp H
         obtain ⟨t1529, A770, H⟩ := H
         replace H : (if t1529 = true then (laws_FnAuto.l0 k1 l0 x4_1 x5_1 (wrap64 (x6_1 + 1)) t1515 t1516 t1517 t1520 t1523 t1524 t1525) else (some false)) = some r := H
         have A77 := am A770
         clear A770
         by_cases c78 : t1529 = true
         ·subst c78
          replace H : (laws_FnAuto.l0 k1 l0 x4_1 x5_1 (wrap64 (x6_1 + 1)) t1515 t1516 t1517 t1520 t1523 t1524 t1525) = some r := by rw [if_pos rfl] at H; exact H
          have H' := am H
          clear H
          go_wp2_with (first | ((with_reducible refine gate_callee (f := 46) rfl ?_); refine goesL_ (some 37) rfl rfl Try.func46 (by kernel_rfl) rfl #[.slice A0 l0.length c0, .int .i64 (wrap64 (x6_1 + 50))] rfl mpx ?_; (with_reducible refine (laws_at.calls _ _ l0 (wrap64 (x6_1 + 50)) t1481 _ ?side1 ?side2 A8.out).mono ?_); (case side1 => exact pkC (Kd.C_below HR0.out HB.out)); (case side2 => exact HC0.out); rintro e w' ⟨rfl, nd, rfl⟩; refine ⟨_, rfl, ?_⟩; (try (rw [drewN_self wr]; generalize hq_ : World.drewN wr _ = wr; replace HO_1481002 : Aside0 (Kd.Q (Kd.int .i64) 3 wr w.heap.size (fun k_ => some k_ ≠ (u1481003 : Value).ownBlock) u1481002 x1481002_1) := ⟨by rw [← hq_]; exact (pkQ HO_1481002.out)⟩; replace HO_1481003 : Aside0 (Kd.R (Kd.int .i64) 3 wr w.heap.size (fun k_ => some k_ ≠ (u1481002 : Value).ownBlock) u1481003 x1481003_1) := ⟨by rw [← hq_]; exact (pkR HO_1481003.out)⟩; replace BK1480 : Aside0 (wr.heap[gb1480]? = some (.cells #[.bool x1481000_1, .bool x1481001_1, u1481002, u1481003, .int .i64 x1481004_1, .int .i64 x1481005_1, .int .i64 x1481006_1] 27 (0, 0))) := ⟨by rw [← hq_]; exact (pkK BK1480.out)⟩; replace HB : Aside0 (Below w.heap.size w wr) := ⟨by rw [← hq_]; exact (pkW HB.out)⟩; clear hq_))) | ((with_reducible refine gate_callee (f := 46) rfl ?_); refine goesL_ (some 42) rfl rfl Try.func46 (by kernel_rfl) rfl #[.slice A0 l0.length c0, .int .i64 (wrap64 (x6_1 + 1))] rfl mpx ?_; (with_reducible refine (laws_at.calls _ _ l0 (wrap64 (x6_1 + 1)) t1482 _ ?side1 ?side2 A9.out).mono ?_); (case side1 => exact pkC (Kd.C_below HR0.out HB.out)); (case side2 => exact HC0.out); rintro e w' ⟨rfl, nd, rfl⟩; refine ⟨_, rfl, ?_⟩; (try (rw [drewN_self wr]; generalize hq_ : World.drewN wr _ = wr; replace HO_1481002 : Aside0 (Kd.Q (Kd.int .i64) 3 wr w.heap.size (fun k_ => some k_ ≠ (u1481003 : Value).ownBlock) u1481002 x1481002_1) := ⟨by rw [← hq_]; exact (pkQ HO_1481002.out)⟩; replace HO_1481003 : Aside0 (Kd.R (Kd.int .i64) 3 wr w.heap.size (fun k_ => some k_ ≠ (u1481002 : Value).ownBlock) u1481003 x1481003_1) := ⟨by rw [← hq_]; exact (pkR HO_1481003.out)⟩; replace BK1480 : Aside0 (wr.heap[gb1480]? = some (.cells #[.bool x1481000_1, .bool x1481001_1, u1481002, u1481003, .int .i64 x1481004_1, .int .i64 x1481005_1, .int .i64 x1481006_1] 27 (0, 0))) := ⟨by rw [← hq_]; exact (pkK BK1480.out)⟩; replace HB : Aside0 (Below w.heap.size w wr) := ⟨by rw [← hq_]; exact (pkW HB.out)⟩; clear hq_)); obtain ⟨hcz79_0, hcz79_1, hcz79_2, hcz79_3, hcz79_4, hcz79_5, hcz79_6, hfz79_0, hfz79_1, hfz79_2, hfz79_3, hfz79_4, hfz79_5, hfz79_6⟩ := bk7 BK1480.out; obtain ⟨Ao80, co80, eo80, _⟩ := Kd.Q_slice HO_1481002.out; subst eo80; obtain ⟨Ao81, co81, eo81⟩ := Kd.R_slice HO_1481003.out; subst eo81) | ((with_reducible refine gate_callee (f := 31) rfl ?_); refine goesL_ (some 117) rfl rfl Try.func31 (by kernel_rfl) rfl #[.agg #[.bool x1481000_1, .bool x1481001_1, .slice Ao80 x1481002_1.length co80, .slice Ao81 x1481003_1.length co81, .int .i64 x1481004_1, .int .i64 x1481005_1, .int .i64 x1481006_1], .int .i64 (Int.tmod t1481 6)] rfl mpx ?_; (with_reducible refine (impl_GoOn.calls k1 x1481000_1 x1481001_1 _ _ x1481002_1 _ _ x1481003_1 x1481004_1 x1481005_1 x1481006_1 (Int.tmod t1481 6) t1515 t1516 t1517 t1520 t1523 t1524 t1525 t1526 _ ?side1 ?side2 ?side3 ?side4 A62.out).mono ?_); (case side1 => repeat (first | exact (Kd.Q_reads' HO_1481002.out).2.2 | (with_reducible refine Kd.C_alloc ?_ _) | (with_reducible refine Kd.C_drewN ?_ _) | (with_reducible refine Kd.C_drew ?_))); (case side2 => exact (Kd.Q_reads' HO_1481002.out).2.1); (case side3 => exact pkC (Kd.R_reads' HO_1481003.out).2.2); (case side4 => exact (Kd.R_reads' HO_1481003.out).2.1); rintro e w82 ⟨v1518, v1521, rfl, ho0, ho1, hb⟩; refine ⟨_, rfl, ?_⟩; have HO1519 := am (Kd.R_lower (Kd.R_new' (Kd.R_new' ho0 (Kd.Q_lt (pkQ HO_1481002.out))) (Kd.R_lt (pkR HO_1481003.out))) (below_size (pkW HB.out))); have HO1522 := am (Kd.R_lower (Kd.R_new' (Kd.R_new' ho1 (Kd.Q_lt (pkQ HO_1481002.out))) (Kd.R_lt (pkR HO_1481003.out))) (below_size (pkW HB.out))); replace HO_1481002 := am (Kd.Q_mono (Kd.Q_told (Kd.Q_told (Kd.Q_old (pkQ HO_1481002.out) hb) (Kd.R_base ho0)) (Kd.R_base ho1)) (fun _ h_ => h_.1)); replace HO_1481003 := am (Kd.R_mono (Kd.R_told (Kd.R_told (Kd.R_old (pkR HO_1481003.out) hb) (Kd.R_base ho0)) (Kd.R_base ho1)) (fun _ h_ => h_.1)); replace BK1480 := bbk BK1480 hb; replace HB := bst HB hb; (try clear hb ho0 ho1)) | ((with_reducible refine gate_dst (N := 13) rfl ?_); (try (refine gate_guard (by rfl) ?_; dsimp only)); refine box_event ?hg (N := 13) ?hd (cs := #[.bool false, .bool false, .slice none 0 0, .slice none 0 0, .int .i64 0, .int .i64 0, .int .i64 0]) (t := 27) ?hr ?_; (case hd => rfl); (case hg => rfl); (case hr => first | (go_simp; done) | (go_simp; rfl)); intro gb1527 hg w83 hbox hb; replace HO_1481002 := am (Kd.Q_below (pkQ HO_1481002.out) hb); replace HO_1481003 := rbl HO_1481003 hb; replace HO1519 := rbl HO1519 hb; replace HO1522 := rbl HO1522 hb; have BK1527 := am (hbox); have GW1527 := am ((by rw [hg]; exact (below_size (pkW HB.out)) : w.heap.size ≤ gb1527)); have GE1527 := am ((by rw [hg]; exact (below_size (pkW HB.out)) : w.heap.size ≤ gb1527)); replace HB := bst HB hb; have NB1480_1527 := am ((by rw [hg]; exact Nat.ne_of_lt (blk_lt (g := gb1480) (o := .cells #[.bool x1481000_1, .bool x1481001_1, .slice Ao80 x1481002_1.length co80, .slice Ao81 x1481003_1.length co81, .int .i64 x1481004_1, .int .i64 x1481005_1, .int .i64 x1481006_1] 27 (0, 0)) (pkK BK1480.out)) : gb1480 ≠ gb1527)); have NB1527_1480 := am ((by rw [hg]; exact Nat.ne_of_gt (blk_lt (g := gb1480) (o := .cells #[.bool x1481000_1, .bool x1481001_1, .slice Ao80 x1481002_1.length co80, .slice Ao81 x1481003_1.length co81, .int .i64 x1481004_1, .int .i64 x1481005_1, .int .i64 x1481006_1] 27 (0, 0)) (pkK BK1480.out)) : gb1527 ≠ gb1480)); replace BK1480 := bbk BK1480 hb; clear hb hbox hg; have hnb84 := NB1527_1480.out; have hnc84 := NB1480_1527.out; obtain ⟨hcz85_0, hcz85_1, hcz85_2, hcz85_3, hcz85_4, hcz85_5, hcz85_6, hfz85_0, hfz85_1, hfz85_2, hfz85_3, hfz85_4, hfz85_5, hfz85_6⟩ := bk7 BK1527.out; obtain ⟨Ao86, co86, eo86⟩ := Kd.R_slice HO1519.out; subst eo86; obtain ⟨Ao87, co87, eo87⟩ := Kd.R_slice HO1522.out; subst eo87; obtain ⟨hcz88_0, hcz88_1, hcz88_2, hcz88_3, hcz88_4, hcz88_5, hcz88_6, hfz88_0, hfz88_1, hfz88_2, hfz88_3, hfz88_4, hfz88_5, hfz88_6⟩ := bk7 BK1480.out) | ((with_reducible refine gate_callee (f := 15) rfl ?_); refine goesL_ (some 146) rfl rfl Try.func15 (by kernel_rfl) rfl #[.agg #[.bool t1515, .bool t1516, .slice Ao86 t1517.length co86, .slice Ao87 t1520.length co87, .int .i64 t1523, .int .i64 t1524, .int .i64 t1525]] rfl mpx ?_; (with_reducible refine (spec_EventOk.calls k1 t1515 t1516 _ _ t1517 _ _ t1520 t1523 t1524 t1525 true _ ?side1 ?side2 ?side3 ?side4 A77.out).mono ?_); (case side1 => refine (Kd.R_reads' (e := 3) (base := w.heap.size) (ok := fun k_ => ((some k_ ≠ (.slice Ao87 t1520.length co87 : Value).ownBlock ∧ some k_ ≠ (.slice Ao80 x1481002_1.length co80 : Value).ownBlock) ∧ some k_ ≠ (.slice Ao81 x1481003_1.length co81 : Value).ownBlock)) (n := t1517.length) (c := co86) ?_).2.2; exact (by (with_reducible repeat (first | apply Kd.R_alloc | apply Kd.R_drewN | apply Kd.R_drew)); exact (Kd.R_mono (Kd.R_mono (Kd.R_far (p := ⟨gb1480, 6, none⟩) (Kd.R_far (p := ⟨gb1480, 5, none⟩) (Kd.R_far (p := ⟨gb1480, 4, none⟩) (Kd.R_far (p := ⟨gb1480, 3, none⟩) (Kd.R_far (p := ⟨gb1480, 2, none⟩) (Kd.R_far (p := ⟨gb1480, 1, none⟩) (Kd.R_far (p := ⟨gb1480, 0, none⟩) (Kd.R_far (p := ⟨gb1527, 6, none⟩) (Kd.R_far (p := ⟨gb1527, 5, none⟩) (Kd.R_far (p := ⟨gb1527, 4, none⟩) (Kd.R_far (p := ⟨gb1527, 3, none⟩) (Kd.R_far (p := ⟨gb1527, 2, none⟩) (Kd.R_far (p := ⟨gb1527, 1, none⟩) (Kd.R_far (p := ⟨gb1527, 0, none⟩) (Kd.R_types (Kd.R_types HO1519.out BK1527.out (by decide)) BK1480.out (by decide)) (fun _ hk => hk.1.2) (.bool t1515)) (fun _ hk => hk.1.2) (.bool t1516)) (fun _ hk => hk.1.2) (.slice Ao86 t1517.length co86)) (fun _ hk => hk.1.2) (.slice Ao87 t1520.length co87)) (fun _ hk => hk.1.2) (.int .i64 t1523)) (fun _ hk => hk.1.2) (.int .i64 t1524)) (fun _ hk => hk.1.2) (.int .i64 t1525)) (fun _ hk => hk.2) (.bool t1515)) (fun _ hk => hk.2) (.bool t1516)) (fun _ hk => hk.2) (.slice Ao86 t1517.length co86)) (fun _ hk => hk.2) (.slice Ao87 t1520.length co87)) (fun _ hk => hk.2) (.int .i64 t1523)) (fun _ hk => hk.2) (.int .i64 t1524)) (fun _ hk => hk.2) (.int .i64 t1525)) (fun _ h_ => h_.1)) (fun _ h_ => h_.1)))); (case side2 => exact (Kd.R_reads' HO1519.out).2.1); (case side3 => refine (Kd.R_reads' (e := 3) (base := w.heap.size) (ok := fun k_ => ((some k_ ≠ (.slice Ao86 t1517.length co86 : Value).ownBlock ∧ some k_ ≠ (.slice Ao80 x1481002_1.length co80 : Value).ownBlock) ∧ some k_ ≠ (.slice Ao81 x1481003_1.length co81 : Value).ownBlock)) (n := t1520.length) (c := co87) ?_).2.2; exact (by (with_reducible repeat (first | apply Kd.R_alloc | apply Kd.R_drewN | apply Kd.R_drew)); exact (Kd.R_mono (Kd.R_mono (Kd.R_far (p := ⟨gb1480, 6, none⟩) (Kd.R_far (p := ⟨gb1480, 5, none⟩) (Kd.R_far (p := ⟨gb1480, 4, none⟩) (Kd.R_far (p := ⟨gb1480, 3, none⟩) (Kd.R_far (p := ⟨gb1480, 2, none⟩) (Kd.R_far (p := ⟨gb1480, 1, none⟩) (Kd.R_far (p := ⟨gb1480, 0, none⟩) (Kd.R_far (p := ⟨gb1527, 6, none⟩) (Kd.R_far (p := ⟨gb1527, 5, none⟩) (Kd.R_far (p := ⟨gb1527, 4, none⟩) (Kd.R_far (p := ⟨gb1527, 3, none⟩) (Kd.R_far (p := ⟨gb1527, 2, none⟩) (Kd.R_far (p := ⟨gb1527, 1, none⟩) (Kd.R_far (p := ⟨gb1527, 0, none⟩) (Kd.R_types (Kd.R_types HO1522.out BK1527.out (by decide)) BK1480.out (by decide)) (fun _ hk => hk.1.2) (.bool t1515)) (fun _ hk => hk.1.2) (.bool t1516)) (fun _ hk => hk.1.2) (.slice Ao86 t1517.length co86)) (fun _ hk => hk.1.2) (.slice Ao87 t1520.length co87)) (fun _ hk => hk.1.2) (.int .i64 t1523)) (fun _ hk => hk.1.2) (.int .i64 t1524)) (fun _ hk => hk.1.2) (.int .i64 t1525)) (fun _ hk => hk.2) (.bool t1515)) (fun _ hk => hk.2) (.bool t1516)) (fun _ hk => hk.2) (.slice Ao86 t1517.length co86)) (fun _ hk => hk.2) (.slice Ao87 t1520.length co87)) (fun _ hk => hk.2) (.int .i64 t1523)) (fun _ hk => hk.2) (.int .i64 t1524)) (fun _ hk => hk.2) (.int .i64 t1525)) (fun _ h_ => h_.1)) (fun _ h_ => h_.1)))); (case side4 => exact (Kd.R_reads' HO1522.out).2.1); rintro e w89 ⟨rfl, hb⟩; refine ⟨_, rfl, ?_⟩; replace HO_1481002 := am (Kd.Q_below (by (with_reducible repeat (first | apply Kd.Q_alloc | apply Kd.Q_drewN | apply Kd.Q_drew)); exact (Kd.Q_mono (Kd.Q_mono (Kd.Q_far (p := ⟨gb1480, 6, none⟩) (Kd.Q_far (p := ⟨gb1480, 5, none⟩) (Kd.Q_far (p := ⟨gb1480, 4, none⟩) (Kd.Q_far (p := ⟨gb1480, 3, none⟩) (Kd.Q_far (p := ⟨gb1480, 2, none⟩) (Kd.Q_far (p := ⟨gb1480, 1, none⟩) (Kd.Q_far (p := ⟨gb1480, 0, none⟩) (Kd.Q_far (p := ⟨gb1527, 6, none⟩) (Kd.Q_far (p := ⟨gb1527, 5, none⟩) (Kd.Q_far (p := ⟨gb1527, 4, none⟩) (Kd.Q_far (p := ⟨gb1527, 3, none⟩) (Kd.Q_far (p := ⟨gb1527, 2, none⟩) (Kd.Q_far (p := ⟨gb1527, 1, none⟩) (Kd.Q_far (p := ⟨gb1527, 0, none⟩) (Kd.Q_types (Kd.Q_types HO_1481002.out BK1527.out (by decide)) BK1480.out (by decide)) (fun _ hk => hk.1.2) (.bool t1515)) (fun _ hk => hk.1.2) (.bool t1516)) (fun _ hk => hk.1.2) (.slice Ao86 t1517.length co86)) (fun _ hk => hk.1.2) (.slice Ao87 t1520.length co87)) (fun _ hk => hk.1.2) (.int .i64 t1523)) (fun _ hk => hk.1.2) (.int .i64 t1524)) (fun _ hk => hk.1.2) (.int .i64 t1525)) (fun _ hk => hk.2) (.bool t1515)) (fun _ hk => hk.2) (.bool t1516)) (fun _ hk => hk.2) (.slice Ao86 t1517.length co86)) (fun _ hk => hk.2) (.slice Ao87 t1520.length co87)) (fun _ hk => hk.2) (.int .i64 t1523)) (fun _ hk => hk.2) (.int .i64 t1524)) (fun _ hk => hk.2) (.int .i64 t1525)) (fun _ h_ => h_.1)) (fun _ h_ => h_.1))) hb); replace HO_1481003 := am (Kd.R_below (by (with_reducible repeat (first | apply Kd.R_alloc | apply Kd.R_drewN | apply Kd.R_drew)); exact (Kd.R_mono (Kd.R_mono (Kd.R_far (p := ⟨gb1480, 6, none⟩) (Kd.R_far (p := ⟨gb1480, 5, none⟩) (Kd.R_far (p := ⟨gb1480, 4, none⟩) (Kd.R_far (p := ⟨gb1480, 3, none⟩) (Kd.R_far (p := ⟨gb1480, 2, none⟩) (Kd.R_far (p := ⟨gb1480, 1, none⟩) (Kd.R_far (p := ⟨gb1480, 0, none⟩) (Kd.R_far (p := ⟨gb1527, 6, none⟩) (Kd.R_far (p := ⟨gb1527, 5, none⟩) (Kd.R_far (p := ⟨gb1527, 4, none⟩) (Kd.R_far (p := ⟨gb1527, 3, none⟩) (Kd.R_far (p := ⟨gb1527, 2, none⟩) (Kd.R_far (p := ⟨gb1527, 1, none⟩) (Kd.R_far (p := ⟨gb1527, 0, none⟩) (Kd.R_types (Kd.R_types HO_1481003.out BK1527.out (by decide)) BK1480.out (by decide)) (fun _ hk => hk.1.2) (.bool t1515)) (fun _ hk => hk.1.2) (.bool t1516)) (fun _ hk => hk.1.2) (.slice Ao86 t1517.length co86)) (fun _ hk => hk.1.2) (.slice Ao87 t1520.length co87)) (fun _ hk => hk.1.2) (.int .i64 t1523)) (fun _ hk => hk.1.2) (.int .i64 t1524)) (fun _ hk => hk.1.2) (.int .i64 t1525)) (fun _ hk => hk.2) (.bool t1515)) (fun _ hk => hk.2) (.bool t1516)) (fun _ hk => hk.2) (.slice Ao86 t1517.length co86)) (fun _ hk => hk.2) (.slice Ao87 t1520.length co87)) (fun _ hk => hk.2) (.int .i64 t1523)) (fun _ hk => hk.2) (.int .i64 t1524)) (fun _ hk => hk.2) (.int .i64 t1525)) (fun _ h_ => h_.1)) (fun _ h_ => h_.1))) hb); replace HO1519 := am (Kd.R_below (by (with_reducible repeat (first | apply Kd.R_alloc | apply Kd.R_drewN | apply Kd.R_drew)); exact (Kd.R_mono (Kd.R_mono (Kd.R_far (p := ⟨gb1480, 6, none⟩) (Kd.R_far (p := ⟨gb1480, 5, none⟩) (Kd.R_far (p := ⟨gb1480, 4, none⟩) (Kd.R_far (p := ⟨gb1480, 3, none⟩) (Kd.R_far (p := ⟨gb1480, 2, none⟩) (Kd.R_far (p := ⟨gb1480, 1, none⟩) (Kd.R_far (p := ⟨gb1480, 0, none⟩) (Kd.R_far (p := ⟨gb1527, 6, none⟩) (Kd.R_far (p := ⟨gb1527, 5, none⟩) (Kd.R_far (p := ⟨gb1527, 4, none⟩) (Kd.R_far (p := ⟨gb1527, 3, none⟩) (Kd.R_far (p := ⟨gb1527, 2, none⟩) (Kd.R_far (p := ⟨gb1527, 1, none⟩) (Kd.R_far (p := ⟨gb1527, 0, none⟩) (Kd.R_types (Kd.R_types HO1519.out BK1527.out (by decide)) BK1480.out (by decide)) (fun _ hk => hk.1.2) (.bool t1515)) (fun _ hk => hk.1.2) (.bool t1516)) (fun _ hk => hk.1.2) (.slice Ao86 t1517.length co86)) (fun _ hk => hk.1.2) (.slice Ao87 t1520.length co87)) (fun _ hk => hk.1.2) (.int .i64 t1523)) (fun _ hk => hk.1.2) (.int .i64 t1524)) (fun _ hk => hk.1.2) (.int .i64 t1525)) (fun _ hk => hk.2) (.bool t1515)) (fun _ hk => hk.2) (.bool t1516)) (fun _ hk => hk.2) (.slice Ao86 t1517.length co86)) (fun _ hk => hk.2) (.slice Ao87 t1520.length co87)) (fun _ hk => hk.2) (.int .i64 t1523)) (fun _ hk => hk.2) (.int .i64 t1524)) (fun _ hk => hk.2) (.int .i64 t1525)) (fun _ h_ => h_.1)) (fun _ h_ => h_.1))) hb); replace HO1522 := am (Kd.R_below (by (with_reducible repeat (first | apply Kd.R_alloc | apply Kd.R_drewN | apply Kd.R_drew)); exact (Kd.R_mono (Kd.R_mono (Kd.R_far (p := ⟨gb1480, 6, none⟩) (Kd.R_far (p := ⟨gb1480, 5, none⟩) (Kd.R_far (p := ⟨gb1480, 4, none⟩) (Kd.R_far (p := ⟨gb1480, 3, none⟩) (Kd.R_far (p := ⟨gb1480, 2, none⟩) (Kd.R_far (p := ⟨gb1480, 1, none⟩) (Kd.R_far (p := ⟨gb1480, 0, none⟩) (Kd.R_far (p := ⟨gb1527, 6, none⟩) (Kd.R_far (p := ⟨gb1527, 5, none⟩) (Kd.R_far (p := ⟨gb1527, 4, none⟩) (Kd.R_far (p := ⟨gb1527, 3, none⟩) (Kd.R_far (p := ⟨gb1527, 2, none⟩) (Kd.R_far (p := ⟨gb1527, 1, none⟩) (Kd.R_far (p := ⟨gb1527, 0, none⟩) (Kd.R_types (Kd.R_types HO1522.out BK1527.out (by decide)) BK1480.out (by decide)) (fun _ hk => hk.1.2) (.bool t1515)) (fun _ hk => hk.1.2) (.bool t1516)) (fun _ hk => hk.1.2) (.slice Ao86 t1517.length co86)) (fun _ hk => hk.1.2) (.slice Ao87 t1520.length co87)) (fun _ hk => hk.1.2) (.int .i64 t1523)) (fun _ hk => hk.1.2) (.int .i64 t1524)) (fun _ hk => hk.1.2) (.int .i64 t1525)) (fun _ hk => hk.2) (.bool t1515)) (fun _ hk => hk.2) (.bool t1516)) (fun _ hk => hk.2) (.slice Ao86 t1517.length co86)) (fun _ hk => hk.2) (.slice Ao87 t1520.length co87)) (fun _ hk => hk.2) (.int .i64 t1523)) (fun _ hk => hk.2) (.int .i64 t1524)) (fun _ hk => hk.2) (.int .i64 t1525)) (fun _ h_ => h_.1)) (fun _ h_ => h_.1))) hb); replace BK1480 := am (blk_below (g := gb1480) (o := .cells #[.bool t1515, .bool t1516, .slice Ao86 t1517.length co86, .slice Ao87 t1520.length co87, .int .i64 t1523, .int .i64 t1524, .int .i64 t1525] 27 (0, 0)) (by (with_reducible repeat (first | refine blk_drewN ?_ _ | refine blk_drew ?_ | refine blk_alloc ?_ _)); refine blk_put (cs := #[.bool t1515, .bool t1516, .slice Ao86 t1517.length co86, .slice Ao87 t1520.length co87, .int .i64 t1523, .int .i64 t1524, .int .i64 x1481006_1]) ?_ 6 _ rfl; (with_reducible repeat (first | refine blk_drewN ?_ _ | refine blk_drew ?_ | refine blk_alloc ?_ _)); refine blk_put (cs := #[.bool t1515, .bool t1516, .slice Ao86 t1517.length co86, .slice Ao87 t1520.length co87, .int .i64 t1523, .int .i64 x1481005_1, .int .i64 x1481006_1]) ?_ 5 _ rfl; (with_reducible repeat (first | refine blk_drewN ?_ _ | refine blk_drew ?_ | refine blk_alloc ?_ _)); refine blk_put (cs := #[.bool t1515, .bool t1516, .slice Ao86 t1517.length co86, .slice Ao87 t1520.length co87, .int .i64 x1481004_1, .int .i64 x1481005_1, .int .i64 x1481006_1]) ?_ 4 _ rfl; (with_reducible repeat (first | refine blk_drewN ?_ _ | refine blk_drew ?_ | refine blk_alloc ?_ _)); refine blk_put (cs := #[.bool t1515, .bool t1516, .slice Ao86 t1517.length co86, .slice Ao81 x1481003_1.length co81, .int .i64 x1481004_1, .int .i64 x1481005_1, .int .i64 x1481006_1]) ?_ 3 _ rfl; (with_reducible repeat (first | refine blk_drewN ?_ _ | refine blk_drew ?_ | refine blk_alloc ?_ _)); refine blk_put (cs := #[.bool t1515, .bool t1516, .slice Ao80 x1481002_1.length co80, .slice Ao81 x1481003_1.length co81, .int .i64 x1481004_1, .int .i64 x1481005_1, .int .i64 x1481006_1]) ?_ 2 _ rfl; (with_reducible repeat (first | refine blk_drewN ?_ _ | refine blk_drew ?_ | refine blk_alloc ?_ _)); refine blk_put (cs := #[.bool t1515, .bool x1481001_1, .slice Ao80 x1481002_1.length co80, .slice Ao81 x1481003_1.length co81, .int .i64 x1481004_1, .int .i64 x1481005_1, .int .i64 x1481006_1]) ?_ 1 _ rfl; (with_reducible repeat (first | refine blk_drewN ?_ _ | refine blk_drew ?_ | refine blk_alloc ?_ _)); refine blk_put (cs := #[.bool x1481000_1, .bool x1481001_1, .slice Ao80 x1481002_1.length co80, .slice Ao81 x1481003_1.length co81, .int .i64 x1481004_1, .int .i64 x1481005_1, .int .i64 x1481006_1]) ?_ 0 _ rfl; (with_reducible repeat (first | refine blk_drewN ?_ _ | refine blk_drew ?_ | refine blk_alloc ?_ _)); refine blk_far ?_ NB1480_1527.out _; (with_reducible repeat (first | refine blk_drewN ?_ _ | refine blk_drew ?_ | refine blk_alloc ?_ _)); refine blk_far ?_ NB1480_1527.out _; (with_reducible repeat (first | refine blk_drewN ?_ _ | refine blk_drew ?_ | refine blk_alloc ?_ _)); refine blk_far ?_ NB1480_1527.out _; (with_reducible repeat (first | refine blk_drewN ?_ _ | refine blk_drew ?_ | refine blk_alloc ?_ _)); refine blk_far ?_ NB1480_1527.out _; (with_reducible repeat (first | refine blk_drewN ?_ _ | refine blk_drew ?_ | refine blk_alloc ?_ _)); refine blk_far ?_ NB1480_1527.out _; (with_reducible repeat (first | refine blk_drewN ?_ _ | refine blk_drew ?_ | refine blk_alloc ?_ _)); refine blk_far ?_ NB1480_1527.out _; (with_reducible repeat (first | refine blk_drewN ?_ _ | refine blk_drew ?_ | refine blk_alloc ?_ _)); refine blk_far ?_ NB1480_1527.out _; exact pkK BK1480.out) hb); replace BK1527 := am (blk_below (g := gb1527) (o := .cells #[.bool t1515, .bool t1516, .slice Ao86 t1517.length co86, .slice Ao87 t1520.length co87, .int .i64 t1523, .int .i64 t1524, .int .i64 t1525] 27 (0, 0)) (by (with_reducible repeat (first | refine blk_drewN ?_ _ | refine blk_drew ?_ | refine blk_alloc ?_ _)); refine blk_far ?_ NB1527_1480.out _; (with_reducible repeat (first | refine blk_drewN ?_ _ | refine blk_drew ?_ | refine blk_alloc ?_ _)); refine blk_far ?_ NB1527_1480.out _; (with_reducible repeat (first | refine blk_drewN ?_ _ | refine blk_drew ?_ | refine blk_alloc ?_ _)); refine blk_far ?_ NB1527_1480.out _; (with_reducible repeat (first | refine blk_drewN ?_ _ | refine blk_drew ?_ | refine blk_alloc ?_ _)); refine blk_far ?_ NB1527_1480.out _; (with_reducible repeat (first | refine blk_drewN ?_ _ | refine blk_drew ?_ | refine blk_alloc ?_ _)); refine blk_far ?_ NB1527_1480.out _; (with_reducible repeat (first | refine blk_drewN ?_ _ | refine blk_drew ?_ | refine blk_alloc ?_ _)); refine blk_far ?_ NB1527_1480.out _; (with_reducible repeat (first | refine blk_drewN ?_ _ | refine blk_drew ?_ | refine blk_alloc ?_ _)); refine blk_far ?_ NB1527_1480.out _; (with_reducible repeat (first | refine blk_drewN ?_ _ | refine blk_drew ?_ | refine blk_alloc ?_ _)); refine blk_put (cs := #[.bool t1515, .bool t1516, .slice Ao86 t1517.length co86, .slice Ao87 t1520.length co87, .int .i64 t1523, .int .i64 t1524, .int .i64 0]) ?_ 6 _ rfl; (with_reducible repeat (first | refine blk_drewN ?_ _ | refine blk_drew ?_ | refine blk_alloc ?_ _)); refine blk_put (cs := #[.bool t1515, .bool t1516, .slice Ao86 t1517.length co86, .slice Ao87 t1520.length co87, .int .i64 t1523, .int .i64 0, .int .i64 0]) ?_ 5 _ rfl; (with_reducible repeat (first | refine blk_drewN ?_ _ | refine blk_drew ?_ | refine blk_alloc ?_ _)); refine blk_put (cs := #[.bool t1515, .bool t1516, .slice Ao86 t1517.length co86, .slice Ao87 t1520.length co87, .int .i64 0, .int .i64 0, .int .i64 0]) ?_ 4 _ rfl; (with_reducible repeat (first | refine blk_drewN ?_ _ | refine blk_drew ?_ | refine blk_alloc ?_ _)); refine blk_put (cs := #[.bool t1515, .bool t1516, .slice Ao86 t1517.length co86, .slice none 0 0, .int .i64 0, .int .i64 0, .int .i64 0]) ?_ 3 _ rfl; (with_reducible repeat (first | refine blk_drewN ?_ _ | refine blk_drew ?_ | refine blk_alloc ?_ _)); refine blk_put (cs := #[.bool t1515, .bool t1516, .slice none 0 0, .slice none 0 0, .int .i64 0, .int .i64 0, .int .i64 0]) ?_ 2 _ rfl; (with_reducible repeat (first | refine blk_drewN ?_ _ | refine blk_drew ?_ | refine blk_alloc ?_ _)); refine blk_put (cs := #[.bool t1515, .bool false, .slice none 0 0, .slice none 0 0, .int .i64 0, .int .i64 0, .int .i64 0]) ?_ 1 _ rfl; (with_reducible repeat (first | refine blk_drewN ?_ _ | refine blk_drew ?_ | refine blk_alloc ?_ _)); refine blk_put (cs := #[.bool false, .bool false, .slice none 0 0, .slice none 0 0, .int .i64 0, .int .i64 0, .int .i64 0]) ?_ 0 _ rfl; exact pkK BK1527.out) hb); replace HB := bst HB hb; (try clear hb)))
          go_roundg k1
          case measure => have := HK1.out; omega
          case rel => exact ⟨(x4_1), (x5_1), (wrap64 (x6_1 + 1)), (t1515), (t1516), (t1517), (t1520), (t1523), (t1524), (t1525), (.slice Ao86 t1517.length co86), (.slice Ao87 t1520.length co87), rfx, rfx, rfx, H', ⟨by have := HK1.out; omega⟩, ⟨Kd.Q_of_R (by (with_reducible repeat (first | apply Kd.R_alloc | apply Kd.R_drewN | apply Kd.R_drew)); exact Kd.R_mono HO1519.out (fun _ hk => hk.1.1))⟩, ⟨by (with_reducible repeat (first | apply Kd.R_alloc | apply Kd.R_drewN | apply Kd.R_drew)); exact Kd.R_mono HO1522.out (fun _ hk => hk.1.1)⟩, ⟨pkK BK1480.out⟩, ⟨pkW HB.out⟩⟩
         ·replace c78 := Bool.eq_false_iff.mpr c78
          subst c78
          replace H : (some false) = some r := by rw [if_neg (show ¬ (false = true) by decide)] at H; exact H
          exact absurd (Option.some.inj H) (by rw [HQ_.out]; simp)
       ·rw [if_neg c61] at H
        have c61b0 : ((Int.tmod t1482 5) == 2) = false := beq_eq_false_iff_ne.mpr c61
        have c61b1 : ((Int.tmod t1482 5) != 2) = true := bne_iff_ne.mpr c61
        by_cases c90 : (Int.tmod t1482 5) = 3
        ·rw [if_pos c90] at H
         have c90b0 : ((Int.tmod t1482 5) == 3) = true := beq_iff_eq.mpr c90
         have c90b1 : ((Int.tmod t1482 5) != 3) = false := bne_eq_false_iff_eq.mpr c90
         clear c90
         replace H := Option.bind_eq_some_iff.mp H
         obtain ⟨⟨t1530, t1531, t1532, t1535, t1538, t1539, t1540, t1541, t1544⟩, A910, H⟩ := H
         replace H : ((spec_StepBack.f k1 x1481000_1 x1481001_1 x1481002_1 x1481003_1 x1481004_1 x1481005_1 x1481006_1 (Int.tmod t1481 6)).bind fun bt1546 => (if t1544 = bt1546.2.2.2.2.2.2.2.2 then ((spec_EventOk.f k1 t1530 t1531 t1532 t1535 t1538 t1539 t1540).bind fun t1562 => (if t1562 = true then (laws_FnAuto.l0 k1 l0 x4_1 x5_1 (wrap64 (x6_1 + 1)) t1530 t1531 t1532 t1535 t1538 t1539 t1540) else (some false))) else (some false))) = some r := H
         have A91 := am A910
         clear A910
         replace H := Option.bind_eq_some_iff.mp H
         obtain ⟨⟨t1546, t1547, t1548, t1551, t1554, t1555, t1556, t1557, t1560⟩, A920, H⟩ := H
         replace H : (if t1544 = t1560 then ((spec_EventOk.f k1 t1530 t1531 t1532 t1535 t1538 t1539 t1540).bind fun t1562 => (if t1562 = true then (laws_FnAuto.l0 k1 l0 x4_1 x5_1 (wrap64 (x6_1 + 1)) t1530 t1531 t1532 t1535 t1538 t1539 t1540) else (some false))) else (some false)) = some r := H
         have A92 := am A920
         clear A920
         by_cases c93 : t1544 = t1560
         ·rw [if_pos c93] at H
          have c93b0 : (t1544 == t1560) = true := beq_iff_eq.mpr c93
          have c93b1 : (t1544 != t1560) = false := bne_eq_false_iff_eq.mpr c93
          clear c93
          replace H := Option.bind_eq_some_iff.mp H
          obtain ⟨t1562, A940, H⟩ := H
          replace H : (if t1562 = true then (laws_FnAuto.l0 k1 l0 x4_1 x5_1 (wrap64 (x6_1 + 1)) t1530 t1531 t1532 t1535 t1538 t1539 t1540) else (some false)) = some r := H
          have A94 := am A940
          clear A940
          by_cases c95 : t1562 = true
          ·subst c95
           replace H : (laws_FnAuto.l0 k1 l0 x4_1 x5_1 (wrap64 (x6_1 + 1)) t1530 t1531 t1532 t1535 t1538 t1539 t1540) = some r := by rw [if_pos rfl] at H; exact H
           have H' := am H
           clear H
           go_wp2_with (first | ((with_reducible refine gate_callee (f := 46) rfl ?_); refine goesL_ (some 37) rfl rfl Try.func46 (by kernel_rfl) rfl #[.slice A0 l0.length c0, .int .i64 (wrap64 (x6_1 + 50))] rfl mpx ?_; (with_reducible refine (laws_at.calls _ _ l0 (wrap64 (x6_1 + 50)) t1481 _ ?side1 ?side2 A8.out).mono ?_); (case side1 => exact pkC (Kd.C_below HR0.out HB.out)); (case side2 => exact HC0.out); rintro e w' ⟨rfl, nd, rfl⟩; refine ⟨_, rfl, ?_⟩; (try (rw [drewN_self wr]; generalize hq_ : World.drewN wr _ = wr; replace HO_1481002 : Aside0 (Kd.Q (Kd.int .i64) 3 wr w.heap.size (fun k_ => some k_ ≠ (u1481003 : Value).ownBlock) u1481002 x1481002_1) := ⟨by rw [← hq_]; exact (pkQ HO_1481002.out)⟩; replace HO_1481003 : Aside0 (Kd.R (Kd.int .i64) 3 wr w.heap.size (fun k_ => some k_ ≠ (u1481002 : Value).ownBlock) u1481003 x1481003_1) := ⟨by rw [← hq_]; exact (pkR HO_1481003.out)⟩; replace BK1480 : Aside0 (wr.heap[gb1480]? = some (.cells #[.bool x1481000_1, .bool x1481001_1, u1481002, u1481003, .int .i64 x1481004_1, .int .i64 x1481005_1, .int .i64 x1481006_1] 27 (0, 0))) := ⟨by rw [← hq_]; exact (pkK BK1480.out)⟩; replace HB : Aside0 (Below w.heap.size w wr) := ⟨by rw [← hq_]; exact (pkW HB.out)⟩; clear hq_))) | ((with_reducible refine gate_callee (f := 46) rfl ?_); refine goesL_ (some 42) rfl rfl Try.func46 (by kernel_rfl) rfl #[.slice A0 l0.length c0, .int .i64 (wrap64 (x6_1 + 1))] rfl mpx ?_; (with_reducible refine (laws_at.calls _ _ l0 (wrap64 (x6_1 + 1)) t1482 _ ?side1 ?side2 A9.out).mono ?_); (case side1 => exact pkC (Kd.C_below HR0.out HB.out)); (case side2 => exact HC0.out); rintro e w' ⟨rfl, nd, rfl⟩; refine ⟨_, rfl, ?_⟩; (try (rw [drewN_self wr]; generalize hq_ : World.drewN wr _ = wr; replace HO_1481002 : Aside0 (Kd.Q (Kd.int .i64) 3 wr w.heap.size (fun k_ => some k_ ≠ (u1481003 : Value).ownBlock) u1481002 x1481002_1) := ⟨by rw [← hq_]; exact (pkQ HO_1481002.out)⟩; replace HO_1481003 : Aside0 (Kd.R (Kd.int .i64) 3 wr w.heap.size (fun k_ => some k_ ≠ (u1481002 : Value).ownBlock) u1481003 x1481003_1) := ⟨by rw [← hq_]; exact (pkR HO_1481003.out)⟩; replace BK1480 : Aside0 (wr.heap[gb1480]? = some (.cells #[.bool x1481000_1, .bool x1481001_1, u1481002, u1481003, .int .i64 x1481004_1, .int .i64 x1481005_1, .int .i64 x1481006_1] 27 (0, 0))) := ⟨by rw [← hq_]; exact (pkK BK1480.out)⟩; replace HB : Aside0 (Below w.heap.size w wr) := ⟨by rw [← hq_]; exact (pkW HB.out)⟩; clear hq_)); obtain ⟨hcz96_0, hcz96_1, hcz96_2, hcz96_3, hcz96_4, hcz96_5, hcz96_6, hfz96_0, hfz96_1, hfz96_2, hfz96_3, hfz96_4, hfz96_5, hfz96_6⟩ := bk7 BK1480.out; obtain ⟨Ao97, co97, eo97, _⟩ := Kd.Q_slice HO_1481002.out; subst eo97; obtain ⟨Ao98, co98, eo98⟩ := Kd.R_slice HO_1481003.out; subst eo98) | ((with_reducible refine gate_callee (f := 42) rfl ?_); refine goesL_ (some 130) rfl rfl Try.func42 (by kernel_rfl) rfl #[.agg #[.bool x1481000_1, .bool x1481001_1, .slice Ao97 x1481002_1.length co97, .slice Ao98 x1481003_1.length co98, .int .i64 x1481004_1, .int .i64 x1481005_1, .int .i64 x1481006_1], .int .i64 (Int.tmod t1481 6)] rfl mpx ?_; (with_reducible refine (impl_StepBack.calls k1 x1481000_1 x1481001_1 _ _ x1481002_1 _ _ x1481003_1 x1481004_1 x1481005_1 x1481006_1 (Int.tmod t1481 6) t1530 t1531 t1532 t1535 t1538 t1539 t1540 t1541 t1544 _ ?side1 ?side2 ?side3 ?side4 A91.out).mono ?_); (case side1 => repeat (first | exact (Kd.Q_reads' HO_1481002.out).2.2 | (with_reducible refine Kd.C_alloc ?_ _) | (with_reducible refine Kd.C_drewN ?_ _) | (with_reducible refine Kd.C_drew ?_))); (case side2 => exact (Kd.Q_reads' HO_1481002.out).2.1); (case side3 => exact pkC (Kd.R_reads' HO_1481003.out).2.2); (case side4 => exact (Kd.R_reads' HO_1481003.out).2.1); rintro e w99 ⟨v1533, v1536, v1542, rfl, ho0, ho1, ho2, hb⟩; refine ⟨_, rfl, ?_⟩; have HO1534 := am (Kd.Q_lower (Kd.Q_new' (Kd.Q_new' ho0 (Kd.Q_lt (pkQ HO_1481002.out))) (Kd.R_lt (pkR HO_1481003.out))) (below_size (pkW HB.out))); have HO1537 := am (Kd.R_lower (Kd.R_new' (Kd.R_new' ho1 (Kd.Q_lt (pkQ HO_1481002.out))) (Kd.R_lt (pkR HO_1481003.out))) (below_size (pkW HB.out))); have HO1543 := am (Kd.R_lower (Kd.R_new' (Kd.R_new' ho2 (Kd.Q_lt (pkQ HO_1481002.out))) (Kd.R_lt (pkR HO_1481003.out))) (below_size (pkW HB.out))); replace HO_1481002 := am (Kd.Q_mono (Kd.Q_told (Kd.Q_told (Kd.Q_told (Kd.Q_old (pkQ HO_1481002.out) hb) (Kd.Q_base ho0)) (Kd.R_base ho1)) (Kd.R_base ho2)) (fun _ h_ => h_.1)); replace HO_1481003 := am (Kd.R_mono (Kd.R_told (Kd.R_told (Kd.R_told (Kd.R_old (pkR HO_1481003.out) hb) (Kd.Q_base ho0)) (Kd.R_base ho1)) (Kd.R_base ho2)) (fun _ h_ => h_.1)); replace BK1480 := bbk BK1480 hb; replace HB := bst HB hb; (try clear hb ho0 ho1 ho2)) | ((with_reducible refine gate_dst (N := 15) rfl ?_); (try (refine gate_guard (by rfl) ?_; dsimp only)); refine box_event ?hg (N := 15) ?hd (cs := #[.bool false, .bool false, .slice none 0 0, .slice none 0 0, .int .i64 0, .int .i64 0, .int .i64 0]) (t := 27) ?hr ?_; (case hd => rfl); (case hg => rfl); (case hr => first | (go_simp; done) | (go_simp; rfl)); intro gb1545 hg w100 hbox hb; replace HO_1481002 := am (Kd.Q_below (pkQ HO_1481002.out) hb); replace HO_1481003 := rbl HO_1481003 hb; replace HO1534 := am (Kd.Q_below (pkQ HO1534.out) hb); replace HO1537 := rbl HO1537 hb; replace HO1543 := rbl HO1543 hb; have BK1545 := am (hbox); have GW1545 := am ((by rw [hg]; exact (below_size (pkW HB.out)) : w.heap.size ≤ gb1545)); have GE1545 := am ((by rw [hg]; exact (below_size (pkW HB.out)) : w.heap.size ≤ gb1545)); replace HB := bst HB hb; have NB1480_1545 := am ((by rw [hg]; exact Nat.ne_of_lt (blk_lt (g := gb1480) (o := .cells #[.bool x1481000_1, .bool x1481001_1, .slice Ao97 x1481002_1.length co97, .slice Ao98 x1481003_1.length co98, .int .i64 x1481004_1, .int .i64 x1481005_1, .int .i64 x1481006_1] 27 (0, 0)) (pkK BK1480.out)) : gb1480 ≠ gb1545)); have NB1545_1480 := am ((by rw [hg]; exact Nat.ne_of_gt (blk_lt (g := gb1480) (o := .cells #[.bool x1481000_1, .bool x1481001_1, .slice Ao97 x1481002_1.length co97, .slice Ao98 x1481003_1.length co98, .int .i64 x1481004_1, .int .i64 x1481005_1, .int .i64 x1481006_1] 27 (0, 0)) (pkK BK1480.out)) : gb1545 ≠ gb1480)); replace BK1480 := bbk BK1480 hb; clear hb hbox hg; have hnb101 := NB1545_1480.out; have hnc101 := NB1480_1545.out; obtain ⟨hcz102_0, hcz102_1, hcz102_2, hcz102_3, hcz102_4, hcz102_5, hcz102_6, hfz102_0, hfz102_1, hfz102_2, hfz102_3, hfz102_4, hfz102_5, hfz102_6⟩ := bk7 BK1545.out; obtain ⟨Ao103, co103, eo103, _⟩ := Kd.Q_slice HO1534.out; subst eo103; obtain ⟨Ao104, co104, eo104⟩ := Kd.R_slice HO1537.out; subst eo104; obtain ⟨hcz105_0, hcz105_1, hcz105_2, hcz105_3, hcz105_4, hcz105_5, hcz105_6, hfz105_0, hfz105_1, hfz105_2, hfz105_3, hfz105_4, hfz105_5, hfz105_6⟩ := bk7 BK1480.out) | ((with_reducible refine gate_callee (f := 41) rfl ?_); refine goesL_ (some 137) rfl rfl Try.func41 (by kernel_rfl) rfl #[.agg #[.bool x1481000_1, .bool x1481001_1, .slice Ao97 x1481002_1.length co97, .slice Ao98 x1481003_1.length co98, .int .i64 x1481004_1, .int .i64 x1481005_1, .int .i64 x1481006_1], .int .i64 (Int.tmod t1481 6)] rfl mpx ?_; (with_reducible refine (spec_StepBack.calls k1 x1481000_1 x1481001_1 _ _ x1481002_1 _ _ x1481003_1 x1481004_1 x1481005_1 x1481006_1 (Int.tmod t1481 6) t1546 t1547 t1548 t1551 t1554 t1555 t1556 t1557 t1560 _ ?side1 ?side2 ?side3 ?side4 A92.out).mono ?_); (case side1 => refine (Kd.Q_reads' (e := 3) (base := w.heap.size) (ok := fun k_ => (((some k_ ≠ (.slice Ao98 x1481003_1.length co98 : Value).ownBlock ∧ some k_ ≠ (.slice Ao103 t1532.length co103 : Value).ownBlock) ∧ some k_ ≠ (.slice Ao104 t1535.length co104 : Value).ownBlock) ∧ some k_ ≠ (v1542 : Value).ownBlock)) (n := x1481002_1.length) (c := co97) ?_).2.2; exact (by (with_reducible repeat (first | apply Kd.Q_alloc | apply Kd.Q_drewN | apply Kd.Q_drew)); exact (Kd.Q_mono (Kd.Q_far (p := ⟨gb1545, 6, none⟩) (Kd.Q_far (p := ⟨gb1545, 5, none⟩) (Kd.Q_far (p := ⟨gb1545, 4, none⟩) (Kd.Q_far (p := ⟨gb1545, 3, none⟩) (Kd.Q_far (p := ⟨gb1545, 2, none⟩) (Kd.Q_far (p := ⟨gb1545, 1, none⟩) (Kd.Q_far (p := ⟨gb1545, 0, none⟩) (Kd.Q_types HO_1481002.out BK1545.out (by decide)) (fun _ hk => hk.2) (.bool t1530)) (fun _ hk => hk.2) (.bool t1531)) (fun _ hk => hk.2) (.slice Ao103 t1532.length co103)) (fun _ hk => hk.2) (.slice Ao104 t1535.length co104)) (fun _ hk => hk.2) (.int .i64 t1538)) (fun _ hk => hk.2) (.int .i64 t1539)) (fun _ hk => hk.2) (.int .i64 t1540)) (fun _ h_ => h_.1)))); (case side2 => exact (Kd.Q_reads' HO_1481002.out).2.1); (case side3 => refine (Kd.R_reads' (e := 3) (base := w.heap.size) (ok := fun k_ => (((some k_ ≠ (.slice Ao97 x1481002_1.length co97 : Value).ownBlock ∧ some k_ ≠ (.slice Ao103 t1532.length co103 : Value).ownBlock) ∧ some k_ ≠ (.slice Ao104 t1535.length co104 : Value).ownBlock) ∧ some k_ ≠ (v1542 : Value).ownBlock)) (n := x1481003_1.length) (c := co98) ?_).2.2; exact (by (with_reducible repeat (first | apply Kd.R_alloc | apply Kd.R_drewN | apply Kd.R_drew)); exact (Kd.R_mono (Kd.R_far (p := ⟨gb1545, 6, none⟩) (Kd.R_far (p := ⟨gb1545, 5, none⟩) (Kd.R_far (p := ⟨gb1545, 4, none⟩) (Kd.R_far (p := ⟨gb1545, 3, none⟩) (Kd.R_far (p := ⟨gb1545, 2, none⟩) (Kd.R_far (p := ⟨gb1545, 1, none⟩) (Kd.R_far (p := ⟨gb1545, 0, none⟩) (Kd.R_types HO_1481003.out BK1545.out (by decide)) (fun _ hk => hk.2) (.bool t1530)) (fun _ hk => hk.2) (.bool t1531)) (fun _ hk => hk.2) (.slice Ao103 t1532.length co103)) (fun _ hk => hk.2) (.slice Ao104 t1535.length co104)) (fun _ hk => hk.2) (.int .i64 t1538)) (fun _ hk => hk.2) (.int .i64 t1539)) (fun _ hk => hk.2) (.int .i64 t1540)) (fun _ h_ => h_.1)))); (case side4 => exact (Kd.R_reads' HO_1481003.out).2.1); rintro e w106 ⟨v1549, v1552, v1558, rfl, ho0, ho1, ho2, hb⟩; refine ⟨_, rfl, ?_⟩; have HO1550 := am (Kd.R_lower (Kd.R_new' (Kd.R_new' (Kd.R_new' (Kd.R_new' (Kd.R_new' ho0 (Kd.Q_lt (by (with_reducible repeat (first | apply Kd.Q_alloc | apply Kd.Q_drewN | apply Kd.Q_drew)); exact (Kd.Q_mono (Kd.Q_far (p := ⟨gb1545, 6, none⟩) (Kd.Q_far (p := ⟨gb1545, 5, none⟩) (Kd.Q_far (p := ⟨gb1545, 4, none⟩) (Kd.Q_far (p := ⟨gb1545, 3, none⟩) (Kd.Q_far (p := ⟨gb1545, 2, none⟩) (Kd.Q_far (p := ⟨gb1545, 1, none⟩) (Kd.Q_far (p := ⟨gb1545, 0, none⟩) (Kd.Q_types HO_1481002.out BK1545.out (by decide)) (fun _ hk => hk.2) (.bool t1530)) (fun _ hk => hk.2) (.bool t1531)) (fun _ hk => hk.2) (.slice Ao103 t1532.length co103)) (fun _ hk => hk.2) (.slice Ao104 t1535.length co104)) (fun _ hk => hk.2) (.int .i64 t1538)) (fun _ hk => hk.2) (.int .i64 t1539)) (fun _ hk => hk.2) (.int .i64 t1540)) (fun _ h_ => h_.1))))) (Kd.R_lt (by (with_reducible repeat (first | apply Kd.R_alloc | apply Kd.R_drewN | apply Kd.R_drew)); exact (Kd.R_mono (Kd.R_far (p := ⟨gb1545, 6, none⟩) (Kd.R_far (p := ⟨gb1545, 5, none⟩) (Kd.R_far (p := ⟨gb1545, 4, none⟩) (Kd.R_far (p := ⟨gb1545, 3, none⟩) (Kd.R_far (p := ⟨gb1545, 2, none⟩) (Kd.R_far (p := ⟨gb1545, 1, none⟩) (Kd.R_far (p := ⟨gb1545, 0, none⟩) (Kd.R_types HO_1481003.out BK1545.out (by decide)) (fun _ hk => hk.2) (.bool t1530)) (fun _ hk => hk.2) (.bool t1531)) (fun _ hk => hk.2) (.slice Ao103 t1532.length co103)) (fun _ hk => hk.2) (.slice Ao104 t1535.length co104)) (fun _ hk => hk.2) (.int .i64 t1538)) (fun _ hk => hk.2) (.int .i64 t1539)) (fun _ hk => hk.2) (.int .i64 t1540)) (fun _ h_ => h_.1))))) (Kd.Q_lt (by (with_reducible repeat (first | apply Kd.Q_alloc | apply Kd.Q_drewN | apply Kd.Q_drew)); exact (Kd.Q_mono (Kd.Q_far (p := ⟨gb1545, 6, none⟩) (Kd.Q_far (p := ⟨gb1545, 5, none⟩) (Kd.Q_far (p := ⟨gb1545, 4, none⟩) (Kd.Q_far (p := ⟨gb1545, 3, none⟩) (Kd.Q_far (p := ⟨gb1545, 2, none⟩) (Kd.Q_far (p := ⟨gb1545, 1, none⟩) (Kd.Q_far (p := ⟨gb1545, 0, none⟩) (Kd.Q_types HO1534.out BK1545.out (by decide)) (fun _ hk => hk.2) (.bool t1530)) (fun _ hk => hk.2) (.bool t1531)) (fun _ hk => hk.2) (.slice Ao103 t1532.length co103)) (fun _ hk => hk.2) (.slice Ao104 t1535.length co104)) (fun _ hk => hk.2) (.int .i64 t1538)) (fun _ hk => hk.2) (.int .i64 t1539)) (fun _ hk => hk.2) (.int .i64 t1540)) (fun _ h_ => h_.1))))) (Kd.R_lt (by (with_reducible repeat (first | apply Kd.R_alloc | apply Kd.R_drewN | apply Kd.R_drew)); exact (Kd.R_mono (Kd.R_far (p := ⟨gb1545, 6, none⟩) (Kd.R_far (p := ⟨gb1545, 5, none⟩) (Kd.R_far (p := ⟨gb1545, 4, none⟩) (Kd.R_far (p := ⟨gb1545, 3, none⟩) (Kd.R_far (p := ⟨gb1545, 2, none⟩) (Kd.R_far (p := ⟨gb1545, 1, none⟩) (Kd.R_far (p := ⟨gb1545, 0, none⟩) (Kd.R_types HO1537.out BK1545.out (by decide)) (fun _ hk => hk.2) (.bool t1530)) (fun _ hk => hk.2) (.bool t1531)) (fun _ hk => hk.2) (.slice Ao103 t1532.length co103)) (fun _ hk => hk.2) (.slice Ao104 t1535.length co104)) (fun _ hk => hk.2) (.int .i64 t1538)) (fun _ hk => hk.2) (.int .i64 t1539)) (fun _ hk => hk.2) (.int .i64 t1540)) (fun _ h_ => h_.1))))) (Kd.R_lt (by (with_reducible repeat (first | apply Kd.R_alloc | apply Kd.R_drewN | apply Kd.R_drew)); exact (Kd.R_mono (Kd.R_far (p := ⟨gb1545, 6, none⟩) (Kd.R_far (p := ⟨gb1545, 5, none⟩) (Kd.R_far (p := ⟨gb1545, 4, none⟩) (Kd.R_far (p := ⟨gb1545, 3, none⟩) (Kd.R_far (p := ⟨gb1545, 2, none⟩) (Kd.R_far (p := ⟨gb1545, 1, none⟩) (Kd.R_far (p := ⟨gb1545, 0, none⟩) (Kd.R_types HO1543.out BK1545.out (by decide)) (fun _ hk => hk.2) (.bool t1530)) (fun _ hk => hk.2) (.bool t1531)) (fun _ hk => hk.2) (.slice Ao103 t1532.length co103)) (fun _ hk => hk.2) (.slice Ao104 t1535.length co104)) (fun _ hk => hk.2) (.int .i64 t1538)) (fun _ hk => hk.2) (.int .i64 t1539)) (fun _ hk => hk.2) (.int .i64 t1540)) (fun _ h_ => h_.1))))) (below_size (pkW HB.out))); have HO1553 := am (Kd.R_lower (Kd.R_new' (Kd.R_new' (Kd.R_new' (Kd.R_new' (Kd.R_new' ho1 (Kd.Q_lt (by (with_reducible repeat (first | apply Kd.Q_alloc | apply Kd.Q_drewN | apply Kd.Q_drew)); exact (Kd.Q_mono (Kd.Q_far (p := ⟨gb1545, 6, none⟩) (Kd.Q_far (p := ⟨gb1545, 5, none⟩) (Kd.Q_far (p := ⟨gb1545, 4, none⟩) (Kd.Q_far (p := ⟨gb1545, 3, none⟩) (Kd.Q_far (p := ⟨gb1545, 2, none⟩) (Kd.Q_far (p := ⟨gb1545, 1, none⟩) (Kd.Q_far (p := ⟨gb1545, 0, none⟩) (Kd.Q_types HO_1481002.out BK1545.out (by decide)) (fun _ hk => hk.2) (.bool t1530)) (fun _ hk => hk.2) (.bool t1531)) (fun _ hk => hk.2) (.slice Ao103 t1532.length co103)) (fun _ hk => hk.2) (.slice Ao104 t1535.length co104)) (fun _ hk => hk.2) (.int .i64 t1538)) (fun _ hk => hk.2) (.int .i64 t1539)) (fun _ hk => hk.2) (.int .i64 t1540)) (fun _ h_ => h_.1))))) (Kd.R_lt (by (with_reducible repeat (first | apply Kd.R_alloc | apply Kd.R_drewN | apply Kd.R_drew)); exact (Kd.R_mono (Kd.R_far (p := ⟨gb1545, 6, none⟩) (Kd.R_far (p := ⟨gb1545, 5, none⟩) (Kd.R_far (p := ⟨gb1545, 4, none⟩) (Kd.R_far (p := ⟨gb1545, 3, none⟩) (Kd.R_far (p := ⟨gb1545, 2, none⟩) (Kd.R_far (p := ⟨gb1545, 1, none⟩) (Kd.R_far (p := ⟨gb1545, 0, none⟩) (Kd.R_types HO_1481003.out BK1545.out (by decide)) (fun _ hk => hk.2) (.bool t1530)) (fun _ hk => hk.2) (.bool t1531)) (fun _ hk => hk.2) (.slice Ao103 t1532.length co103)) (fun _ hk => hk.2) (.slice Ao104 t1535.length co104)) (fun _ hk => hk.2) (.int .i64 t1538)) (fun _ hk => hk.2) (.int .i64 t1539)) (fun _ hk => hk.2) (.int .i64 t1540)) (fun _ h_ => h_.1))))) (Kd.Q_lt (by (with_reducible repeat (first | apply Kd.Q_alloc | apply Kd.Q_drewN | apply Kd.Q_drew)); exact (Kd.Q_mono (Kd.Q_far (p := ⟨gb1545, 6, none⟩) (Kd.Q_far (p := ⟨gb1545, 5, none⟩) (Kd.Q_far (p := ⟨gb1545, 4, none⟩) (Kd.Q_far (p := ⟨gb1545, 3, none⟩) (Kd.Q_far (p := ⟨gb1545, 2, none⟩) (Kd.Q_far (p := ⟨gb1545, 1, none⟩) (Kd.Q_far (p := ⟨gb1545, 0, none⟩) (Kd.Q_types HO1534.out BK1545.out (by decide)) (fun _ hk => hk.2) (.bool t1530)) (fun _ hk => hk.2) (.bool t1531)) (fun _ hk => hk.2) (.slice Ao103 t1532.length co103)) (fun _ hk => hk.2) (.slice Ao104 t1535.length co104)) (fun _ hk => hk.2) (.int .i64 t1538)) (fun _ hk => hk.2) (.int .i64 t1539)) (fun _ hk => hk.2) (.int .i64 t1540)) (fun _ h_ => h_.1))))) (Kd.R_lt (by (with_reducible repeat (first | apply Kd.R_alloc | apply Kd.R_drewN | apply Kd.R_drew)); exact (Kd.R_mono (Kd.R_far (p := ⟨gb1545, 6, none⟩) (Kd.R_far (p := ⟨gb1545, 5, none⟩) (Kd.R_far (p := ⟨gb1545, 4, none⟩) (Kd.R_far (p := ⟨gb1545, 3, none⟩) (Kd.R_far (p := ⟨gb1545, 2, none⟩) (Kd.R_far (p := ⟨gb1545, 1, none⟩) (Kd.R_far (p := ⟨gb1545, 0, none⟩) (Kd.R_types HO1537.out BK1545.out (by decide)) (fun _ hk => hk.2) (.bool t1530)) (fun _ hk => hk.2) (.bool t1531)) (fun _ hk => hk.2) (.slice Ao103 t1532.length co103)) (fun _ hk => hk.2) (.slice Ao104 t1535.length co104)) (fun _ hk => hk.2) (.int .i64 t1538)) (fun _ hk => hk.2) (.int .i64 t1539)) (fun _ hk => hk.2) (.int .i64 t1540)) (fun _ h_ => h_.1))))) (Kd.R_lt (by (with_reducible repeat (first | apply Kd.R_alloc | apply Kd.R_drewN | apply Kd.R_drew)); exact (Kd.R_mono (Kd.R_far (p := ⟨gb1545, 6, none⟩) (Kd.R_far (p := ⟨gb1545, 5, none⟩) (Kd.R_far (p := ⟨gb1545, 4, none⟩) (Kd.R_far (p := ⟨gb1545, 3, none⟩) (Kd.R_far (p := ⟨gb1545, 2, none⟩) (Kd.R_far (p := ⟨gb1545, 1, none⟩) (Kd.R_far (p := ⟨gb1545, 0, none⟩) (Kd.R_types HO1543.out BK1545.out (by decide)) (fun _ hk => hk.2) (.bool t1530)) (fun _ hk => hk.2) (.bool t1531)) (fun _ hk => hk.2) (.slice Ao103 t1532.length co103)) (fun _ hk => hk.2) (.slice Ao104 t1535.length co104)) (fun _ hk => hk.2) (.int .i64 t1538)) (fun _ hk => hk.2) (.int .i64 t1539)) (fun _ hk => hk.2) (.int .i64 t1540)) (fun _ h_ => h_.1))))) (below_size (pkW HB.out))); have HO1559 := am (Kd.R_lower (Kd.R_new' (Kd.R_new' (Kd.R_new' (Kd.R_new' (Kd.R_new' ho2 (Kd.Q_lt (by (with_reducible repeat (first | apply Kd.Q_alloc | apply Kd.Q_drewN | apply Kd.Q_drew)); exact (Kd.Q_mono (Kd.Q_far (p := ⟨gb1545, 6, none⟩) (Kd.Q_far (p := ⟨gb1545, 5, none⟩) (Kd.Q_far (p := ⟨gb1545, 4, none⟩) (Kd.Q_far (p := ⟨gb1545, 3, none⟩) (Kd.Q_far (p := ⟨gb1545, 2, none⟩) (Kd.Q_far (p := ⟨gb1545, 1, none⟩) (Kd.Q_far (p := ⟨gb1545, 0, none⟩) (Kd.Q_types HO_1481002.out BK1545.out (by decide)) (fun _ hk => hk.2) (.bool t1530)) (fun _ hk => hk.2) (.bool t1531)) (fun _ hk => hk.2) (.slice Ao103 t1532.length co103)) (fun _ hk => hk.2) (.slice Ao104 t1535.length co104)) (fun _ hk => hk.2) (.int .i64 t1538)) (fun _ hk => hk.2) (.int .i64 t1539)) (fun _ hk => hk.2) (.int .i64 t1540)) (fun _ h_ => h_.1))))) (Kd.R_lt (by (with_reducible repeat (first | apply Kd.R_alloc | apply Kd.R_drewN | apply Kd.R_drew)); exact (Kd.R_mono (Kd.R_far (p := ⟨gb1545, 6, none⟩) (Kd.R_far (p := ⟨gb1545, 5, none⟩) (Kd.R_far (p := ⟨gb1545, 4, none⟩) (Kd.R_far (p := ⟨gb1545, 3, none⟩) (Kd.R_far (p := ⟨gb1545, 2, none⟩) (Kd.R_far (p := ⟨gb1545, 1, none⟩) (Kd.R_far (p := ⟨gb1545, 0, none⟩) (Kd.R_types HO_1481003.out BK1545.out (by decide)) (fun _ hk => hk.2) (.bool t1530)) (fun _ hk => hk.2) (.bool t1531)) (fun _ hk => hk.2) (.slice Ao103 t1532.length co103)) (fun _ hk => hk.2) (.slice Ao104 t1535.length co104)) (fun _ hk => hk.2) (.int .i64 t1538)) (fun _ hk => hk.2) (.int .i64 t1539)) (fun _ hk => hk.2) (.int .i64 t1540)) (fun _ h_ => h_.1))))) (Kd.Q_lt (by (with_reducible repeat (first | apply Kd.Q_alloc | apply Kd.Q_drewN | apply Kd.Q_drew)); exact (Kd.Q_mono (Kd.Q_far (p := ⟨gb1545, 6, none⟩) (Kd.Q_far (p := ⟨gb1545, 5, none⟩) (Kd.Q_far (p := ⟨gb1545, 4, none⟩) (Kd.Q_far (p := ⟨gb1545, 3, none⟩) (Kd.Q_far (p := ⟨gb1545, 2, none⟩) (Kd.Q_far (p := ⟨gb1545, 1, none⟩) (Kd.Q_far (p := ⟨gb1545, 0, none⟩) (Kd.Q_types HO1534.out BK1545.out (by decide)) (fun _ hk => hk.2) (.bool t1530)) (fun _ hk => hk.2) (.bool t1531)) (fun _ hk => hk.2) (.slice Ao103 t1532.length co103)) (fun _ hk => hk.2) (.slice Ao104 t1535.length co104)) (fun _ hk => hk.2) (.int .i64 t1538)) (fun _ hk => hk.2) (.int .i64 t1539)) (fun _ hk => hk.2) (.int .i64 t1540)) (fun _ h_ => h_.1))))) (Kd.R_lt (by (with_reducible repeat (first | apply Kd.R_alloc | apply Kd.R_drewN | apply Kd.R_drew)); exact (Kd.R_mono (Kd.R_far (p := ⟨gb1545, 6, none⟩) (Kd.R_far (p := ⟨gb1545, 5, none⟩) (Kd.R_far (p := ⟨gb1545, 4, none⟩) (Kd.R_far (p := ⟨gb1545, 3, none⟩) (Kd.R_far (p := ⟨gb1545, 2, none⟩) (Kd.R_far (p := ⟨gb1545, 1, none⟩) (Kd.R_far (p := ⟨gb1545, 0, none⟩) (Kd.R_types HO1537.out BK1545.out (by decide)) (fun _ hk => hk.2) (.bool t1530)) (fun _ hk => hk.2) (.bool t1531)) (fun _ hk => hk.2) (.slice Ao103 t1532.length co103)) (fun _ hk => hk.2) (.slice Ao104 t1535.length co104)) (fun _ hk => hk.2) (.int .i64 t1538)) (fun _ hk => hk.2) (.int .i64 t1539)) (fun _ hk => hk.2) (.int .i64 t1540)) (fun _ h_ => h_.1))))) (Kd.R_lt (by (with_reducible repeat (first | apply Kd.R_alloc | apply Kd.R_drewN | apply Kd.R_drew)); exact (Kd.R_mono (Kd.R_far (p := ⟨gb1545, 6, none⟩) (Kd.R_far (p := ⟨gb1545, 5, none⟩) (Kd.R_far (p := ⟨gb1545, 4, none⟩) (Kd.R_far (p := ⟨gb1545, 3, none⟩) (Kd.R_far (p := ⟨gb1545, 2, none⟩) (Kd.R_far (p := ⟨gb1545, 1, none⟩) (Kd.R_far (p := ⟨gb1545, 0, none⟩) (Kd.R_types HO1543.out BK1545.out (by decide)) (fun _ hk => hk.2) (.bool t1530)) (fun _ hk => hk.2) (.bool t1531)) (fun _ hk => hk.2) (.slice Ao103 t1532.length co103)) (fun _ hk => hk.2) (.slice Ao104 t1535.length co104)) (fun _ hk => hk.2) (.int .i64 t1538)) (fun _ hk => hk.2) (.int .i64 t1539)) (fun _ hk => hk.2) (.int .i64 t1540)) (fun _ h_ => h_.1))))) (below_size (pkW HB.out))); replace HO_1481002 := am (Kd.Q_mono (Kd.Q_told (Kd.Q_told (Kd.Q_told (Kd.Q_old (by (with_reducible repeat (first | apply Kd.Q_alloc | apply Kd.Q_drewN | apply Kd.Q_drew)); exact (Kd.Q_mono (Kd.Q_far (p := ⟨gb1545, 6, none⟩) (Kd.Q_far (p := ⟨gb1545, 5, none⟩) (Kd.Q_far (p := ⟨gb1545, 4, none⟩) (Kd.Q_far (p := ⟨gb1545, 3, none⟩) (Kd.Q_far (p := ⟨gb1545, 2, none⟩) (Kd.Q_far (p := ⟨gb1545, 1, none⟩) (Kd.Q_far (p := ⟨gb1545, 0, none⟩) (Kd.Q_types HO_1481002.out BK1545.out (by decide)) (fun _ hk => hk.2) (.bool t1530)) (fun _ hk => hk.2) (.bool t1531)) (fun _ hk => hk.2) (.slice Ao103 t1532.length co103)) (fun _ hk => hk.2) (.slice Ao104 t1535.length co104)) (fun _ hk => hk.2) (.int .i64 t1538)) (fun _ hk => hk.2) (.int .i64 t1539)) (fun _ hk => hk.2) (.int .i64 t1540)) (fun _ h_ => h_.1))) hb) (Kd.R_base ho0)) (Kd.R_base ho1)) (Kd.R_base ho2)) (fun _ h_ => h_.1)); replace HO_1481003 := am (Kd.R_mono (Kd.R_told (Kd.R_told (Kd.R_told (Kd.R_old (by (with_reducible repeat (first | apply Kd.R_alloc | apply Kd.R_drewN | apply Kd.R_drew)); exact (Kd.R_mono (Kd.R_far (p := ⟨gb1545, 6, none⟩) (Kd.R_far (p := ⟨gb1545, 5, none⟩) (Kd.R_far (p := ⟨gb1545, 4, none⟩) (Kd.R_far (p := ⟨gb1545, 3, none⟩) (Kd.R_far (p := ⟨gb1545, 2, none⟩) (Kd.R_far (p := ⟨gb1545, 1, none⟩) (Kd.R_far (p := ⟨gb1545, 0, none⟩) (Kd.R_types HO_1481003.out BK1545.out (by decide)) (fun _ hk => hk.2) (.bool t1530)) (fun _ hk => hk.2) (.bool t1531)) (fun _ hk => hk.2) (.slice Ao103 t1532.length co103)) (fun _ hk => hk.2) (.slice Ao104 t1535.length co104)) (fun _ hk => hk.2) (.int .i64 t1538)) (fun _ hk => hk.2) (.int .i64 t1539)) (fun _ hk => hk.2) (.int .i64 t1540)) (fun _ h_ => h_.1))) hb) (Kd.R_base ho0)) (Kd.R_base ho1)) (Kd.R_base ho2)) (fun _ h_ => h_.1)); replace HO1534 := am (Kd.Q_mono (Kd.Q_told (Kd.Q_told (Kd.Q_told (Kd.Q_old (by (with_reducible repeat (first | apply Kd.Q_alloc | apply Kd.Q_drewN | apply Kd.Q_drew)); exact (Kd.Q_mono (Kd.Q_far (p := ⟨gb1545, 6, none⟩) (Kd.Q_far (p := ⟨gb1545, 5, none⟩) (Kd.Q_far (p := ⟨gb1545, 4, none⟩) (Kd.Q_far (p := ⟨gb1545, 3, none⟩) (Kd.Q_far (p := ⟨gb1545, 2, none⟩) (Kd.Q_far (p := ⟨gb1545, 1, none⟩) (Kd.Q_far (p := ⟨gb1545, 0, none⟩) (Kd.Q_types HO1534.out BK1545.out (by decide)) (fun _ hk => hk.2) (.bool t1530)) (fun _ hk => hk.2) (.bool t1531)) (fun _ hk => hk.2) (.slice Ao103 t1532.length co103)) (fun _ hk => hk.2) (.slice Ao104 t1535.length co104)) (fun _ hk => hk.2) (.int .i64 t1538)) (fun _ hk => hk.2) (.int .i64 t1539)) (fun _ hk => hk.2) (.int .i64 t1540)) (fun _ h_ => h_.1))) hb) (Kd.R_base ho0)) (Kd.R_base ho1)) (Kd.R_base ho2)) (fun _ h_ => h_.1)); replace HO1537 := am (Kd.R_mono (Kd.R_told (Kd.R_told (Kd.R_told (Kd.R_old (by (with_reducible repeat (first | apply Kd.R_alloc | apply Kd.R_drewN | apply Kd.R_drew)); exact (Kd.R_mono (Kd.R_far (p := ⟨gb1545, 6, none⟩) (Kd.R_far (p := ⟨gb1545, 5, none⟩) (Kd.R_far (p := ⟨gb1545, 4, none⟩) (Kd.R_far (p := ⟨gb1545, 3, none⟩) (Kd.R_far (p := ⟨gb1545, 2, none⟩) (Kd.R_far (p := ⟨gb1545, 1, none⟩) (Kd.R_far (p := ⟨gb1545, 0, none⟩) (Kd.R_types HO1537.out BK1545.out (by decide)) (fun _ hk => hk.2) (.bool t1530)) (fun _ hk => hk.2) (.bool t1531)) (fun _ hk => hk.2) (.slice Ao103 t1532.length co103)) (fun _ hk => hk.2) (.slice Ao104 t1535.length co104)) (fun _ hk => hk.2) (.int .i64 t1538)) (fun _ hk => hk.2) (.int .i64 t1539)) (fun _ hk => hk.2) (.int .i64 t1540)) (fun _ h_ => h_.1))) hb) (Kd.R_base ho0)) (Kd.R_base ho1)) (Kd.R_base ho2)) (fun _ h_ => h_.1)); replace HO1543 := am (Kd.R_mono (Kd.R_told (Kd.R_told (Kd.R_told (Kd.R_old (by (with_reducible repeat (first | apply Kd.R_alloc | apply Kd.R_drewN | apply Kd.R_drew)); exact (Kd.R_mono (Kd.R_far (p := ⟨gb1545, 6, none⟩) (Kd.R_far (p := ⟨gb1545, 5, none⟩) (Kd.R_far (p := ⟨gb1545, 4, none⟩) (Kd.R_far (p := ⟨gb1545, 3, none⟩) (Kd.R_far (p := ⟨gb1545, 2, none⟩) (Kd.R_far (p := ⟨gb1545, 1, none⟩) (Kd.R_far (p := ⟨gb1545, 0, none⟩) (Kd.R_types HO1543.out BK1545.out (by decide)) (fun _ hk => hk.2) (.bool t1530)) (fun _ hk => hk.2) (.bool t1531)) (fun _ hk => hk.2) (.slice Ao103 t1532.length co103)) (fun _ hk => hk.2) (.slice Ao104 t1535.length co104)) (fun _ hk => hk.2) (.int .i64 t1538)) (fun _ hk => hk.2) (.int .i64 t1539)) (fun _ hk => hk.2) (.int .i64 t1540)) (fun _ h_ => h_.1))) hb) (Kd.R_base ho0)) (Kd.R_base ho1)) (Kd.R_base ho2)) (fun _ h_ => h_.1)); replace BK1480 := am (blk_below (g := gb1480) (o := .cells #[.bool x1481000_1, .bool x1481001_1, .slice Ao97 x1481002_1.length co97, .slice Ao98 x1481003_1.length co98, .int .i64 x1481004_1, .int .i64 x1481005_1, .int .i64 x1481006_1] 27 (0, 0)) (by (with_reducible repeat (first | refine blk_drewN ?_ _ | refine blk_drew ?_ | refine blk_alloc ?_ _)); refine blk_far ?_ NB1480_1545.out _; (with_reducible repeat (first | refine blk_drewN ?_ _ | refine blk_drew ?_ | refine blk_alloc ?_ _)); refine blk_far ?_ NB1480_1545.out _; (with_reducible repeat (first | refine blk_drewN ?_ _ | refine blk_drew ?_ | refine blk_alloc ?_ _)); refine blk_far ?_ NB1480_1545.out _; (with_reducible repeat (first | refine blk_drewN ?_ _ | refine blk_drew ?_ | refine blk_alloc ?_ _)); refine blk_far ?_ NB1480_1545.out _; (with_reducible repeat (first | refine blk_drewN ?_ _ | refine blk_drew ?_ | refine blk_alloc ?_ _)); refine blk_far ?_ NB1480_1545.out _; (with_reducible repeat (first | refine blk_drewN ?_ _ | refine blk_drew ?_ | refine blk_alloc ?_ _)); refine blk_far ?_ NB1480_1545.out _; (with_reducible repeat (first | refine blk_drewN ?_ _ | refine blk_drew ?_ | refine blk_alloc ?_ _)); refine blk_far ?_ NB1480_1545.out _; exact pkK BK1480.out) hb); replace BK1545 := am (blk_below (g := gb1545) (o := .cells #[.bool t1530, .bool t1531, .slice Ao103 t1532.length co103, .slice Ao104 t1535.length co104, .int .i64 t1538, .int .i64 t1539, .int .i64 t1540] 27 (0, 0)) (by (with_reducible repeat (first | refine blk_drewN ?_ _ | refine blk_drew ?_ | refine blk_alloc ?_ _)); refine blk_put (cs := #[.bool t1530, .bool t1531, .slice Ao103 t1532.length co103, .slice Ao104 t1535.length co104, .int .i64 t1538, .int .i64 t1539, .int .i64 0]) ?_ 6 _ rfl; (with_reducible repeat (first | refine blk_drewN ?_ _ | refine blk_drew ?_ | refine blk_alloc ?_ _)); refine blk_put (cs := #[.bool t1530, .bool t1531, .slice Ao103 t1532.length co103, .slice Ao104 t1535.length co104, .int .i64 t1538, .int .i64 0, .int .i64 0]) ?_ 5 _ rfl; (with_reducible repeat (first | refine blk_drewN ?_ _ | refine blk_drew ?_ | refine blk_alloc ?_ _)); refine blk_put (cs := #[.bool t1530, .bool t1531, .slice Ao103 t1532.length co103, .slice Ao104 t1535.length co104, .int .i64 0, .int .i64 0, .int .i64 0]) ?_ 4 _ rfl; (with_reducible repeat (first | refine blk_drewN ?_ _ | refine blk_drew ?_ | refine blk_alloc ?_ _)); refine blk_put (cs := #[.bool t1530, .bool t1531, .slice Ao103 t1532.length co103, .slice none 0 0, .int .i64 0, .int .i64 0, .int .i64 0]) ?_ 3 _ rfl; (with_reducible repeat (first | refine blk_drewN ?_ _ | refine blk_drew ?_ | refine blk_alloc ?_ _)); refine blk_put (cs := #[.bool t1530, .bool t1531, .slice none 0 0, .slice none 0 0, .int .i64 0, .int .i64 0, .int .i64 0]) ?_ 2 _ rfl; (with_reducible repeat (first | refine blk_drewN ?_ _ | refine blk_drew ?_ | refine blk_alloc ?_ _)); refine blk_put (cs := #[.bool t1530, .bool false, .slice none 0 0, .slice none 0 0, .int .i64 0, .int .i64 0, .int .i64 0]) ?_ 1 _ rfl; (with_reducible repeat (first | refine blk_drewN ?_ _ | refine blk_drew ?_ | refine blk_alloc ?_ _)); refine blk_put (cs := #[.bool false, .bool false, .slice none 0 0, .slice none 0 0, .int .i64 0, .int .i64 0, .int .i64 0]) ?_ 0 _ rfl; exact pkK BK1545.out) hb); replace HB := bst HB hb; (try clear hb ho0 ho1 ho2)) | ((with_reducible refine gate_dst (N := 18) rfl ?_); (try (refine gate_guard (by rfl) ?_; dsimp only)); refine box_event ?hg (N := 18) ?hd (cs := #[.bool false, .bool false, .slice none 0 0, .slice none 0 0, .int .i64 0, .int .i64 0, .int .i64 0]) (t := 27) ?hr ?_; (case hd => rfl); (case hg => rfl); (case hr => first | (go_simp; done) | (go_simp; rfl)); intro gb1561 hg w107 hbox hb; replace HO_1481002 := am (Kd.Q_below (pkQ HO_1481002.out) hb); replace HO_1481003 := rbl HO_1481003 hb; replace HO1534 := am (Kd.Q_below (pkQ HO1534.out) hb); replace HO1537 := rbl HO1537 hb; replace HO1543 := rbl HO1543 hb; replace HO1550 := rbl HO1550 hb; replace HO1553 := rbl HO1553 hb; replace HO1559 := rbl HO1559 hb; have BK1561 := am (hbox); have GW1561 := am ((by rw [hg]; exact (below_size (pkW HB.out)) : w.heap.size ≤ gb1561)); have GE1561 := am ((by rw [hg]; exact (below_size (pkW HB.out)) : w.heap.size ≤ gb1561)); replace HB := bst HB hb; have NB1480_1561 := am ((by rw [hg]; exact Nat.ne_of_lt (blk_lt (g := gb1480) (o := .cells #[.bool x1481000_1, .bool x1481001_1, .slice Ao97 x1481002_1.length co97, .slice Ao98 x1481003_1.length co98, .int .i64 x1481004_1, .int .i64 x1481005_1, .int .i64 x1481006_1] 27 (0, 0)) (pkK BK1480.out)) : gb1480 ≠ gb1561)); have NB1561_1480 := am ((by rw [hg]; exact Nat.ne_of_gt (blk_lt (g := gb1480) (o := .cells #[.bool x1481000_1, .bool x1481001_1, .slice Ao97 x1481002_1.length co97, .slice Ao98 x1481003_1.length co98, .int .i64 x1481004_1, .int .i64 x1481005_1, .int .i64 x1481006_1] 27 (0, 0)) (pkK BK1480.out)) : gb1561 ≠ gb1480)); replace BK1480 := bbk BK1480 hb; have NB1545_1561 := am ((by rw [hg]; exact Nat.ne_of_lt (blk_lt (g := gb1545) (o := .cells #[.bool t1530, .bool t1531, .slice Ao103 t1532.length co103, .slice Ao104 t1535.length co104, .int .i64 t1538, .int .i64 t1539, .int .i64 t1540] 27 (0, 0)) (pkK BK1545.out)) : gb1545 ≠ gb1561)); have NB1561_1545 := am ((by rw [hg]; exact Nat.ne_of_gt (blk_lt (g := gb1545) (o := .cells #[.bool t1530, .bool t1531, .slice Ao103 t1532.length co103, .slice Ao104 t1535.length co104, .int .i64 t1538, .int .i64 t1539, .int .i64 t1540] 27 (0, 0)) (pkK BK1545.out)) : gb1561 ≠ gb1545)); replace BK1545 := bbk BK1545 hb; clear hb hbox hg; have hnb108 := NB1561_1480.out; have hnc108 := NB1480_1561.out; have hnb109 := NB1561_1545.out; have hnc109 := NB1545_1561.out; obtain ⟨hcz110_0, hcz110_1, hcz110_2, hcz110_3, hcz110_4, hcz110_5, hcz110_6, hfz110_0, hfz110_1, hfz110_2, hfz110_3, hfz110_4, hfz110_5, hfz110_6⟩ := bk7 BK1561.out; obtain ⟨Ao111, co111, eo111⟩ := Kd.R_slice HO1550.out; subst eo111; obtain ⟨Ao112, co112, eo112⟩ := Kd.R_slice HO1553.out; subst eo112; obtain ⟨hcz113_0, hcz113_1, hcz113_2, hcz113_3, hcz113_4, hcz113_5, hcz113_6, hfz113_0, hfz113_1, hfz113_2, hfz113_3, hfz113_4, hfz113_5, hfz113_6⟩ := bk7 BK1545.out; obtain ⟨hcz114_0, hcz114_1, hcz114_2, hcz114_3, hcz114_4, hcz114_5, hcz114_6, hfz114_0, hfz114_1, hfz114_2, hfz114_3, hfz114_4, hfz114_5, hfz114_6⟩ := bk7 BK1480.out) | ((with_reducible refine gate_callee (f := 15) rfl ?_); refine goesL_ (some 146) rfl rfl Try.func15 (by kernel_rfl) rfl #[.agg #[.bool t1530, .bool t1531, .slice Ao103 t1532.length co103, .slice Ao104 t1535.length co104, .int .i64 t1538, .int .i64 t1539, .int .i64 t1540]] rfl mpx ?_; (with_reducible refine (spec_EventOk.calls k1 t1530 t1531 _ _ t1532 _ _ t1535 t1538 t1539 t1540 true _ ?side1 ?side2 ?side3 ?side4 A94.out).mono ?_); (case side1 => refine (Kd.Q_reads' (e := 3) (base := w.heap.size) (ok := fun k_ => ((((((some k_ ≠ (.slice Ao104 t1535.length co104 : Value).ownBlock ∧ some k_ ≠ (v1542 : Value).ownBlock) ∧ some k_ ≠ (.slice Ao97 x1481002_1.length co97 : Value).ownBlock) ∧ some k_ ≠ (.slice Ao98 x1481003_1.length co98 : Value).ownBlock) ∧ some k_ ≠ (.slice Ao111 t1548.length co111 : Value).ownBlock) ∧ some k_ ≠ (.slice Ao112 t1551.length co112 : Value).ownBlock) ∧ some k_ ≠ (v1558 : Value).ownBlock)) (n := t1532.length) (c := co103) ?_).2.2; exact (by (with_reducible repeat (first | apply Kd.Q_alloc | apply Kd.Q_drewN | apply Kd.Q_drew)); exact (Kd.Q_mono (Kd.Q_mono (Kd.Q_far (p := ⟨gb1480, 6, none⟩) (Kd.Q_far (p := ⟨gb1480, 5, none⟩) (Kd.Q_far (p := ⟨gb1480, 4, none⟩) (Kd.Q_far (p := ⟨gb1480, 3, none⟩) (Kd.Q_far (p := ⟨gb1480, 2, none⟩) (Kd.Q_far (p := ⟨gb1480, 1, none⟩) (Kd.Q_far (p := ⟨gb1480, 0, none⟩) (Kd.Q_far (p := ⟨gb1561, 6, none⟩) (Kd.Q_far (p := ⟨gb1561, 5, none⟩) (Kd.Q_far (p := ⟨gb1561, 4, none⟩) (Kd.Q_far (p := ⟨gb1561, 3, none⟩) (Kd.Q_far (p := ⟨gb1561, 2, none⟩) (Kd.Q_far (p := ⟨gb1561, 1, none⟩) (Kd.Q_far (p := ⟨gb1561, 0, none⟩) (Kd.Q_types (Kd.Q_types HO1534.out BK1561.out (by decide)) BK1480.out (by decide)) (fun _ hk => hk.1.2) (.bool t1546)) (fun _ hk => hk.1.2) (.bool t1547)) (fun _ hk => hk.1.2) (.slice Ao111 t1548.length co111)) (fun _ hk => hk.1.2) (.slice Ao112 t1551.length co112)) (fun _ hk => hk.1.2) (.int .i64 t1554)) (fun _ hk => hk.1.2) (.int .i64 t1555)) (fun _ hk => hk.1.2) (.int .i64 t1556)) (fun _ hk => hk.2) (.bool t1530)) (fun _ hk => hk.2) (.bool t1531)) (fun _ hk => hk.2) (.slice Ao103 t1532.length co103)) (fun _ hk => hk.2) (.slice Ao104 t1535.length co104)) (fun _ hk => hk.2) (.int .i64 t1538)) (fun _ hk => hk.2) (.int .i64 t1539)) (fun _ hk => hk.2) (.int .i64 t1540)) (fun _ h_ => h_.1)) (fun _ h_ => h_.1)))); (case side2 => exact (Kd.Q_reads' HO1534.out).2.1); (case side3 => refine (Kd.R_reads' (e := 3) (base := w.heap.size) (ok := fun k_ => ((((((some k_ ≠ (.slice Ao103 t1532.length co103 : Value).ownBlock ∧ some k_ ≠ (v1542 : Value).ownBlock) ∧ some k_ ≠ (.slice Ao97 x1481002_1.length co97 : Value).ownBlock) ∧ some k_ ≠ (.slice Ao98 x1481003_1.length co98 : Value).ownBlock) ∧ some k_ ≠ (.slice Ao111 t1548.length co111 : Value).ownBlock) ∧ some k_ ≠ (.slice Ao112 t1551.length co112 : Value).ownBlock) ∧ some k_ ≠ (v1558 : Value).ownBlock)) (n := t1535.length) (c := co104) ?_).2.2; exact (by (with_reducible repeat (first | apply Kd.R_alloc | apply Kd.R_drewN | apply Kd.R_drew)); exact (Kd.R_mono (Kd.R_mono (Kd.R_far (p := ⟨gb1480, 6, none⟩) (Kd.R_far (p := ⟨gb1480, 5, none⟩) (Kd.R_far (p := ⟨gb1480, 4, none⟩) (Kd.R_far (p := ⟨gb1480, 3, none⟩) (Kd.R_far (p := ⟨gb1480, 2, none⟩) (Kd.R_far (p := ⟨gb1480, 1, none⟩) (Kd.R_far (p := ⟨gb1480, 0, none⟩) (Kd.R_far (p := ⟨gb1561, 6, none⟩) (Kd.R_far (p := ⟨gb1561, 5, none⟩) (Kd.R_far (p := ⟨gb1561, 4, none⟩) (Kd.R_far (p := ⟨gb1561, 3, none⟩) (Kd.R_far (p := ⟨gb1561, 2, none⟩) (Kd.R_far (p := ⟨gb1561, 1, none⟩) (Kd.R_far (p := ⟨gb1561, 0, none⟩) (Kd.R_types (Kd.R_types HO1537.out BK1561.out (by decide)) BK1480.out (by decide)) (fun _ hk => hk.1.2) (.bool t1546)) (fun _ hk => hk.1.2) (.bool t1547)) (fun _ hk => hk.1.2) (.slice Ao111 t1548.length co111)) (fun _ hk => hk.1.2) (.slice Ao112 t1551.length co112)) (fun _ hk => hk.1.2) (.int .i64 t1554)) (fun _ hk => hk.1.2) (.int .i64 t1555)) (fun _ hk => hk.1.2) (.int .i64 t1556)) (fun _ hk => hk.2) (.bool t1530)) (fun _ hk => hk.2) (.bool t1531)) (fun _ hk => hk.2) (.slice Ao103 t1532.length co103)) (fun _ hk => hk.2) (.slice Ao104 t1535.length co104)) (fun _ hk => hk.2) (.int .i64 t1538)) (fun _ hk => hk.2) (.int .i64 t1539)) (fun _ hk => hk.2) (.int .i64 t1540)) (fun _ h_ => h_.1)) (fun _ h_ => h_.1)))); (case side4 => exact (Kd.R_reads' HO1537.out).2.1); rintro e w115 ⟨rfl, hb⟩; refine ⟨_, rfl, ?_⟩; replace HO_1481002 := am (Kd.Q_below (by (with_reducible repeat (first | apply Kd.Q_alloc | apply Kd.Q_drewN | apply Kd.Q_drew)); exact (Kd.Q_mono (Kd.Q_mono (Kd.Q_far (p := ⟨gb1480, 6, none⟩) (Kd.Q_far (p := ⟨gb1480, 5, none⟩) (Kd.Q_far (p := ⟨gb1480, 4, none⟩) (Kd.Q_far (p := ⟨gb1480, 3, none⟩) (Kd.Q_far (p := ⟨gb1480, 2, none⟩) (Kd.Q_far (p := ⟨gb1480, 1, none⟩) (Kd.Q_far (p := ⟨gb1480, 0, none⟩) (Kd.Q_far (p := ⟨gb1561, 6, none⟩) (Kd.Q_far (p := ⟨gb1561, 5, none⟩) (Kd.Q_far (p := ⟨gb1561, 4, none⟩) (Kd.Q_far (p := ⟨gb1561, 3, none⟩) (Kd.Q_far (p := ⟨gb1561, 2, none⟩) (Kd.Q_far (p := ⟨gb1561, 1, none⟩) (Kd.Q_far (p := ⟨gb1561, 0, none⟩) (Kd.Q_types (Kd.Q_types HO_1481002.out BK1561.out (by decide)) BK1480.out (by decide)) (fun _ hk => hk.1.2) (.bool t1546)) (fun _ hk => hk.1.2) (.bool t1547)) (fun _ hk => hk.1.2) (.slice Ao111 t1548.length co111)) (fun _ hk => hk.1.2) (.slice Ao112 t1551.length co112)) (fun _ hk => hk.1.2) (.int .i64 t1554)) (fun _ hk => hk.1.2) (.int .i64 t1555)) (fun _ hk => hk.1.2) (.int .i64 t1556)) (fun _ hk => hk.2) (.bool t1530)) (fun _ hk => hk.2) (.bool t1531)) (fun _ hk => hk.2) (.slice Ao103 t1532.length co103)) (fun _ hk => hk.2) (.slice Ao104 t1535.length co104)) (fun _ hk => hk.2) (.int .i64 t1538)) (fun _ hk => hk.2) (.int .i64 t1539)) (fun _ hk => hk.2) (.int .i64 t1540)) (fun _ h_ => h_.1)) (fun _ h_ => h_.1))) hb); replace HO_1481003 := am (Kd.R_below (by (with_reducible repeat (first | apply Kd.R_alloc | apply Kd.R_drewN | apply Kd.R_drew)); exact (Kd.R_mono (Kd.R_mono (Kd.R_far (p := ⟨gb1480, 6, none⟩) (Kd.R_far (p := ⟨gb1480, 5, none⟩) (Kd.R_far (p := ⟨gb1480, 4, none⟩) (Kd.R_far (p := ⟨gb1480, 3, none⟩) (Kd.R_far (p := ⟨gb1480, 2, none⟩) (Kd.R_far (p := ⟨gb1480, 1, none⟩) (Kd.R_far (p := ⟨gb1480, 0, none⟩) (Kd.R_far (p := ⟨gb1561, 6, none⟩) (Kd.R_far (p := ⟨gb1561, 5, none⟩) (Kd.R_far (p := ⟨gb1561, 4, none⟩) (Kd.R_far (p := ⟨gb1561, 3, none⟩) (Kd.R_far (p := ⟨gb1561, 2, none⟩) (Kd.R_far (p := ⟨gb1561, 1, none⟩) (Kd.R_far (p := ⟨gb1561, 0, none⟩) (Kd.R_types (Kd.R_types HO_1481003.out BK1561.out (by decide)) BK1480.out (by decide)) (fun _ hk => hk.1.2) (.bool t1546)) (fun _ hk => hk.1.2) (.bool t1547)) (fun _ hk => hk.1.2) (.slice Ao111 t1548.length co111)) (fun _ hk => hk.1.2) (.slice Ao112 t1551.length co112)) (fun _ hk => hk.1.2) (.int .i64 t1554)) (fun _ hk => hk.1.2) (.int .i64 t1555)) (fun _ hk => hk.1.2) (.int .i64 t1556)) (fun _ hk => hk.2) (.bool t1530)) (fun _ hk => hk.2) (.bool t1531)) (fun _ hk => hk.2) (.slice Ao103 t1532.length co103)) (fun _ hk => hk.2) (.slice Ao104 t1535.length co104)) (fun _ hk => hk.2) (.int .i64 t1538)) (fun _ hk => hk.2) (.int .i64 t1539)) (fun _ hk => hk.2) (.int .i64 t1540)) (fun _ h_ => h_.1)) (fun _ h_ => h_.1))) hb); replace HO1534 := am (Kd.Q_below (by (with_reducible repeat (first | apply Kd.Q_alloc | apply Kd.Q_drewN | apply Kd.Q_drew)); exact (Kd.Q_mono (Kd.Q_mono (Kd.Q_far (p := ⟨gb1480, 6, none⟩) (Kd.Q_far (p := ⟨gb1480, 5, none⟩) (Kd.Q_far (p := ⟨gb1480, 4, none⟩) (Kd.Q_far (p := ⟨gb1480, 3, none⟩) (Kd.Q_far (p := ⟨gb1480, 2, none⟩) (Kd.Q_far (p := ⟨gb1480, 1, none⟩) (Kd.Q_far (p := ⟨gb1480, 0, none⟩) (Kd.Q_far (p := ⟨gb1561, 6, none⟩) (Kd.Q_far (p := ⟨gb1561, 5, none⟩) (Kd.Q_far (p := ⟨gb1561, 4, none⟩) (Kd.Q_far (p := ⟨gb1561, 3, none⟩) (Kd.Q_far (p := ⟨gb1561, 2, none⟩) (Kd.Q_far (p := ⟨gb1561, 1, none⟩) (Kd.Q_far (p := ⟨gb1561, 0, none⟩) (Kd.Q_types (Kd.Q_types HO1534.out BK1561.out (by decide)) BK1480.out (by decide)) (fun _ hk => hk.1.2) (.bool t1546)) (fun _ hk => hk.1.2) (.bool t1547)) (fun _ hk => hk.1.2) (.slice Ao111 t1548.length co111)) (fun _ hk => hk.1.2) (.slice Ao112 t1551.length co112)) (fun _ hk => hk.1.2) (.int .i64 t1554)) (fun _ hk => hk.1.2) (.int .i64 t1555)) (fun _ hk => hk.1.2) (.int .i64 t1556)) (fun _ hk => hk.2) (.bool t1530)) (fun _ hk => hk.2) (.bool t1531)) (fun _ hk => hk.2) (.slice Ao103 t1532.length co103)) (fun _ hk => hk.2) (.slice Ao104 t1535.length co104)) (fun _ hk => hk.2) (.int .i64 t1538)) (fun _ hk => hk.2) (.int .i64 t1539)) (fun _ hk => hk.2) (.int .i64 t1540)) (fun _ h_ => h_.1)) (fun _ h_ => h_.1))) hb); replace HO1537 := am (Kd.R_below (by (with_reducible repeat (first | apply Kd.R_alloc | apply Kd.R_drewN | apply Kd.R_drew)); exact (Kd.R_mono (Kd.R_mono (Kd.R_far (p := ⟨gb1480, 6, none⟩) (Kd.R_far (p := ⟨gb1480, 5, none⟩) (Kd.R_far (p := ⟨gb1480, 4, none⟩) (Kd.R_far (p := ⟨gb1480, 3, none⟩) (Kd.R_far (p := ⟨gb1480, 2, none⟩) (Kd.R_far (p := ⟨gb1480, 1, none⟩) (Kd.R_far (p := ⟨gb1480, 0, none⟩) (Kd.R_far (p := ⟨gb1561, 6, none⟩) (Kd.R_far (p := ⟨gb1561, 5, none⟩) (Kd.R_far (p := ⟨gb1561, 4, none⟩) (Kd.R_far (p := ⟨gb1561, 3, none⟩) (Kd.R_far (p := ⟨gb1561, 2, none⟩) (Kd.R_far (p := ⟨gb1561, 1, none⟩) (Kd.R_far (p := ⟨gb1561, 0, none⟩) (Kd.R_types (Kd.R_types HO1537.out BK1561.out (by decide)) BK1480.out (by decide)) (fun _ hk => hk.1.2) (.bool t1546)) (fun _ hk => hk.1.2) (.bool t1547)) (fun _ hk => hk.1.2) (.slice Ao111 t1548.length co111)) (fun _ hk => hk.1.2) (.slice Ao112 t1551.length co112)) (fun _ hk => hk.1.2) (.int .i64 t1554)) (fun _ hk => hk.1.2) (.int .i64 t1555)) (fun _ hk => hk.1.2) (.int .i64 t1556)) (fun _ hk => hk.2) (.bool t1530)) (fun _ hk => hk.2) (.bool t1531)) (fun _ hk => hk.2) (.slice Ao103 t1532.length co103)) (fun _ hk => hk.2) (.slice Ao104 t1535.length co104)) (fun _ hk => hk.2) (.int .i64 t1538)) (fun _ hk => hk.2) (.int .i64 t1539)) (fun _ hk => hk.2) (.int .i64 t1540)) (fun _ h_ => h_.1)) (fun _ h_ => h_.1))) hb); replace HO1543 := am (Kd.R_below (by (with_reducible repeat (first | apply Kd.R_alloc | apply Kd.R_drewN | apply Kd.R_drew)); exact (Kd.R_mono (Kd.R_mono (Kd.R_far (p := ⟨gb1480, 6, none⟩) (Kd.R_far (p := ⟨gb1480, 5, none⟩) (Kd.R_far (p := ⟨gb1480, 4, none⟩) (Kd.R_far (p := ⟨gb1480, 3, none⟩) (Kd.R_far (p := ⟨gb1480, 2, none⟩) (Kd.R_far (p := ⟨gb1480, 1, none⟩) (Kd.R_far (p := ⟨gb1480, 0, none⟩) (Kd.R_far (p := ⟨gb1561, 6, none⟩) (Kd.R_far (p := ⟨gb1561, 5, none⟩) (Kd.R_far (p := ⟨gb1561, 4, none⟩) (Kd.R_far (p := ⟨gb1561, 3, none⟩) (Kd.R_far (p := ⟨gb1561, 2, none⟩) (Kd.R_far (p := ⟨gb1561, 1, none⟩) (Kd.R_far (p := ⟨gb1561, 0, none⟩) (Kd.R_types (Kd.R_types HO1543.out BK1561.out (by decide)) BK1480.out (by decide)) (fun _ hk => hk.1.2) (.bool t1546)) (fun _ hk => hk.1.2) (.bool t1547)) (fun _ hk => hk.1.2) (.slice Ao111 t1548.length co111)) (fun _ hk => hk.1.2) (.slice Ao112 t1551.length co112)) (fun _ hk => hk.1.2) (.int .i64 t1554)) (fun _ hk => hk.1.2) (.int .i64 t1555)) (fun _ hk => hk.1.2) (.int .i64 t1556)) (fun _ hk => hk.2) (.bool t1530)) (fun _ hk => hk.2) (.bool t1531)) (fun _ hk => hk.2) (.slice Ao103 t1532.length co103)) (fun _ hk => hk.2) (.slice Ao104 t1535.length co104)) (fun _ hk => hk.2) (.int .i64 t1538)) (fun _ hk => hk.2) (.int .i64 t1539)) (fun _ hk => hk.2) (.int .i64 t1540)) (fun _ h_ => h_.1)) (fun _ h_ => h_.1))) hb); replace HO1550 := am (Kd.R_below (by (with_reducible repeat (first | apply Kd.R_alloc | apply Kd.R_drewN | apply Kd.R_drew)); exact (Kd.R_mono (Kd.R_mono (Kd.R_far (p := ⟨gb1480, 6, none⟩) (Kd.R_far (p := ⟨gb1480, 5, none⟩) (Kd.R_far (p := ⟨gb1480, 4, none⟩) (Kd.R_far (p := ⟨gb1480, 3, none⟩) (Kd.R_far (p := ⟨gb1480, 2, none⟩) (Kd.R_far (p := ⟨gb1480, 1, none⟩) (Kd.R_far (p := ⟨gb1480, 0, none⟩) (Kd.R_far (p := ⟨gb1561, 6, none⟩) (Kd.R_far (p := ⟨gb1561, 5, none⟩) (Kd.R_far (p := ⟨gb1561, 4, none⟩) (Kd.R_far (p := ⟨gb1561, 3, none⟩) (Kd.R_far (p := ⟨gb1561, 2, none⟩) (Kd.R_far (p := ⟨gb1561, 1, none⟩) (Kd.R_far (p := ⟨gb1561, 0, none⟩) (Kd.R_types (Kd.R_types HO1550.out BK1561.out (by decide)) BK1480.out (by decide)) (fun _ hk => hk.1.2) (.bool t1546)) (fun _ hk => hk.1.2) (.bool t1547)) (fun _ hk => hk.1.2) (.slice Ao111 t1548.length co111)) (fun _ hk => hk.1.2) (.slice Ao112 t1551.length co112)) (fun _ hk => hk.1.2) (.int .i64 t1554)) (fun _ hk => hk.1.2) (.int .i64 t1555)) (fun _ hk => hk.1.2) (.int .i64 t1556)) (fun _ hk => hk.2) (.bool t1530)) (fun _ hk => hk.2) (.bool t1531)) (fun _ hk => hk.2) (.slice Ao103 t1532.length co103)) (fun _ hk => hk.2) (.slice Ao104 t1535.length co104)) (fun _ hk => hk.2) (.int .i64 t1538)) (fun _ hk => hk.2) (.int .i64 t1539)) (fun _ hk => hk.2) (.int .i64 t1540)) (fun _ h_ => h_.1)) (fun _ h_ => h_.1))) hb); replace HO1553 := am (Kd.R_below (by (with_reducible repeat (first | apply Kd.R_alloc | apply Kd.R_drewN | apply Kd.R_drew)); exact (Kd.R_mono (Kd.R_mono (Kd.R_far (p := ⟨gb1480, 6, none⟩) (Kd.R_far (p := ⟨gb1480, 5, none⟩) (Kd.R_far (p := ⟨gb1480, 4, none⟩) (Kd.R_far (p := ⟨gb1480, 3, none⟩) (Kd.R_far (p := ⟨gb1480, 2, none⟩) (Kd.R_far (p := ⟨gb1480, 1, none⟩) (Kd.R_far (p := ⟨gb1480, 0, none⟩) (Kd.R_far (p := ⟨gb1561, 6, none⟩) (Kd.R_far (p := ⟨gb1561, 5, none⟩) (Kd.R_far (p := ⟨gb1561, 4, none⟩) (Kd.R_far (p := ⟨gb1561, 3, none⟩) (Kd.R_far (p := ⟨gb1561, 2, none⟩) (Kd.R_far (p := ⟨gb1561, 1, none⟩) (Kd.R_far (p := ⟨gb1561, 0, none⟩) (Kd.R_types (Kd.R_types HO1553.out BK1561.out (by decide)) BK1480.out (by decide)) (fun _ hk => hk.1.2) (.bool t1546)) (fun _ hk => hk.1.2) (.bool t1547)) (fun _ hk => hk.1.2) (.slice Ao111 t1548.length co111)) (fun _ hk => hk.1.2) (.slice Ao112 t1551.length co112)) (fun _ hk => hk.1.2) (.int .i64 t1554)) (fun _ hk => hk.1.2) (.int .i64 t1555)) (fun _ hk => hk.1.2) (.int .i64 t1556)) (fun _ hk => hk.2) (.bool t1530)) (fun _ hk => hk.2) (.bool t1531)) (fun _ hk => hk.2) (.slice Ao103 t1532.length co103)) (fun _ hk => hk.2) (.slice Ao104 t1535.length co104)) (fun _ hk => hk.2) (.int .i64 t1538)) (fun _ hk => hk.2) (.int .i64 t1539)) (fun _ hk => hk.2) (.int .i64 t1540)) (fun _ h_ => h_.1)) (fun _ h_ => h_.1))) hb); replace HO1559 := am (Kd.R_below (by (with_reducible repeat (first | apply Kd.R_alloc | apply Kd.R_drewN | apply Kd.R_drew)); exact (Kd.R_mono (Kd.R_mono (Kd.R_far (p := ⟨gb1480, 6, none⟩) (Kd.R_far (p := ⟨gb1480, 5, none⟩) (Kd.R_far (p := ⟨gb1480, 4, none⟩) (Kd.R_far (p := ⟨gb1480, 3, none⟩) (Kd.R_far (p := ⟨gb1480, 2, none⟩) (Kd.R_far (p := ⟨gb1480, 1, none⟩) (Kd.R_far (p := ⟨gb1480, 0, none⟩) (Kd.R_far (p := ⟨gb1561, 6, none⟩) (Kd.R_far (p := ⟨gb1561, 5, none⟩) (Kd.R_far (p := ⟨gb1561, 4, none⟩) (Kd.R_far (p := ⟨gb1561, 3, none⟩) (Kd.R_far (p := ⟨gb1561, 2, none⟩) (Kd.R_far (p := ⟨gb1561, 1, none⟩) (Kd.R_far (p := ⟨gb1561, 0, none⟩) (Kd.R_types (Kd.R_types HO1559.out BK1561.out (by decide)) BK1480.out (by decide)) (fun _ hk => hk.1.2) (.bool t1546)) (fun _ hk => hk.1.2) (.bool t1547)) (fun _ hk => hk.1.2) (.slice Ao111 t1548.length co111)) (fun _ hk => hk.1.2) (.slice Ao112 t1551.length co112)) (fun _ hk => hk.1.2) (.int .i64 t1554)) (fun _ hk => hk.1.2) (.int .i64 t1555)) (fun _ hk => hk.1.2) (.int .i64 t1556)) (fun _ hk => hk.2) (.bool t1530)) (fun _ hk => hk.2) (.bool t1531)) (fun _ hk => hk.2) (.slice Ao103 t1532.length co103)) (fun _ hk => hk.2) (.slice Ao104 t1535.length co104)) (fun _ hk => hk.2) (.int .i64 t1538)) (fun _ hk => hk.2) (.int .i64 t1539)) (fun _ hk => hk.2) (.int .i64 t1540)) (fun _ h_ => h_.1)) (fun _ h_ => h_.1))) hb); replace BK1480 := am (blk_below (g := gb1480) (o := .cells #[.bool t1530, .bool t1531, .slice Ao103 t1532.length co103, .slice Ao104 t1535.length co104, .int .i64 t1538, .int .i64 t1539, .int .i64 t1540] 27 (0, 0)) (by (with_reducible repeat (first | refine blk_drewN ?_ _ | refine blk_drew ?_ | refine blk_alloc ?_ _)); refine blk_put (cs := #[.bool t1530, .bool t1531, .slice Ao103 t1532.length co103, .slice Ao104 t1535.length co104, .int .i64 t1538, .int .i64 t1539, .int .i64 x1481006_1]) ?_ 6 _ rfl; (with_reducible repeat (first | refine blk_drewN ?_ _ | refine blk_drew ?_ | refine blk_alloc ?_ _)); refine blk_put (cs := #[.bool t1530, .bool t1531, .slice Ao103 t1532.length co103, .slice Ao104 t1535.length co104, .int .i64 t1538, .int .i64 x1481005_1, .int .i64 x1481006_1]) ?_ 5 _ rfl; (with_reducible repeat (first | refine blk_drewN ?_ _ | refine blk_drew ?_ | refine blk_alloc ?_ _)); refine blk_put (cs := #[.bool t1530, .bool t1531, .slice Ao103 t1532.length co103, .slice Ao104 t1535.length co104, .int .i64 x1481004_1, .int .i64 x1481005_1, .int .i64 x1481006_1]) ?_ 4 _ rfl; (with_reducible repeat (first | refine blk_drewN ?_ _ | refine blk_drew ?_ | refine blk_alloc ?_ _)); refine blk_put (cs := #[.bool t1530, .bool t1531, .slice Ao103 t1532.length co103, .slice Ao98 x1481003_1.length co98, .int .i64 x1481004_1, .int .i64 x1481005_1, .int .i64 x1481006_1]) ?_ 3 _ rfl; (with_reducible repeat (first | refine blk_drewN ?_ _ | refine blk_drew ?_ | refine blk_alloc ?_ _)); refine blk_put (cs := #[.bool t1530, .bool t1531, .slice Ao97 x1481002_1.length co97, .slice Ao98 x1481003_1.length co98, .int .i64 x1481004_1, .int .i64 x1481005_1, .int .i64 x1481006_1]) ?_ 2 _ rfl; (with_reducible repeat (first | refine blk_drewN ?_ _ | refine blk_drew ?_ | refine blk_alloc ?_ _)); refine blk_put (cs := #[.bool t1530, .bool x1481001_1, .slice Ao97 x1481002_1.length co97, .slice Ao98 x1481003_1.length co98, .int .i64 x1481004_1, .int .i64 x1481005_1, .int .i64 x1481006_1]) ?_ 1 _ rfl; (with_reducible repeat (first | refine blk_drewN ?_ _ | refine blk_drew ?_ | refine blk_alloc ?_ _)); refine blk_put (cs := #[.bool x1481000_1, .bool x1481001_1, .slice Ao97 x1481002_1.length co97, .slice Ao98 x1481003_1.length co98, .int .i64 x1481004_1, .int .i64 x1481005_1, .int .i64 x1481006_1]) ?_ 0 _ rfl; (with_reducible repeat (first | refine blk_drewN ?_ _ | refine blk_drew ?_ | refine blk_alloc ?_ _)); refine blk_far ?_ NB1480_1561.out _; (with_reducible repeat (first | refine blk_drewN ?_ _ | refine blk_drew ?_ | refine blk_alloc ?_ _)); refine blk_far ?_ NB1480_1561.out _; (with_reducible repeat (first | refine blk_drewN ?_ _ | refine blk_drew ?_ | refine blk_alloc ?_ _)); refine blk_far ?_ NB1480_1561.out _; (with_reducible repeat (first | refine blk_drewN ?_ _ | refine blk_drew ?_ | refine blk_alloc ?_ _)); refine blk_far ?_ NB1480_1561.out _; (with_reducible repeat (first | refine blk_drewN ?_ _ | refine blk_drew ?_ | refine blk_alloc ?_ _)); refine blk_far ?_ NB1480_1561.out _; (with_reducible repeat (first | refine blk_drewN ?_ _ | refine blk_drew ?_ | refine blk_alloc ?_ _)); refine blk_far ?_ NB1480_1561.out _; (with_reducible repeat (first | refine blk_drewN ?_ _ | refine blk_drew ?_ | refine blk_alloc ?_ _)); refine blk_far ?_ NB1480_1561.out _; exact pkK BK1480.out) hb); replace BK1545 := am (blk_below (g := gb1545) (o := .cells #[.bool t1530, .bool t1531, .slice Ao103 t1532.length co103, .slice Ao104 t1535.length co104, .int .i64 t1538, .int .i64 t1539, .int .i64 t1540] 27 (0, 0)) (by (with_reducible repeat (first | refine blk_drewN ?_ _ | refine blk_drew ?_ | refine blk_alloc ?_ _)); refine blk_far ?_ NB1545_1480.out _; (with_reducible repeat (first | refine blk_drewN ?_ _ | refine blk_drew ?_ | refine blk_alloc ?_ _)); refine blk_far ?_ NB1545_1480.out _; (with_reducible repeat (first | refine blk_drewN ?_ _ | refine blk_drew ?_ | refine blk_alloc ?_ _)); refine blk_far ?_ NB1545_1480.out _; (with_reducible repeat (first | refine blk_drewN ?_ _ | refine blk_drew ?_ | refine blk_alloc ?_ _)); refine blk_far ?_ NB1545_1480.out _; (with_reducible repeat (first | refine blk_drewN ?_ _ | refine blk_drew ?_ | refine blk_alloc ?_ _)); refine blk_far ?_ NB1545_1480.out _; (with_reducible repeat (first | refine blk_drewN ?_ _ | refine blk_drew ?_ | refine blk_alloc ?_ _)); refine blk_far ?_ NB1545_1480.out _; (with_reducible repeat (first | refine blk_drewN ?_ _ | refine blk_drew ?_ | refine blk_alloc ?_ _)); refine blk_far ?_ NB1545_1480.out _; (with_reducible repeat (first | refine blk_drewN ?_ _ | refine blk_drew ?_ | refine blk_alloc ?_ _)); refine blk_far ?_ NB1545_1561.out _; (with_reducible repeat (first | refine blk_drewN ?_ _ | refine blk_drew ?_ | refine blk_alloc ?_ _)); refine blk_far ?_ NB1545_1561.out _; (with_reducible repeat (first | refine blk_drewN ?_ _ | refine blk_drew ?_ | refine blk_alloc ?_ _)); refine blk_far ?_ NB1545_1561.out _; (with_reducible repeat (first | refine blk_drewN ?_ _ | refine blk_drew ?_ | refine blk_alloc ?_ _)); refine blk_far ?_ NB1545_1561.out _; (with_reducible repeat (first | refine blk_drewN ?_ _ | refine blk_drew ?_ | refine blk_alloc ?_ _)); refine blk_far ?_ NB1545_1561.out _; (with_reducible repeat (first | refine blk_drewN ?_ _ | refine blk_drew ?_ | refine blk_alloc ?_ _)); refine blk_far ?_ NB1545_1561.out _; (with_reducible repeat (first | refine blk_drewN ?_ _ | refine blk_drew ?_ | refine blk_alloc ?_ _)); refine blk_far ?_ NB1545_1561.out _; exact pkK BK1545.out) hb); replace BK1561 := am (blk_below (g := gb1561) (o := .cells #[.bool t1546, .bool t1547, .slice Ao111 t1548.length co111, .slice Ao112 t1551.length co112, .int .i64 t1554, .int .i64 t1555, .int .i64 t1556] 27 (0, 0)) (by (with_reducible repeat (first | refine blk_drewN ?_ _ | refine blk_drew ?_ | refine blk_alloc ?_ _)); refine blk_far ?_ NB1561_1480.out _; (with_reducible repeat (first | refine blk_drewN ?_ _ | refine blk_drew ?_ | refine blk_alloc ?_ _)); refine blk_far ?_ NB1561_1480.out _; (with_reducible repeat (first | refine blk_drewN ?_ _ | refine blk_drew ?_ | refine blk_alloc ?_ _)); refine blk_far ?_ NB1561_1480.out _; (with_reducible repeat (first | refine blk_drewN ?_ _ | refine blk_drew ?_ | refine blk_alloc ?_ _)); refine blk_far ?_ NB1561_1480.out _; (with_reducible repeat (first | refine blk_drewN ?_ _ | refine blk_drew ?_ | refine blk_alloc ?_ _)); refine blk_far ?_ NB1561_1480.out _; (with_reducible repeat (first | refine blk_drewN ?_ _ | refine blk_drew ?_ | refine blk_alloc ?_ _)); refine blk_far ?_ NB1561_1480.out _; (with_reducible repeat (first | refine blk_drewN ?_ _ | refine blk_drew ?_ | refine blk_alloc ?_ _)); refine blk_far ?_ NB1561_1480.out _; (with_reducible repeat (first | refine blk_drewN ?_ _ | refine blk_drew ?_ | refine blk_alloc ?_ _)); refine blk_put (cs := #[.bool t1546, .bool t1547, .slice Ao111 t1548.length co111, .slice Ao112 t1551.length co112, .int .i64 t1554, .int .i64 t1555, .int .i64 0]) ?_ 6 _ rfl; (with_reducible repeat (first | refine blk_drewN ?_ _ | refine blk_drew ?_ | refine blk_alloc ?_ _)); refine blk_put (cs := #[.bool t1546, .bool t1547, .slice Ao111 t1548.length co111, .slice Ao112 t1551.length co112, .int .i64 t1554, .int .i64 0, .int .i64 0]) ?_ 5 _ rfl; (with_reducible repeat (first | refine blk_drewN ?_ _ | refine blk_drew ?_ | refine blk_alloc ?_ _)); refine blk_put (cs := #[.bool t1546, .bool t1547, .slice Ao111 t1548.length co111, .slice Ao112 t1551.length co112, .int .i64 0, .int .i64 0, .int .i64 0]) ?_ 4 _ rfl; (with_reducible repeat (first | refine blk_drewN ?_ _ | refine blk_drew ?_ | refine blk_alloc ?_ _)); refine blk_put (cs := #[.bool t1546, .bool t1547, .slice Ao111 t1548.length co111, .slice none 0 0, .int .i64 0, .int .i64 0, .int .i64 0]) ?_ 3 _ rfl; (with_reducible repeat (first | refine blk_drewN ?_ _ | refine blk_drew ?_ | refine blk_alloc ?_ _)); refine blk_put (cs := #[.bool t1546, .bool t1547, .slice none 0 0, .slice none 0 0, .int .i64 0, .int .i64 0, .int .i64 0]) ?_ 2 _ rfl; (with_reducible repeat (first | refine blk_drewN ?_ _ | refine blk_drew ?_ | refine blk_alloc ?_ _)); refine blk_put (cs := #[.bool t1546, .bool false, .slice none 0 0, .slice none 0 0, .int .i64 0, .int .i64 0, .int .i64 0]) ?_ 1 _ rfl; (with_reducible repeat (first | refine blk_drewN ?_ _ | refine blk_drew ?_ | refine blk_alloc ?_ _)); refine blk_put (cs := #[.bool false, .bool false, .slice none 0 0, .slice none 0 0, .int .i64 0, .int .i64 0, .int .i64 0]) ?_ 0 _ rfl; exact pkK BK1561.out) hb); replace HB := bst HB hb; (try clear hb)))
           go_roundg k1
           case measure => have := HK1.out; omega
           case rel => exact ⟨(x4_1), (x5_1), (wrap64 (x6_1 + 1)), (t1530), (t1531), (t1532), (t1535), (t1538), (t1539), (t1540), (.slice Ao103 t1532.length co103), (.slice Ao104 t1535.length co104), rfx, rfx, rfx, H', ⟨by have := HK1.out; omega⟩, ⟨by (with_reducible repeat (first | apply Kd.Q_alloc | apply Kd.Q_drewN | apply Kd.Q_drew)); exact Kd.Q_mono HO1534.out (fun _ hk => hk.1.1.1.1.1.1)⟩, ⟨by (with_reducible repeat (first | apply Kd.R_alloc | apply Kd.R_drewN | apply Kd.R_drew)); exact Kd.R_mono HO1537.out (fun _ hk => hk.1.1.1.1.1.1)⟩, ⟨pkK BK1480.out⟩, ⟨pkW HB.out⟩⟩
          ·replace c95 := Bool.eq_false_iff.mpr c95
           subst c95
           replace H : (some false) = some r := by rw [if_neg (show ¬ (false = true) by decide)] at H; exact H
           exact absurd (Option.some.inj H) (by rw [HQ_.out]; simp)
         ·rw [if_neg c93] at H
          have c93b0 : (t1544 == t1560) = false := beq_eq_false_iff_ne.mpr c93
          have c93b1 : (t1544 != t1560) = true := bne_iff_ne.mpr c93
          exact absurd (Option.some.inj H) (by rw [HQ_.out]; simp)
        ·rw [if_neg c90] at H
         have c90b0 : ((Int.tmod t1482 5) == 3) = false := beq_eq_false_iff_ne.mpr c90
         have c90b1 : ((Int.tmod t1482 5) != 3) = true := bne_iff_ne.mpr c90
         replace H := Option.bind_eq_some_iff.mp H
         obtain ⟨⟨t1563, t1564, t1565, t1568, t1571, t1572, t1573, t1574⟩, A1160, H⟩ := H
         replace H : (if t1574 = 0 then (if x1481001_1 = true then (laws_FnAuto.j3 k1 l0 x4_1 (wrap64 (x5_1 + 1)) x6_1 t1574 x1481000_1 x1481001_1 x1481002_1 x1481003_1 x1481004_1 x1481005_1 x1481006_1 t1563 t1564 t1565 t1568 t1571 t1572 t1573) else (some false)) else (laws_FnAuto.j3 k1 l0 x4_1 x5_1 x6_1 t1574 x1481000_1 x1481001_1 x1481002_1 x1481003_1 x1481004_1 x1481005_1 x1481006_1 t1563 t1564 t1565 t1568 t1571 t1572 t1573)) = some r := H
         have A116 := am A1160
         clear A1160
         have HC117 := am H
         clear H
         go_upto_if 51 with (first | ((with_reducible refine gate_callee (f := 46) rfl ?_); refine goesL_ (some 37) rfl rfl Try.func46 (by kernel_rfl) rfl #[.slice A0 l0.length c0, .int .i64 (wrap64 (x6_1 + 50))] rfl mpx ?_; (with_reducible refine (laws_at.calls _ _ l0 (wrap64 (x6_1 + 50)) t1481 _ ?side1 ?side2 A8.out).mono ?_); (case side1 => exact pkC (Kd.C_below HR0.out HB.out)); (case side2 => exact HC0.out); rintro e w' ⟨rfl, nd, rfl⟩; refine ⟨_, rfl, ?_⟩; (try (rw [drewN_self wr]; generalize hq_ : World.drewN wr _ = wr; replace HO_1481002 : Aside0 (Kd.Q (Kd.int .i64) 3 wr w.heap.size (fun k_ => some k_ ≠ (u1481003 : Value).ownBlock) u1481002 x1481002_1) := ⟨by rw [← hq_]; exact (pkQ HO_1481002.out)⟩; replace HO_1481003 : Aside0 (Kd.R (Kd.int .i64) 3 wr w.heap.size (fun k_ => some k_ ≠ (u1481002 : Value).ownBlock) u1481003 x1481003_1) := ⟨by rw [← hq_]; exact (pkR HO_1481003.out)⟩; replace BK1480 : Aside0 (wr.heap[gb1480]? = some (.cells #[.bool x1481000_1, .bool x1481001_1, u1481002, u1481003, .int .i64 x1481004_1, .int .i64 x1481005_1, .int .i64 x1481006_1] 27 (0, 0))) := ⟨by rw [← hq_]; exact (pkK BK1480.out)⟩; replace HB : Aside0 (Below w.heap.size w wr) := ⟨by rw [← hq_]; exact (pkW HB.out)⟩; clear hq_))) | ((with_reducible refine gate_callee (f := 46) rfl ?_); refine goesL_ (some 42) rfl rfl Try.func46 (by kernel_rfl) rfl #[.slice A0 l0.length c0, .int .i64 (wrap64 (x6_1 + 1))] rfl mpx ?_; (with_reducible refine (laws_at.calls _ _ l0 (wrap64 (x6_1 + 1)) t1482 _ ?side1 ?side2 A9.out).mono ?_); (case side1 => exact pkC (Kd.C_below HR0.out HB.out)); (case side2 => exact HC0.out); rintro e w' ⟨rfl, nd, rfl⟩; refine ⟨_, rfl, ?_⟩; (try (rw [drewN_self wr]; generalize hq_ : World.drewN wr _ = wr; replace HO_1481002 : Aside0 (Kd.Q (Kd.int .i64) 3 wr w.heap.size (fun k_ => some k_ ≠ (u1481003 : Value).ownBlock) u1481002 x1481002_1) := ⟨by rw [← hq_]; exact (pkQ HO_1481002.out)⟩; replace HO_1481003 : Aside0 (Kd.R (Kd.int .i64) 3 wr w.heap.size (fun k_ => some k_ ≠ (u1481002 : Value).ownBlock) u1481003 x1481003_1) := ⟨by rw [← hq_]; exact (pkR HO_1481003.out)⟩; replace BK1480 : Aside0 (wr.heap[gb1480]? = some (.cells #[.bool x1481000_1, .bool x1481001_1, u1481002, u1481003, .int .i64 x1481004_1, .int .i64 x1481005_1, .int .i64 x1481006_1] 27 (0, 0))) := ⟨by rw [← hq_]; exact (pkK BK1480.out)⟩; replace HB : Aside0 (Below w.heap.size w wr) := ⟨by rw [← hq_]; exact (pkW HB.out)⟩; clear hq_)); obtain ⟨hcz118_0, hcz118_1, hcz118_2, hcz118_3, hcz118_4, hcz118_5, hcz118_6, hfz118_0, hfz118_1, hfz118_2, hfz118_3, hfz118_4, hfz118_5, hfz118_6⟩ := bk7 BK1480.out; obtain ⟨Ao119, co119, eo119, _⟩ := Kd.Q_slice HO_1481002.out; subst eo119; obtain ⟨Ao120, co120, eo120⟩ := Kd.R_slice HO_1481003.out; subst eo120) | ((with_reducible refine gate_callee (f := 29) rfl ?_); refine goesL_ (some 47) rfl rfl Try.func29 (by kernel_rfl) rfl #[.agg #[.bool x1481000_1, .bool x1481001_1, .slice Ao119 x1481002_1.length co119, .slice Ao120 x1481003_1.length co120, .int .i64 x1481004_1, .int .i64 x1481005_1, .int .i64 x1481006_1], .int .i64 (Int.tmod t1481 6)] rfl mpx ?_; (with_reducible refine (impl_Stand.calls k1 x1481000_1 x1481001_1 _ _ x1481002_1 _ _ x1481003_1 x1481004_1 x1481005_1 x1481006_1 (Int.tmod t1481 6) t1563 t1564 t1565 t1568 t1571 t1572 t1573 t1574 _ ?side1 ?side2 ?side3 ?side4 A116.out).mono ?_); (case side1 => repeat (first | exact (Kd.Q_reads' HO_1481002.out).2.2 | (with_reducible refine Kd.C_alloc ?_ _) | (with_reducible refine Kd.C_drewN ?_ _) | (with_reducible refine Kd.C_drew ?_))); (case side2 => exact (Kd.Q_reads' HO_1481002.out).2.1); (case side3 => exact pkC (Kd.R_reads' HO_1481003.out).2.2); (case side4 => exact (Kd.R_reads' HO_1481003.out).2.1); rintro e w121 ⟨v1566, v1569, rfl, ho0, ho1, hb⟩; refine ⟨_, rfl, ?_⟩; have HO1567 := am (Kd.R_lower (Kd.R_new' (Kd.R_new' ho0 (Kd.Q_lt (pkQ HO_1481002.out))) (Kd.R_lt (pkR HO_1481003.out))) (below_size (pkW HB.out))); have HO1570 := am (Kd.R_lower (Kd.R_new' (Kd.R_new' ho1 (Kd.Q_lt (pkQ HO_1481002.out))) (Kd.R_lt (pkR HO_1481003.out))) (below_size (pkW HB.out))); replace HO_1481002 := am (Kd.Q_mono (Kd.Q_told (Kd.Q_told (Kd.Q_old (pkQ HO_1481002.out) hb) (Kd.R_base ho0)) (Kd.R_base ho1)) (fun _ h_ => h_.1)); replace HO_1481003 := am (Kd.R_mono (Kd.R_told (Kd.R_told (Kd.R_old (pkR HO_1481003.out) hb) (Kd.R_base ho0)) (Kd.R_base ho1)) (fun _ h_ => h_.1)); replace BK1480 := bbk BK1480 hb; replace HB := bst HB hb; (try clear hb ho0 ho1)) | ((with_reducible refine gate_dst (N := 21) rfl ?_); (try (refine gate_guard (by rfl) ?_; dsimp only)); refine box_event ?hg (N := 21) ?hd (cs := #[.bool false, .bool false, .slice none 0 0, .slice none 0 0, .int .i64 0, .int .i64 0, .int .i64 0]) (t := 27) ?hr ?_; (case hd => rfl); (case hg => rfl); (case hr => first | (go_simp; done) | (go_simp; rfl)); intro gb1575 hg w122 hbox hb; replace HO_1481002 := am (Kd.Q_below (pkQ HO_1481002.out) hb); replace HO_1481003 := rbl HO_1481003 hb; replace HO1567 := rbl HO1567 hb; replace HO1570 := rbl HO1570 hb; have BK1575 := am (hbox); have GW1575 := am ((by rw [hg]; exact (below_size (pkW HB.out)) : w.heap.size ≤ gb1575)); have GE1575 := am ((by rw [hg]; exact (below_size (pkW HB.out)) : w.heap.size ≤ gb1575)); replace HB := bst HB hb; have NB1480_1575 := am ((by rw [hg]; exact Nat.ne_of_lt (blk_lt (g := gb1480) (o := .cells #[.bool x1481000_1, .bool x1481001_1, .slice Ao119 x1481002_1.length co119, .slice Ao120 x1481003_1.length co120, .int .i64 x1481004_1, .int .i64 x1481005_1, .int .i64 x1481006_1] 27 (0, 0)) (pkK BK1480.out)) : gb1480 ≠ gb1575)); have NB1575_1480 := am ((by rw [hg]; exact Nat.ne_of_gt (blk_lt (g := gb1480) (o := .cells #[.bool x1481000_1, .bool x1481001_1, .slice Ao119 x1481002_1.length co119, .slice Ao120 x1481003_1.length co120, .int .i64 x1481004_1, .int .i64 x1481005_1, .int .i64 x1481006_1] 27 (0, 0)) (pkK BK1480.out)) : gb1575 ≠ gb1480)); replace BK1480 := bbk BK1480 hb; clear hb hbox hg; have hnb123 := NB1575_1480.out; have hnc123 := NB1480_1575.out; obtain ⟨hcz124_0, hcz124_1, hcz124_2, hcz124_3, hcz124_4, hcz124_5, hcz124_6, hfz124_0, hfz124_1, hfz124_2, hfz124_3, hfz124_4, hfz124_5, hfz124_6⟩ := bk7 BK1575.out; obtain ⟨Ao125, co125, eo125⟩ := Kd.R_slice HO1567.out; subst eo125; obtain ⟨Ao126, co126, eo126⟩ := Kd.R_slice HO1570.out; subst eo126))
         (try simp only [Act.put, List.setIfInBounds_toArray, List.set_cons_zero, List.set_cons_succ])
         go_cut [5] (fun v5 wc => ∃ (kq : Nat) (x5_116 : Int), v5 = .int .i64 x5_116 ∧ Aside0 (laws_FnAuto.j3 kq l0 x4_1 x5_116 x6_1 t1574 x1481000_1 x1481001_1 x1481002_1 x1481003_1 x1481004_1 x1481005_1 x1481006_1 t1563 t1564 t1565 t1568 t1571 t1572 t1573 = some r) ∧ Aside0 (kq ≤ k1) ∧ Aside0 (Kd.Q (Kd.int .i64) 3 wc w.heap.size (fun k_ => some k_ ≠ ((.slice Ao120 x1481003_1.length co120) : Value).ownBlock ∧ some k_ ≠ ((.slice Ao125 t1565.length co125) : Value).ownBlock ∧ some k_ ≠ ((.slice Ao126 t1568.length co126) : Value).ownBlock) (.slice Ao119 x1481002_1.length co119) x1481002_1) ∧ Aside0 (Kd.R (Kd.int .i64) 3 wc w.heap.size (fun k_ => some k_ ≠ ((.slice Ao119 x1481002_1.length co119) : Value).ownBlock ∧ some k_ ≠ ((.slice Ao125 t1565.length co125) : Value).ownBlock ∧ some k_ ≠ ((.slice Ao126 t1568.length co126) : Value).ownBlock) (.slice Ao120 x1481003_1.length co120) x1481003_1) ∧ Aside0 (Kd.Q (Kd.int .i64) 3 wc w.heap.size (fun k_ => some k_ ≠ ((.slice Ao119 x1481002_1.length co119) : Value).ownBlock ∧ some k_ ≠ ((.slice Ao120 x1481003_1.length co120) : Value).ownBlock ∧ some k_ ≠ ((.slice Ao126 t1568.length co126) : Value).ownBlock) (.slice Ao125 t1565.length co125) t1565) ∧ Aside0 (Kd.R (Kd.int .i64) 3 wc w.heap.size (fun k_ => some k_ ≠ ((.slice Ao119 x1481002_1.length co119) : Value).ownBlock ∧ some k_ ≠ ((.slice Ao120 x1481003_1.length co120) : Value).ownBlock ∧ some k_ ≠ ((.slice Ao125 t1565.length co125) : Value).ownBlock) (.slice Ao126 t1568.length co126) t1568) ∧ Aside0 (wc.heap[gb1480]? = some (.cells #[.bool x1481000_1, .bool x1481001_1, (.slice Ao119 x1481002_1.length co119), (.slice Ao120 x1481003_1.length co120), .int .i64 x1481004_1, .int .i64 x1481005_1, .int .i64 x1481006_1] 27 (0, 0))) ∧ Aside0 (wc.heap[gb1575]? = some (.cells #[.bool t1563, .bool t1564, (.slice Ao125 t1565.length co125), (.slice Ao126 t1568.length co126), .int .i64 t1571, .int .i64 t1572, .int .i64 t1573] 27 (0, 0))) ∧ Aside0 (Below w.heap.size w wc))
         case first =>
          have H := HC117.out
          clear HC117
          by_cases c127 : t1574 = 0
          ·rw [if_pos c127] at H
           have c127b0 : (t1574 == 0) = true := beq_iff_eq.mpr c127
           have c127b1 : (t1574 != 0) = false := bne_eq_false_iff_eq.mpr c127
           clear c127
           (first | rw [c127b0] | (simp only [i64_w, i32_w]; rw [c127b0]) | skip)
           by_cases c128 : x1481001_1 = true
           ·subst c128
            replace H : (laws_FnAuto.j3 k1 l0 x4_1 (wrap64 (x5_1 + 1)) x6_1 t1574 x1481000_1 true x1481002_1 x1481003_1 x1481004_1 x1481005_1 x1481006_1 t1563 t1564 t1565 t1568 t1571 t1572 t1573) = some r := by rw [if_pos rfl] at H; exact H
            have H' := am H
            clear H
            have hnb129 := NB1480_1575.out
            have hnc129 := NB1575_1480.out
            obtain ⟨hcz130_0, hcz130_1, hcz130_2, hcz130_3, hcz130_4, hcz130_5, hcz130_6, hfz130_0, hfz130_1, hfz130_2, hfz130_3, hfz130_4, hfz130_5, hfz130_6⟩ := bk7 BK1480.out
            go_wp2
            go_meet
            case rel => exact ⟨_, (wrap64 (x5_1 + 1)), rfx, H', ⟨by have := HK1.out; first | omega | exact Nat.le_refl _⟩, ⟨by (with_reducible repeat (first | apply Kd.Q_alloc | apply Kd.Q_drewN | apply Kd.Q_drew)); exact Kd.Q_mono (Kd.Q_far (p := ⟨gb1575, 6, none⟩) (Kd.Q_far (p := ⟨gb1575, 5, none⟩) (Kd.Q_far (p := ⟨gb1575, 4, none⟩) (Kd.Q_far (p := ⟨gb1575, 3, none⟩) (Kd.Q_far (p := ⟨gb1575, 2, none⟩) (Kd.Q_far (p := ⟨gb1575, 1, none⟩) (Kd.Q_far (p := ⟨gb1575, 0, none⟩) (Kd.Q_types HO_1481002.out BK1575.out (by decide)) (fun _ hk => hk.2) (.bool t1563)) (fun _ hk => hk.2) (.bool t1564)) (fun _ hk => hk.2) (.slice Ao125 t1565.length co125)) (fun _ hk => hk.2) (.slice Ao126 t1568.length co126)) (fun _ hk => hk.2) (.int .i64 t1571)) (fun _ hk => hk.2) (.int .i64 t1572)) (fun _ hk => hk.2) (.int .i64 t1573)) (fun _ hk => ⟨hk.1.1.1, hk.1.1.2, hk.1.2⟩)⟩, ⟨by (with_reducible repeat (first | apply Kd.R_alloc | apply Kd.R_drewN | apply Kd.R_drew)); exact Kd.R_mono (Kd.R_far (p := ⟨gb1575, 6, none⟩) (Kd.R_far (p := ⟨gb1575, 5, none⟩) (Kd.R_far (p := ⟨gb1575, 4, none⟩) (Kd.R_far (p := ⟨gb1575, 3, none⟩) (Kd.R_far (p := ⟨gb1575, 2, none⟩) (Kd.R_far (p := ⟨gb1575, 1, none⟩) (Kd.R_far (p := ⟨gb1575, 0, none⟩) (Kd.R_types HO_1481003.out BK1575.out (by decide)) (fun _ hk => hk.2) (.bool t1563)) (fun _ hk => hk.2) (.bool t1564)) (fun _ hk => hk.2) (.slice Ao125 t1565.length co125)) (fun _ hk => hk.2) (.slice Ao126 t1568.length co126)) (fun _ hk => hk.2) (.int .i64 t1571)) (fun _ hk => hk.2) (.int .i64 t1572)) (fun _ hk => hk.2) (.int .i64 t1573)) (fun _ hk => ⟨hk.1.1.1, hk.1.1.2, hk.1.2⟩)⟩, ⟨Kd.Q_of_R (by (with_reducible repeat (first | apply Kd.R_alloc | apply Kd.R_drewN | apply Kd.R_drew)); exact Kd.R_mono (Kd.R_far (p := ⟨gb1575, 6, none⟩) (Kd.R_far (p := ⟨gb1575, 5, none⟩) (Kd.R_far (p := ⟨gb1575, 4, none⟩) (Kd.R_far (p := ⟨gb1575, 3, none⟩) (Kd.R_far (p := ⟨gb1575, 2, none⟩) (Kd.R_far (p := ⟨gb1575, 1, none⟩) (Kd.R_far (p := ⟨gb1575, 0, none⟩) (Kd.R_types HO1567.out BK1575.out (by decide)) (fun _ hk => hk.2) (.bool t1563)) (fun _ hk => hk.2) (.bool t1564)) (fun _ hk => hk.2) (.slice Ao125 t1565.length co125)) (fun _ hk => hk.2) (.slice Ao126 t1568.length co126)) (fun _ hk => hk.2) (.int .i64 t1571)) (fun _ hk => hk.2) (.int .i64 t1572)) (fun _ hk => hk.2) (.int .i64 t1573)) (fun _ hk => ⟨hk.1.1.2, hk.1.2, hk.1.1.1⟩))⟩, ⟨by (with_reducible repeat (first | apply Kd.R_alloc | apply Kd.R_drewN | apply Kd.R_drew)); exact Kd.R_mono (Kd.R_far (p := ⟨gb1575, 6, none⟩) (Kd.R_far (p := ⟨gb1575, 5, none⟩) (Kd.R_far (p := ⟨gb1575, 4, none⟩) (Kd.R_far (p := ⟨gb1575, 3, none⟩) (Kd.R_far (p := ⟨gb1575, 2, none⟩) (Kd.R_far (p := ⟨gb1575, 1, none⟩) (Kd.R_far (p := ⟨gb1575, 0, none⟩) (Kd.R_types HO1570.out BK1575.out (by decide)) (fun _ hk => hk.2) (.bool t1563)) (fun _ hk => hk.2) (.bool t1564)) (fun _ hk => hk.2) (.slice Ao125 t1565.length co125)) (fun _ hk => hk.2) (.slice Ao126 t1568.length co126)) (fun _ hk => hk.2) (.int .i64 t1571)) (fun _ hk => hk.2) (.int .i64 t1572)) (fun _ hk => hk.2) (.int .i64 t1573)) (fun _ hk => ⟨hk.1.1.2, hk.1.2, hk.1.1.1⟩)⟩, ⟨by (with_reducible repeat (first | refine blk_drewN ?_ _ | refine blk_drew ?_ | refine blk_alloc ?_ _)); refine blk_far ?_ NB1480_1575.out _; (with_reducible repeat (first | refine blk_drewN ?_ _ | refine blk_drew ?_ | refine blk_alloc ?_ _)); refine blk_far ?_ NB1480_1575.out _; (with_reducible repeat (first | refine blk_drewN ?_ _ | refine blk_drew ?_ | refine blk_alloc ?_ _)); refine blk_far ?_ NB1480_1575.out _; (with_reducible repeat (first | refine blk_drewN ?_ _ | refine blk_drew ?_ | refine blk_alloc ?_ _)); refine blk_far ?_ NB1480_1575.out _; (with_reducible repeat (first | refine blk_drewN ?_ _ | refine blk_drew ?_ | refine blk_alloc ?_ _)); refine blk_far ?_ NB1480_1575.out _; (with_reducible repeat (first | refine blk_drewN ?_ _ | refine blk_drew ?_ | refine blk_alloc ?_ _)); refine blk_far ?_ NB1480_1575.out _; (with_reducible repeat (first | refine blk_drewN ?_ _ | refine blk_drew ?_ | refine blk_alloc ?_ _)); refine blk_far ?_ NB1480_1575.out _; exact pkK BK1480.out⟩, ⟨by (with_reducible repeat (first | refine blk_drewN ?_ _ | refine blk_drew ?_ | refine blk_alloc ?_ _)); refine blk_put (cs := #[.bool t1563, .bool t1564, .slice Ao125 t1565.length co125, .slice Ao126 t1568.length co126, .int .i64 t1571, .int .i64 t1572, .int .i64 0]) ?_ 6 _ rfl; (with_reducible repeat (first | refine blk_drewN ?_ _ | refine blk_drew ?_ | refine blk_alloc ?_ _)); refine blk_put (cs := #[.bool t1563, .bool t1564, .slice Ao125 t1565.length co125, .slice Ao126 t1568.length co126, .int .i64 t1571, .int .i64 0, .int .i64 0]) ?_ 5 _ rfl; (with_reducible repeat (first | refine blk_drewN ?_ _ | refine blk_drew ?_ | refine blk_alloc ?_ _)); refine blk_put (cs := #[.bool t1563, .bool t1564, .slice Ao125 t1565.length co125, .slice Ao126 t1568.length co126, .int .i64 0, .int .i64 0, .int .i64 0]) ?_ 4 _ rfl; (with_reducible repeat (first | refine blk_drewN ?_ _ | refine blk_drew ?_ | refine blk_alloc ?_ _)); refine blk_put (cs := #[.bool t1563, .bool t1564, .slice Ao125 t1565.length co125, .slice none 0 0, .int .i64 0, .int .i64 0, .int .i64 0]) ?_ 3 _ rfl; (with_reducible repeat (first | refine blk_drewN ?_ _ | refine blk_drew ?_ | refine blk_alloc ?_ _)); refine blk_put (cs := #[.bool t1563, .bool t1564, .slice none 0 0, .slice none 0 0, .int .i64 0, .int .i64 0, .int .i64 0]) ?_ 2 _ rfl; (with_reducible repeat (first | refine blk_drewN ?_ _ | refine blk_drew ?_ | refine blk_alloc ?_ _)); refine blk_put (cs := #[.bool t1563, .bool false, .slice none 0 0, .slice none 0 0, .int .i64 0, .int .i64 0, .int .i64 0]) ?_ 1 _ rfl; (with_reducible repeat (first | refine blk_drewN ?_ _ | refine blk_drew ?_ | refine blk_alloc ?_ _)); refine blk_put (cs := #[.bool false, .bool false, .slice none 0 0, .slice none 0 0, .int .i64 0, .int .i64 0, .int .i64 0]) ?_ 0 _ rfl; exact pkK BK1575.out⟩, ⟨pkW HB.out⟩⟩
           ·replace c128 := Bool.eq_false_iff.mpr c128
            subst c128
            replace H : (some false) = some r := by rw [if_neg (show ¬ (false = true) by decide)] at H; exact H
            exact absurd (Option.some.inj H) (by rw [HQ_.out]; simp)
          ·rw [if_neg c127] at H
           have c127b0 : (t1574 == 0) = false := beq_eq_false_iff_ne.mpr c127
           have c127b1 : (t1574 != 0) = true := bne_iff_ne.mpr c127
           (first | rw [c127b0] | (simp only [i64_w, i32_w]; rw [c127b0]) | skip)
           have H' := am H
           clear H
           go_wp2
           go_meet
           case rel => exact ⟨_, (x5_1), rfx, H', ⟨by have := HK1.out; first | omega | exact Nat.le_refl _⟩, ⟨by (with_reducible repeat (first | apply Kd.Q_alloc | apply Kd.Q_drewN | apply Kd.Q_drew)); exact Kd.Q_mono (Kd.Q_far (p := ⟨gb1575, 6, none⟩) (Kd.Q_far (p := ⟨gb1575, 5, none⟩) (Kd.Q_far (p := ⟨gb1575, 4, none⟩) (Kd.Q_far (p := ⟨gb1575, 3, none⟩) (Kd.Q_far (p := ⟨gb1575, 2, none⟩) (Kd.Q_far (p := ⟨gb1575, 1, none⟩) (Kd.Q_far (p := ⟨gb1575, 0, none⟩) (Kd.Q_types HO_1481002.out BK1575.out (by decide)) (fun _ hk => hk.2) (.bool t1563)) (fun _ hk => hk.2) (.bool t1564)) (fun _ hk => hk.2) (.slice Ao125 t1565.length co125)) (fun _ hk => hk.2) (.slice Ao126 t1568.length co126)) (fun _ hk => hk.2) (.int .i64 t1571)) (fun _ hk => hk.2) (.int .i64 t1572)) (fun _ hk => hk.2) (.int .i64 t1573)) (fun _ hk => ⟨hk.1.1.1, hk.1.1.2, hk.1.2⟩)⟩, ⟨by (with_reducible repeat (first | apply Kd.R_alloc | apply Kd.R_drewN | apply Kd.R_drew)); exact Kd.R_mono (Kd.R_far (p := ⟨gb1575, 6, none⟩) (Kd.R_far (p := ⟨gb1575, 5, none⟩) (Kd.R_far (p := ⟨gb1575, 4, none⟩) (Kd.R_far (p := ⟨gb1575, 3, none⟩) (Kd.R_far (p := ⟨gb1575, 2, none⟩) (Kd.R_far (p := ⟨gb1575, 1, none⟩) (Kd.R_far (p := ⟨gb1575, 0, none⟩) (Kd.R_types HO_1481003.out BK1575.out (by decide)) (fun _ hk => hk.2) (.bool t1563)) (fun _ hk => hk.2) (.bool t1564)) (fun _ hk => hk.2) (.slice Ao125 t1565.length co125)) (fun _ hk => hk.2) (.slice Ao126 t1568.length co126)) (fun _ hk => hk.2) (.int .i64 t1571)) (fun _ hk => hk.2) (.int .i64 t1572)) (fun _ hk => hk.2) (.int .i64 t1573)) (fun _ hk => ⟨hk.1.1.1, hk.1.1.2, hk.1.2⟩)⟩, ⟨Kd.Q_of_R (by (with_reducible repeat (first | apply Kd.R_alloc | apply Kd.R_drewN | apply Kd.R_drew)); exact Kd.R_mono (Kd.R_far (p := ⟨gb1575, 6, none⟩) (Kd.R_far (p := ⟨gb1575, 5, none⟩) (Kd.R_far (p := ⟨gb1575, 4, none⟩) (Kd.R_far (p := ⟨gb1575, 3, none⟩) (Kd.R_far (p := ⟨gb1575, 2, none⟩) (Kd.R_far (p := ⟨gb1575, 1, none⟩) (Kd.R_far (p := ⟨gb1575, 0, none⟩) (Kd.R_types HO1567.out BK1575.out (by decide)) (fun _ hk => hk.2) (.bool t1563)) (fun _ hk => hk.2) (.bool t1564)) (fun _ hk => hk.2) (.slice Ao125 t1565.length co125)) (fun _ hk => hk.2) (.slice Ao126 t1568.length co126)) (fun _ hk => hk.2) (.int .i64 t1571)) (fun _ hk => hk.2) (.int .i64 t1572)) (fun _ hk => hk.2) (.int .i64 t1573)) (fun _ hk => ⟨hk.1.1.2, hk.1.2, hk.1.1.1⟩))⟩, ⟨by (with_reducible repeat (first | apply Kd.R_alloc | apply Kd.R_drewN | apply Kd.R_drew)); exact Kd.R_mono (Kd.R_far (p := ⟨gb1575, 6, none⟩) (Kd.R_far (p := ⟨gb1575, 5, none⟩) (Kd.R_far (p := ⟨gb1575, 4, none⟩) (Kd.R_far (p := ⟨gb1575, 3, none⟩) (Kd.R_far (p := ⟨gb1575, 2, none⟩) (Kd.R_far (p := ⟨gb1575, 1, none⟩) (Kd.R_far (p := ⟨gb1575, 0, none⟩) (Kd.R_types HO1570.out BK1575.out (by decide)) (fun _ hk => hk.2) (.bool t1563)) (fun _ hk => hk.2) (.bool t1564)) (fun _ hk => hk.2) (.slice Ao125 t1565.length co125)) (fun _ hk => hk.2) (.slice Ao126 t1568.length co126)) (fun _ hk => hk.2) (.int .i64 t1571)) (fun _ hk => hk.2) (.int .i64 t1572)) (fun _ hk => hk.2) (.int .i64 t1573)) (fun _ hk => ⟨hk.1.1.2, hk.1.2, hk.1.1.1⟩)⟩, ⟨by (with_reducible repeat (first | refine blk_drewN ?_ _ | refine blk_drew ?_ | refine blk_alloc ?_ _)); refine blk_far ?_ NB1480_1575.out _; (with_reducible repeat (first | refine blk_drewN ?_ _ | refine blk_drew ?_ | refine blk_alloc ?_ _)); refine blk_far ?_ NB1480_1575.out _; (with_reducible repeat (first | refine blk_drewN ?_ _ | refine blk_drew ?_ | refine blk_alloc ?_ _)); refine blk_far ?_ NB1480_1575.out _; (with_reducible repeat (first | refine blk_drewN ?_ _ | refine blk_drew ?_ | refine blk_alloc ?_ _)); refine blk_far ?_ NB1480_1575.out _; (with_reducible repeat (first | refine blk_drewN ?_ _ | refine blk_drew ?_ | refine blk_alloc ?_ _)); refine blk_far ?_ NB1480_1575.out _; (with_reducible repeat (first | refine blk_drewN ?_ _ | refine blk_drew ?_ | refine blk_alloc ?_ _)); refine blk_far ?_ NB1480_1575.out _; (with_reducible repeat (first | refine blk_drewN ?_ _ | refine blk_drew ?_ | refine blk_alloc ?_ _)); refine blk_far ?_ NB1480_1575.out _; exact pkK BK1480.out⟩, ⟨by (with_reducible repeat (first | refine blk_drewN ?_ _ | refine blk_drew ?_ | refine blk_alloc ?_ _)); refine blk_put (cs := #[.bool t1563, .bool t1564, .slice Ao125 t1565.length co125, .slice Ao126 t1568.length co126, .int .i64 t1571, .int .i64 t1572, .int .i64 0]) ?_ 6 _ rfl; (with_reducible repeat (first | refine blk_drewN ?_ _ | refine blk_drew ?_ | refine blk_alloc ?_ _)); refine blk_put (cs := #[.bool t1563, .bool t1564, .slice Ao125 t1565.length co125, .slice Ao126 t1568.length co126, .int .i64 t1571, .int .i64 0, .int .i64 0]) ?_ 5 _ rfl; (with_reducible repeat (first | refine blk_drewN ?_ _ | refine blk_drew ?_ | refine blk_alloc ?_ _)); refine blk_put (cs := #[.bool t1563, .bool t1564, .slice Ao125 t1565.length co125, .slice Ao126 t1568.length co126, .int .i64 0, .int .i64 0, .int .i64 0]) ?_ 4 _ rfl; (with_reducible repeat (first | refine blk_drewN ?_ _ | refine blk_drew ?_ | refine blk_alloc ?_ _)); refine blk_put (cs := #[.bool t1563, .bool t1564, .slice Ao125 t1565.length co125, .slice none 0 0, .int .i64 0, .int .i64 0, .int .i64 0]) ?_ 3 _ rfl; (with_reducible repeat (first | refine blk_drewN ?_ _ | refine blk_drew ?_ | refine blk_alloc ?_ _)); refine blk_put (cs := #[.bool t1563, .bool t1564, .slice none 0 0, .slice none 0 0, .int .i64 0, .int .i64 0, .int .i64 0]) ?_ 2 _ rfl; (with_reducible repeat (first | refine blk_drewN ?_ _ | refine blk_drew ?_ | refine blk_alloc ?_ _)); refine blk_put (cs := #[.bool t1563, .bool false, .slice none 0 0, .slice none 0 0, .int .i64 0, .int .i64 0, .int .i64 0]) ?_ 1 _ rfl; (with_reducible repeat (first | refine blk_drewN ?_ _ | refine blk_drew ?_ | refine blk_alloc ?_ _)); refine blk_put (cs := #[.bool false, .bool false, .slice none 0 0, .slice none 0 0, .int .i64 0, .int .i64 0, .int .i64 0]) ?_ 0 _ rfl; exact pkK BK1575.out⟩, ⟨pkW HB.out⟩⟩
         case rest =>
          clear HC117
          try clear c1
          try clear c2
          try clear p2
          try clear c3
          try clear c4
          try clear c5
          try clear c6
          try clear p6
          try clear c7
          try clear c7b0
          try clear c8
          try clear c9
          try clear c10
          try clear c10b0
          try clear c10b1
          try clear c12
          try clear c15
          try clear c18
          try clear c22
          try clear c22b0
          try clear c22b1
          try clear c23
          try clear c24
          try clear c24b0
          try clear c24b1
          try clear c25
          try clear c29
          try clear c31
          try clear c32
          try clear c34
          try clear c35
          try clear c39
          try clear c39b0
          try clear c39b1
          try clear c40
          try clear c41
          try clear c42
          try clear c45
          try clear c46
          try clear c47
          try clear c51
          try clear c51b0
          try clear c51b1
          try clear c52
          try clear c54
          try clear c56
          try clear c57
          try clear c61
          try clear c61b0
          try clear c61b1
          try clear c63
          try clear c63b0
          try clear c63b1
          try clear p64
          try clear c65
          try clear c71
          try clear c78
          try clear c84
          try clear c90
          try clear c90b0
          try clear c90b1
          try clear c93
          try clear c93b0
          try clear c93b1
          try clear c95
          try clear c101
          try clear c108
          try clear c109
          try clear c123
          try clear c127
          try clear c127b0
          try clear c127b1
          try clear c128
          try clear c129
          try clear hcz102_0
          try clear hcz102_1
          try clear hcz102_2
          try clear hcz102_3
          try clear hcz102_4
          try clear hcz102_5
          try clear hcz102_6
          try clear hcz105_0
          try clear hcz105_1
          try clear hcz105_2
          try clear hcz105_3
          try clear hcz105_4
          try clear hcz105_5
          try clear hcz105_6
          try clear hcz110_0
          try clear hcz110_1
          try clear hcz110_2
          try clear hcz110_3
          try clear hcz110_4
          try clear hcz110_5
          try clear hcz110_6
          try clear hcz113_0
          try clear hcz113_1
          try clear hcz113_2
          try clear hcz113_3
          try clear hcz113_4
          try clear hcz113_5
          try clear hcz113_6
          try clear hcz114_0
          try clear hcz114_1
          try clear hcz114_2
          try clear hcz114_3
          try clear hcz114_4
          try clear hcz114_5
          try clear hcz114_6
          try clear hcz118_0
          try clear hcz118_1
          try clear hcz118_2
          try clear hcz118_3
          try clear hcz118_4
          try clear hcz118_5
          try clear hcz118_6
          try clear hcz124_0
          try clear hcz124_1
          try clear hcz124_2
          try clear hcz124_3
          try clear hcz124_4
          try clear hcz124_5
          try clear hcz124_6
          try clear hcz130_0
          try clear hcz130_1
          try clear hcz130_2
          try clear hcz130_3
          try clear hcz130_4
          try clear hcz130_5
          try clear hcz130_6
          try clear hcz13_0
          try clear hcz13_1
          try clear hcz13_2
          try clear hcz13_3
          try clear hcz13_4
          try clear hcz13_5
          try clear hcz13_6
          try clear hcz19_0
          try clear hcz19_1
          try clear hcz19_2
          try clear hcz19_3
          try clear hcz19_4
          try clear hcz19_5
          try clear hcz19_6
          try clear hcz26_0
          try clear hcz26_1
          try clear hcz26_2
          try clear hcz26_3
          try clear hcz26_4
          try clear hcz26_5
          try clear hcz26_6
          try clear hcz30_0
          try clear hcz30_1
          try clear hcz30_2
          try clear hcz30_3
          try clear hcz30_4
          try clear hcz30_5
          try clear hcz30_6
          try clear hcz36_0
          try clear hcz36_1
          try clear hcz36_2
          try clear hcz36_3
          try clear hcz36_4
          try clear hcz36_5
          try clear hcz36_6
          try clear hcz37_0
          try clear hcz37_1
          try clear hcz37_2
          try clear hcz37_3
          try clear hcz37_4
          try clear hcz37_5
          try clear hcz37_6
          try clear hcz42_0
          try clear hcz42_1
          try clear hcz42_2
          try clear hcz42_3
          try clear hcz42_4
          try clear hcz42_5
          try clear hcz42_6
          try clear hcz48_0
          try clear hcz48_1
          try clear hcz48_2
          try clear hcz48_3
          try clear hcz48_4
          try clear hcz48_5
          try clear hcz48_6
          try clear hcz53_0
          try clear hcz53_1
          try clear hcz53_2
          try clear hcz53_3
          try clear hcz53_4
          try clear hcz53_5
          try clear hcz53_6
          try clear hcz58_0
          try clear hcz58_1
          try clear hcz58_2
          try clear hcz58_3
          try clear hcz58_4
          try clear hcz58_5
          try clear hcz58_6
          try clear hcz59_0
          try clear hcz59_1
          try clear hcz59_2
          try clear hcz59_3
          try clear hcz59_4
          try clear hcz59_5
          try clear hcz59_6
          try clear hcz66_0
          try clear hcz66_1
          try clear hcz66_2
          try clear hcz66_3
          try clear hcz66_4
          try clear hcz66_5
          try clear hcz66_6
          try clear hcz6_0
          try clear hcz6_1
          try clear hcz6_2
          try clear hcz6_3
          try clear hcz6_4
          try clear hcz6_5
          try clear hcz6_6
          try clear hcz72_0
          try clear hcz72_1
          try clear hcz72_2
          try clear hcz72_3
          try clear hcz72_4
          try clear hcz72_5
          try clear hcz72_6
          try clear hcz75_0
          try clear hcz75_1
          try clear hcz75_2
          try clear hcz75_3
          try clear hcz75_4
          try clear hcz75_5
          try clear hcz75_6
          try clear hcz79_0
          try clear hcz79_1
          try clear hcz79_2
          try clear hcz79_3
          try clear hcz79_4
          try clear hcz79_5
          try clear hcz79_6
          try clear hcz85_0
          try clear hcz85_1
          try clear hcz85_2
          try clear hcz85_3
          try clear hcz85_4
          try clear hcz85_5
          try clear hcz85_6
          try clear hcz88_0
          try clear hcz88_1
          try clear hcz88_2
          try clear hcz88_3
          try clear hcz88_4
          try clear hcz88_5
          try clear hcz88_6
          try clear hcz96_0
          try clear hcz96_1
          try clear hcz96_2
          try clear hcz96_3
          try clear hcz96_4
          try clear hcz96_5
          try clear hcz96_6
          try clear hfz102_0
          try clear hfz102_1
          try clear hfz102_2
          try clear hfz102_3
          try clear hfz102_4
          try clear hfz102_5
          try clear hfz102_6
          try clear hfz105_0
          try clear hfz105_1
          try clear hfz105_2
          try clear hfz105_3
          try clear hfz105_4
          try clear hfz105_5
          try clear hfz105_6
          try clear hfz110_0
          try clear hfz110_1
          try clear hfz110_2
          try clear hfz110_3
          try clear hfz110_4
          try clear hfz110_5
          try clear hfz110_6
          try clear hfz113_0
          try clear hfz113_1
          try clear hfz113_2
          try clear hfz113_3
          try clear hfz113_4
          try clear hfz113_5
          try clear hfz113_6
          try clear hfz114_0
          try clear hfz114_1
          try clear hfz114_2
          try clear hfz114_3
          try clear hfz114_4
          try clear hfz114_5
          try clear hfz114_6
          try clear hfz118_0
          try clear hfz118_1
          try clear hfz118_2
          try clear hfz118_3
          try clear hfz118_4
          try clear hfz118_5
          try clear hfz118_6
          try clear hfz124_0
          try clear hfz124_1
          try clear hfz124_2
          try clear hfz124_3
          try clear hfz124_4
          try clear hfz124_5
          try clear hfz124_6
          try clear hfz130_0
          try clear hfz130_1
          try clear hfz130_2
          try clear hfz130_3
          try clear hfz130_4
          try clear hfz130_5
          try clear hfz130_6
          try clear hfz13_0
          try clear hfz13_1
          try clear hfz13_2
          try clear hfz13_3
          try clear hfz13_4
          try clear hfz13_5
          try clear hfz13_6
          try clear hfz19_0
          try clear hfz19_1
          try clear hfz19_2
          try clear hfz19_3
          try clear hfz19_4
          try clear hfz19_5
          try clear hfz19_6
          try clear hfz26_0
          try clear hfz26_1
          try clear hfz26_2
          try clear hfz26_3
          try clear hfz26_4
          try clear hfz26_5
          try clear hfz26_6
          try clear hfz30_0
          try clear hfz30_1
          try clear hfz30_2
          try clear hfz30_3
          try clear hfz30_4
          try clear hfz30_5
          try clear hfz30_6
          try clear hfz36_0
          try clear hfz36_1
          try clear hfz36_2
          try clear hfz36_3
          try clear hfz36_4
          try clear hfz36_5
          try clear hfz36_6
          try clear hfz37_0
          try clear hfz37_1
          try clear hfz37_2
          try clear hfz37_3
          try clear hfz37_4
          try clear hfz37_5
          try clear hfz37_6
          try clear hfz42_0
          try clear hfz42_1
          try clear hfz42_2
          try clear hfz42_3
          try clear hfz42_4
          try clear hfz42_5
          try clear hfz42_6
          try clear hfz48_0
          try clear hfz48_1
          try clear hfz48_2
          try clear hfz48_3
          try clear hfz48_4
          try clear hfz48_5
          try clear hfz48_6
          try clear hfz53_0
          try clear hfz53_1
          try clear hfz53_2
          try clear hfz53_3
          try clear hfz53_4
          try clear hfz53_5
          try clear hfz53_6
          try clear hfz58_0
          try clear hfz58_1
          try clear hfz58_2
          try clear hfz58_3
          try clear hfz58_4
          try clear hfz58_5
          try clear hfz58_6
          try clear hfz59_0
          try clear hfz59_1
          try clear hfz59_2
          try clear hfz59_3
          try clear hfz59_4
          try clear hfz59_5
          try clear hfz59_6
          try clear hfz66_0
          try clear hfz66_1
          try clear hfz66_2
          try clear hfz66_3
          try clear hfz66_4
          try clear hfz66_5
          try clear hfz66_6
          try clear hfz6_0
          try clear hfz6_1
          try clear hfz6_2
          try clear hfz6_3
          try clear hfz6_4
          try clear hfz6_5
          try clear hfz6_6
          try clear hfz72_0
          try clear hfz72_1
          try clear hfz72_2
          try clear hfz72_3
          try clear hfz72_4
          try clear hfz72_5
          try clear hfz72_6
          try clear hfz75_0
          try clear hfz75_1
          try clear hfz75_2
          try clear hfz75_3
          try clear hfz75_4
          try clear hfz75_5
          try clear hfz75_6
          try clear hfz79_0
          try clear hfz79_1
          try clear hfz79_2
          try clear hfz79_3
          try clear hfz79_4
          try clear hfz79_5
          try clear hfz79_6
          try clear hfz85_0
          try clear hfz85_1
          try clear hfz85_2
          try clear hfz85_3
          try clear hfz85_4
          try clear hfz85_5
          try clear hfz85_6
          try clear hfz88_0
          try clear hfz88_1
          try clear hfz88_2
          try clear hfz88_3
          try clear hfz88_4
          try clear hfz88_5
          try clear hfz88_6
          try clear hfz96_0
          try clear hfz96_1
          try clear hfz96_2
          try clear hfz96_3
          try clear hfz96_4
          try clear hfz96_5
          try clear hfz96_6
          try clear p2
          try clear p6
          obtain ⟨kq, x5_116, rfl, HA, HJ116, HO_1481002, HO_1481003, HO_1576002, HO_1576003, BK1480, BK1575, HB⟩ := hcut
          cases kq with
          | zero => exact absurd HA.out (by simp [laws_FnAuto.j3])
          | succ kj116 =>
           have H := HA.out
           clear HA
           simp only [laws_FnAuto.j3] at H
           have HC131 := am H
           clear H
           go_upto_region 15 with (fail)
           go_cut [62] (fun v62 wc => ∃ (kq : Nat) (x62_130 : Bool), v62 = .bool x62_130 ∧ Aside0 (laws_FnAuto.j4 kq l0 x4_1 x5_116 x6_1 x62_130 t1563 t1564 t1565 t1568 t1571 t1572 t1573 = some r) ∧ Aside0 (kq ≤ kj116) ∧ Aside0 (Kd.Q (Kd.int .i64) 3 wc w.heap.size (fun k_ => some k_ ≠ ((.slice Ao120 x1481003_1.length co120) : Value).ownBlock ∧ some k_ ≠ ((.slice Ao125 t1565.length co125) : Value).ownBlock ∧ some k_ ≠ ((.slice Ao126 t1568.length co126) : Value).ownBlock) (.slice Ao119 x1481002_1.length co119) x1481002_1) ∧ Aside0 (Kd.R (Kd.int .i64) 3 wc w.heap.size (fun k_ => some k_ ≠ ((.slice Ao119 x1481002_1.length co119) : Value).ownBlock ∧ some k_ ≠ ((.slice Ao125 t1565.length co125) : Value).ownBlock ∧ some k_ ≠ ((.slice Ao126 t1568.length co126) : Value).ownBlock) (.slice Ao120 x1481003_1.length co120) x1481003_1) ∧ Aside0 (Kd.Q (Kd.int .i64) 3 wc w.heap.size (fun k_ => some k_ ≠ ((.slice Ao119 x1481002_1.length co119) : Value).ownBlock ∧ some k_ ≠ ((.slice Ao120 x1481003_1.length co120) : Value).ownBlock ∧ some k_ ≠ ((.slice Ao126 t1568.length co126) : Value).ownBlock) (.slice Ao125 t1565.length co125) t1565) ∧ Aside0 (Kd.R (Kd.int .i64) 3 wc w.heap.size (fun k_ => some k_ ≠ ((.slice Ao119 x1481002_1.length co119) : Value).ownBlock ∧ some k_ ≠ ((.slice Ao120 x1481003_1.length co120) : Value).ownBlock ∧ some k_ ≠ ((.slice Ao125 t1565.length co125) : Value).ownBlock) (.slice Ao126 t1568.length co126) t1568) ∧ Aside0 (wc.heap[gb1480]? = some (.cells #[.bool x1481000_1, .bool x1481001_1, (.slice Ao119 x1481002_1.length co119), (.slice Ao120 x1481003_1.length co120), .int .i64 x1481004_1, .int .i64 x1481005_1, .int .i64 x1481006_1] 27 (0, 0))) ∧ Aside0 (wc.heap[gb1575]? = some (.cells #[.bool t1563, .bool t1564, (.slice Ao125 t1565.length co125), (.slice Ao126 t1568.length co126), .int .i64 t1571, .int .i64 t1572, .int .i64 t1573] 27 (0, 0))) ∧ Aside0 (Below w.heap.size w wc))
           case first =>
            have H := HC131.out
            clear HC131
            by_cases c132 : t1574 = 4
            ·rw [if_pos c132] at H
             have c132b0 : (t1574 == 4) = true := beq_iff_eq.mpr c132
             have c132b1 : (t1574 != 4) = false := bne_eq_false_iff_eq.mpr c132
             clear c132
             (first | rw [c132b0] | (simp only [i64_w, i32_w]; rw [c132b0]) | skip)
             have H' := am H
             clear H
             have hnb133 := NB1480_1575.out
             have hnc133 := NB1575_1480.out
             obtain ⟨hcz134_0, hcz134_1, hcz134_2, hcz134_3, hcz134_4, hcz134_5, hcz134_6, hfz134_0, hfz134_1, hfz134_2, hfz134_3, hfz134_4, hfz134_5, hfz134_6⟩ := bk7 BK1480.out
             go_wp2
             go_meet
             case rel => exact ⟨_, (x1481001_1), rfx, H', ⟨by have := HK1.out; have := HJ116.out; first | omega | exact Nat.le_refl _⟩, ⟨pkQ HO_1481002.out⟩, ⟨pkR HO_1481003.out⟩, ⟨pkQ HO_1576002.out⟩, ⟨pkR HO_1576003.out⟩, ⟨pkK BK1480.out⟩, ⟨pkK BK1575.out⟩, ⟨pkW HB.out⟩⟩
            ·rw [if_neg c132] at H
             have c132b0 : (t1574 == 4) = false := beq_eq_false_iff_ne.mpr c132
             have c132b1 : (t1574 != 4) = true := bne_iff_ne.mpr c132
             (first | rw [c132b0] | (simp only [i64_w, i32_w]; rw [c132b0]) | skip)
             have H' := am H
             clear H
             go_wp2
             go_meet
             case rel => exact ⟨_, (false), rfx, H', ⟨by have := HK1.out; have := HJ116.out; first | omega | exact Nat.le_refl _⟩, ⟨pkQ HO_1481002.out⟩, ⟨pkR HO_1481003.out⟩, ⟨pkQ HO_1576002.out⟩, ⟨pkR HO_1576003.out⟩, ⟨pkK BK1480.out⟩, ⟨pkK BK1575.out⟩, ⟨pkW HB.out⟩⟩
           case rest =>
            clear HC131
            try clear c1
            try clear c2
            try clear p2
            try clear c3
            try clear c4
            try clear c5
            try clear c6
            try clear p6
            try clear c7
            try clear c7b0
            try clear c8
            try clear c9
            try clear c10
            try clear c10b0
            try clear c10b1
            try clear c12
            try clear c13
            try clear c15
            try clear c18
            try clear c22
            try clear c22b0
            try clear c22b1
            try clear c23
            try clear c24
            try clear c24b0
            try clear c24b1
            try clear c25
            try clear c29
            try clear c31
            try clear c32
            try clear c34
            try clear c35
            try clear c39
            try clear c39b0
            try clear c39b1
            try clear c40
            try clear c41
            try clear c42
            try clear c45
            try clear c46
            try clear c47
            try clear c51
            try clear c51b0
            try clear c51b1
            try clear c52
            try clear c54
            try clear c56
            try clear c57
            try clear c61
            try clear c61b0
            try clear c61b1
            try clear c63
            try clear c63b0
            try clear c63b1
            try clear p64
            try clear c65
            try clear c71
            try clear c78
            try clear c84
            try clear c90
            try clear c90b0
            try clear c90b1
            try clear c93
            try clear c93b0
            try clear c93b1
            try clear c95
            try clear c101
            try clear c108
            try clear c109
            try clear c123
            try clear c127
            try clear c127b0
            try clear c127b1
            try clear c128
            try clear c129
            try clear c132
            try clear c132b0
            try clear c132b1
            try clear c133
            try clear hcz102_0
            try clear hcz102_1
            try clear hcz102_2
            try clear hcz102_3
            try clear hcz102_4
            try clear hcz102_5
            try clear hcz102_6
            try clear hcz105_0
            try clear hcz105_1
            try clear hcz105_2
            try clear hcz105_3
            try clear hcz105_4
            try clear hcz105_5
            try clear hcz105_6
            try clear hcz110_0
            try clear hcz110_1
            try clear hcz110_2
            try clear hcz110_3
            try clear hcz110_4
            try clear hcz110_5
            try clear hcz110_6
            try clear hcz113_0
            try clear hcz113_1
            try clear hcz113_2
            try clear hcz113_3
            try clear hcz113_4
            try clear hcz113_5
            try clear hcz113_6
            try clear hcz114_0
            try clear hcz114_1
            try clear hcz114_2
            try clear hcz114_3
            try clear hcz114_4
            try clear hcz114_5
            try clear hcz114_6
            try clear hcz118_0
            try clear hcz118_1
            try clear hcz118_2
            try clear hcz118_3
            try clear hcz118_4
            try clear hcz118_5
            try clear hcz118_6
            try clear hcz124_0
            try clear hcz124_1
            try clear hcz124_2
            try clear hcz124_3
            try clear hcz124_4
            try clear hcz124_5
            try clear hcz124_6
            try clear hcz130_0
            try clear hcz130_1
            try clear hcz130_2
            try clear hcz130_3
            try clear hcz130_4
            try clear hcz130_5
            try clear hcz130_6
            try clear hcz134_0
            try clear hcz134_1
            try clear hcz134_2
            try clear hcz134_3
            try clear hcz134_4
            try clear hcz134_5
            try clear hcz134_6
            try clear hcz13_0
            try clear hcz13_1
            try clear hcz13_2
            try clear hcz13_3
            try clear hcz13_4
            try clear hcz13_5
            try clear hcz13_6
            try clear hcz19_0
            try clear hcz19_1
            try clear hcz19_2
            try clear hcz19_3
            try clear hcz19_4
            try clear hcz19_5
            try clear hcz19_6
            try clear hcz26_0
            try clear hcz26_1
            try clear hcz26_2
            try clear hcz26_3
            try clear hcz26_4
            try clear hcz26_5
            try clear hcz26_6
            try clear hcz30_0
            try clear hcz30_1
            try clear hcz30_2
            try clear hcz30_3
            try clear hcz30_4
            try clear hcz30_5
            try clear hcz30_6
            try clear hcz36_0
            try clear hcz36_1
            try clear hcz36_2
            try clear hcz36_3
            try clear hcz36_4
            try clear hcz36_5
            try clear hcz36_6
            try clear hcz37_0
            try clear hcz37_1
            try clear hcz37_2
            try clear hcz37_3
            try clear hcz37_4
            try clear hcz37_5
            try clear hcz37_6
            try clear hcz42_0
            try clear hcz42_1
            try clear hcz42_2
            try clear hcz42_3
            try clear hcz42_4
            try clear hcz42_5
            try clear hcz42_6
            try clear hcz48_0
            try clear hcz48_1
            try clear hcz48_2
            try clear hcz48_3
            try clear hcz48_4
            try clear hcz48_5
            try clear hcz48_6
            try clear hcz53_0
            try clear hcz53_1
            try clear hcz53_2
            try clear hcz53_3
            try clear hcz53_4
            try clear hcz53_5
            try clear hcz53_6
            try clear hcz58_0
            try clear hcz58_1
            try clear hcz58_2
            try clear hcz58_3
            try clear hcz58_4
            try clear hcz58_5
            try clear hcz58_6
            try clear hcz59_0
            try clear hcz59_1
            try clear hcz59_2
            try clear hcz59_3
            try clear hcz59_4
            try clear hcz59_5
            try clear hcz59_6
            try clear hcz66_0
            try clear hcz66_1
            try clear hcz66_2
            try clear hcz66_3
            try clear hcz66_4
            try clear hcz66_5
            try clear hcz66_6
            try clear hcz6_0
            try clear hcz6_1
            try clear hcz6_2
            try clear hcz6_3
            try clear hcz6_4
            try clear hcz6_5
            try clear hcz6_6
            try clear hcz72_0
            try clear hcz72_1
            try clear hcz72_2
            try clear hcz72_3
            try clear hcz72_4
            try clear hcz72_5
            try clear hcz72_6
            try clear hcz75_0
            try clear hcz75_1
            try clear hcz75_2
            try clear hcz75_3
            try clear hcz75_4
            try clear hcz75_5
            try clear hcz75_6
            try clear hcz79_0
            try clear hcz79_1
            try clear hcz79_2
            try clear hcz79_3
            try clear hcz79_4
            try clear hcz79_5
            try clear hcz79_6
            try clear hcz85_0
            try clear hcz85_1
            try clear hcz85_2
            try clear hcz85_3
            try clear hcz85_4
            try clear hcz85_5
            try clear hcz85_6
            try clear hcz88_0
            try clear hcz88_1
            try clear hcz88_2
            try clear hcz88_3
            try clear hcz88_4
            try clear hcz88_5
            try clear hcz88_6
            try clear hcz96_0
            try clear hcz96_1
            try clear hcz96_2
            try clear hcz96_3
            try clear hcz96_4
            try clear hcz96_5
            try clear hcz96_6
            try clear hfz102_0
            try clear hfz102_1
            try clear hfz102_2
            try clear hfz102_3
            try clear hfz102_4
            try clear hfz102_5
            try clear hfz102_6
            try clear hfz105_0
            try clear hfz105_1
            try clear hfz105_2
            try clear hfz105_3
            try clear hfz105_4
            try clear hfz105_5
            try clear hfz105_6
            try clear hfz110_0
            try clear hfz110_1
            try clear hfz110_2
            try clear hfz110_3
            try clear hfz110_4
            try clear hfz110_5
            try clear hfz110_6
            try clear hfz113_0
            try clear hfz113_1
            try clear hfz113_2
            try clear hfz113_3
            try clear hfz113_4
            try clear hfz113_5
            try clear hfz113_6
            try clear hfz114_0
            try clear hfz114_1
            try clear hfz114_2
            try clear hfz114_3
            try clear hfz114_4
            try clear hfz114_5
            try clear hfz114_6
            try clear hfz118_0
            try clear hfz118_1
            try clear hfz118_2
            try clear hfz118_3
            try clear hfz118_4
            try clear hfz118_5
            try clear hfz118_6
            try clear hfz124_0
            try clear hfz124_1
            try clear hfz124_2
            try clear hfz124_3
            try clear hfz124_4
            try clear hfz124_5
            try clear hfz124_6
            try clear hfz130_0
            try clear hfz130_1
            try clear hfz130_2
            try clear hfz130_3
            try clear hfz130_4
            try clear hfz130_5
            try clear hfz130_6
            try clear hfz134_0
            try clear hfz134_1
            try clear hfz134_2
            try clear hfz134_3
            try clear hfz134_4
            try clear hfz134_5
            try clear hfz134_6
            try clear hfz13_0
            try clear hfz13_1
            try clear hfz13_2
            try clear hfz13_3
            try clear hfz13_4
            try clear hfz13_5
            try clear hfz13_6
            try clear hfz19_0
            try clear hfz19_1
            try clear hfz19_2
            try clear hfz19_3
            try clear hfz19_4
            try clear hfz19_5
            try clear hfz19_6
            try clear hfz26_0
            try clear hfz26_1
            try clear hfz26_2
            try clear hfz26_3
            try clear hfz26_4
            try clear hfz26_5
            try clear hfz26_6
            try clear hfz30_0
            try clear hfz30_1
            try clear hfz30_2
            try clear hfz30_3
            try clear hfz30_4
            try clear hfz30_5
            try clear hfz30_6
            try clear hfz36_0
            try clear hfz36_1
            try clear hfz36_2
            try clear hfz36_3
            try clear hfz36_4
            try clear hfz36_5
            try clear hfz36_6
            try clear hfz37_0
            try clear hfz37_1
            try clear hfz37_2
            try clear hfz37_3
            try clear hfz37_4
            try clear hfz37_5
            try clear hfz37_6
            try clear hfz42_0
            try clear hfz42_1
            try clear hfz42_2
            try clear hfz42_3
            try clear hfz42_4
            try clear hfz42_5
            try clear hfz42_6
            try clear hfz48_0
            try clear hfz48_1
            try clear hfz48_2
            try clear hfz48_3
            try clear hfz48_4
            try clear hfz48_5
            try clear hfz48_6
            try clear hfz53_0
            try clear hfz53_1
            try clear hfz53_2
            try clear hfz53_3
            try clear hfz53_4
            try clear hfz53_5
            try clear hfz53_6
            try clear hfz58_0
            try clear hfz58_1
            try clear hfz58_2
            try clear hfz58_3
            try clear hfz58_4
            try clear hfz58_5
            try clear hfz58_6
            try clear hfz59_0
            try clear hfz59_1
            try clear hfz59_2
            try clear hfz59_3
            try clear hfz59_4
            try clear hfz59_5
            try clear hfz59_6
            try clear hfz66_0
            try clear hfz66_1
            try clear hfz66_2
            try clear hfz66_3
            try clear hfz66_4
            try clear hfz66_5
            try clear hfz66_6
            try clear hfz6_0
            try clear hfz6_1
            try clear hfz6_2
            try clear hfz6_3
            try clear hfz6_4
            try clear hfz6_5
            try clear hfz6_6
            try clear hfz72_0
            try clear hfz72_1
            try clear hfz72_2
            try clear hfz72_3
            try clear hfz72_4
            try clear hfz72_5
            try clear hfz72_6
            try clear hfz75_0
            try clear hfz75_1
            try clear hfz75_2
            try clear hfz75_3
            try clear hfz75_4
            try clear hfz75_5
            try clear hfz75_6
            try clear hfz79_0
            try clear hfz79_1
            try clear hfz79_2
            try clear hfz79_3
            try clear hfz79_4
            try clear hfz79_5
            try clear hfz79_6
            try clear hfz85_0
            try clear hfz85_1
            try clear hfz85_2
            try clear hfz85_3
            try clear hfz85_4
            try clear hfz85_5
            try clear hfz85_6
            try clear hfz88_0
            try clear hfz88_1
            try clear hfz88_2
            try clear hfz88_3
            try clear hfz88_4
            try clear hfz88_5
            try clear hfz88_6
            try clear hfz96_0
            try clear hfz96_1
            try clear hfz96_2
            try clear hfz96_3
            try clear hfz96_4
            try clear hfz96_5
            try clear hfz96_6
            try clear p2
            try clear p6
            try clear p64
            obtain ⟨kq, x62_130, rfl, HA, HJ130, HO_1481002, HO_1481003, HO_1576002, HO_1576003, BK1480, BK1575, HB⟩ := hcut
            cases kq with
            | zero => exact absurd HA.out (by simp [laws_FnAuto.j4])
            | succ kj130 =>
             have H := HA.out
             clear HA
             simp only [laws_FnAuto.j4] at H
             by_cases c135 : x62_130 = true
             ·subst c135
              replace H : (some false) = some r := by rw [if_pos rfl] at H; exact H
              exact absurd (Option.some.inj H) (by rw [HQ_.out]; simp)
             ·replace c135 := Bool.eq_false_iff.mpr c135
              subst c135
              replace H : ((spec_EventOk.f kj130 t1563 t1564 t1565 t1568 t1571 t1572 t1573).bind fun t1576 => (if t1576 = true then (laws_FnAuto.l0 kj130 l0 x4_1 x5_116 (wrap64 (x6_1 + 1)) t1563 t1564 t1565 t1568 t1571 t1572 t1573) else (some false))) = some r := by rw [if_neg (show ¬ (false = true) by decide)] at H; exact H
              replace H := Option.bind_eq_some_iff.mp H
              obtain ⟨t1576, A1360, H⟩ := H
              replace H : (if t1576 = true then (laws_FnAuto.l0 kj130 l0 x4_1 x5_116 (wrap64 (x6_1 + 1)) t1563 t1564 t1565 t1568 t1571 t1572 t1573) else (some false)) = some r := H
              have A136 := am A1360
              clear A1360
              by_cases c137 : t1576 = true
              ·subst c137
               replace H : (laws_FnAuto.l0 kj130 l0 x4_1 x5_116 (wrap64 (x6_1 + 1)) t1563 t1564 t1565 t1568 t1571 t1572 t1573) = some r := by rw [if_pos rfl] at H; exact H
               have H' := am H
               clear H
               have hnb138 := NB1575_1480.out
               have hnc138 := NB1480_1575.out
               obtain ⟨hcz139_0, hcz139_1, hcz139_2, hcz139_3, hcz139_4, hcz139_5, hcz139_6, hfz139_0, hfz139_1, hfz139_2, hfz139_3, hfz139_4, hfz139_5, hfz139_6⟩ := bk7 BK1575.out
               obtain ⟨hcz140_0, hcz140_1, hcz140_2, hcz140_3, hcz140_4, hcz140_5, hcz140_6, hfz140_0, hfz140_1, hfz140_2, hfz140_3, hfz140_4, hfz140_5, hfz140_6⟩ := bk7 BK1480.out
               go_wp2_with (first | ((with_reducible refine gate_callee (f := 15) rfl ?_); refine goesL_ (some 146) rfl rfl Try.func15 (by kernel_rfl) rfl #[.agg #[.bool t1563, .bool t1564, .slice Ao125 t1565.length co125, .slice Ao126 t1568.length co126, .int .i64 t1571, .int .i64 t1572, .int .i64 t1573]] rfl mpx ?_; (with_reducible refine (spec_EventOk.calls kj130 t1563 t1564 _ _ t1565 _ _ t1568 t1571 t1572 t1573 true _ ?side1 ?side2 ?side3 ?side4 A136.out).mono ?_); (case side1 => refine (Kd.Q_reads' (e := 3) (base := w.heap.size) (ok := fun k_ => (some k_ ≠ (.slice Ao119 x1481002_1.length co119 : Value).ownBlock ∧ (some k_ ≠ (.slice Ao120 x1481003_1.length co120 : Value).ownBlock ∧ some k_ ≠ (.slice Ao126 t1568.length co126 : Value).ownBlock))) (n := t1565.length) (c := co125) ?_).2.2; exact (by (with_reducible repeat (first | apply Kd.Q_alloc | apply Kd.Q_drewN | apply Kd.Q_drew)); exact (Kd.Q_mono (Kd.Q_far (p := ⟨gb1480, 6, none⟩) (Kd.Q_far (p := ⟨gb1480, 5, none⟩) (Kd.Q_far (p := ⟨gb1480, 4, none⟩) (Kd.Q_far (p := ⟨gb1480, 3, none⟩) (Kd.Q_far (p := ⟨gb1480, 2, none⟩) (Kd.Q_far (p := ⟨gb1480, 1, none⟩) (Kd.Q_far (p := ⟨gb1480, 0, none⟩) (Kd.Q_types HO_1576002.out BK1480.out (by decide)) (fun _ hk => hk.2) (.bool t1563)) (fun _ hk => hk.2) (.bool t1564)) (fun _ hk => hk.2) (.slice Ao125 t1565.length co125)) (fun _ hk => hk.2) (.slice Ao126 t1568.length co126)) (fun _ hk => hk.2) (.int .i64 t1571)) (fun _ hk => hk.2) (.int .i64 t1572)) (fun _ hk => hk.2) (.int .i64 t1573)) (fun _ h_ => h_.1)))); (case side2 => exact (Kd.Q_reads' HO_1576002.out).2.1); (case side3 => refine (Kd.R_reads' (e := 3) (base := w.heap.size) (ok := fun k_ => (some k_ ≠ (.slice Ao119 x1481002_1.length co119 : Value).ownBlock ∧ (some k_ ≠ (.slice Ao120 x1481003_1.length co120 : Value).ownBlock ∧ some k_ ≠ (.slice Ao125 t1565.length co125 : Value).ownBlock))) (n := t1568.length) (c := co126) ?_).2.2; exact (by (with_reducible repeat (first | apply Kd.R_alloc | apply Kd.R_drewN | apply Kd.R_drew)); exact (Kd.R_mono (Kd.R_far (p := ⟨gb1480, 6, none⟩) (Kd.R_far (p := ⟨gb1480, 5, none⟩) (Kd.R_far (p := ⟨gb1480, 4, none⟩) (Kd.R_far (p := ⟨gb1480, 3, none⟩) (Kd.R_far (p := ⟨gb1480, 2, none⟩) (Kd.R_far (p := ⟨gb1480, 1, none⟩) (Kd.R_far (p := ⟨gb1480, 0, none⟩) (Kd.R_types HO_1576003.out BK1480.out (by decide)) (fun _ hk => hk.2) (.bool t1563)) (fun _ hk => hk.2) (.bool t1564)) (fun _ hk => hk.2) (.slice Ao125 t1565.length co125)) (fun _ hk => hk.2) (.slice Ao126 t1568.length co126)) (fun _ hk => hk.2) (.int .i64 t1571)) (fun _ hk => hk.2) (.int .i64 t1572)) (fun _ hk => hk.2) (.int .i64 t1573)) (fun _ h_ => h_.1)))); (case side4 => exact (Kd.R_reads' HO_1576003.out).2.1); rintro e w141 ⟨rfl, hb⟩; refine ⟨_, rfl, ?_⟩; replace HO_1481002 := am (Kd.Q_below (by (with_reducible repeat (first | apply Kd.Q_alloc | apply Kd.Q_drewN | apply Kd.Q_drew)); exact (Kd.Q_mono (Kd.Q_far (p := ⟨gb1480, 6, none⟩) (Kd.Q_far (p := ⟨gb1480, 5, none⟩) (Kd.Q_far (p := ⟨gb1480, 4, none⟩) (Kd.Q_far (p := ⟨gb1480, 3, none⟩) (Kd.Q_far (p := ⟨gb1480, 2, none⟩) (Kd.Q_far (p := ⟨gb1480, 1, none⟩) (Kd.Q_far (p := ⟨gb1480, 0, none⟩) (Kd.Q_types HO_1481002.out BK1480.out (by decide)) (fun _ hk => hk.2) (.bool t1563)) (fun _ hk => hk.2) (.bool t1564)) (fun _ hk => hk.2) (.slice Ao125 t1565.length co125)) (fun _ hk => hk.2) (.slice Ao126 t1568.length co126)) (fun _ hk => hk.2) (.int .i64 t1571)) (fun _ hk => hk.2) (.int .i64 t1572)) (fun _ hk => hk.2) (.int .i64 t1573)) (fun _ h_ => h_.1))) hb); replace HO_1481003 := am (Kd.R_below (by (with_reducible repeat (first | apply Kd.R_alloc | apply Kd.R_drewN | apply Kd.R_drew)); exact (Kd.R_mono (Kd.R_far (p := ⟨gb1480, 6, none⟩) (Kd.R_far (p := ⟨gb1480, 5, none⟩) (Kd.R_far (p := ⟨gb1480, 4, none⟩) (Kd.R_far (p := ⟨gb1480, 3, none⟩) (Kd.R_far (p := ⟨gb1480, 2, none⟩) (Kd.R_far (p := ⟨gb1480, 1, none⟩) (Kd.R_far (p := ⟨gb1480, 0, none⟩) (Kd.R_types HO_1481003.out BK1480.out (by decide)) (fun _ hk => hk.2) (.bool t1563)) (fun _ hk => hk.2) (.bool t1564)) (fun _ hk => hk.2) (.slice Ao125 t1565.length co125)) (fun _ hk => hk.2) (.slice Ao126 t1568.length co126)) (fun _ hk => hk.2) (.int .i64 t1571)) (fun _ hk => hk.2) (.int .i64 t1572)) (fun _ hk => hk.2) (.int .i64 t1573)) (fun _ h_ => h_.1))) hb); replace HO_1576002 := am (Kd.Q_below (by (with_reducible repeat (first | apply Kd.Q_alloc | apply Kd.Q_drewN | apply Kd.Q_drew)); exact (Kd.Q_mono (Kd.Q_far (p := ⟨gb1480, 6, none⟩) (Kd.Q_far (p := ⟨gb1480, 5, none⟩) (Kd.Q_far (p := ⟨gb1480, 4, none⟩) (Kd.Q_far (p := ⟨gb1480, 3, none⟩) (Kd.Q_far (p := ⟨gb1480, 2, none⟩) (Kd.Q_far (p := ⟨gb1480, 1, none⟩) (Kd.Q_far (p := ⟨gb1480, 0, none⟩) (Kd.Q_types HO_1576002.out BK1480.out (by decide)) (fun _ hk => hk.2) (.bool t1563)) (fun _ hk => hk.2) (.bool t1564)) (fun _ hk => hk.2) (.slice Ao125 t1565.length co125)) (fun _ hk => hk.2) (.slice Ao126 t1568.length co126)) (fun _ hk => hk.2) (.int .i64 t1571)) (fun _ hk => hk.2) (.int .i64 t1572)) (fun _ hk => hk.2) (.int .i64 t1573)) (fun _ h_ => h_.1))) hb); replace HO_1576003 := am (Kd.R_below (by (with_reducible repeat (first | apply Kd.R_alloc | apply Kd.R_drewN | apply Kd.R_drew)); exact (Kd.R_mono (Kd.R_far (p := ⟨gb1480, 6, none⟩) (Kd.R_far (p := ⟨gb1480, 5, none⟩) (Kd.R_far (p := ⟨gb1480, 4, none⟩) (Kd.R_far (p := ⟨gb1480, 3, none⟩) (Kd.R_far (p := ⟨gb1480, 2, none⟩) (Kd.R_far (p := ⟨gb1480, 1, none⟩) (Kd.R_far (p := ⟨gb1480, 0, none⟩) (Kd.R_types HO_1576003.out BK1480.out (by decide)) (fun _ hk => hk.2) (.bool t1563)) (fun _ hk => hk.2) (.bool t1564)) (fun _ hk => hk.2) (.slice Ao125 t1565.length co125)) (fun _ hk => hk.2) (.slice Ao126 t1568.length co126)) (fun _ hk => hk.2) (.int .i64 t1571)) (fun _ hk => hk.2) (.int .i64 t1572)) (fun _ hk => hk.2) (.int .i64 t1573)) (fun _ h_ => h_.1))) hb); replace BK1480 := am (blk_below (g := gb1480) (o := .cells #[.bool t1563, .bool t1564, .slice Ao125 t1565.length co125, .slice Ao126 t1568.length co126, .int .i64 t1571, .int .i64 t1572, .int .i64 t1573] 27 (0, 0)) (by (with_reducible repeat (first | refine blk_drewN ?_ _ | refine blk_drew ?_ | refine blk_alloc ?_ _)); refine blk_put (cs := #[.bool t1563, .bool t1564, .slice Ao125 t1565.length co125, .slice Ao126 t1568.length co126, .int .i64 t1571, .int .i64 t1572, .int .i64 x1481006_1]) ?_ 6 _ rfl; (with_reducible repeat (first | refine blk_drewN ?_ _ | refine blk_drew ?_ | refine blk_alloc ?_ _)); refine blk_put (cs := #[.bool t1563, .bool t1564, .slice Ao125 t1565.length co125, .slice Ao126 t1568.length co126, .int .i64 t1571, .int .i64 x1481005_1, .int .i64 x1481006_1]) ?_ 5 _ rfl; (with_reducible repeat (first | refine blk_drewN ?_ _ | refine blk_drew ?_ | refine blk_alloc ?_ _)); refine blk_put (cs := #[.bool t1563, .bool t1564, .slice Ao125 t1565.length co125, .slice Ao126 t1568.length co126, .int .i64 x1481004_1, .int .i64 x1481005_1, .int .i64 x1481006_1]) ?_ 4 _ rfl; (with_reducible repeat (first | refine blk_drewN ?_ _ | refine blk_drew ?_ | refine blk_alloc ?_ _)); refine blk_put (cs := #[.bool t1563, .bool t1564, .slice Ao125 t1565.length co125, .slice Ao120 x1481003_1.length co120, .int .i64 x1481004_1, .int .i64 x1481005_1, .int .i64 x1481006_1]) ?_ 3 _ rfl; (with_reducible repeat (first | refine blk_drewN ?_ _ | refine blk_drew ?_ | refine blk_alloc ?_ _)); refine blk_put (cs := #[.bool t1563, .bool t1564, .slice Ao119 x1481002_1.length co119, .slice Ao120 x1481003_1.length co120, .int .i64 x1481004_1, .int .i64 x1481005_1, .int .i64 x1481006_1]) ?_ 2 _ rfl; (with_reducible repeat (first | refine blk_drewN ?_ _ | refine blk_drew ?_ | refine blk_alloc ?_ _)); refine blk_put (cs := #[.bool t1563, .bool x1481001_1, .slice Ao119 x1481002_1.length co119, .slice Ao120 x1481003_1.length co120, .int .i64 x1481004_1, .int .i64 x1481005_1, .int .i64 x1481006_1]) ?_ 1 _ rfl; (with_reducible repeat (first | refine blk_drewN ?_ _ | refine blk_drew ?_ | refine blk_alloc ?_ _)); refine blk_put (cs := #[.bool x1481000_1, .bool x1481001_1, .slice Ao119 x1481002_1.length co119, .slice Ao120 x1481003_1.length co120, .int .i64 x1481004_1, .int .i64 x1481005_1, .int .i64 x1481006_1]) ?_ 0 _ rfl; exact pkK BK1480.out) hb); replace BK1575 := am (blk_below (g := gb1575) (o := .cells #[.bool t1563, .bool t1564, .slice Ao125 t1565.length co125, .slice Ao126 t1568.length co126, .int .i64 t1571, .int .i64 t1572, .int .i64 t1573] 27 (0, 0)) (by (with_reducible repeat (first | refine blk_drewN ?_ _ | refine blk_drew ?_ | refine blk_alloc ?_ _)); refine blk_far ?_ NB1575_1480.out _; (with_reducible repeat (first | refine blk_drewN ?_ _ | refine blk_drew ?_ | refine blk_alloc ?_ _)); refine blk_far ?_ NB1575_1480.out _; (with_reducible repeat (first | refine blk_drewN ?_ _ | refine blk_drew ?_ | refine blk_alloc ?_ _)); refine blk_far ?_ NB1575_1480.out _; (with_reducible repeat (first | refine blk_drewN ?_ _ | refine blk_drew ?_ | refine blk_alloc ?_ _)); refine blk_far ?_ NB1575_1480.out _; (with_reducible repeat (first | refine blk_drewN ?_ _ | refine blk_drew ?_ | refine blk_alloc ?_ _)); refine blk_far ?_ NB1575_1480.out _; (with_reducible repeat (first | refine blk_drewN ?_ _ | refine blk_drew ?_ | refine blk_alloc ?_ _)); refine blk_far ?_ NB1575_1480.out _; (with_reducible repeat (first | refine blk_drewN ?_ _ | refine blk_drew ?_ | refine blk_alloc ?_ _)); refine blk_far ?_ NB1575_1480.out _; exact pkK BK1575.out) hb); replace HB := bst HB hb; (try clear hb)))
               go_roundg kj130
               case measure => have := HK1.out; have := HJ116.out; have := HJ130.out; omega
               case rel => exact ⟨(x4_1), (x5_116), (wrap64 (x6_1 + 1)), (t1563), (t1564), (t1565), (t1568), (t1571), (t1572), (t1573), (.slice Ao125 t1565.length co125), (.slice Ao126 t1568.length co126), rfx, rfx, rfx, H', ⟨by have := HK1.out; have := HJ116.out; have := HJ130.out; omega⟩, ⟨by (with_reducible repeat (first | apply Kd.Q_alloc | apply Kd.Q_drewN | apply Kd.Q_drew)); exact Kd.Q_mono HO_1576002.out (fun _ hk => hk.2.2)⟩, ⟨by (with_reducible repeat (first | apply Kd.R_alloc | apply Kd.R_drewN | apply Kd.R_drew)); exact Kd.R_mono HO_1576003.out (fun _ hk => hk.2.2)⟩, ⟨pkK BK1480.out⟩, ⟨pkW HB.out⟩⟩
              ·replace c137 := Bool.eq_false_iff.mpr c137
               subst c137
               replace H : (some false) = some r := by rw [if_neg (show ¬ (false = true) by decide)] at H; exact H
               exact absurd (Option.some.inj H) (by rw [HQ_.out]; simp)
    ·rw [if_neg c7] at H
     have c7b0 : decide (x6_1 < 26) = false := decide_eq_false c7
     clear c7
     by_cases c142 : x1481000_1 = true
     ·subst c142
      replace H : (if x1481004_1 = x4_1 then (if x1481006_1 = x5_1 then (some (decide (x5_1 ≤ x4_1))) else (some false)) else (some false)) = some r := by rw [if_pos rfl] at H; exact H
      by_cases c143 : x1481004_1 = x4_1
      ·rw [if_pos c143] at H
       have c143b0 : (x1481004_1 == x4_1) = true := beq_iff_eq.mpr c143
       have c143b1 : (x1481004_1 != x4_1) = false := bne_eq_false_iff_eq.mpr c143
       clear c143
       by_cases c144 : x1481006_1 = x5_1
       ·rw [if_pos c144] at H
        have c144b0 : (x1481006_1 == x5_1) = true := beq_iff_eq.mpr c144
        have c144b1 : (x1481006_1 != x5_1) = false := bne_eq_false_iff_eq.mpr c144
        clear c144
        obtain rfl := Option.some.inj H
        obtain ⟨hcz145_0, hcz145_1, hcz145_2, hcz145_3, hcz145_4, hcz145_5, hcz145_6, hfz145_0, hfz145_1, hfz145_2, hfz145_3, hfz145_4, hfz145_5, hfz145_6⟩ := bk7 BK1480.out
        go_wp2
        go_ret
        exact ⟨rfe, pkW HB.out⟩
       ·rw [if_neg c144] at H
        have c144b0 : (x1481006_1 == x5_1) = false := beq_eq_false_iff_ne.mpr c144
        have c144b1 : (x1481006_1 != x5_1) = true := bne_iff_ne.mpr c144
        exact absurd (Option.some.inj H) (by rw [HQ_.out]; simp)
      ·rw [if_neg c143] at H
       have c143b0 : (x1481004_1 == x4_1) = false := beq_eq_false_iff_ne.mpr c143
       have c143b1 : (x1481004_1 != x4_1) = true := bne_iff_ne.mpr c143
       exact absurd (Option.some.inj H) (by rw [HQ_.out]; simp)
     ·replace c142 := Bool.eq_false_iff.mpr c142
      subst c142
      replace H : (some true) = some r := by rw [if_neg (show ¬ (false = true) by decide)] at H; exact H
      obtain rfl := Option.some.inj H
      obtain ⟨hcz146_0, hcz146_1, hcz146_2, hcz146_3, hcz146_4, hcz146_5, hcz146_6, hfz146_0, hfz146_1, hfz146_2, hfz146_3, hfz146_4, hfz146_5, hfz146_6⟩ := bk7 BK1480.out
      go_wp2
      go_ret
      exact ⟨rfe, pkW HB.out⟩
end Go.Proofs.Ytdagpmnadapbjaa.Z
