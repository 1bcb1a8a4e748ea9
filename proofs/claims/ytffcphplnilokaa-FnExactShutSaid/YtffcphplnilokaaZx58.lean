/- The Go functions laws_FnExactShut as Lean functions, each with a proof that its code comes to just these answers; conditions: those of each theorem. -/
import Derived.Test.YtffcphplnilokaaZx0
import Derived.Test.YtffcphplnilokaaZx23
import Derived.Test.YtffcphplnilokaaZx28
import Derived.Test.YtffcphplnilokaaZx29
import Derived.Test.YtffcphplnilokaaZx32
import Derived.Test.YtffcphplnilokaaZx33
import Derived.Test.YtffcphplnilokaaZx42
import Derived.Test.YtffcphplnilokaaZx46
import Derived.Test.YtffcphplnilokaaZx47
namespace Go.Proofs.Ytffcphplnilokaa.Z
open Go.RowKit Go.Proofs.YtffcphplnilokaaW.PrintWords Go.Proofs.YtffcphplnilokaaW.PrintLast Go.Proofs.YtffcphplnilokaaW.PrintMore
attribute [local go_sem] max2_int min2_int max_two min_two max_three min_three max_four min_four   -- for this text's walks alone
set_option linter.unusedVariables false
set_option linter.unusedSimpArgs false
mutual
def laws_FnExactShut.j0 : Nat → List Int → Int → List Int → Int → Bool → Int → Int → ByteArray → Int → Bool → List Int → List Int → Int → Int → ByteArray → Int → Bool → List Int → List Int → Int → Int → ByteArray → Int → Bool → List Int → List Int → Int → Int → ByteArray → Int → Bool → List Int → List Int → Option (Bool)
 | 0, _, _, _, _, _, _, _, _, _, _, _, _, _, _, _, _, _, _, _, _, _, _, _, _, _, _, _, _, _, _, _, _, _ => none
 | k + 1, x5, x6, x9, x10, x51, x1424000, x1424001, x1424002, x1424003, x1424004, x1424005, x1424006, x1452000, x1452001, x1452002, x1452003, x1452004, x1452005, x1452006, x1464000, x1464001, x1464002, x1464003, x1464004, x1464005, x1464006, x1480000, x1480001, x1480002, x1480003, x1480004, x1480005, x1480006 => if x51 = true then (some false) else ((laws_toCell.f k x1424000 x1424001 x1424002 x1424003 x1424004 x1424005 x1424006).bind fun bt1482 => ((laws_eqCell.f k x1464000 x1464001 x1464002 x1464003 x1464004 x1464005 x1464006 bt1482.1 bt1482.2.1 bt1482.2.2.1 bt1482.2.2.2.1 bt1482.2.2.2.2.1 bt1482.2.2.2.2.2.1 bt1482.2.2.2.2.2.2).bind fun t1493 => (if t1493 = true then ((laws_markCell.f k x1464000 x1464001 x1464002 x1464003 x1464004 x1464005 x1464006 1).bind fun bt1494 => (if bt1494.1 < 0 then (laws_FnExactShut.j1 k x5 x6 x9 true x1424000 x1424001 x1424002 x1424003 x1424004 x1424005 x1424006 x1452000 x1452001 x1452002 x1452003 x1452004 x1452005 x1452006 x1480000 x1480001 x1480002 x1480003 x1480004 x1480005 x1480006) else ((laws_eqCell.f k x1480000 x1480001 x1480002 x1480003 x1480004 x1480005 x1480006 x1452000 x1452001 x1452002 x1452003 x1452004 x1452005 x1452006).bind fun t1497 => (if t1497 = true then ((laws_eqIntS.f k x9 x5).bind fun t1498 => (if t1498 = true then (laws_FnExactShut.j1 k x5 x6 x9 (x10 != x6) x1424000 x1424001 x1424002 x1424003 x1424004 x1424005 x1424006 x1452000 x1452001 x1452002 x1452003 x1452004 x1452005 x1452006 x1480000 x1480001 x1480002 x1480003 x1480004 x1480005 x1480006) else (laws_FnExactShut.j1 k x5 x6 x9 true x1424000 x1424001 x1424002 x1424003 x1424004 x1424005 x1424006 x1452000 x1452001 x1452002 x1452003 x1452004 x1452005 x1452006 x1480000 x1480001 x1480002 x1480003 x1480004 x1480005 x1480006))) else (laws_FnExactShut.j1 k x5 x6 x9 true x1424000 x1424001 x1424002 x1424003 x1424004 x1424005 x1424006 x1452000 x1452001 x1452002 x1452003 x1452004 x1452005 x1452006 x1480000 x1480001 x1480002 x1480003 x1480004 x1480005 x1480006))))) else (some false))))
def laws_FnExactShut.j1 : Nat → List Int → Int → List Int → Bool → Int → Int → ByteArray → Int → Bool → List Int → List Int → Int → Int → ByteArray → Int → Bool → List Int → List Int → Int → Int → ByteArray → Int → Bool → List Int → List Int → Option (Bool)
 | 0, _, _, _, _, _, _, _, _, _, _, _, _, _, _, _, _, _, _, _, _, _, _, _, _, _ => none
 | k + 1, x5, x6, x9, x78, x1424000, x1424001, x1424002, x1424003, x1424004, x1424005, x1424006, x1452000, x1452001, x1452002, x1452003, x1452004, x1452005, x1452006, x1480000, x1480001, x1480002, x1480003, x1480004, x1480005, x1480006 => if x78 = true then (some false) else ((laws_markCell.f k x1480000 x1480001 x1480002 x1480003 x1480004 x1480005 x1480006 1).bind fun bt1499 => ((laws_markIntS.f k x9 bt1499.1).bind fun bt1502 => ((laws_heldCell.f k x1480000 x1480001 x1480002 x1480003 x1480004 bt1499.2.1 bt1499.2.2 1).bind fun t1504 => (if t1504 < 0 then (some false) else ((laws_heldIntS.f k bt1502.2 t1504).bind fun t1505 => (if t1505 < 0 then (some false) else (if t1505 = bt1502.1 then ((laws_toCell.f k x1424000 x1424001 x1424002 x1424003 x1424004 x1424005 x1424006).bind fun bt1506 => ((impl_Shut.f k bt1506.1 bt1506.2.1 bt1506.2.2.1 bt1506.2.2.2.1 bt1506.2.2.2.2.1 bt1506.2.2.2.2.2.1 bt1506.2.2.2.2.2.2).bind fun bt1517 => ((laws_eqCell.f k bt1517.1 bt1517.2.1 bt1517.2.2.1 bt1517.2.2.2.1 bt1517.2.2.2.2.1 bt1517.2.2.2.2.2.1 bt1517.2.2.2.2.2.2.1 x1452000 x1452001 x1452002 x1452003 x1452004 x1452005 x1452006).bind fun t1533 => (if t1533 = true then ((laws_eqIntS.f k bt1517.2.2.2.2.2.2.2.1 x5).bind fun t1534 => (if t1534 = true then (laws_FnExactShut.j2 k bt1502.2 bt1502.1 (bt1517.2.2.2.2.2.2.2.2 != x6) x1480000 x1480001 x1480002 x1480003 x1480004 bt1499.2.1 bt1499.2.2) else (laws_FnExactShut.j2 k bt1502.2 bt1502.1 true x1480000 x1480001 x1480002 x1480003 x1480004 bt1499.2.1 bt1499.2.2))) else (laws_FnExactShut.j2 k bt1502.2 bt1502.1 true x1480000 x1480001 x1480002 x1480003 x1480004 bt1499.2.1 bt1499.2.2))))) else (some false))))))))
def laws_FnExactShut.j2 : Nat → List Int → Int → Bool → Int → Int → ByteArray → Int → Bool → List Int → List Int → Option (Bool)
 | 0, _, _, _, _, _, _, _, _, _, _ => none
 | k + 1, x9, x12, x119, x1480000, x1480001, x1480002, x1480003, x1480004, x1480005, x1480006 => if x119 = true then (some false) else ((laws_heldCell.f k x1480000 x1480001 x1480002 x1480003 x1480004 x1480005 x1480006 1).bind fun t1535 => (if t1535 < 0 then (some false) else ((laws_heldIntS.f k x9 t1535).bind fun t1536 => (if t1536 < 0 then (some false) else (if t1536 = x12 then (some true) else (some false))))))
end
def laws_FnExactShut.f (k : Nat) (a0_0 : Int) (a0_1 : Int) (a0_2 : ByteArray) (a0_3 : Int) (a0_4 : Bool) (l0_5 : List Int) (l0_6 : List Int) : Option (Bool) := (laws_szCell.f a0_0 a0_1 a0_2 a0_3 a0_4 l0_5 l0_6 1048576).bind fun t1424 => (if t1424 < 0 then (some true) else ((laws_toCell.f k a0_0 a0_1 a0_2 a0_3 a0_4 l0_5 l0_6).bind fun bt1425 => ((spec_Shut.f k bt1425.1 bt1425.2.1 bt1425.2.2.1 bt1425.2.2.2.1 bt1425.2.2.2.2.1 bt1425.2.2.2.2.2.1 bt1425.2.2.2.2.2.2).bind fun bt1436 => ((laws_toCell.f k a0_0 a0_1 a0_2 a0_3 a0_4 l0_5 l0_6).bind fun bt1452 => ((impl_Shut.f k bt1452.1 bt1452.2.1 bt1452.2.2.1 bt1452.2.2.2.1 bt1452.2.2.2.2.1 bt1452.2.2.2.2.2.1 bt1452.2.2.2.2.2.2).bind fun bt1464 => ((laws_eqCell.f k bt1464.1 bt1464.2.1 bt1464.2.2.1 bt1464.2.2.2.1 bt1464.2.2.2.2.1 bt1464.2.2.2.2.2.1 bt1464.2.2.2.2.2.2.1 bt1436.1 bt1436.2.1 bt1436.2.2.1 bt1436.2.2.2.1 bt1436.2.2.2.2.1 bt1436.2.2.2.2.2.1 bt1436.2.2.2.2.2.2.1).bind fun t1480 => (if t1480 = true then ((laws_eqIntS.f k bt1464.2.2.2.2.2.2.2.1 bt1436.2.2.2.2.2.2.2.1).bind fun t1481 => (if t1481 = true then (laws_FnExactShut.j0 k bt1436.2.2.2.2.2.2.2.1 bt1436.2.2.2.2.2.2.2.2 bt1464.2.2.2.2.2.2.2.1 bt1464.2.2.2.2.2.2.2.2 (bt1464.2.2.2.2.2.2.2.2 != bt1436.2.2.2.2.2.2.2.2) a0_0 a0_1 a0_2 a0_3 a0_4 l0_5 l0_6 bt1436.1 bt1436.2.1 bt1436.2.2.1 bt1436.2.2.2.1 bt1436.2.2.2.2.1 bt1436.2.2.2.2.2.1 bt1436.2.2.2.2.2.2.1 bt1452.1 bt1452.2.1 bt1452.2.2.1 bt1452.2.2.2.1 bt1452.2.2.2.2.1 bt1452.2.2.2.2.2.1 bt1452.2.2.2.2.2.2 bt1464.1 bt1464.2.1 bt1464.2.2.1 bt1464.2.2.2.1 bt1464.2.2.2.2.1 bt1464.2.2.2.2.2.1 bt1464.2.2.2.2.2.2.1) else (laws_FnExactShut.j0 k bt1436.2.2.2.2.2.2.2.1 bt1436.2.2.2.2.2.2.2.2 bt1464.2.2.2.2.2.2.2.1 bt1464.2.2.2.2.2.2.2.2 true a0_0 a0_1 a0_2 a0_3 a0_4 l0_5 l0_6 bt1436.1 bt1436.2.1 bt1436.2.2.1 bt1436.2.2.2.1 bt1436.2.2.2.2.1 bt1436.2.2.2.2.2.1 bt1436.2.2.2.2.2.2.1 bt1452.1 bt1452.2.1 bt1452.2.2.1 bt1452.2.2.2.1 bt1452.2.2.2.2.1 bt1452.2.2.2.2.2.1 bt1452.2.2.2.2.2.2 bt1464.1 bt1464.2.1 bt1464.2.2.1 bt1464.2.2.2.1 bt1464.2.2.2.2.1 bt1464.2.2.2.2.2.1 bt1464.2.2.2.2.2.2.1))) else (laws_FnExactShut.j0 k bt1436.2.2.2.2.2.2.2.1 bt1436.2.2.2.2.2.2.2.2 bt1464.2.2.2.2.2.2.2.1 bt1464.2.2.2.2.2.2.2.2 true a0_0 a0_1 a0_2 a0_3 a0_4 l0_5 l0_6 bt1436.1 bt1436.2.1 bt1436.2.2.1 bt1436.2.2.2.1 bt1436.2.2.2.2.1 bt1436.2.2.2.2.2.1 bt1436.2.2.2.2.2.2.1 bt1452.1 bt1452.2.1 bt1452.2.2.1 bt1452.2.2.2.1 bt1452.2.2.2.2.1 bt1452.2.2.2.2.2.1 bt1452.2.2.2.2.2.2 bt1464.1 bt1464.2.1 bt1464.2.2.1 bt1464.2.2.2.1 bt1464.2.2.2.2.1 bt1464.2.2.2.2.2.1 bt1464.2.2.2.2.2.2.1))))))))
theorem laws_FnExactShut.mono_l : ∀ k, (∀ y0 y1 y2 y3 y4 y5 y6 y7 y8 y9 y10 y11 y12 y13 y14 y15 y16 y17 y18 y19 y20 y21 y22 y23 y24 y25 y26 y27 y28 y29 y30 y31 y32, LeO (laws_FnExactShut.j0 k y0 y1 y2 y3 y4 y5 y6 y7 y8 y9 y10 y11 y12 y13 y14 y15 y16 y17 y18 y19 y20 y21 y22 y23 y24 y25 y26 y27 y28 y29 y30 y31 y32) (laws_FnExactShut.j0 (k + 1) y0 y1 y2 y3 y4 y5 y6 y7 y8 y9 y10 y11 y12 y13 y14 y15 y16 y17 y18 y19 y20 y21 y22 y23 y24 y25 y26 y27 y28 y29 y30 y31 y32)) ∧ (∀ y0 y1 y2 y3 y4 y5 y6 y7 y8 y9 y10 y11 y12 y13 y14 y15 y16 y17 y18 y19 y20 y21 y22 y23 y24, LeO (laws_FnExactShut.j1 k y0 y1 y2 y3 y4 y5 y6 y7 y8 y9 y10 y11 y12 y13 y14 y15 y16 y17 y18 y19 y20 y21 y22 y23 y24) (laws_FnExactShut.j1 (k + 1) y0 y1 y2 y3 y4 y5 y6 y7 y8 y9 y10 y11 y12 y13 y14 y15 y16 y17 y18 y19 y20 y21 y22 y23 y24)) ∧ (∀ y0 y1 y2 y3 y4 y5 y6 y7 y8 y9, LeO (laws_FnExactShut.j2 k y0 y1 y2 y3 y4 y5 y6 y7 y8 y9) (laws_FnExactShut.j2 (k + 1) y0 y1 y2 y3 y4 y5 y6 y7 y8 y9))
 | 0 => ⟨fun _ _ _ _ _ _ _ _ _ _ _ _ _ _ _ _ _ _ _ _ _ _ _ _ _ _ _ _ _ _ _ _ _ r h => by simp [laws_FnExactShut.j0] at h, fun _ _ _ _ _ _ _ _ _ _ _ _ _ _ _ _ _ _ _ _ _ _ _ _ _ r h => by simp [laws_FnExactShut.j1] at h, fun _ _ _ _ _ _ _ _ _ _ r h => by simp [laws_FnExactShut.j2] at h⟩
 | k + 1 => by
  obtain ⟨ih0, ih1, ih2⟩ := laws_FnExactShut.mono_l k
  refine ⟨?_, ?_, ?_⟩
  ·intro y0 y1 y2 y3 y4 y5 y6 y7 y8 y9 y10 y11 y12 y13 y14 y15 y16 y17 y18 y19 y20 y21 y22 y23 y24 y25 y26 y27 y28 y29 y30 y31 y32
   unfold laws_FnExactShut.j0
   repeat' first
   | (with_reducible exact ih0 _ _ _ _ _ _ _ _ _ _ _ _ _ _ _ _ _ _ _ _ _ _ _ _ _ _ _ _ _ _ _ _ _)
   | (with_reducible exact ih1 _ _ _ _ _ _ _ _ _ _ _ _ _ _ _ _ _ _ _ _ _ _ _ _ _)
   | (with_reducible exact ih2 _ _ _ _ _ _ _ _ _ _)
   | (with_reducible exact impl_Shut.mono _ _ _ _ _ _ _ _)
   | (with_reducible exact laws_eqCell.mono _ _ _ _ _ _ _ _ _ _ _ _ _ _ _)
   | (with_reducible exact laws_eqIntS.mono _ _ _)
   | (with_reducible exact laws_heldCell.mono _ _ _ _ _ _ _ _ _)
   | (with_reducible exact laws_heldIntS.mono _ _ _)
   | (with_reducible exact laws_markCell.mono _ _ _ _ _ _ _ _ _)
   | (with_reducible exact laws_markIntS.mono _ _ _)
   | (with_reducible exact laws_toCell.mono _ _ _ _ _ _ _ _)
   | (with_reducible exact spec_Shut.mono _ _ _ _ _ _ _ _)
   | (with_reducible exact LeO.refl _)
   | (with_reducible exact LeO.none _)
   | (with_reducible refine LeO.ite ?_ ?_)
   | (with_reducible refine LeO.bind ?_ (fun _ => ?_))
  ·intro y0 y1 y2 y3 y4 y5 y6 y7 y8 y9 y10 y11 y12 y13 y14 y15 y16 y17 y18 y19 y20 y21 y22 y23 y24
   unfold laws_FnExactShut.j1
   repeat' first
   | (with_reducible exact ih0 _ _ _ _ _ _ _ _ _ _ _ _ _ _ _ _ _ _ _ _ _ _ _ _ _ _ _ _ _ _ _ _ _)
   | (with_reducible exact ih1 _ _ _ _ _ _ _ _ _ _ _ _ _ _ _ _ _ _ _ _ _ _ _ _ _)
   | (with_reducible exact ih2 _ _ _ _ _ _ _ _ _ _)
   | (with_reducible exact impl_Shut.mono _ _ _ _ _ _ _ _)
   | (with_reducible exact laws_eqCell.mono _ _ _ _ _ _ _ _ _ _ _ _ _ _ _)
   | (with_reducible exact laws_eqIntS.mono _ _ _)
   | (with_reducible exact laws_heldCell.mono _ _ _ _ _ _ _ _ _)
   | (with_reducible exact laws_heldIntS.mono _ _ _)
   | (with_reducible exact laws_markCell.mono _ _ _ _ _ _ _ _ _)
   | (with_reducible exact laws_markIntS.mono _ _ _)
   | (with_reducible exact laws_toCell.mono _ _ _ _ _ _ _ _)
   | (with_reducible exact spec_Shut.mono _ _ _ _ _ _ _ _)
   | (with_reducible exact LeO.refl _)
   | (with_reducible exact LeO.none _)
   | (with_reducible refine LeO.ite ?_ ?_)
   | (with_reducible refine LeO.bind ?_ (fun _ => ?_))
  ·intro y0 y1 y2 y3 y4 y5 y6 y7 y8 y9
   unfold laws_FnExactShut.j2
   repeat' first
   | (with_reducible exact ih0 _ _ _ _ _ _ _ _ _ _ _ _ _ _ _ _ _ _ _ _ _ _ _ _ _ _ _ _ _ _ _ _ _)
   | (with_reducible exact ih1 _ _ _ _ _ _ _ _ _ _ _ _ _ _ _ _ _ _ _ _ _ _ _ _ _)
   | (with_reducible exact ih2 _ _ _ _ _ _ _ _ _ _)
   | (with_reducible exact impl_Shut.mono _ _ _ _ _ _ _ _)
   | (with_reducible exact laws_eqCell.mono _ _ _ _ _ _ _ _ _ _ _ _ _ _ _)
   | (with_reducible exact laws_eqIntS.mono _ _ _)
   | (with_reducible exact laws_heldCell.mono _ _ _ _ _ _ _ _ _)
   | (with_reducible exact laws_heldIntS.mono _ _ _)
   | (with_reducible exact laws_markCell.mono _ _ _ _ _ _ _ _ _)
   | (with_reducible exact laws_markIntS.mono _ _ _)
   | (with_reducible exact laws_toCell.mono _ _ _ _ _ _ _ _)
   | (with_reducible exact spec_Shut.mono _ _ _ _ _ _ _ _)
   | (with_reducible exact LeO.refl _)
   | (with_reducible exact LeO.none _)
   | (with_reducible refine LeO.ite ?_ ?_)
   | (with_reducible refine LeO.bind ?_ (fun _ => ?_))
theorem laws_FnExactShut.mono : ∀ a0 a1 a2 a3 a4 a5 a6 k, LeO (laws_FnExactShut.f k a0 a1 a2 a3 a4 a5 a6) (laws_FnExactShut.f (k + 1) a0 a1 a2 a3 a4 a5 a6) := by
 intro a0 a1 a2 a3 a4 a5 a6 k
 obtain ⟨ih0, ih1, ih2⟩ := laws_FnExactShut.mono_l k
 unfold laws_FnExactShut.f
 repeat' first
   | (with_reducible exact ih0 _ _ _ _ _ _ _ _ _ _ _ _ _ _ _ _ _ _ _ _ _ _ _ _ _ _ _ _ _ _ _ _ _)
   | (with_reducible exact ih1 _ _ _ _ _ _ _ _ _ _ _ _ _ _ _ _ _ _ _ _ _ _ _ _ _)
   | (with_reducible exact ih2 _ _ _ _ _ _ _ _ _ _)
   | (with_reducible exact impl_Shut.mono _ _ _ _ _ _ _ _)
   | (with_reducible exact laws_eqCell.mono _ _ _ _ _ _ _ _ _ _ _ _ _ _ _)
   | (with_reducible exact laws_eqIntS.mono _ _ _)
   | (with_reducible exact laws_heldCell.mono _ _ _ _ _ _ _ _ _)
   | (with_reducible exact laws_heldIntS.mono _ _ _)
   | (with_reducible exact laws_markCell.mono _ _ _ _ _ _ _ _ _)
   | (with_reducible exact laws_markIntS.mono _ _ _)
   | (with_reducible exact laws_toCell.mono _ _ _ _ _ _ _ _)
   | (with_reducible exact spec_Shut.mono _ _ _ _ _ _ _ _)
   | (with_reducible exact LeO.refl _)
   | (with_reducible exact LeO.none _)
   | (with_reducible refine LeO.ite ?_ ?_)
   | (with_reducible refine LeO.bind ?_ (fun _ => ?_))
set_option maxHeartbeats 8000000 in
set_option maxRecDepth 100000 in
theorem laws_FnExactShut.calls (k : Nat) (a0_0 : Int) (a0_1 : Int) (a0_2 : ByteArray) (a0_3 : Int) (a0_4 : Bool) (A0_5 : Option Addr) (c0_5 : Nat) (l0_5 : List Int) (A0_6 : Option Addr) (c0_6 : Nat) (l0_6 : List Int) (r : Bool) (w : World) (hr0_5 : Kd.C (Kd.int .i64) w A0_5 l0_5.length l0_5) (hc0_5 : l0_5.length ≤ c0_5) (hr0_6 : Kd.C (Kd.int .i64) w A0_6 l0_6.length l0_6) (hc0_6 : l0_6.length ≤ c0_6) (HQ_ : Aside0 (r = true)) (h : laws_FnExactShut.f k a0_0 a0_1 a0_2 a0_3 a0_4 l0_5 l0_6 = some r) :
  Calls Try.prog 14 #[.agg #[.int .i64 a0_0, .int .i64 a0_1, .string a0_2, .int .i64 a0_3, .bool a0_4, .slice A0_5 l0_5.length c0_5, .slice A0_6 l0_6.length c0_6]] w fun e w' => e = .returned (.bool r) ∧ Below w.heap.size w w' := by
 have hu56 := Try.underlying56
 have hu29 := Try.underlying29
 have HR0_5 := am hr0_5
 have HC0_5 := am hc0_5
 clear hr0_5 hc0_5
 have HR0_6 := am hr0_6
 have HC0_6 := am hc0_6
 clear hr0_6 hc0_6
 have HB := am (Below.refl w.heap.size w)
 have H : ((laws_szCell.f a0_0 a0_1 a0_2 a0_3 a0_4 l0_5 l0_6 1048576).bind fun t1424 => (if t1424 < 0 then (some true) else ((laws_toCell.f k a0_0 a0_1 a0_2 a0_3 a0_4 l0_5 l0_6).bind fun bt1425 => ((spec_Shut.f k bt1425.1 bt1425.2.1 bt1425.2.2.1 bt1425.2.2.2.1 bt1425.2.2.2.2.1 bt1425.2.2.2.2.2.1 bt1425.2.2.2.2.2.2).bind fun bt1436 => ((laws_toCell.f k a0_0 a0_1 a0_2 a0_3 a0_4 l0_5 l0_6).bind fun bt1452 => ((impl_Shut.f k bt1452.1 bt1452.2.1 bt1452.2.2.1 bt1452.2.2.2.1 bt1452.2.2.2.2.1 bt1452.2.2.2.2.2.1 bt1452.2.2.2.2.2.2).bind fun bt1464 => ((laws_eqCell.f k bt1464.1 bt1464.2.1 bt1464.2.2.1 bt1464.2.2.2.1 bt1464.2.2.2.2.1 bt1464.2.2.2.2.2.1 bt1464.2.2.2.2.2.2.1 bt1436.1 bt1436.2.1 bt1436.2.2.1 bt1436.2.2.2.1 bt1436.2.2.2.2.1 bt1436.2.2.2.2.2.1 bt1436.2.2.2.2.2.2.1).bind fun t1480 => (if t1480 = true then ((laws_eqIntS.f k bt1464.2.2.2.2.2.2.2.1 bt1436.2.2.2.2.2.2.2.1).bind fun t1481 => (if t1481 = true then (laws_FnExactShut.j0 k bt1436.2.2.2.2.2.2.2.1 bt1436.2.2.2.2.2.2.2.2 bt1464.2.2.2.2.2.2.2.1 bt1464.2.2.2.2.2.2.2.2 (bt1464.2.2.2.2.2.2.2.2 != bt1436.2.2.2.2.2.2.2.2) a0_0 a0_1 a0_2 a0_3 a0_4 l0_5 l0_6 bt1436.1 bt1436.2.1 bt1436.2.2.1 bt1436.2.2.2.1 bt1436.2.2.2.2.1 bt1436.2.2.2.2.2.1 bt1436.2.2.2.2.2.2.1 bt1452.1 bt1452.2.1 bt1452.2.2.1 bt1452.2.2.2.1 bt1452.2.2.2.2.1 bt1452.2.2.2.2.2.1 bt1452.2.2.2.2.2.2 bt1464.1 bt1464.2.1 bt1464.2.2.1 bt1464.2.2.2.1 bt1464.2.2.2.2.1 bt1464.2.2.2.2.2.1 bt1464.2.2.2.2.2.2.1) else (laws_FnExactShut.j0 k bt1436.2.2.2.2.2.2.2.1 bt1436.2.2.2.2.2.2.2.2 bt1464.2.2.2.2.2.2.2.1 bt1464.2.2.2.2.2.2.2.2 true a0_0 a0_1 a0_2 a0_3 a0_4 l0_5 l0_6 bt1436.1 bt1436.2.1 bt1436.2.2.1 bt1436.2.2.2.1 bt1436.2.2.2.2.1 bt1436.2.2.2.2.2.1 bt1436.2.2.2.2.2.2.1 bt1452.1 bt1452.2.1 bt1452.2.2.1 bt1452.2.2.2.1 bt1452.2.2.2.2.1 bt1452.2.2.2.2.2.1 bt1452.2.2.2.2.2.2 bt1464.1 bt1464.2.1 bt1464.2.2.1 bt1464.2.2.2.1 bt1464.2.2.2.2.1 bt1464.2.2.2.2.2.1 bt1464.2.2.2.2.2.2.1))) else (laws_FnExactShut.j0 k bt1436.2.2.2.2.2.2.2.1 bt1436.2.2.2.2.2.2.2.2 bt1464.2.2.2.2.2.2.2.1 bt1464.2.2.2.2.2.2.2.2 true a0_0 a0_1 a0_2 a0_3 a0_4 l0_5 l0_6 bt1436.1 bt1436.2.1 bt1436.2.2.1 bt1436.2.2.2.1 bt1436.2.2.2.2.1 bt1436.2.2.2.2.2.1 bt1436.2.2.2.2.2.2.1 bt1452.1 bt1452.2.1 bt1452.2.2.1 bt1452.2.2.2.1 bt1452.2.2.2.2.1 bt1452.2.2.2.2.2.1 bt1452.2.2.2.2.2.2 bt1464.1 bt1464.2.1 bt1464.2.2.1 bt1464.2.2.2.1 bt1464.2.2.2.2.1 bt1464.2.2.2.2.2.1 bt1464.2.2.2.2.2.2.1))))))))) = some r := h
 clear h
 replace H := Option.bind_eq_some_iff.mp H
 obtain ⟨t1424, A20, H⟩ := H
 replace H : (if t1424 < 0 then (some true) else ((laws_toCell.f k a0_0 a0_1 a0_2 a0_3 a0_4 l0_5 l0_6).bind fun bt1425 => ((spec_Shut.f k bt1425.1 bt1425.2.1 bt1425.2.2.1 bt1425.2.2.2.1 bt1425.2.2.2.2.1 bt1425.2.2.2.2.2.1 bt1425.2.2.2.2.2.2).bind fun bt1436 => ((laws_toCell.f k a0_0 a0_1 a0_2 a0_3 a0_4 l0_5 l0_6).bind fun bt1452 => ((impl_Shut.f k bt1452.1 bt1452.2.1 bt1452.2.2.1 bt1452.2.2.2.1 bt1452.2.2.2.2.1 bt1452.2.2.2.2.2.1 bt1452.2.2.2.2.2.2).bind fun bt1464 => ((laws_eqCell.f k bt1464.1 bt1464.2.1 bt1464.2.2.1 bt1464.2.2.2.1 bt1464.2.2.2.2.1 bt1464.2.2.2.2.2.1 bt1464.2.2.2.2.2.2.1 bt1436.1 bt1436.2.1 bt1436.2.2.1 bt1436.2.2.2.1 bt1436.2.2.2.2.1 bt1436.2.2.2.2.2.1 bt1436.2.2.2.2.2.2.1).bind fun t1480 => (if t1480 = true then ((laws_eqIntS.f k bt1464.2.2.2.2.2.2.2.1 bt1436.2.2.2.2.2.2.2.1).bind fun t1481 => (if t1481 = true then (laws_FnExactShut.j0 k bt1436.2.2.2.2.2.2.2.1 bt1436.2.2.2.2.2.2.2.2 bt1464.2.2.2.2.2.2.2.1 bt1464.2.2.2.2.2.2.2.2 (bt1464.2.2.2.2.2.2.2.2 != bt1436.2.2.2.2.2.2.2.2) a0_0 a0_1 a0_2 a0_3 a0_4 l0_5 l0_6 bt1436.1 bt1436.2.1 bt1436.2.2.1 bt1436.2.2.2.1 bt1436.2.2.2.2.1 bt1436.2.2.2.2.2.1 bt1436.2.2.2.2.2.2.1 bt1452.1 bt1452.2.1 bt1452.2.2.1 bt1452.2.2.2.1 bt1452.2.2.2.2.1 bt1452.2.2.2.2.2.1 bt1452.2.2.2.2.2.2 bt1464.1 bt1464.2.1 bt1464.2.2.1 bt1464.2.2.2.1 bt1464.2.2.2.2.1 bt1464.2.2.2.2.2.1 bt1464.2.2.2.2.2.2.1) else (laws_FnExactShut.j0 k bt1436.2.2.2.2.2.2.2.1 bt1436.2.2.2.2.2.2.2.2 bt1464.2.2.2.2.2.2.2.1 bt1464.2.2.2.2.2.2.2.2 true a0_0 a0_1 a0_2 a0_3 a0_4 l0_5 l0_6 bt1436.1 bt1436.2.1 bt1436.2.2.1 bt1436.2.2.2.1 bt1436.2.2.2.2.1 bt1436.2.2.2.2.2.1 bt1436.2.2.2.2.2.2.1 bt1452.1 bt1452.2.1 bt1452.2.2.1 bt1452.2.2.2.1 bt1452.2.2.2.2.1 bt1452.2.2.2.2.2.1 bt1452.2.2.2.2.2.2 bt1464.1 bt1464.2.1 bt1464.2.2.1 bt1464.2.2.2.1 bt1464.2.2.2.2.1 bt1464.2.2.2.2.2.1 bt1464.2.2.2.2.2.2.1))) else (laws_FnExactShut.j0 k bt1436.2.2.2.2.2.2.2.1 bt1436.2.2.2.2.2.2.2.2 bt1464.2.2.2.2.2.2.2.1 bt1464.2.2.2.2.2.2.2.2 true a0_0 a0_1 a0_2 a0_3 a0_4 l0_5 l0_6 bt1436.1 bt1436.2.1 bt1436.2.2.1 bt1436.2.2.2.1 bt1436.2.2.2.2.1 bt1436.2.2.2.2.2.1 bt1436.2.2.2.2.2.2.1 bt1452.1 bt1452.2.1 bt1452.2.2.1 bt1452.2.2.2.1 bt1452.2.2.2.2.1 bt1452.2.2.2.2.2.1 bt1452.2.2.2.2.2.2 bt1464.1 bt1464.2.1 bt1464.2.2.1 bt1464.2.2.2.1 bt1464.2.2.2.2.1 bt1464.2.2.2.2.2.1 bt1464.2.2.2.2.2.2.1)))))))) = some r := H
 have A2 := am A20
 clear A20
 by_cases c3 : t1424 < 0
 ·rw [if_pos c3] at H
  have c3b0 : decide (t1424 < 0) = true := decide_eq_true c3
  clear c3
  obtain rfl := Option.some.inj H
  go_enter Try.func14, Try.ntmps14
  go_wp2_with (first | ((with_reducible refine gate_dst (N := 1) rfl ?_); refine box_event ?hg (N := 1) ?hd (cs := #[.int .i64 a0_0, .int .i64 a0_1, .string a0_2, .int .i64 a0_3, .bool a0_4, .slice A0_5 l0_5.length c0_5, .slice A0_6 l0_6.length c0_6]) (t := 56) ?hr ?_; (case hd => rfl); (case hg => rfl); (case hr => first | (go_simp; done) | (go_simp; rfl)); intro gb1423 hg w4 hbox hb; have BK1423 := am (hbox); have GW1423 := am ((by rw [hg]; exact (below_size (pkB HB.out)) : w.heap.size ≤ gb1423)); have GE1423 := am ((by rw [hg]; exact (below_size (pkB HB.out)) : w.heap.size ≤ gb1423)); replace HB := am (below_step (pkB HB.out) hb); clear hb hbox hg; obtain ⟨hcz5_0, hcz5_1, hcz5_2, hcz5_3, hcz5_4, hcz5_5, hcz5_6, hfz5_0, hfz5_1, hfz5_2, hfz5_3, hfz5_4, hfz5_5, hfz5_6⟩ := bk7 BK1423.out) | ((with_reducible refine gate_callee (f := 31) rfl ?_); refine goesL_ (some 19) rfl rfl Try.func31 (by kernel_rfl) rfl #[.agg #[.int .i64 a0_0, .int .i64 a0_1, .string a0_2, .int .i64 a0_3, .bool a0_4, .slice A0_5 l0_5.length c0_5, .slice A0_6 l0_6.length c0_6], .int .i64 1048576] rfl mpx ?_; (with_reducible refine (laws_szCell.calls a0_0 a0_1 a0_2 a0_3 a0_4 _ _ l0_5 _ _ l0_6 1048576 t1424 _ ?side1 ?side2 ?side3 ?side4 A2.out).mono ?_); (case side1 => exact pkC (Kd.C_below HR0_5.out HB.out)); (case side2 => exact HC0_5.out); (case side3 => exact pkC (Kd.C_below HR0_6.out HB.out)); (case side4 => exact HC0_6.out); rintro e w6 ⟨rfl, hb⟩; refine ⟨_, rfl, ?_⟩; replace BK1423 := am (blk_below (pkK BK1423.out) hb); replace HB := am (below_step (pkW HB.out) hb); (try clear hb)))
  go_ret
  exact ⟨rfe, pkW HB.out⟩
 ·rw [if_neg c3] at H
  have c3b0 : decide (t1424 < 0) = false := decide_eq_false c3
  clear c3
  replace H := Option.bind_eq_some_iff.mp H
  obtain ⟨⟨t1425, t1426, t1427, t1428, t1429, t1430, t1433⟩, A70, H⟩ := H
  replace H : ((spec_Shut.f k t1425 t1426 t1427 t1428 t1429 t1430 t1433).bind fun bt1436 => ((laws_toCell.f k a0_0 a0_1 a0_2 a0_3 a0_4 l0_5 l0_6).bind fun bt1452 => ((impl_Shut.f k bt1452.1 bt1452.2.1 bt1452.2.2.1 bt1452.2.2.2.1 bt1452.2.2.2.2.1 bt1452.2.2.2.2.2.1 bt1452.2.2.2.2.2.2).bind fun bt1464 => ((laws_eqCell.f k bt1464.1 bt1464.2.1 bt1464.2.2.1 bt1464.2.2.2.1 bt1464.2.2.2.2.1 bt1464.2.2.2.2.2.1 bt1464.2.2.2.2.2.2.1 bt1436.1 bt1436.2.1 bt1436.2.2.1 bt1436.2.2.2.1 bt1436.2.2.2.2.1 bt1436.2.2.2.2.2.1 bt1436.2.2.2.2.2.2.1).bind fun t1480 => (if t1480 = true then ((laws_eqIntS.f k bt1464.2.2.2.2.2.2.2.1 bt1436.2.2.2.2.2.2.2.1).bind fun t1481 => (if t1481 = true then (laws_FnExactShut.j0 k bt1436.2.2.2.2.2.2.2.1 bt1436.2.2.2.2.2.2.2.2 bt1464.2.2.2.2.2.2.2.1 bt1464.2.2.2.2.2.2.2.2 (bt1464.2.2.2.2.2.2.2.2 != bt1436.2.2.2.2.2.2.2.2) a0_0 a0_1 a0_2 a0_3 a0_4 l0_5 l0_6 bt1436.1 bt1436.2.1 bt1436.2.2.1 bt1436.2.2.2.1 bt1436.2.2.2.2.1 bt1436.2.2.2.2.2.1 bt1436.2.2.2.2.2.2.1 bt1452.1 bt1452.2.1 bt1452.2.2.1 bt1452.2.2.2.1 bt1452.2.2.2.2.1 bt1452.2.2.2.2.2.1 bt1452.2.2.2.2.2.2 bt1464.1 bt1464.2.1 bt1464.2.2.1 bt1464.2.2.2.1 bt1464.2.2.2.2.1 bt1464.2.2.2.2.2.1 bt1464.2.2.2.2.2.2.1) else (laws_FnExactShut.j0 k bt1436.2.2.2.2.2.2.2.1 bt1436.2.2.2.2.2.2.2.2 bt1464.2.2.2.2.2.2.2.1 bt1464.2.2.2.2.2.2.2.2 true a0_0 a0_1 a0_2 a0_3 a0_4 l0_5 l0_6 bt1436.1 bt1436.2.1 bt1436.2.2.1 bt1436.2.2.2.1 bt1436.2.2.2.2.1 bt1436.2.2.2.2.2.1 bt1436.2.2.2.2.2.2.1 bt1452.1 bt1452.2.1 bt1452.2.2.1 bt1452.2.2.2.1 bt1452.2.2.2.2.1 bt1452.2.2.2.2.2.1 bt1452.2.2.2.2.2.2 bt1464.1 bt1464.2.1 bt1464.2.2.1 bt1464.2.2.2.1 bt1464.2.2.2.2.1 bt1464.2.2.2.2.2.1 bt1464.2.2.2.2.2.2.1))) else (laws_FnExactShut.j0 k bt1436.2.2.2.2.2.2.2.1 bt1436.2.2.2.2.2.2.2.2 bt1464.2.2.2.2.2.2.2.1 bt1464.2.2.2.2.2.2.2.2 true a0_0 a0_1 a0_2 a0_3 a0_4 l0_5 l0_6 bt1436.1 bt1436.2.1 bt1436.2.2.1 bt1436.2.2.2.1 bt1436.2.2.2.2.1 bt1436.2.2.2.2.2.1 bt1436.2.2.2.2.2.2.1 bt1452.1 bt1452.2.1 bt1452.2.2.1 bt1452.2.2.2.1 bt1452.2.2.2.2.1 bt1452.2.2.2.2.2.1 bt1452.2.2.2.2.2.2 bt1464.1 bt1464.2.1 bt1464.2.2.1 bt1464.2.2.2.1 bt1464.2.2.2.2.1 bt1464.2.2.2.2.2.1 bt1464.2.2.2.2.2.2.1)))))) = some r := H
  have A7 := am A70
  clear A70
  replace H := Option.bind_eq_some_iff.mp H
  obtain ⟨⟨t1436, t1437, t1438, t1439, t1440, t1441, t1444, t1447, t1450⟩, A80, H⟩ := H
  replace H : ((laws_toCell.f k a0_0 a0_1 a0_2 a0_3 a0_4 l0_5 l0_6).bind fun bt1452 => ((impl_Shut.f k bt1452.1 bt1452.2.1 bt1452.2.2.1 bt1452.2.2.2.1 bt1452.2.2.2.2.1 bt1452.2.2.2.2.2.1 bt1452.2.2.2.2.2.2).bind fun bt1464 => ((laws_eqCell.f k bt1464.1 bt1464.2.1 bt1464.2.2.1 bt1464.2.2.2.1 bt1464.2.2.2.2.1 bt1464.2.2.2.2.2.1 bt1464.2.2.2.2.2.2.1 t1436 t1437 t1438 t1439 t1440 t1441 t1444).bind fun t1480 => (if t1480 = true then ((laws_eqIntS.f k bt1464.2.2.2.2.2.2.2.1 t1447).bind fun t1481 => (if t1481 = true then (laws_FnExactShut.j0 k t1447 t1450 bt1464.2.2.2.2.2.2.2.1 bt1464.2.2.2.2.2.2.2.2 (bt1464.2.2.2.2.2.2.2.2 != t1450) a0_0 a0_1 a0_2 a0_3 a0_4 l0_5 l0_6 t1436 t1437 t1438 t1439 t1440 t1441 t1444 bt1452.1 bt1452.2.1 bt1452.2.2.1 bt1452.2.2.2.1 bt1452.2.2.2.2.1 bt1452.2.2.2.2.2.1 bt1452.2.2.2.2.2.2 bt1464.1 bt1464.2.1 bt1464.2.2.1 bt1464.2.2.2.1 bt1464.2.2.2.2.1 bt1464.2.2.2.2.2.1 bt1464.2.2.2.2.2.2.1) else (laws_FnExactShut.j0 k t1447 t1450 bt1464.2.2.2.2.2.2.2.1 bt1464.2.2.2.2.2.2.2.2 true a0_0 a0_1 a0_2 a0_3 a0_4 l0_5 l0_6 t1436 t1437 t1438 t1439 t1440 t1441 t1444 bt1452.1 bt1452.2.1 bt1452.2.2.1 bt1452.2.2.2.1 bt1452.2.2.2.2.1 bt1452.2.2.2.2.2.1 bt1452.2.2.2.2.2.2 bt1464.1 bt1464.2.1 bt1464.2.2.1 bt1464.2.2.2.1 bt1464.2.2.2.2.1 bt1464.2.2.2.2.2.1 bt1464.2.2.2.2.2.2.1))) else (laws_FnExactShut.j0 k t1447 t1450 bt1464.2.2.2.2.2.2.2.1 bt1464.2.2.2.2.2.2.2.2 true a0_0 a0_1 a0_2 a0_3 a0_4 l0_5 l0_6 t1436 t1437 t1438 t1439 t1440 t1441 t1444 bt1452.1 bt1452.2.1 bt1452.2.2.1 bt1452.2.2.2.1 bt1452.2.2.2.2.1 bt1452.2.2.2.2.2.1 bt1452.2.2.2.2.2.2 bt1464.1 bt1464.2.1 bt1464.2.2.1 bt1464.2.2.2.1 bt1464.2.2.2.2.1 bt1464.2.2.2.2.2.1 bt1464.2.2.2.2.2.2.1))))) = some r := H
  have A8 := am A80
  clear A80
  replace H := Option.bind_eq_some_iff.mp H
  obtain ⟨⟨t1452, t1453, t1454, t1455, t1456, t1457, t1460⟩, A90, H⟩ := H
  replace H : ((impl_Shut.f k t1452 t1453 t1454 t1455 t1456 t1457 t1460).bind fun bt1464 => ((laws_eqCell.f k bt1464.1 bt1464.2.1 bt1464.2.2.1 bt1464.2.2.2.1 bt1464.2.2.2.2.1 bt1464.2.2.2.2.2.1 bt1464.2.2.2.2.2.2.1 t1436 t1437 t1438 t1439 t1440 t1441 t1444).bind fun t1480 => (if t1480 = true then ((laws_eqIntS.f k bt1464.2.2.2.2.2.2.2.1 t1447).bind fun t1481 => (if t1481 = true then (laws_FnExactShut.j0 k t1447 t1450 bt1464.2.2.2.2.2.2.2.1 bt1464.2.2.2.2.2.2.2.2 (bt1464.2.2.2.2.2.2.2.2 != t1450) a0_0 a0_1 a0_2 a0_3 a0_4 l0_5 l0_6 t1436 t1437 t1438 t1439 t1440 t1441 t1444 t1452 t1453 t1454 t1455 t1456 t1457 t1460 bt1464.1 bt1464.2.1 bt1464.2.2.1 bt1464.2.2.2.1 bt1464.2.2.2.2.1 bt1464.2.2.2.2.2.1 bt1464.2.2.2.2.2.2.1) else (laws_FnExactShut.j0 k t1447 t1450 bt1464.2.2.2.2.2.2.2.1 bt1464.2.2.2.2.2.2.2.2 true a0_0 a0_1 a0_2 a0_3 a0_4 l0_5 l0_6 t1436 t1437 t1438 t1439 t1440 t1441 t1444 t1452 t1453 t1454 t1455 t1456 t1457 t1460 bt1464.1 bt1464.2.1 bt1464.2.2.1 bt1464.2.2.2.1 bt1464.2.2.2.2.1 bt1464.2.2.2.2.2.1 bt1464.2.2.2.2.2.2.1))) else (laws_FnExactShut.j0 k t1447 t1450 bt1464.2.2.2.2.2.2.2.1 bt1464.2.2.2.2.2.2.2.2 true a0_0 a0_1 a0_2 a0_3 a0_4 l0_5 l0_6 t1436 t1437 t1438 t1439 t1440 t1441 t1444 t1452 t1453 t1454 t1455 t1456 t1457 t1460 bt1464.1 bt1464.2.1 bt1464.2.2.1 bt1464.2.2.2.1 bt1464.2.2.2.2.1 bt1464.2.2.2.2.2.1 bt1464.2.2.2.2.2.2.1)))) = some r := H
  have A9 := am A90
  clear A90
  replace H := Option.bind_eq_some_iff.mp H
  obtain ⟨⟨t1464, t1465, t1466, t1467, t1468, t1469, t1472, t1475, t1478⟩, A100, H⟩ := H
  replace H : ((laws_eqCell.f k t1464 t1465 t1466 t1467 t1468 t1469 t1472 t1436 t1437 t1438 t1439 t1440 t1441 t1444).bind fun t1480 => (if t1480 = true then ((laws_eqIntS.f k t1475 t1447).bind fun t1481 => (if t1481 = true then (laws_FnExactShut.j0 k t1447 t1450 t1475 t1478 (t1478 != t1450) a0_0 a0_1 a0_2 a0_3 a0_4 l0_5 l0_6 t1436 t1437 t1438 t1439 t1440 t1441 t1444 t1452 t1453 t1454 t1455 t1456 t1457 t1460 t1464 t1465 t1466 t1467 t1468 t1469 t1472) else (laws_FnExactShut.j0 k t1447 t1450 t1475 t1478 true a0_0 a0_1 a0_2 a0_3 a0_4 l0_5 l0_6 t1436 t1437 t1438 t1439 t1440 t1441 t1444 t1452 t1453 t1454 t1455 t1456 t1457 t1460 t1464 t1465 t1466 t1467 t1468 t1469 t1472))) else (laws_FnExactShut.j0 k t1447 t1450 t1475 t1478 true a0_0 a0_1 a0_2 a0_3 a0_4 l0_5 l0_6 t1436 t1437 t1438 t1439 t1440 t1441 t1444 t1452 t1453 t1454 t1455 t1456 t1457 t1460 t1464 t1465 t1466 t1467 t1468 t1469 t1472))) = some r := H
  have A10 := am A100
  clear A100
  have HC11 := am H
  clear H
  go_enter Try.func14, Try.ntmps14
  go_upto_region 8 with (first | ((with_reducible refine gate_dst (N := 1) rfl ?_); refine box_event ?hg (N := 1) ?hd (cs := #[.int .i64 a0_0, .int .i64 a0_1, .string a0_2, .int .i64 a0_3, .bool a0_4, .slice A0_5 l0_5.length c0_5, .slice A0_6 l0_6.length c0_6]) (t := 56) ?hr ?_; (case hd => rfl); (case hg => rfl); (case hr => first | (go_simp; done) | (go_simp; rfl)); intro gb1423 hg w12 hbox hb; have BK1423 := am (hbox); have GW1423 := am ((by rw [hg]; exact (below_size (pkB HB.out)) : w.heap.size ≤ gb1423)); have GE1423 := am ((by rw [hg]; exact (below_size (pkB HB.out)) : w.heap.size ≤ gb1423)); replace HB := am (below_step (pkB HB.out) hb); clear hb hbox hg; obtain ⟨hcz13_0, hcz13_1, hcz13_2, hcz13_3, hcz13_4, hcz13_5, hcz13_6, hfz13_0, hfz13_1, hfz13_2, hfz13_3, hfz13_4, hfz13_5, hfz13_6⟩ := bk7 BK1423.out) | ((with_reducible refine gate_callee (f := 31) rfl ?_); refine goesL_ (some 19) rfl rfl Try.func31 (by kernel_rfl) rfl #[.agg #[.int .i64 a0_0, .int .i64 a0_1, .string a0_2, .int .i64 a0_3, .bool a0_4, .slice A0_5 l0_5.length c0_5, .slice A0_6 l0_6.length c0_6], .int .i64 1048576] rfl mpx ?_; (with_reducible refine (laws_szCell.calls a0_0 a0_1 a0_2 a0_3 a0_4 _ _ l0_5 _ _ l0_6 1048576 t1424 _ ?side1 ?side2 ?side3 ?side4 A2.out).mono ?_); (case side1 => exact pkC (Kd.C_below HR0_5.out HB.out)); (case side2 => exact HC0_5.out); (case side3 => exact pkC (Kd.C_below HR0_6.out HB.out)); (case side4 => exact HC0_6.out); rintro e w14 ⟨rfl, hb⟩; refine ⟨_, rfl, ?_⟩; replace BK1423 := am (blk_below (pkK BK1423.out) hb); replace HB := am (below_step (pkW HB.out) hb); (try clear hb); obtain ⟨hcz15_0, hcz15_1, hcz15_2, hcz15_3, hcz15_4, hcz15_5, hcz15_6, hfz15_0, hfz15_1, hfz15_2, hfz15_3, hfz15_4, hfz15_5, hfz15_6⟩ := bk7 BK1423.out) | ((with_reducible refine gate_callee (f := 32) rfl ?_); refine goesL_ (some 24) rfl rfl Try.func32 (by kernel_rfl) rfl #[.agg #[.int .i64 a0_0, .int .i64 a0_1, .string a0_2, .int .i64 a0_3, .bool a0_4, .slice A0_5 l0_5.length c0_5, .slice A0_6 l0_6.length c0_6]] rfl mpx ?_; (with_reducible refine (laws_toCell.calls k a0_0 a0_1 a0_2 a0_3 a0_4 _ _ l0_5 _ _ l0_6 t1425 t1426 t1427 t1428 t1429 t1430 t1433 _ ?side1 ?side2 ?side3 ?side4 A7.out).mono ?_); (case side1 => exact pkC (Kd.C_below HR0_5.out HB.out)); (case side2 => exact HC0_5.out); (case side3 => exact pkC (Kd.C_below HR0_6.out HB.out)); (case side4 => exact HC0_6.out); rintro e w16 ⟨v1431, v1434, rfl, ho0, ho1, hb⟩; refine ⟨_, rfl, ?_⟩; have HO1432 := am (Kd.R_lower ho0 (below_size (pkW HB.out))); have HO1435 := am (Kd.R_lower ho1 (below_size (pkW HB.out))); replace BK1423 := am (blk_below (pkK BK1423.out) hb); replace HB := am (below_step (pkW HB.out) hb); (try clear hb ho0 ho1); obtain ⟨Ao17, co17, eo17⟩ := Kd.R_slice HO1432.out; subst eo17; obtain ⟨Ao18, co18, eo18⟩ := Kd.R_slice HO1435.out; subst eo18) | ((with_reducible refine gate_callee (f := 52) rfl ?_); refine goesL_ (some 25) rfl rfl Try.func52 (by kernel_rfl) rfl #[.agg #[.int .i64 t1425, .int .i64 t1426, .string t1427, .int .i64 t1428, .bool t1429, .slice Ao17 t1430.length co17, .slice Ao18 t1433.length co18]] rfl mpx ?_; (with_reducible refine (spec_Shut.calls k t1425 t1426 t1427 t1428 t1429 _ _ t1430 _ _ t1433 t1436 t1437 t1438 t1439 t1440 t1441 t1444 t1447 t1450 _ ?side1 ?side2 ?side3 ?side4 A8.out).mono ?_); (case side1 => exact pkC (Kd.R_reads' HO1432.out).2.2); (case side2 => exact (Kd.R_reads' HO1432.out).2.1); (case side3 => exact pkC (Kd.R_reads' HO1435.out).2.2); (case side4 => exact (Kd.R_reads' HO1435.out).2.1); rintro e w19 ⟨v1442, v1445, v1448, rfl, ho0, ho1, ho2, hb⟩; refine ⟨_, rfl, ?_⟩; have HO1443 := am (Kd.R_lower (Kd.R_new' (Kd.R_new' ho0 (Kd.R_lt (pkR HO1432.out))) (Kd.R_lt (pkR HO1435.out))) (below_size (pkW HB.out))); have HO1446 := am (Kd.R_lower (Kd.R_new' (Kd.R_new' ho1 (Kd.R_lt (pkR HO1432.out))) (Kd.R_lt (pkR HO1435.out))) (below_size (pkW HB.out))); have HO1449 := am (Kd.R_lower (Kd.R_new' (Kd.R_new' ho2 (Kd.R_lt (pkR HO1432.out))) (Kd.R_lt (pkR HO1435.out))) (below_size (pkW HB.out))); replace HO1432 := am (Kd.R_mono (Kd.R_told (Kd.R_told (Kd.R_told (Kd.R_old (pkR HO1432.out) hb) (Kd.R_base ho0)) (Kd.R_base ho1)) (Kd.R_base ho2)) (fun _ h_ => h_.1)); replace HO1435 := am (Kd.R_mono (Kd.R_told (Kd.R_told (Kd.R_told (Kd.R_old (pkR HO1435.out) hb) (Kd.R_base ho0)) (Kd.R_base ho1)) (Kd.R_base ho2)) (fun _ h_ => h_.1)); replace BK1423 := am (blk_below (pkK BK1423.out) hb); replace HB := am (below_step (pkW HB.out) hb); (try clear hb ho0 ho1 ho2)) | ((with_reducible refine gate_dst (N := 4) rfl ?_); refine box_event ?hg (N := 4) ?hd (cs := #[.int .i64 0, .int .i64 0, .string (⟨#[]⟩ : ByteArray), .int .i64 0, .bool false, .slice none 0 0, .slice none 0 0]) (t := 29) ?hr ?_; (case hd => rfl); (case hg => rfl); (case hr => first | (go_simp; done) | (go_simp; rfl)); intro gb1451 hg w20 hbox hb; replace HO1432 := am (Kd.R_below (pkR HO1432.out) hb); replace HO1435 := am (Kd.R_below (pkR HO1435.out) hb); replace HO1443 := am (Kd.R_below (pkR HO1443.out) hb); replace HO1446 := am (Kd.R_below (pkR HO1446.out) hb); replace HO1449 := am (Kd.R_below (pkR HO1449.out) hb); have BK1451 := am (hbox); have GW1451 := am ((by rw [hg]; exact (below_size (pkW HB.out)) : w.heap.size ≤ gb1451)); have GE1451 := am ((by rw [hg]; exact (below_size (pkW HB.out)) : w.heap.size ≤ gb1451)); replace HB := am (below_step (pkW HB.out) hb); have NB1423_1451 := am ((by rw [hg]; exact Nat.ne_of_lt (blk_lt (g := gb1423) (o := .cells #[.int .i64 a0_0, .int .i64 a0_1, .string a0_2, .int .i64 a0_3, .bool a0_4, .slice A0_5 l0_5.length c0_5, .slice A0_6 l0_6.length c0_6] 56 (0, 0)) (pkK BK1423.out)) : gb1423 ≠ gb1451)); have NB1451_1423 := am ((by rw [hg]; exact Nat.ne_of_gt (blk_lt (g := gb1423) (o := .cells #[.int .i64 a0_0, .int .i64 a0_1, .string a0_2, .int .i64 a0_3, .bool a0_4, .slice A0_5 l0_5.length c0_5, .slice A0_6 l0_6.length c0_6] 56 (0, 0)) (pkK BK1423.out)) : gb1451 ≠ gb1423)); replace BK1423 := am (blk_below (pkK BK1423.out) hb); clear hb hbox hg; have hnb21 := NB1451_1423.out; have hnc21 := NB1423_1451.out; obtain ⟨hcz22_0, hcz22_1, hcz22_2, hcz22_3, hcz22_4, hcz22_5, hcz22_6, hfz22_0, hfz22_1, hfz22_2, hfz22_3, hfz22_4, hfz22_5, hfz22_6⟩ := bk7 BK1451.out; obtain ⟨Ao23, co23, eo23⟩ := Kd.R_slice HO1443.out; subst eo23; obtain ⟨Ao24, co24, eo24⟩ := Kd.R_slice HO1446.out; subst eo24; obtain ⟨hcz25_0, hcz25_1, hcz25_2, hcz25_3, hcz25_4, hcz25_5, hcz25_6, hfz25_0, hfz25_1, hfz25_2, hfz25_3, hfz25_4, hfz25_5, hfz25_6⟩ := bk7 BK1423.out) | ((with_reducible refine gate_callee (f := 32) rfl ?_); refine goesL_ (some 30) rfl rfl Try.func32 (by kernel_rfl) rfl #[.agg #[.int .i64 a0_0, .int .i64 a0_1, .string a0_2, .int .i64 a0_3, .bool a0_4, .slice A0_5 l0_5.length c0_5, .slice A0_6 l0_6.length c0_6]] rfl mpx ?_; (with_reducible refine (laws_toCell.calls k a0_0 a0_1 a0_2 a0_3 a0_4 _ _ l0_5 _ _ l0_6 t1452 t1453 t1454 t1455 t1456 t1457 t1460 _ ?side1 ?side2 ?side3 ?side4 A9.out).mono ?_); (case side1 => exact Kd.C_below HR0_5.out (pkW HB.out)); (case side2 => exact HC0_5.out); (case side3 => exact Kd.C_below HR0_6.out (pkW HB.out)); (case side4 => exact HC0_6.out); rintro e w26 ⟨v1458, v1461, rfl, ho0, ho1, hb⟩; refine ⟨_, rfl, ?_⟩; have HO1459 := am (Kd.R_lower (Kd.R_new' (Kd.R_new' (Kd.R_new' (Kd.R_new' (Kd.R_new' ho0 (Kd.R_lt (by (with_reducible repeat (first | apply Kd.R_alloc | apply Kd.R_drewN | apply Kd.R_drew)); exact (Kd.R_mono (Kd.R_far (p := ⟨gb1451, 6, none⟩) (Kd.R_far (p := ⟨gb1451, 5, none⟩) (Kd.R_far (p := ⟨gb1451, 4, none⟩) (Kd.R_far (p := ⟨gb1451, 3, none⟩) (Kd.R_far (p := ⟨gb1451, 2, none⟩) (Kd.R_far (p := ⟨gb1451, 1, none⟩) (Kd.R_far (p := ⟨gb1451, 0, none⟩) (Kd.R_types HO1432.out BK1451.out (by decide)) (fun _ hk => hk.2) (.int .i64 t1436)) (fun _ hk => hk.2) (.int .i64 t1437)) (fun _ hk => hk.2) (.string t1438)) (fun _ hk => hk.2) (.int .i64 t1439)) (fun _ hk => hk.2) (.bool t1440)) (fun _ hk => hk.2) (.slice Ao23 t1441.length co23)) (fun _ hk => hk.2) (.slice Ao24 t1444.length co24)) (fun _ h_ => h_.1))))) (Kd.R_lt (by (with_reducible repeat (first | apply Kd.R_alloc | apply Kd.R_drewN | apply Kd.R_drew)); exact (Kd.R_mono (Kd.R_far (p := ⟨gb1451, 6, none⟩) (Kd.R_far (p := ⟨gb1451, 5, none⟩) (Kd.R_far (p := ⟨gb1451, 4, none⟩) (Kd.R_far (p := ⟨gb1451, 3, none⟩) (Kd.R_far (p := ⟨gb1451, 2, none⟩) (Kd.R_far (p := ⟨gb1451, 1, none⟩) (Kd.R_far (p := ⟨gb1451, 0, none⟩) (Kd.R_types HO1435.out BK1451.out (by decide)) (fun _ hk => hk.2) (.int .i64 t1436)) (fun _ hk => hk.2) (.int .i64 t1437)) (fun _ hk => hk.2) (.string t1438)) (fun _ hk => hk.2) (.int .i64 t1439)) (fun _ hk => hk.2) (.bool t1440)) (fun _ hk => hk.2) (.slice Ao23 t1441.length co23)) (fun _ hk => hk.2) (.slice Ao24 t1444.length co24)) (fun _ h_ => h_.1))))) (Kd.R_lt (by (with_reducible repeat (first | apply Kd.R_alloc | apply Kd.R_drewN | apply Kd.R_drew)); exact (Kd.R_mono (Kd.R_far (p := ⟨gb1451, 6, none⟩) (Kd.R_far (p := ⟨gb1451, 5, none⟩) (Kd.R_far (p := ⟨gb1451, 4, none⟩) (Kd.R_far (p := ⟨gb1451, 3, none⟩) (Kd.R_far (p := ⟨gb1451, 2, none⟩) (Kd.R_far (p := ⟨gb1451, 1, none⟩) (Kd.R_far (p := ⟨gb1451, 0, none⟩) (Kd.R_types HO1443.out BK1451.out (by decide)) (fun _ hk => hk.2) (.int .i64 t1436)) (fun _ hk => hk.2) (.int .i64 t1437)) (fun _ hk => hk.2) (.string t1438)) (fun _ hk => hk.2) (.int .i64 t1439)) (fun _ hk => hk.2) (.bool t1440)) (fun _ hk => hk.2) (.slice Ao23 t1441.length co23)) (fun _ hk => hk.2) (.slice Ao24 t1444.length co24)) (fun _ h_ => h_.1))))) (Kd.R_lt (by (with_reducible repeat (first | apply Kd.R_alloc | apply Kd.R_drewN | apply Kd.R_drew)); exact (Kd.R_mono (Kd.R_far (p := ⟨gb1451, 6, none⟩) (Kd.R_far (p := ⟨gb1451, 5, none⟩) (Kd.R_far (p := ⟨gb1451, 4, none⟩) (Kd.R_far (p := ⟨gb1451, 3, none⟩) (Kd.R_far (p := ⟨gb1451, 2, none⟩) (Kd.R_far (p := ⟨gb1451, 1, none⟩) (Kd.R_far (p := ⟨gb1451, 0, none⟩) (Kd.R_types HO1446.out BK1451.out (by decide)) (fun _ hk => hk.2) (.int .i64 t1436)) (fun _ hk => hk.2) (.int .i64 t1437)) (fun _ hk => hk.2) (.string t1438)) (fun _ hk => hk.2) (.int .i64 t1439)) (fun _ hk => hk.2) (.bool t1440)) (fun _ hk => hk.2) (.slice Ao23 t1441.length co23)) (fun _ hk => hk.2) (.slice Ao24 t1444.length co24)) (fun _ h_ => h_.1))))) (Kd.R_lt (by (with_reducible repeat (first | apply Kd.R_alloc | apply Kd.R_drewN | apply Kd.R_drew)); exact (Kd.R_mono (Kd.R_far (p := ⟨gb1451, 6, none⟩) (Kd.R_far (p := ⟨gb1451, 5, none⟩) (Kd.R_far (p := ⟨gb1451, 4, none⟩) (Kd.R_far (p := ⟨gb1451, 3, none⟩) (Kd.R_far (p := ⟨gb1451, 2, none⟩) (Kd.R_far (p := ⟨gb1451, 1, none⟩) (Kd.R_far (p := ⟨gb1451, 0, none⟩) (Kd.R_types HO1449.out BK1451.out (by decide)) (fun _ hk => hk.2) (.int .i64 t1436)) (fun _ hk => hk.2) (.int .i64 t1437)) (fun _ hk => hk.2) (.string t1438)) (fun _ hk => hk.2) (.int .i64 t1439)) (fun _ hk => hk.2) (.bool t1440)) (fun _ hk => hk.2) (.slice Ao23 t1441.length co23)) (fun _ hk => hk.2) (.slice Ao24 t1444.length co24)) (fun _ h_ => h_.1))))) (below_size (pkW HB.out))); have HO1462 := am (Kd.R_lower (Kd.R_new' (Kd.R_new' (Kd.R_new' (Kd.R_new' (Kd.R_new' ho1 (Kd.R_lt (by (with_reducible repeat (first | apply Kd.R_alloc | apply Kd.R_drewN | apply Kd.R_drew)); exact (Kd.R_mono (Kd.R_far (p := ⟨gb1451, 6, none⟩) (Kd.R_far (p := ⟨gb1451, 5, none⟩) (Kd.R_far (p := ⟨gb1451, 4, none⟩) (Kd.R_far (p := ⟨gb1451, 3, none⟩) (Kd.R_far (p := ⟨gb1451, 2, none⟩) (Kd.R_far (p := ⟨gb1451, 1, none⟩) (Kd.R_far (p := ⟨gb1451, 0, none⟩) (Kd.R_types HO1432.out BK1451.out (by decide)) (fun _ hk => hk.2) (.int .i64 t1436)) (fun _ hk => hk.2) (.int .i64 t1437)) (fun _ hk => hk.2) (.string t1438)) (fun _ hk => hk.2) (.int .i64 t1439)) (fun _ hk => hk.2) (.bool t1440)) (fun _ hk => hk.2) (.slice Ao23 t1441.length co23)) (fun _ hk => hk.2) (.slice Ao24 t1444.length co24)) (fun _ h_ => h_.1))))) (Kd.R_lt (by (with_reducible repeat (first | apply Kd.R_alloc | apply Kd.R_drewN | apply Kd.R_drew)); exact (Kd.R_mono (Kd.R_far (p := ⟨gb1451, 6, none⟩) (Kd.R_far (p := ⟨gb1451, 5, none⟩) (Kd.R_far (p := ⟨gb1451, 4, none⟩) (Kd.R_far (p := ⟨gb1451, 3, none⟩) (Kd.R_far (p := ⟨gb1451, 2, none⟩) (Kd.R_far (p := ⟨gb1451, 1, none⟩) (Kd.R_far (p := ⟨gb1451, 0, none⟩) (Kd.R_types HO1435.out BK1451.out (by decide)) (fun _ hk => hk.2) (.int .i64 t1436)) (fun _ hk => hk.2) (.int .i64 t1437)) (fun _ hk => hk.2) (.string t1438)) (fun _ hk => hk.2) (.int .i64 t1439)) (fun _ hk => hk.2) (.bool t1440)) (fun _ hk => hk.2) (.slice Ao23 t1441.length co23)) (fun _ hk => hk.2) (.slice Ao24 t1444.length co24)) (fun _ h_ => h_.1))))) (Kd.R_lt (by (with_reducible repeat (first | apply Kd.R_alloc | apply Kd.R_drewN | apply Kd.R_drew)); exact (Kd.R_mono (Kd.R_far (p := ⟨gb1451, 6, none⟩) (Kd.R_far (p := ⟨gb1451, 5, none⟩) (Kd.R_far (p := ⟨gb1451, 4, none⟩) (Kd.R_far (p := ⟨gb1451, 3, none⟩) (Kd.R_far (p := ⟨gb1451, 2, none⟩) (Kd.R_far (p := ⟨gb1451, 1, none⟩) (Kd.R_far (p := ⟨gb1451, 0, none⟩) (Kd.R_types HO1443.out BK1451.out (by decide)) (fun _ hk => hk.2) (.int .i64 t1436)) (fun _ hk => hk.2) (.int .i64 t1437)) (fun _ hk => hk.2) (.string t1438)) (fun _ hk => hk.2) (.int .i64 t1439)) (fun _ hk => hk.2) (.bool t1440)) (fun _ hk => hk.2) (.slice Ao23 t1441.length co23)) (fun _ hk => hk.2) (.slice Ao24 t1444.length co24)) (fun _ h_ => h_.1))))) (Kd.R_lt (by (with_reducible repeat (first | apply Kd.R_alloc | apply Kd.R_drewN | apply Kd.R_drew)); exact (Kd.R_mono (Kd.R_far (p := ⟨gb1451, 6, none⟩) (Kd.R_far (p := ⟨gb1451, 5, none⟩) (Kd.R_far (p := ⟨gb1451, 4, none⟩) (Kd.R_far (p := ⟨gb1451, 3, none⟩) (Kd.R_far (p := ⟨gb1451, 2, none⟩) (Kd.R_far (p := ⟨gb1451, 1, none⟩) (Kd.R_far (p := ⟨gb1451, 0, none⟩) (Kd.R_types HO1446.out BK1451.out (by decide)) (fun _ hk => hk.2) (.int .i64 t1436)) (fun _ hk => hk.2) (.int .i64 t1437)) (fun _ hk => hk.2) (.string t1438)) (fun _ hk => hk.2) (.int .i64 t1439)) (fun _ hk => hk.2) (.bool t1440)) (fun _ hk => hk.2) (.slice Ao23 t1441.length co23)) (fun _ hk => hk.2) (.slice Ao24 t1444.length co24)) (fun _ h_ => h_.1))))) (Kd.R_lt (by (with_reducible repeat (first | apply Kd.R_alloc | apply Kd.R_drewN | apply Kd.R_drew)); exact (Kd.R_mono (Kd.R_far (p := ⟨gb1451, 6, none⟩) (Kd.R_far (p := ⟨gb1451, 5, none⟩) (Kd.R_far (p := ⟨gb1451, 4, none⟩) (Kd.R_far (p := ⟨gb1451, 3, none⟩) (Kd.R_far (p := ⟨gb1451, 2, none⟩) (Kd.R_far (p := ⟨gb1451, 1, none⟩) (Kd.R_far (p := ⟨gb1451, 0, none⟩) (Kd.R_types HO1449.out BK1451.out (by decide)) (fun _ hk => hk.2) (.int .i64 t1436)) (fun _ hk => hk.2) (.int .i64 t1437)) (fun _ hk => hk.2) (.string t1438)) (fun _ hk => hk.2) (.int .i64 t1439)) (fun _ hk => hk.2) (.bool t1440)) (fun _ hk => hk.2) (.slice Ao23 t1441.length co23)) (fun _ hk => hk.2) (.slice Ao24 t1444.length co24)) (fun _ h_ => h_.1))))) (below_size (pkW HB.out))); replace HO1432 := am (Kd.R_mono (Kd.R_told (Kd.R_told (Kd.R_old (by (with_reducible repeat (first | apply Kd.R_alloc | apply Kd.R_drewN | apply Kd.R_drew)); exact (Kd.R_mono (Kd.R_far (p := ⟨gb1451, 6, none⟩) (Kd.R_far (p := ⟨gb1451, 5, none⟩) (Kd.R_far (p := ⟨gb1451, 4, none⟩) (Kd.R_far (p := ⟨gb1451, 3, none⟩) (Kd.R_far (p := ⟨gb1451, 2, none⟩) (Kd.R_far (p := ⟨gb1451, 1, none⟩) (Kd.R_far (p := ⟨gb1451, 0, none⟩) (Kd.R_types HO1432.out BK1451.out (by decide)) (fun _ hk => hk.2) (.int .i64 t1436)) (fun _ hk => hk.2) (.int .i64 t1437)) (fun _ hk => hk.2) (.string t1438)) (fun _ hk => hk.2) (.int .i64 t1439)) (fun _ hk => hk.2) (.bool t1440)) (fun _ hk => hk.2) (.slice Ao23 t1441.length co23)) (fun _ hk => hk.2) (.slice Ao24 t1444.length co24)) (fun _ h_ => h_.1))) hb) (Kd.R_base ho0)) (Kd.R_base ho1)) (fun _ h_ => h_.1)); replace HO1435 := am (Kd.R_mono (Kd.R_told (Kd.R_told (Kd.R_old (by (with_reducible repeat (first | apply Kd.R_alloc | apply Kd.R_drewN | apply Kd.R_drew)); exact (Kd.R_mono (Kd.R_far (p := ⟨gb1451, 6, none⟩) (Kd.R_far (p := ⟨gb1451, 5, none⟩) (Kd.R_far (p := ⟨gb1451, 4, none⟩) (Kd.R_far (p := ⟨gb1451, 3, none⟩) (Kd.R_far (p := ⟨gb1451, 2, none⟩) (Kd.R_far (p := ⟨gb1451, 1, none⟩) (Kd.R_far (p := ⟨gb1451, 0, none⟩) (Kd.R_types HO1435.out BK1451.out (by decide)) (fun _ hk => hk.2) (.int .i64 t1436)) (fun _ hk => hk.2) (.int .i64 t1437)) (fun _ hk => hk.2) (.string t1438)) (fun _ hk => hk.2) (.int .i64 t1439)) (fun _ hk => hk.2) (.bool t1440)) (fun _ hk => hk.2) (.slice Ao23 t1441.length co23)) (fun _ hk => hk.2) (.slice Ao24 t1444.length co24)) (fun _ h_ => h_.1))) hb) (Kd.R_base ho0)) (Kd.R_base ho1)) (fun _ h_ => h_.1)); replace HO1443 := am (Kd.R_mono (Kd.R_told (Kd.R_told (Kd.R_old (by (with_reducible repeat (first | apply Kd.R_alloc | apply Kd.R_drewN | apply Kd.R_drew)); exact (Kd.R_mono (Kd.R_far (p := ⟨gb1451, 6, none⟩) (Kd.R_far (p := ⟨gb1451, 5, none⟩) (Kd.R_far (p := ⟨gb1451, 4, none⟩) (Kd.R_far (p := ⟨gb1451, 3, none⟩) (Kd.R_far (p := ⟨gb1451, 2, none⟩) (Kd.R_far (p := ⟨gb1451, 1, none⟩) (Kd.R_far (p := ⟨gb1451, 0, none⟩) (Kd.R_types HO1443.out BK1451.out (by decide)) (fun _ hk => hk.2) (.int .i64 t1436)) (fun _ hk => hk.2) (.int .i64 t1437)) (fun _ hk => hk.2) (.string t1438)) (fun _ hk => hk.2) (.int .i64 t1439)) (fun _ hk => hk.2) (.bool t1440)) (fun _ hk => hk.2) (.slice Ao23 t1441.length co23)) (fun _ hk => hk.2) (.slice Ao24 t1444.length co24)) (fun _ h_ => h_.1))) hb) (Kd.R_base ho0)) (Kd.R_base ho1)) (fun _ h_ => h_.1)); replace HO1446 := am (Kd.R_mono (Kd.R_told (Kd.R_told (Kd.R_old (by (with_reducible repeat (first | apply Kd.R_alloc | apply Kd.R_drewN | apply Kd.R_drew)); exact (Kd.R_mono (Kd.R_far (p := ⟨gb1451, 6, none⟩) (Kd.R_far (p := ⟨gb1451, 5, none⟩) (Kd.R_far (p := ⟨gb1451, 4, none⟩) (Kd.R_far (p := ⟨gb1451, 3, none⟩) (Kd.R_far (p := ⟨gb1451, 2, none⟩) (Kd.R_far (p := ⟨gb1451, 1, none⟩) (Kd.R_far (p := ⟨gb1451, 0, none⟩) (Kd.R_types HO1446.out BK1451.out (by decide)) (fun _ hk => hk.2) (.int .i64 t1436)) (fun _ hk => hk.2) (.int .i64 t1437)) (fun _ hk => hk.2) (.string t1438)) (fun _ hk => hk.2) (.int .i64 t1439)) (fun _ hk => hk.2) (.bool t1440)) (fun _ hk => hk.2) (.slice Ao23 t1441.length co23)) (fun _ hk => hk.2) (.slice Ao24 t1444.length co24)) (fun _ h_ => h_.1))) hb) (Kd.R_base ho0)) (Kd.R_base ho1)) (fun _ h_ => h_.1)); replace HO1449 := am (Kd.R_mono (Kd.R_told (Kd.R_told (Kd.R_old (by (with_reducible repeat (first | apply Kd.R_alloc | apply Kd.R_drewN | apply Kd.R_drew)); exact (Kd.R_mono (Kd.R_far (p := ⟨gb1451, 6, none⟩) (Kd.R_far (p := ⟨gb1451, 5, none⟩) (Kd.R_far (p := ⟨gb1451, 4, none⟩) (Kd.R_far (p := ⟨gb1451, 3, none⟩) (Kd.R_far (p := ⟨gb1451, 2, none⟩) (Kd.R_far (p := ⟨gb1451, 1, none⟩) (Kd.R_far (p := ⟨gb1451, 0, none⟩) (Kd.R_types HO1449.out BK1451.out (by decide)) (fun _ hk => hk.2) (.int .i64 t1436)) (fun _ hk => hk.2) (.int .i64 t1437)) (fun _ hk => hk.2) (.string t1438)) (fun _ hk => hk.2) (.int .i64 t1439)) (fun _ hk => hk.2) (.bool t1440)) (fun _ hk => hk.2) (.slice Ao23 t1441.length co23)) (fun _ hk => hk.2) (.slice Ao24 t1444.length co24)) (fun _ h_ => h_.1))) hb) (Kd.R_base ho0)) (Kd.R_base ho1)) (fun _ h_ => h_.1)); replace BK1423 := am (blk_below (g := gb1423) (o := .cells #[.int .i64 a0_0, .int .i64 a0_1, .string a0_2, .int .i64 a0_3, .bool a0_4, .slice A0_5 l0_5.length c0_5, .slice A0_6 l0_6.length c0_6] 56 (0, 0)) (by (with_reducible repeat (first | refine blk_drewN ?_ _ | refine blk_drew ?_ | refine blk_alloc ?_ _)); refine blk_far ?_ NB1423_1451.out _; (with_reducible repeat (first | refine blk_drewN ?_ _ | refine blk_drew ?_ | refine blk_alloc ?_ _)); refine blk_far ?_ NB1423_1451.out _; (with_reducible repeat (first | refine blk_drewN ?_ _ | refine blk_drew ?_ | refine blk_alloc ?_ _)); refine blk_far ?_ NB1423_1451.out _; (with_reducible repeat (first | refine blk_drewN ?_ _ | refine blk_drew ?_ | refine blk_alloc ?_ _)); refine blk_far ?_ NB1423_1451.out _; (with_reducible repeat (first | refine blk_drewN ?_ _ | refine blk_drew ?_ | refine blk_alloc ?_ _)); refine blk_far ?_ NB1423_1451.out _; (with_reducible repeat (first | refine blk_drewN ?_ _ | refine blk_drew ?_ | refine blk_alloc ?_ _)); refine blk_far ?_ NB1423_1451.out _; (with_reducible repeat (first | refine blk_drewN ?_ _ | refine blk_drew ?_ | refine blk_alloc ?_ _)); refine blk_far ?_ NB1423_1451.out _; exact pkK BK1423.out) hb); replace BK1451 := am (blk_below (g := gb1451) (o := .cells #[.int .i64 t1436, .int .i64 t1437, .string t1438, .int .i64 t1439, .bool t1440, .slice Ao23 t1441.length co23, .slice Ao24 t1444.length co24] 29 (0, 0)) (by (with_reducible repeat (first | refine blk_drewN ?_ _ | refine blk_drew ?_ | refine blk_alloc ?_ _)); refine blk_put (cs := #[.int .i64 t1436, .int .i64 t1437, .string t1438, .int .i64 t1439, .bool t1440, .slice Ao23 t1441.length co23, .slice none 0 0]) ?_ 6 _ rfl; (with_reducible repeat (first | refine blk_drewN ?_ _ | refine blk_drew ?_ | refine blk_alloc ?_ _)); refine blk_put (cs := #[.int .i64 t1436, .int .i64 t1437, .string t1438, .int .i64 t1439, .bool t1440, .slice none 0 0, .slice none 0 0]) ?_ 5 _ rfl; (with_reducible repeat (first | refine blk_drewN ?_ _ | refine blk_drew ?_ | refine blk_alloc ?_ _)); refine blk_put (cs := #[.int .i64 t1436, .int .i64 t1437, .string t1438, .int .i64 t1439, .bool false, .slice none 0 0, .slice none 0 0]) ?_ 4 _ rfl; (with_reducible repeat (first | refine blk_drewN ?_ _ | refine blk_drew ?_ | refine blk_alloc ?_ _)); refine blk_put (cs := #[.int .i64 t1436, .int .i64 t1437, .string t1438, .int .i64 0, .bool false, .slice none 0 0, .slice none 0 0]) ?_ 3 _ rfl; (with_reducible repeat (first | refine blk_drewN ?_ _ | refine blk_drew ?_ | refine blk_alloc ?_ _)); refine blk_put (cs := #[.int .i64 t1436, .int .i64 t1437, .string (⟨#[]⟩ : ByteArray), .int .i64 0, .bool false, .slice none 0 0, .slice none 0 0]) ?_ 2 _ rfl; (with_reducible repeat (first | refine blk_drewN ?_ _ | refine blk_drew ?_ | refine blk_alloc ?_ _)); refine blk_put (cs := #[.int .i64 t1436, .int .i64 0, .string (⟨#[]⟩ : ByteArray), .int .i64 0, .bool false, .slice none 0 0, .slice none 0 0]) ?_ 1 _ rfl; (with_reducible repeat (first | refine blk_drewN ?_ _ | refine blk_drew ?_ | refine blk_alloc ?_ _)); refine blk_put (cs := #[.int .i64 0, .int .i64 0, .string (⟨#[]⟩ : ByteArray), .int .i64 0, .bool false, .slice none 0 0, .slice none 0 0]) ?_ 0 _ rfl; exact pkK BK1451.out) hb); replace HB := am (below_step (pkW HB.out) hb); (try clear hb ho0 ho1)) | ((with_reducible refine gate_dst (N := 7) rfl ?_); refine box_event ?hg (N := 7) ?hd (cs := #[.int .i64 0, .int .i64 0, .string (⟨#[]⟩ : ByteArray), .int .i64 0, .bool false, .slice none 0 0, .slice none 0 0]) (t := 29) ?hr ?_; (case hd => rfl); (case hg => rfl); (case hr => first | (go_simp; done) | (go_simp; rfl)); intro gb1463 hg w27 hbox hb; replace HO1432 := am (Kd.R_below (pkR HO1432.out) hb); replace HO1435 := am (Kd.R_below (pkR HO1435.out) hb); replace HO1443 := am (Kd.R_below (pkR HO1443.out) hb); replace HO1446 := am (Kd.R_below (pkR HO1446.out) hb); replace HO1449 := am (Kd.R_below (pkR HO1449.out) hb); replace HO1459 := am (Kd.R_below (pkR HO1459.out) hb); replace HO1462 := am (Kd.R_below (pkR HO1462.out) hb); have BK1463 := am (hbox); have GW1463 := am ((by rw [hg]; exact (below_size (pkW HB.out)) : w.heap.size ≤ gb1463)); have GE1463 := am ((by rw [hg]; exact (below_size (pkW HB.out)) : w.heap.size ≤ gb1463)); replace HB := am (below_step (pkW HB.out) hb); have NB1423_1463 := am ((by rw [hg]; exact Nat.ne_of_lt (blk_lt (g := gb1423) (o := .cells #[.int .i64 a0_0, .int .i64 a0_1, .string a0_2, .int .i64 a0_3, .bool a0_4, .slice A0_5 l0_5.length c0_5, .slice A0_6 l0_6.length c0_6] 56 (0, 0)) (pkK BK1423.out)) : gb1423 ≠ gb1463)); have NB1463_1423 := am ((by rw [hg]; exact Nat.ne_of_gt (blk_lt (g := gb1423) (o := .cells #[.int .i64 a0_0, .int .i64 a0_1, .string a0_2, .int .i64 a0_3, .bool a0_4, .slice A0_5 l0_5.length c0_5, .slice A0_6 l0_6.length c0_6] 56 (0, 0)) (pkK BK1423.out)) : gb1463 ≠ gb1423)); replace BK1423 := am (blk_below (pkK BK1423.out) hb); have NB1451_1463 := am ((by rw [hg]; exact Nat.ne_of_lt (blk_lt (g := gb1451) (o := .cells #[.int .i64 t1436, .int .i64 t1437, .string t1438, .int .i64 t1439, .bool t1440, .slice Ao23 t1441.length co23, .slice Ao24 t1444.length co24] 29 (0, 0)) (pkK BK1451.out)) : gb1451 ≠ gb1463)); have NB1463_1451 := am ((by rw [hg]; exact Nat.ne_of_gt (blk_lt (g := gb1451) (o := .cells #[.int .i64 t1436, .int .i64 t1437, .string t1438, .int .i64 t1439, .bool t1440, .slice Ao23 t1441.length co23, .slice Ao24 t1444.length co24] 29 (0, 0)) (pkK BK1451.out)) : gb1463 ≠ gb1451)); replace BK1451 := am (blk_below (pkK BK1451.out) hb); clear hb hbox hg; have hnb28 := NB1463_1423.out; have hnc28 := NB1423_1463.out; have hnb29 := NB1463_1451.out; have hnc29 := NB1451_1463.out; obtain ⟨hcz30_0, hcz30_1, hcz30_2, hcz30_3, hcz30_4, hcz30_5, hcz30_6, hfz30_0, hfz30_1, hfz30_2, hfz30_3, hfz30_4, hfz30_5, hfz30_6⟩ := bk7 BK1463.out; obtain ⟨Ao31, co31, eo31⟩ := Kd.R_slice HO1459.out; subst eo31; obtain ⟨Ao32, co32, eo32⟩ := Kd.R_slice HO1462.out; subst eo32) | ((with_reducible refine gate_callee (f := 53) rfl ?_); refine goesL_ (some 33) rfl rfl Try.func53 (by kernel_rfl) rfl #[.agg #[.int .i64 t1452, .int .i64 t1453, .string t1454, .int .i64 t1455, .bool t1456, .slice Ao31 t1457.length co31, .slice Ao32 t1460.length co32]] rfl mpx ?_; (with_reducible refine (impl_Shut.calls k t1452 t1453 t1454 t1455 t1456 _ _ t1457 _ _ t1460 t1464 t1465 t1466 t1467 t1468 t1469 t1472 t1475 t1478 _ ?side1 ?side2 ?side3 ?side4 A10.out).mono ?_); (case side1 => refine (Kd.R_reads' (e := 3) (base := w.heap.size) (ok := fun k_ => (((((some k_ ≠ (.slice Ao32 t1460.length co32 : Value).ownBlock ∧ some k_ ≠ (.slice Ao17 t1430.length co17 : Value).ownBlock) ∧ some k_ ≠ (.slice Ao18 t1433.length co18 : Value).ownBlock) ∧ some k_ ≠ (.slice Ao23 t1441.length co23 : Value).ownBlock) ∧ some k_ ≠ (.slice Ao24 t1444.length co24 : Value).ownBlock) ∧ some k_ ≠ (v1448 : Value).ownBlock)) (n := t1457.length) (c := co31) ?_).2.2; exact (by (with_reducible repeat (first | apply Kd.R_alloc | apply Kd.R_drewN | apply Kd.R_drew)); exact (Kd.R_mono (Kd.R_far (p := ⟨gb1463, 6, none⟩) (Kd.R_far (p := ⟨gb1463, 5, none⟩) (Kd.R_far (p := ⟨gb1463, 4, none⟩) (Kd.R_far (p := ⟨gb1463, 3, none⟩) (Kd.R_far (p := ⟨gb1463, 2, none⟩) (Kd.R_far (p := ⟨gb1463, 1, none⟩) (Kd.R_far (p := ⟨gb1463, 0, none⟩) (Kd.R_types HO1459.out BK1463.out (by decide)) (fun _ hk => hk.2) (.int .i64 t1452)) (fun _ hk => hk.2) (.int .i64 t1453)) (fun _ hk => hk.2) (.string t1454)) (fun _ hk => hk.2) (.int .i64 t1455)) (fun _ hk => hk.2) (.bool t1456)) (fun _ hk => hk.2) (.slice Ao31 t1457.length co31)) (fun _ hk => hk.2) (.slice Ao32 t1460.length co32)) (fun _ h_ => h_.1)))); (case side2 => exact (Kd.R_reads' HO1459.out).2.1); (case side3 => refine (Kd.R_reads' (e := 3) (base := w.heap.size) (ok := fun k_ => (((((some k_ ≠ (.slice Ao31 t1457.length co31 : Value).ownBlock ∧ some k_ ≠ (.slice Ao17 t1430.length co17 : Value).ownBlock) ∧ some k_ ≠ (.slice Ao18 t1433.length co18 : Value).ownBlock) ∧ some k_ ≠ (.slice Ao23 t1441.length co23 : Value).ownBlock) ∧ some k_ ≠ (.slice Ao24 t1444.length co24 : Value).ownBlock) ∧ some k_ ≠ (v1448 : Value).ownBlock)) (n := t1460.length) (c := co32) ?_).2.2; exact (by (with_reducible repeat (first | apply Kd.R_alloc | apply Kd.R_drewN | apply Kd.R_drew)); exact (Kd.R_mono (Kd.R_far (p := ⟨gb1463, 6, none⟩) (Kd.R_far (p := ⟨gb1463, 5, none⟩) (Kd.R_far (p := ⟨gb1463, 4, none⟩) (Kd.R_far (p := ⟨gb1463, 3, none⟩) (Kd.R_far (p := ⟨gb1463, 2, none⟩) (Kd.R_far (p := ⟨gb1463, 1, none⟩) (Kd.R_far (p := ⟨gb1463, 0, none⟩) (Kd.R_types HO1462.out BK1463.out (by decide)) (fun _ hk => hk.2) (.int .i64 t1452)) (fun _ hk => hk.2) (.int .i64 t1453)) (fun _ hk => hk.2) (.string t1454)) (fun _ hk => hk.2) (.int .i64 t1455)) (fun _ hk => hk.2) (.bool t1456)) (fun _ hk => hk.2) (.slice Ao31 t1457.length co31)) (fun _ hk => hk.2) (.slice Ao32 t1460.length co32)) (fun _ h_ => h_.1)))); (case side4 => exact (Kd.R_reads' HO1462.out).2.1); rintro e w33 ⟨v1470, v1473, v1476, rfl, ho0, ho1, ho2, hb⟩; refine ⟨_, rfl, ?_⟩; have HO1471 := am (Kd.R_lower (Kd.R_new' (Kd.R_new' (Kd.R_new' (Kd.R_new' (Kd.R_new' (Kd.R_new' (Kd.R_new' ho0 (Kd.R_lt (by (with_reducible repeat (first | apply Kd.R_alloc | apply Kd.R_drewN | apply Kd.R_drew)); exact (Kd.R_mono (Kd.R_far (p := ⟨gb1463, 6, none⟩) (Kd.R_far (p := ⟨gb1463, 5, none⟩) (Kd.R_far (p := ⟨gb1463, 4, none⟩) (Kd.R_far (p := ⟨gb1463, 3, none⟩) (Kd.R_far (p := ⟨gb1463, 2, none⟩) (Kd.R_far (p := ⟨gb1463, 1, none⟩) (Kd.R_far (p := ⟨gb1463, 0, none⟩) (Kd.R_types HO1432.out BK1463.out (by decide)) (fun _ hk => hk.2) (.int .i64 t1452)) (fun _ hk => hk.2) (.int .i64 t1453)) (fun _ hk => hk.2) (.string t1454)) (fun _ hk => hk.2) (.int .i64 t1455)) (fun _ hk => hk.2) (.bool t1456)) (fun _ hk => hk.2) (.slice Ao31 t1457.length co31)) (fun _ hk => hk.2) (.slice Ao32 t1460.length co32)) (fun _ h_ => h_.1))))) (Kd.R_lt (by (with_reducible repeat (first | apply Kd.R_alloc | apply Kd.R_drewN | apply Kd.R_drew)); exact (Kd.R_mono (Kd.R_far (p := ⟨gb1463, 6, none⟩) (Kd.R_far (p := ⟨gb1463, 5, none⟩) (Kd.R_far (p := ⟨gb1463, 4, none⟩) (Kd.R_far (p := ⟨gb1463, 3, none⟩) (Kd.R_far (p := ⟨gb1463, 2, none⟩) (Kd.R_far (p := ⟨gb1463, 1, none⟩) (Kd.R_far (p := ⟨gb1463, 0, none⟩) (Kd.R_types HO1435.out BK1463.out (by decide)) (fun _ hk => hk.2) (.int .i64 t1452)) (fun _ hk => hk.2) (.int .i64 t1453)) (fun _ hk => hk.2) (.string t1454)) (fun _ hk => hk.2) (.int .i64 t1455)) (fun _ hk => hk.2) (.bool t1456)) (fun _ hk => hk.2) (.slice Ao31 t1457.length co31)) (fun _ hk => hk.2) (.slice Ao32 t1460.length co32)) (fun _ h_ => h_.1))))) (Kd.R_lt (by (with_reducible repeat (first | apply Kd.R_alloc | apply Kd.R_drewN | apply Kd.R_drew)); exact (Kd.R_mono (Kd.R_far (p := ⟨gb1463, 6, none⟩) (Kd.R_far (p := ⟨gb1463, 5, none⟩) (Kd.R_far (p := ⟨gb1463, 4, none⟩) (Kd.R_far (p := ⟨gb1463, 3, none⟩) (Kd.R_far (p := ⟨gb1463, 2, none⟩) (Kd.R_far (p := ⟨gb1463, 1, none⟩) (Kd.R_far (p := ⟨gb1463, 0, none⟩) (Kd.R_types HO1443.out BK1463.out (by decide)) (fun _ hk => hk.2) (.int .i64 t1452)) (fun _ hk => hk.2) (.int .i64 t1453)) (fun _ hk => hk.2) (.string t1454)) (fun _ hk => hk.2) (.int .i64 t1455)) (fun _ hk => hk.2) (.bool t1456)) (fun _ hk => hk.2) (.slice Ao31 t1457.length co31)) (fun _ hk => hk.2) (.slice Ao32 t1460.length co32)) (fun _ h_ => h_.1))))) (Kd.R_lt (by (with_reducible repeat (first | apply Kd.R_alloc | apply Kd.R_drewN | apply Kd.R_drew)); exact (Kd.R_mono (Kd.R_far (p := ⟨gb1463, 6, none⟩) (Kd.R_far (p := ⟨gb1463, 5, none⟩) (Kd.R_far (p := ⟨gb1463, 4, none⟩) (Kd.R_far (p := ⟨gb1463, 3, none⟩) (Kd.R_far (p := ⟨gb1463, 2, none⟩) (Kd.R_far (p := ⟨gb1463, 1, none⟩) (Kd.R_far (p := ⟨gb1463, 0, none⟩) (Kd.R_types HO1446.out BK1463.out (by decide)) (fun _ hk => hk.2) (.int .i64 t1452)) (fun _ hk => hk.2) (.int .i64 t1453)) (fun _ hk => hk.2) (.string t1454)) (fun _ hk => hk.2) (.int .i64 t1455)) (fun _ hk => hk.2) (.bool t1456)) (fun _ hk => hk.2) (.slice Ao31 t1457.length co31)) (fun _ hk => hk.2) (.slice Ao32 t1460.length co32)) (fun _ h_ => h_.1))))) (Kd.R_lt (by (with_reducible repeat (first | apply Kd.R_alloc | apply Kd.R_drewN | apply Kd.R_drew)); exact (Kd.R_mono (Kd.R_far (p := ⟨gb1463, 6, none⟩) (Kd.R_far (p := ⟨gb1463, 5, none⟩) (Kd.R_far (p := ⟨gb1463, 4, none⟩) (Kd.R_far (p := ⟨gb1463, 3, none⟩) (Kd.R_far (p := ⟨gb1463, 2, none⟩) (Kd.R_far (p := ⟨gb1463, 1, none⟩) (Kd.R_far (p := ⟨gb1463, 0, none⟩) (Kd.R_types HO1449.out BK1463.out (by decide)) (fun _ hk => hk.2) (.int .i64 t1452)) (fun _ hk => hk.2) (.int .i64 t1453)) (fun _ hk => hk.2) (.string t1454)) (fun _ hk => hk.2) (.int .i64 t1455)) (fun _ hk => hk.2) (.bool t1456)) (fun _ hk => hk.2) (.slice Ao31 t1457.length co31)) (fun _ hk => hk.2) (.slice Ao32 t1460.length co32)) (fun _ h_ => h_.1))))) (Kd.R_lt (by (with_reducible repeat (first | apply Kd.R_alloc | apply Kd.R_drewN | apply Kd.R_drew)); exact (Kd.R_mono (Kd.R_far (p := ⟨gb1463, 6, none⟩) (Kd.R_far (p := ⟨gb1463, 5, none⟩) (Kd.R_far (p := ⟨gb1463, 4, none⟩) (Kd.R_far (p := ⟨gb1463, 3, none⟩) (Kd.R_far (p := ⟨gb1463, 2, none⟩) (Kd.R_far (p := ⟨gb1463, 1, none⟩) (Kd.R_far (p := ⟨gb1463, 0, none⟩) (Kd.R_types HO1459.out BK1463.out (by decide)) (fun _ hk => hk.2) (.int .i64 t1452)) (fun _ hk => hk.2) (.int .i64 t1453)) (fun _ hk => hk.2) (.string t1454)) (fun _ hk => hk.2) (.int .i64 t1455)) (fun _ hk => hk.2) (.bool t1456)) (fun _ hk => hk.2) (.slice Ao31 t1457.length co31)) (fun _ hk => hk.2) (.slice Ao32 t1460.length co32)) (fun _ h_ => h_.1))))) (Kd.R_lt (by (with_reducible repeat (first | apply Kd.R_alloc | apply Kd.R_drewN | apply Kd.R_drew)); exact (Kd.R_mono (Kd.R_far (p := ⟨gb1463, 6, none⟩) (Kd.R_far (p := ⟨gb1463, 5, none⟩) (Kd.R_far (p := ⟨gb1463, 4, none⟩) (Kd.R_far (p := ⟨gb1463, 3, none⟩) (Kd.R_far (p := ⟨gb1463, 2, none⟩) (Kd.R_far (p := ⟨gb1463, 1, none⟩) (Kd.R_far (p := ⟨gb1463, 0, none⟩) (Kd.R_types HO1462.out BK1463.out (by decide)) (fun _ hk => hk.2) (.int .i64 t1452)) (fun _ hk => hk.2) (.int .i64 t1453)) (fun _ hk => hk.2) (.string t1454)) (fun _ hk => hk.2) (.int .i64 t1455)) (fun _ hk => hk.2) (.bool t1456)) (fun _ hk => hk.2) (.slice Ao31 t1457.length co31)) (fun _ hk => hk.2) (.slice Ao32 t1460.length co32)) (fun _ h_ => h_.1))))) (below_size (pkW HB.out))); have HO1474 := am (Kd.R_lower (Kd.R_new' (Kd.R_new' (Kd.R_new' (Kd.R_new' (Kd.R_new' (Kd.R_new' (Kd.R_new' ho1 (Kd.R_lt (by (with_reducible repeat (first | apply Kd.R_alloc | apply Kd.R_drewN | apply Kd.R_drew)); exact (Kd.R_mono (Kd.R_far (p := ⟨gb1463, 6, none⟩) (Kd.R_far (p := ⟨gb1463, 5, none⟩) (Kd.R_far (p := ⟨gb1463, 4, none⟩) (Kd.R_far (p := ⟨gb1463, 3, none⟩) (Kd.R_far (p := ⟨gb1463, 2, none⟩) (Kd.R_far (p := ⟨gb1463, 1, none⟩) (Kd.R_far (p := ⟨gb1463, 0, none⟩) (Kd.R_types HO1432.out BK1463.out (by decide)) (fun _ hk => hk.2) (.int .i64 t1452)) (fun _ hk => hk.2) (.int .i64 t1453)) (fun _ hk => hk.2) (.string t1454)) (fun _ hk => hk.2) (.int .i64 t1455)) (fun _ hk => hk.2) (.bool t1456)) (fun _ hk => hk.2) (.slice Ao31 t1457.length co31)) (fun _ hk => hk.2) (.slice Ao32 t1460.length co32)) (fun _ h_ => h_.1))))) (Kd.R_lt (by (with_reducible repeat (first | apply Kd.R_alloc | apply Kd.R_drewN | apply Kd.R_drew)); exact (Kd.R_mono (Kd.R_far (p := ⟨gb1463, 6, none⟩) (Kd.R_far (p := ⟨gb1463, 5, none⟩) (Kd.R_far (p := ⟨gb1463, 4, none⟩) (Kd.R_far (p := ⟨gb1463, 3, none⟩) (Kd.R_far (p := ⟨gb1463, 2, none⟩) (Kd.R_far (p := ⟨gb1463, 1, none⟩) (Kd.R_far (p := ⟨gb1463, 0, none⟩) (Kd.R_types HO1435.out BK1463.out (by decide)) (fun _ hk => hk.2) (.int .i64 t1452)) (fun _ hk => hk.2) (.int .i64 t1453)) (fun _ hk => hk.2) (.string t1454)) (fun _ hk => hk.2) (.int .i64 t1455)) (fun _ hk => hk.2) (.bool t1456)) (fun _ hk => hk.2) (.slice Ao31 t1457.length co31)) (fun _ hk => hk.2) (.slice Ao32 t1460.length co32)) (fun _ h_ => h_.1))))) (Kd.R_lt (by (with_reducible repeat (first | apply Kd.R_alloc | apply Kd.R_drewN | apply Kd.R_drew)); exact (Kd.R_mono (Kd.R_far (p := ⟨gb1463, 6, none⟩) (Kd.R_far (p := ⟨gb1463, 5, none⟩) (Kd.R_far (p := ⟨gb1463, 4, none⟩) (Kd.R_far (p := ⟨gb1463, 3, none⟩) (Kd.R_far (p := ⟨gb1463, 2, none⟩) (Kd.R_far (p := ⟨gb1463, 1, none⟩) (Kd.R_far (p := ⟨gb1463, 0, none⟩) (Kd.R_types HO1443.out BK1463.out (by decide)) (fun _ hk => hk.2) (.int .i64 t1452)) (fun _ hk => hk.2) (.int .i64 t1453)) (fun _ hk => hk.2) (.string t1454)) (fun _ hk => hk.2) (.int .i64 t1455)) (fun _ hk => hk.2) (.bool t1456)) (fun _ hk => hk.2) (.slice Ao31 t1457.length co31)) (fun _ hk => hk.2) (.slice Ao32 t1460.length co32)) (fun _ h_ => h_.1))))) (Kd.R_lt (by (with_reducible repeat (first | apply Kd.R_alloc | apply Kd.R_drewN | apply Kd.R_drew)); exact (Kd.R_mono (Kd.R_far (p := ⟨gb1463, 6, none⟩) (Kd.R_far (p := ⟨gb1463, 5, none⟩) (Kd.R_far (p := ⟨gb1463, 4, none⟩) (Kd.R_far (p := ⟨gb1463, 3, none⟩) (Kd.R_far (p := ⟨gb1463, 2, none⟩) (Kd.R_far (p := ⟨gb1463, 1, none⟩) (Kd.R_far (p := ⟨gb1463, 0, none⟩) (Kd.R_types HO1446.out BK1463.out (by decide)) (fun _ hk => hk.2) (.int .i64 t1452)) (fun _ hk => hk.2) (.int .i64 t1453)) (fun _ hk => hk.2) (.string t1454)) (fun _ hk => hk.2) (.int .i64 t1455)) (fun _ hk => hk.2) (.bool t1456)) (fun _ hk => hk.2) (.slice Ao31 t1457.length co31)) (fun _ hk => hk.2) (.slice Ao32 t1460.length co32)) (fun _ h_ => h_.1))))) (Kd.R_lt (by (with_reducible repeat (first | apply Kd.R_alloc | apply Kd.R_drewN | apply Kd.R_drew)); exact (Kd.R_mono (Kd.R_far (p := ⟨gb1463, 6, none⟩) (Kd.R_far (p := ⟨gb1463, 5, none⟩) (Kd.R_far (p := ⟨gb1463, 4, none⟩) (Kd.R_far (p := ⟨gb1463, 3, none⟩) (Kd.R_far (p := ⟨gb1463, 2, none⟩) (Kd.R_far (p := ⟨gb1463, 1, none⟩) (Kd.R_far (p := ⟨gb1463, 0, none⟩) (Kd.R_types HO1449.out BK1463.out (by decide)) (fun _ hk => hk.2) (.int .i64 t1452)) (fun _ hk => hk.2) (.int .i64 t1453)) (fun _ hk => hk.2) (.string t1454)) (fun _ hk => hk.2) (.int .i64 t1455)) (fun _ hk => hk.2) (.bool t1456)) (fun _ hk => hk.2) (.slice Ao31 t1457.length co31)) (fun _ hk => hk.2) (.slice Ao32 t1460.length co32)) (fun _ h_ => h_.1))))) (Kd.R_lt (by (with_reducible repeat (first | apply Kd.R_alloc | apply Kd.R_drewN | apply Kd.R_drew)); exact (Kd.R_mono (Kd.R_far (p := ⟨gb1463, 6, none⟩) (Kd.R_far (p := ⟨gb1463, 5, none⟩) (Kd.R_far (p := ⟨gb1463, 4, none⟩) (Kd.R_far (p := ⟨gb1463, 3, none⟩) (Kd.R_far (p := ⟨gb1463, 2, none⟩) (Kd.R_far (p := ⟨gb1463, 1, none⟩) (Kd.R_far (p := ⟨gb1463, 0, none⟩) (Kd.R_types HO1459.out BK1463.out (by decide)) (fun _ hk => hk.2) (.int .i64 t1452)) (fun _ hk => hk.2) (.int .i64 t1453)) (fun _ hk => hk.2) (.string t1454)) (fun _ hk => hk.2) (.int .i64 t1455)) (fun _ hk => hk.2) (.bool t1456)) (fun _ hk => hk.2) (.slice Ao31 t1457.length co31)) (fun _ hk => hk.2) (.slice Ao32 t1460.length co32)) (fun _ h_ => h_.1))))) (Kd.R_lt (by (with_reducible repeat (first | apply Kd.R_alloc | apply Kd.R_drewN | apply Kd.R_drew)); exact (Kd.R_mono (Kd.R_far (p := ⟨gb1463, 6, none⟩) (Kd.R_far (p := ⟨gb1463, 5, none⟩) (Kd.R_far (p := ⟨gb1463, 4, none⟩) (Kd.R_far (p := ⟨gb1463, 3, none⟩) (Kd.R_far (p := ⟨gb1463, 2, none⟩) (Kd.R_far (p := ⟨gb1463, 1, none⟩) (Kd.R_far (p := ⟨gb1463, 0, none⟩) (Kd.R_types HO1462.out BK1463.out (by decide)) (fun _ hk => hk.2) (.int .i64 t1452)) (fun _ hk => hk.2) (.int .i64 t1453)) (fun _ hk => hk.2) (.string t1454)) (fun _ hk => hk.2) (.int .i64 t1455)) (fun _ hk => hk.2) (.bool t1456)) (fun _ hk => hk.2) (.slice Ao31 t1457.length co31)) (fun _ hk => hk.2) (.slice Ao32 t1460.length co32)) (fun _ h_ => h_.1))))) (below_size (pkW HB.out))); have HO1477 := am (Kd.R_lower (Kd.R_new' (Kd.R_new' (Kd.R_new' (Kd.R_new' (Kd.R_new' (Kd.R_new' (Kd.R_new' ho2 (Kd.R_lt (by (with_reducible repeat (first | apply Kd.R_alloc | apply Kd.R_drewN | apply Kd.R_drew)); exact (Kd.R_mono (Kd.R_far (p := ⟨gb1463, 6, none⟩) (Kd.R_far (p := ⟨gb1463, 5, none⟩) (Kd.R_far (p := ⟨gb1463, 4, none⟩) (Kd.R_far (p := ⟨gb1463, 3, none⟩) (Kd.R_far (p := ⟨gb1463, 2, none⟩) (Kd.R_far (p := ⟨gb1463, 1, none⟩) (Kd.R_far (p := ⟨gb1463, 0, none⟩) (Kd.R_types HO1432.out BK1463.out (by decide)) (fun _ hk => hk.2) (.int .i64 t1452)) (fun _ hk => hk.2) (.int .i64 t1453)) (fun _ hk => hk.2) (.string t1454)) (fun _ hk => hk.2) (.int .i64 t1455)) (fun _ hk => hk.2) (.bool t1456)) (fun _ hk => hk.2) (.slice Ao31 t1457.length co31)) (fun _ hk => hk.2) (.slice Ao32 t1460.length co32)) (fun _ h_ => h_.1))))) (Kd.R_lt (by (with_reducible repeat (first | apply Kd.R_alloc | apply Kd.R_drewN | apply Kd.R_drew)); exact (Kd.R_mono (Kd.R_far (p := ⟨gb1463, 6, none⟩) (Kd.R_far (p := ⟨gb1463, 5, none⟩) (Kd.R_far (p := ⟨gb1463, 4, none⟩) (Kd.R_far (p := ⟨gb1463, 3, none⟩) (Kd.R_far (p := ⟨gb1463, 2, none⟩) (Kd.R_far (p := ⟨gb1463, 1, none⟩) (Kd.R_far (p := ⟨gb1463, 0, none⟩) (Kd.R_types HO1435.out BK1463.out (by decide)) (fun _ hk => hk.2) (.int .i64 t1452)) (fun _ hk => hk.2) (.int .i64 t1453)) (fun _ hk => hk.2) (.string t1454)) (fun _ hk => hk.2) (.int .i64 t1455)) (fun _ hk => hk.2) (.bool t1456)) (fun _ hk => hk.2) (.slice Ao31 t1457.length co31)) (fun _ hk => hk.2) (.slice Ao32 t1460.length co32)) (fun _ h_ => h_.1))))) (Kd.R_lt (by (with_reducible repeat (first | apply Kd.R_alloc | apply Kd.R_drewN | apply Kd.R_drew)); exact (Kd.R_mono (Kd.R_far (p := ⟨gb1463, 6, none⟩) (Kd.R_far (p := ⟨gb1463, 5, none⟩) (Kd.R_far (p := ⟨gb1463, 4, none⟩) (Kd.R_far (p := ⟨gb1463, 3, none⟩) (Kd.R_far (p := ⟨gb1463, 2, none⟩) (Kd.R_far (p := ⟨gb1463, 1, none⟩) (Kd.R_far (p := ⟨gb1463, 0, none⟩) (Kd.R_types HO1443.out BK1463.out (by decide)) (fun _ hk => hk.2) (.int .i64 t1452)) (fun _ hk => hk.2) (.int .i64 t1453)) (fun _ hk => hk.2) (.string t1454)) (fun _ hk => hk.2) (.int .i64 t1455)) (fun _ hk => hk.2) (.bool t1456)) (fun _ hk => hk.2) (.slice Ao31 t1457.length co31)) (fun _ hk => hk.2) (.slice Ao32 t1460.length co32)) (fun _ h_ => h_.1))))) (Kd.R_lt (by (with_reducible repeat (first | apply Kd.R_alloc | apply Kd.R_drewN | apply Kd.R_drew)); exact (Kd.R_mono (Kd.R_far (p := ⟨gb1463, 6, none⟩) (Kd.R_far (p := ⟨gb1463, 5, none⟩) (Kd.R_far (p := ⟨gb1463, 4, none⟩) (Kd.R_far (p := ⟨gb1463, 3, none⟩) (Kd.R_far (p := ⟨gb1463, 2, none⟩) (Kd.R_far (p := ⟨gb1463, 1, none⟩) (Kd.R_far (p := ⟨gb1463, 0, none⟩) (Kd.R_types HO1446.out BK1463.out (by decide)) (fun _ hk => hk.2) (.int .i64 t1452)) (fun _ hk => hk.2) (.int .i64 t1453)) (fun _ hk => hk.2) (.string t1454)) (fun _ hk => hk.2) (.int .i64 t1455)) (fun _ hk => hk.2) (.bool t1456)) (fun _ hk => hk.2) (.slice Ao31 t1457.length co31)) (fun _ hk => hk.2) (.slice Ao32 t1460.length co32)) (fun _ h_ => h_.1))))) (Kd.R_lt (by (with_reducible repeat (first | apply Kd.R_alloc | apply Kd.R_drewN | apply Kd.R_drew)); exact (Kd.R_mono (Kd.R_far (p := ⟨gb1463, 6, none⟩) (Kd.R_far (p := ⟨gb1463, 5, none⟩) (Kd.R_far (p := ⟨gb1463, 4, none⟩) (Kd.R_far (p := ⟨gb1463, 3, none⟩) (Kd.R_far (p := ⟨gb1463, 2, none⟩) (Kd.R_far (p := ⟨gb1463, 1, none⟩) (Kd.R_far (p := ⟨gb1463, 0, none⟩) (Kd.R_types HO1449.out BK1463.out (by decide)) (fun _ hk => hk.2) (.int .i64 t1452)) (fun _ hk => hk.2) (.int .i64 t1453)) (fun _ hk => hk.2) (.string t1454)) (fun _ hk => hk.2) (.int .i64 t1455)) (fun _ hk => hk.2) (.bool t1456)) (fun _ hk => hk.2) (.slice Ao31 t1457.length co31)) (fun _ hk => hk.2) (.slice Ao32 t1460.length co32)) (fun _ h_ => h_.1))))) (Kd.R_lt (by (with_reducible repeat (first | apply Kd.R_alloc | apply Kd.R_drewN | apply Kd.R_drew)); exact (Kd.R_mono (Kd.R_far (p := ⟨gb1463, 6, none⟩) (Kd.R_far (p := ⟨gb1463, 5, none⟩) (Kd.R_far (p := ⟨gb1463, 4, none⟩) (Kd.R_far (p := ⟨gb1463, 3, none⟩) (Kd.R_far (p := ⟨gb1463, 2, none⟩) (Kd.R_far (p := ⟨gb1463, 1, none⟩) (Kd.R_far (p := ⟨gb1463, 0, none⟩) (Kd.R_types HO1459.out BK1463.out (by decide)) (fun _ hk => hk.2) (.int .i64 t1452)) (fun _ hk => hk.2) (.int .i64 t1453)) (fun _ hk => hk.2) (.string t1454)) (fun _ hk => hk.2) (.int .i64 t1455)) (fun _ hk => hk.2) (.bool t1456)) (fun _ hk => hk.2) (.slice Ao31 t1457.length co31)) (fun _ hk => hk.2) (.slice Ao32 t1460.length co32)) (fun _ h_ => h_.1))))) (Kd.R_lt (by (with_reducible repeat (first | apply Kd.R_alloc | apply Kd.R_drewN | apply Kd.R_drew)); exact (Kd.R_mono (Kd.R_far (p := ⟨gb1463, 6, none⟩) (Kd.R_far (p := ⟨gb1463, 5, none⟩) (Kd.R_far (p := ⟨gb1463, 4, none⟩) (Kd.R_far (p := ⟨gb1463, 3, none⟩) (Kd.R_far (p := ⟨gb1463, 2, none⟩) (Kd.R_far (p := ⟨gb1463, 1, none⟩) (Kd.R_far (p := ⟨gb1463, 0, none⟩) (Kd.R_types HO1462.out BK1463.out (by decide)) (fun _ hk => hk.2) (.int .i64 t1452)) (fun _ hk => hk.2) (.int .i64 t1453)) (fun _ hk => hk.2) (.string t1454)) (fun _ hk => hk.2) (.int .i64 t1455)) (fun _ hk => hk.2) (.bool t1456)) (fun _ hk => hk.2) (.slice Ao31 t1457.length co31)) (fun _ hk => hk.2) (.slice Ao32 t1460.length co32)) (fun _ h_ => h_.1))))) (below_size (pkW HB.out))); replace HO1432 := am (Kd.R_mono (Kd.R_told (Kd.R_told (Kd.R_told (Kd.R_old (by (with_reducible repeat (first | apply Kd.R_alloc | apply Kd.R_drewN | apply Kd.R_drew)); exact (Kd.R_mono (Kd.R_far (p := ⟨gb1463, 6, none⟩) (Kd.R_far (p := ⟨gb1463, 5, none⟩) (Kd.R_far (p := ⟨gb1463, 4, none⟩) (Kd.R_far (p := ⟨gb1463, 3, none⟩) (Kd.R_far (p := ⟨gb1463, 2, none⟩) (Kd.R_far (p := ⟨gb1463, 1, none⟩) (Kd.R_far (p := ⟨gb1463, 0, none⟩) (Kd.R_types HO1432.out BK1463.out (by decide)) (fun _ hk => hk.2) (.int .i64 t1452)) (fun _ hk => hk.2) (.int .i64 t1453)) (fun _ hk => hk.2) (.string t1454)) (fun _ hk => hk.2) (.int .i64 t1455)) (fun _ hk => hk.2) (.bool t1456)) (fun _ hk => hk.2) (.slice Ao31 t1457.length co31)) (fun _ hk => hk.2) (.slice Ao32 t1460.length co32)) (fun _ h_ => h_.1))) hb) (Kd.R_base ho0)) (Kd.R_base ho1)) (Kd.R_base ho2)) (fun _ h_ => h_.1)); replace HO1435 := am (Kd.R_mono (Kd.R_told (Kd.R_told (Kd.R_told (Kd.R_old (by (with_reducible repeat (first | apply Kd.R_alloc | apply Kd.R_drewN | apply Kd.R_drew)); exact (Kd.R_mono (Kd.R_far (p := ⟨gb1463, 6, none⟩) (Kd.R_far (p := ⟨gb1463, 5, none⟩) (Kd.R_far (p := ⟨gb1463, 4, none⟩) (Kd.R_far (p := ⟨gb1463, 3, none⟩) (Kd.R_far (p := ⟨gb1463, 2, none⟩) (Kd.R_far (p := ⟨gb1463, 1, none⟩) (Kd.R_far (p := ⟨gb1463, 0, none⟩) (Kd.R_types HO1435.out BK1463.out (by decide)) (fun _ hk => hk.2) (.int .i64 t1452)) (fun _ hk => hk.2) (.int .i64 t1453)) (fun _ hk => hk.2) (.string t1454)) (fun _ hk => hk.2) (.int .i64 t1455)) (fun _ hk => hk.2) (.bool t1456)) (fun _ hk => hk.2) (.slice Ao31 t1457.length co31)) (fun _ hk => hk.2) (.slice Ao32 t1460.length co32)) (fun _ h_ => h_.1))) hb) (Kd.R_base ho0)) (Kd.R_base ho1)) (Kd.R_base ho2)) (fun _ h_ => h_.1)); replace HO1443 := am (Kd.R_mono (Kd.R_told (Kd.R_told (Kd.R_told (Kd.R_old (by (with_reducible repeat (first | apply Kd.R_alloc | apply Kd.R_drewN | apply Kd.R_drew)); exact (Kd.R_mono (Kd.R_far (p := ⟨gb1463, 6, none⟩) (Kd.R_far (p := ⟨gb1463, 5, none⟩) (Kd.R_far (p := ⟨gb1463, 4, none⟩) (Kd.R_far (p := ⟨gb1463, 3, none⟩) (Kd.R_far (p := ⟨gb1463, 2, none⟩) (Kd.R_far (p := ⟨gb1463, 1, none⟩) (Kd.R_far (p := ⟨gb1463, 0, none⟩) (Kd.R_types HO1443.out BK1463.out (by decide)) (fun _ hk => hk.2) (.int .i64 t1452)) (fun _ hk => hk.2) (.int .i64 t1453)) (fun _ hk => hk.2) (.string t1454)) (fun _ hk => hk.2) (.int .i64 t1455)) (fun _ hk => hk.2) (.bool t1456)) (fun _ hk => hk.2) (.slice Ao31 t1457.length co31)) (fun _ hk => hk.2) (.slice Ao32 t1460.length co32)) (fun _ h_ => h_.1))) hb) (Kd.R_base ho0)) (Kd.R_base ho1)) (Kd.R_base ho2)) (fun _ h_ => h_.1)); replace HO1446 := am (Kd.R_mono (Kd.R_told (Kd.R_told (Kd.R_told (Kd.R_old (by (with_reducible repeat (first | apply Kd.R_alloc | apply Kd.R_drewN | apply Kd.R_drew)); exact (Kd.R_mono (Kd.R_far (p := ⟨gb1463, 6, none⟩) (Kd.R_far (p := ⟨gb1463, 5, none⟩) (Kd.R_far (p := ⟨gb1463, 4, none⟩) (Kd.R_far (p := ⟨gb1463, 3, none⟩) (Kd.R_far (p := ⟨gb1463, 2, none⟩) (Kd.R_far (p := ⟨gb1463, 1, none⟩) (Kd.R_far (p := ⟨gb1463, 0, none⟩) (Kd.R_types HO1446.out BK1463.out (by decide)) (fun _ hk => hk.2) (.int .i64 t1452)) (fun _ hk => hk.2) (.int .i64 t1453)) (fun _ hk => hk.2) (.string t1454)) (fun _ hk => hk.2) (.int .i64 t1455)) (fun _ hk => hk.2) (.bool t1456)) (fun _ hk => hk.2) (.slice Ao31 t1457.length co31)) (fun _ hk => hk.2) (.slice Ao32 t1460.length co32)) (fun _ h_ => h_.1))) hb) (Kd.R_base ho0)) (Kd.R_base ho1)) (Kd.R_base ho2)) (fun _ h_ => h_.1)); replace HO1449 := am (Kd.R_mono (Kd.R_told (Kd.R_told (Kd.R_told (Kd.R_old (by (with_reducible repeat (first | apply Kd.R_alloc | apply Kd.R_drewN | apply Kd.R_drew)); exact (Kd.R_mono (Kd.R_far (p := ⟨gb1463, 6, none⟩) (Kd.R_far (p := ⟨gb1463, 5, none⟩) (Kd.R_far (p := ⟨gb1463, 4, none⟩) (Kd.R_far (p := ⟨gb1463, 3, none⟩) (Kd.R_far (p := ⟨gb1463, 2, none⟩) (Kd.R_far (p := ⟨gb1463, 1, none⟩) (Kd.R_far (p := ⟨gb1463, 0, none⟩) (Kd.R_types HO1449.out BK1463.out (by decide)) (fun _ hk => hk.2) (.int .i64 t1452)) (fun _ hk => hk.2) (.int .i64 t1453)) (fun _ hk => hk.2) (.string t1454)) (fun _ hk => hk.2) (.int .i64 t1455)) (fun _ hk => hk.2) (.bool t1456)) (fun _ hk => hk.2) (.slice Ao31 t1457.length co31)) (fun _ hk => hk.2) (.slice Ao32 t1460.length co32)) (fun _ h_ => h_.1))) hb) (Kd.R_base ho0)) (Kd.R_base ho1)) (Kd.R_base ho2)) (fun _ h_ => h_.1)); replace HO1459 := am (Kd.R_mono (Kd.R_told (Kd.R_told (Kd.R_told (Kd.R_old (by (with_reducible repeat (first | apply Kd.R_alloc | apply Kd.R_drewN | apply Kd.R_drew)); exact (Kd.R_mono (Kd.R_far (p := ⟨gb1463, 6, none⟩) (Kd.R_far (p := ⟨gb1463, 5, none⟩) (Kd.R_far (p := ⟨gb1463, 4, none⟩) (Kd.R_far (p := ⟨gb1463, 3, none⟩) (Kd.R_far (p := ⟨gb1463, 2, none⟩) (Kd.R_far (p := ⟨gb1463, 1, none⟩) (Kd.R_far (p := ⟨gb1463, 0, none⟩) (Kd.R_types HO1459.out BK1463.out (by decide)) (fun _ hk => hk.2) (.int .i64 t1452)) (fun _ hk => hk.2) (.int .i64 t1453)) (fun _ hk => hk.2) (.string t1454)) (fun _ hk => hk.2) (.int .i64 t1455)) (fun _ hk => hk.2) (.bool t1456)) (fun _ hk => hk.2) (.slice Ao31 t1457.length co31)) (fun _ hk => hk.2) (.slice Ao32 t1460.length co32)) (fun _ h_ => h_.1))) hb) (Kd.R_base ho0)) (Kd.R_base ho1)) (Kd.R_base ho2)) (fun _ h_ => h_.1)); replace HO1462 := am (Kd.R_mono (Kd.R_told (Kd.R_told (Kd.R_told (Kd.R_old (by (with_reducible repeat (first | apply Kd.R_alloc | apply Kd.R_drewN | apply Kd.R_drew)); exact (Kd.R_mono (Kd.R_far (p := ⟨gb1463, 6, none⟩) (Kd.R_far (p := ⟨gb1463, 5, none⟩) (Kd.R_far (p := ⟨gb1463, 4, none⟩) (Kd.R_far (p := ⟨gb1463, 3, none⟩) (Kd.R_far (p := ⟨gb1463, 2, none⟩) (Kd.R_far (p := ⟨gb1463, 1, none⟩) (Kd.R_far (p := ⟨gb1463, 0, none⟩) (Kd.R_types HO1462.out BK1463.out (by decide)) (fun _ hk => hk.2) (.int .i64 t1452)) (fun _ hk => hk.2) (.int .i64 t1453)) (fun _ hk => hk.2) (.string t1454)) (fun _ hk => hk.2) (.int .i64 t1455)) (fun _ hk => hk.2) (.bool t1456)) (fun _ hk => hk.2) (.slice Ao31 t1457.length co31)) (fun _ hk => hk.2) (.slice Ao32 t1460.length co32)) (fun _ h_ => h_.1))) hb) (Kd.R_base ho0)) (Kd.R_base ho1)) (Kd.R_base ho2)) (fun _ h_ => h_.1)); replace BK1423 := am (blk_below (g := gb1423) (o := .cells #[.int .i64 a0_0, .int .i64 a0_1, .string a0_2, .int .i64 a0_3, .bool a0_4, .slice A0_5 l0_5.length c0_5, .slice A0_6 l0_6.length c0_6] 56 (0, 0)) (by (with_reducible repeat (first | refine blk_drewN ?_ _ | refine blk_drew ?_ | refine blk_alloc ?_ _)); refine blk_far ?_ NB1423_1463.out _; (with_reducible repeat (first | refine blk_drewN ?_ _ | refine blk_drew ?_ | refine blk_alloc ?_ _)); refine blk_far ?_ NB1423_1463.out _; (with_reducible repeat (first | refine blk_drewN ?_ _ | refine blk_drew ?_ | refine blk_alloc ?_ _)); refine blk_far ?_ NB1423_1463.out _; (with_reducible repeat (first | refine blk_drewN ?_ _ | refine blk_drew ?_ | refine blk_alloc ?_ _)); refine blk_far ?_ NB1423_1463.out _; (with_reducible repeat (first | refine blk_drewN ?_ _ | refine blk_drew ?_ | refine blk_alloc ?_ _)); refine blk_far ?_ NB1423_1463.out _; (with_reducible repeat (first | refine blk_drewN ?_ _ | refine blk_drew ?_ | refine blk_alloc ?_ _)); refine blk_far ?_ NB1423_1463.out _; (with_reducible repeat (first | refine blk_drewN ?_ _ | refine blk_drew ?_ | refine blk_alloc ?_ _)); refine blk_far ?_ NB1423_1463.out _; exact pkK BK1423.out) hb); replace BK1451 := am (blk_below (g := gb1451) (o := .cells #[.int .i64 t1436, .int .i64 t1437, .string t1438, .int .i64 t1439, .bool t1440, .slice Ao23 t1441.length co23, .slice Ao24 t1444.length co24] 29 (0, 0)) (by (with_reducible repeat (first | refine blk_drewN ?_ _ | refine blk_drew ?_ | refine blk_alloc ?_ _)); refine blk_far ?_ NB1451_1463.out _; (with_reducible repeat (first | refine blk_drewN ?_ _ | refine blk_drew ?_ | refine blk_alloc ?_ _)); refine blk_far ?_ NB1451_1463.out _; (with_reducible repeat (first | refine blk_drewN ?_ _ | refine blk_drew ?_ | refine blk_alloc ?_ _)); refine blk_far ?_ NB1451_1463.out _; (with_reducible repeat (first | refine blk_drewN ?_ _ | refine blk_drew ?_ | refine blk_alloc ?_ _)); refine blk_far ?_ NB1451_1463.out _; (with_reducible repeat (first | refine blk_drewN ?_ _ | refine blk_drew ?_ | refine blk_alloc ?_ _)); refine blk_far ?_ NB1451_1463.out _; (with_reducible repeat (first | refine blk_drewN ?_ _ | refine blk_drew ?_ | refine blk_alloc ?_ _)); refine blk_far ?_ NB1451_1463.out _; (with_reducible repeat (first | refine blk_drewN ?_ _ | refine blk_drew ?_ | refine blk_alloc ?_ _)); refine blk_far ?_ NB1451_1463.out _; exact pkK BK1451.out) hb); replace BK1463 := am (blk_below (g := gb1463) (o := .cells #[.int .i64 t1452, .int .i64 t1453, .string t1454, .int .i64 t1455, .bool t1456, .slice Ao31 t1457.length co31, .slice Ao32 t1460.length co32] 29 (0, 0)) (by (with_reducible repeat (first | refine blk_drewN ?_ _ | refine blk_drew ?_ | refine blk_alloc ?_ _)); refine blk_put (cs := #[.int .i64 t1452, .int .i64 t1453, .string t1454, .int .i64 t1455, .bool t1456, .slice Ao31 t1457.length co31, .slice none 0 0]) ?_ 6 _ rfl; (with_reducible repeat (first | refine blk_drewN ?_ _ | refine blk_drew ?_ | refine blk_alloc ?_ _)); refine blk_put (cs := #[.int .i64 t1452, .int .i64 t1453, .string t1454, .int .i64 t1455, .bool t1456, .slice none 0 0, .slice none 0 0]) ?_ 5 _ rfl; (with_reducible repeat (first | refine blk_drewN ?_ _ | refine blk_drew ?_ | refine blk_alloc ?_ _)); refine blk_put (cs := #[.int .i64 t1452, .int .i64 t1453, .string t1454, .int .i64 t1455, .bool false, .slice none 0 0, .slice none 0 0]) ?_ 4 _ rfl; (with_reducible repeat (first | refine blk_drewN ?_ _ | refine blk_drew ?_ | refine blk_alloc ?_ _)); refine blk_put (cs := #[.int .i64 t1452, .int .i64 t1453, .string t1454, .int .i64 0, .bool false, .slice none 0 0, .slice none 0 0]) ?_ 3 _ rfl; (with_reducible repeat (first | refine blk_drewN ?_ _ | refine blk_drew ?_ | refine blk_alloc ?_ _)); refine blk_put (cs := #[.int .i64 t1452, .int .i64 t1453, .string (⟨#[]⟩ : ByteArray), .int .i64 0, .bool false, .slice none 0 0, .slice none 0 0]) ?_ 2 _ rfl; (with_reducible repeat (first | refine blk_drewN ?_ _ | refine blk_drew ?_ | refine blk_alloc ?_ _)); refine blk_put (cs := #[.int .i64 t1452, .int .i64 0, .string (⟨#[]⟩ : ByteArray), .int .i64 0, .bool false, .slice none 0 0, .slice none 0 0]) ?_ 1 _ rfl; (with_reducible repeat (first | refine blk_drewN ?_ _ | refine blk_drew ?_ | refine blk_alloc ?_ _)); refine blk_put (cs := #[.int .i64 0, .int .i64 0, .string (⟨#[]⟩ : ByteArray), .int .i64 0, .bool false, .slice none 0 0, .slice none 0 0]) ?_ 0 _ rfl; exact pkK BK1463.out) hb); replace HB := am (below_step (pkW HB.out) hb); (try clear hb ho0 ho1 ho2)) | ((with_reducible refine gate_dst (N := 8) rfl ?_); refine box_event ?hg (N := 8) ?hd (cs := #[.int .i64 0, .int .i64 0, .string (⟨#[]⟩ : ByteArray), .int .i64 0, .bool false, .slice none 0 0, .slice none 0 0]) (t := 29) ?hr ?_; (case hd => rfl); (case hg => rfl); (case hr => first | (go_simp; done) | (go_simp; rfl)); intro gb1479 hg w34 hbox hb; replace HO1432 := am (Kd.R_below (pkR HO1432.out) hb); replace HO1435 := am (Kd.R_below (pkR HO1435.out) hb); replace HO1443 := am (Kd.R_below (pkR HO1443.out) hb); replace HO1446 := am (Kd.R_below (pkR HO1446.out) hb); replace HO1449 := am (Kd.R_below (pkR HO1449.out) hb); replace HO1459 := am (Kd.R_below (pkR HO1459.out) hb); replace HO1462 := am (Kd.R_below (pkR HO1462.out) hb); replace HO1471 := am (Kd.R_below (pkR HO1471.out) hb); replace HO1474 := am (Kd.R_below (pkR HO1474.out) hb); replace HO1477 := am (Kd.R_below (pkR HO1477.out) hb); have BK1479 := am (hbox); have GW1479 := am ((by rw [hg]; exact (below_size (pkW HB.out)) : w.heap.size ≤ gb1479)); have GE1479 := am ((by rw [hg]; exact (below_size (pkW HB.out)) : w.heap.size ≤ gb1479)); replace HB := am (below_step (pkW HB.out) hb); have NB1423_1479 := am ((by rw [hg]; exact Nat.ne_of_lt (blk_lt (g := gb1423) (o := .cells #[.int .i64 a0_0, .int .i64 a0_1, .string a0_2, .int .i64 a0_3, .bool a0_4, .slice A0_5 l0_5.length c0_5, .slice A0_6 l0_6.length c0_6] 56 (0, 0)) (pkK BK1423.out)) : gb1423 ≠ gb1479)); have NB1479_1423 := am ((by rw [hg]; exact Nat.ne_of_gt (blk_lt (g := gb1423) (o := .cells #[.int .i64 a0_0, .int .i64 a0_1, .string a0_2, .int .i64 a0_3, .bool a0_4, .slice A0_5 l0_5.length c0_5, .slice A0_6 l0_6.length c0_6] 56 (0, 0)) (pkK BK1423.out)) : gb1479 ≠ gb1423)); replace BK1423 := am (blk_below (pkK BK1423.out) hb); have NB1451_1479 := am ((by rw [hg]; exact Nat.ne_of_lt (blk_lt (g := gb1451) (o := .cells #[.int .i64 t1436, .int .i64 t1437, .string t1438, .int .i64 t1439, .bool t1440, .slice Ao23 t1441.length co23, .slice Ao24 t1444.length co24] 29 (0, 0)) (pkK BK1451.out)) : gb1451 ≠ gb1479)); have NB1479_1451 := am ((by rw [hg]; exact Nat.ne_of_gt (blk_lt (g := gb1451) (o := .cells #[.int .i64 t1436, .int .i64 t1437, .string t1438, .int .i64 t1439, .bool t1440, .slice Ao23 t1441.length co23, .slice Ao24 t1444.length co24] 29 (0, 0)) (pkK BK1451.out)) : gb1479 ≠ gb1451)); replace BK1451 := am (blk_below (pkK BK1451.out) hb); have NB1463_1479 := am ((by rw [hg]; exact Nat.ne_of_lt (blk_lt (g := gb1463) (o := .cells #[.int .i64 t1452, .int .i64 t1453, .string t1454, .int .i64 t1455, .bool t1456, .slice Ao31 t1457.length co31, .slice Ao32 t1460.length co32] 29 (0, 0)) (pkK BK1463.out)) : gb1463 ≠ gb1479)); have NB1479_1463 := am ((by rw [hg]; exact Nat.ne_of_gt (blk_lt (g := gb1463) (o := .cells #[.int .i64 t1452, .int .i64 t1453, .string t1454, .int .i64 t1455, .bool t1456, .slice Ao31 t1457.length co31, .slice Ao32 t1460.length co32] 29 (0, 0)) (pkK BK1463.out)) : gb1479 ≠ gb1463)); replace BK1463 := am (blk_below (pkK BK1463.out) hb); clear hb hbox hg; have hnb35 := NB1479_1423.out; have hnc35 := NB1423_1479.out; have hnb36 := NB1479_1451.out; have hnc36 := NB1451_1479.out; have hnb37 := NB1479_1463.out; have hnc37 := NB1463_1479.out; obtain ⟨hcz38_0, hcz38_1, hcz38_2, hcz38_3, hcz38_4, hcz38_5, hcz38_6, hfz38_0, hfz38_1, hfz38_2, hfz38_3, hfz38_4, hfz38_5, hfz38_6⟩ := bk7 BK1479.out; obtain ⟨Ao39, co39, eo39⟩ := Kd.R_slice HO1471.out; subst eo39; obtain ⟨Ao40, co40, eo40⟩ := Kd.R_slice HO1474.out; subst eo40))
  (try simp only [Act.put, List.setIfInBounds_toArray, List.set_cons_zero, List.set_cons_succ])
  go_cut [51] (fun v51 wc => ∃ (kq : Nat) (x51_10 : Bool), v51 = .bool x51_10 ∧ Aside0 (laws_FnExactShut.j0 kq t1447 t1450 t1475 t1478 x51_10 a0_0 a0_1 a0_2 a0_3 a0_4 l0_5 l0_6 t1436 t1437 t1438 t1439 t1440 t1441 t1444 t1452 t1453 t1454 t1455 t1456 t1457 t1460 t1464 t1465 t1466 t1467 t1468 t1469 t1472 = some r) ∧ Aside0 (kq ≤ k) ∧ Aside0 (Kd.R (Kd.int .i64) 3 wc w.heap.size (fun k_ => some k_ ≠ (v1476 : Value).ownBlock ∧ some k_ ≠ ((.slice Ao23 t1441.length co23) : Value).ownBlock ∧ some k_ ≠ ((.slice Ao24 t1444.length co24) : Value).ownBlock ∧ some k_ ≠ ((.slice Ao31 t1457.length co31) : Value).ownBlock ∧ some k_ ≠ ((.slice Ao32 t1460.length co32) : Value).ownBlock ∧ some k_ ≠ ((.slice Ao39 t1469.length co39) : Value).ownBlock ∧ some k_ ≠ ((.slice Ao40 t1472.length co40) : Value).ownBlock) v1448 t1447) ∧ Aside0 (Kd.R (Kd.int .i64) 3 wc w.heap.size (fun k_ => some k_ ≠ (v1448 : Value).ownBlock ∧ some k_ ≠ ((.slice Ao23 t1441.length co23) : Value).ownBlock ∧ some k_ ≠ ((.slice Ao24 t1444.length co24) : Value).ownBlock ∧ some k_ ≠ ((.slice Ao31 t1457.length co31) : Value).ownBlock ∧ some k_ ≠ ((.slice Ao32 t1460.length co32) : Value).ownBlock ∧ some k_ ≠ ((.slice Ao39 t1469.length co39) : Value).ownBlock ∧ some k_ ≠ ((.slice Ao40 t1472.length co40) : Value).ownBlock) v1476 t1475) ∧ Aside0 (Kd.R (Kd.int .i64) 3 wc w.heap.size (fun k_ => some k_ ≠ (v1448 : Value).ownBlock ∧ some k_ ≠ (v1476 : Value).ownBlock ∧ some k_ ≠ ((.slice Ao24 t1444.length co24) : Value).ownBlock ∧ some k_ ≠ ((.slice Ao31 t1457.length co31) : Value).ownBlock ∧ some k_ ≠ ((.slice Ao32 t1460.length co32) : Value).ownBlock ∧ some k_ ≠ ((.slice Ao39 t1469.length co39) : Value).ownBlock ∧ some k_ ≠ ((.slice Ao40 t1472.length co40) : Value).ownBlock) (.slice Ao23 t1441.length co23) t1441) ∧ Aside0 (Kd.R (Kd.int .i64) 3 wc w.heap.size (fun k_ => some k_ ≠ (v1448 : Value).ownBlock ∧ some k_ ≠ (v1476 : Value).ownBlock ∧ some k_ ≠ ((.slice Ao23 t1441.length co23) : Value).ownBlock ∧ some k_ ≠ ((.slice Ao31 t1457.length co31) : Value).ownBlock ∧ some k_ ≠ ((.slice Ao32 t1460.length co32) : Value).ownBlock ∧ some k_ ≠ ((.slice Ao39 t1469.length co39) : Value).ownBlock ∧ some k_ ≠ ((.slice Ao40 t1472.length co40) : Value).ownBlock) (.slice Ao24 t1444.length co24) t1444) ∧ Aside0 (Kd.R (Kd.int .i64) 3 wc w.heap.size (fun k_ => some k_ ≠ (v1448 : Value).ownBlock ∧ some k_ ≠ (v1476 : Value).ownBlock ∧ some k_ ≠ ((.slice Ao23 t1441.length co23) : Value).ownBlock ∧ some k_ ≠ ((.slice Ao24 t1444.length co24) : Value).ownBlock ∧ some k_ ≠ ((.slice Ao32 t1460.length co32) : Value).ownBlock ∧ some k_ ≠ ((.slice Ao39 t1469.length co39) : Value).ownBlock ∧ some k_ ≠ ((.slice Ao40 t1472.length co40) : Value).ownBlock) (.slice Ao31 t1457.length co31) t1457) ∧ Aside0 (Kd.R (Kd.int .i64) 3 wc w.heap.size (fun k_ => some k_ ≠ (v1448 : Value).ownBlock ∧ some k_ ≠ (v1476 : Value).ownBlock ∧ some k_ ≠ ((.slice Ao23 t1441.length co23) : Value).ownBlock ∧ some k_ ≠ ((.slice Ao24 t1444.length co24) : Value).ownBlock ∧ some k_ ≠ ((.slice Ao31 t1457.length co31) : Value).ownBlock ∧ some k_ ≠ ((.slice Ao39 t1469.length co39) : Value).ownBlock ∧ some k_ ≠ ((.slice Ao40 t1472.length co40) : Value).ownBlock) (.slice Ao32 t1460.length co32) t1460) ∧ Aside0 (Kd.R (Kd.int .i64) 3 wc w.heap.size (fun k_ => some k_ ≠ (v1448 : Value).ownBlock ∧ some k_ ≠ (v1476 : Value).ownBlock ∧ some k_ ≠ ((.slice Ao23 t1441.length co23) : Value).ownBlock ∧ some k_ ≠ ((.slice Ao24 t1444.length co24) : Value).ownBlock ∧ some k_ ≠ ((.slice Ao31 t1457.length co31) : Value).ownBlock ∧ some k_ ≠ ((.slice Ao32 t1460.length co32) : Value).ownBlock ∧ some k_ ≠ ((.slice Ao40 t1472.length co40) : Value).ownBlock) (.slice Ao39 t1469.length co39) t1469) ∧ Aside0 (Kd.R (Kd.int .i64) 3 wc w.heap.size (fun k_ => some k_ ≠ (v1448 : Value).ownBlock ∧ some k_ ≠ (v1476 : Value).ownBlock ∧ some k_ ≠ ((.slice Ao23 t1441.length co23) : Value).ownBlock ∧ some k_ ≠ ((.slice Ao24 t1444.length co24) : Value).ownBlock ∧ some k_ ≠ ((.slice Ao31 t1457.length co31) : Value).ownBlock ∧ some k_ ≠ ((.slice Ao32 t1460.length co32) : Value).ownBlock ∧ some k_ ≠ ((.slice Ao39 t1469.length co39) : Value).ownBlock) (.slice Ao40 t1472.length co40) t1472) ∧ Aside0 (wc.heap[gb1423]? = some (.cells #[.int .i64 a0_0, .int .i64 a0_1, .string a0_2, .int .i64 a0_3, .bool a0_4, (.slice A0_5 l0_5.length c0_5), (.slice A0_6 l0_6.length c0_6)] 56 (0, 0))) ∧ Aside0 (wc.heap[gb1451]? = some (.cells #[.int .i64 t1436, .int .i64 t1437, .string t1438, .int .i64 t1439, .bool t1440, (.slice Ao23 t1441.length co23), (.slice Ao24 t1444.length co24)] 29 (0, 0))) ∧ Aside0 (wc.heap[gb1463]? = some (.cells #[.int .i64 t1452, .int .i64 t1453, .string t1454, .int .i64 t1455, .bool t1456, (.slice Ao31 t1457.length co31), (.slice Ao32 t1460.length co32)] 29 (0, 0))) ∧ Aside0 (wc.heap[gb1479]? = some (.cells #[.int .i64 t1464, .int .i64 t1465, .string t1466, .int .i64 t1467, .bool t1468, (.slice Ao39 t1469.length co39), (.slice Ao40 t1472.length co40)] 29 (0, 0))) ∧ Aside0 (Below w.heap.size w wc))
  case first =>
   have H := HC11.out
   clear HC11
   replace H := Option.bind_eq_some_iff.mp H
   obtain ⟨t1480, A410, H⟩ := H
   replace H : (if t1480 = true then ((laws_eqIntS.f k t1475 t1447).bind fun t1481 => (if t1481 = true then (laws_FnExactShut.j0 k t1447 t1450 t1475 t1478 (t1478 != t1450) a0_0 a0_1 a0_2 a0_3 a0_4 l0_5 l0_6 t1436 t1437 t1438 t1439 t1440 t1441 t1444 t1452 t1453 t1454 t1455 t1456 t1457 t1460 t1464 t1465 t1466 t1467 t1468 t1469 t1472) else (laws_FnExactShut.j0 k t1447 t1450 t1475 t1478 true a0_0 a0_1 a0_2 a0_3 a0_4 l0_5 l0_6 t1436 t1437 t1438 t1439 t1440 t1441 t1444 t1452 t1453 t1454 t1455 t1456 t1457 t1460 t1464 t1465 t1466 t1467 t1468 t1469 t1472))) else (laws_FnExactShut.j0 k t1447 t1450 t1475 t1478 true a0_0 a0_1 a0_2 a0_3 a0_4 l0_5 l0_6 t1436 t1437 t1438 t1439 t1440 t1441 t1444 t1452 t1453 t1454 t1455 t1456 t1457 t1460 t1464 t1465 t1466 t1467 t1468 t1469 t1472)) = some r := H
   have A41 := am A410
   clear A410
   by_cases c42 : t1480 = true
   ·subst c42
    replace H : ((laws_eqIntS.f k t1475 t1447).bind fun t1481 => (if t1481 = true then (laws_FnExactShut.j0 k t1447 t1450 t1475 t1478 (t1478 != t1450) a0_0 a0_1 a0_2 a0_3 a0_4 l0_5 l0_6 t1436 t1437 t1438 t1439 t1440 t1441 t1444 t1452 t1453 t1454 t1455 t1456 t1457 t1460 t1464 t1465 t1466 t1467 t1468 t1469 t1472) else (laws_FnExactShut.j0 k t1447 t1450 t1475 t1478 true a0_0 a0_1 a0_2 a0_3 a0_4 l0_5 l0_6 t1436 t1437 t1438 t1439 t1440 t1441 t1444 t1452 t1453 t1454 t1455 t1456 t1457 t1460 t1464 t1465 t1466 t1467 t1468 t1469 t1472))) = some r := by rw [if_pos rfl] at H; exact H
    replace H := Option.bind_eq_some_iff.mp H
    obtain ⟨t1481, A430, H⟩ := H
    replace H : (if t1481 = true then (laws_FnExactShut.j0 k t1447 t1450 t1475 t1478 (t1478 != t1450) a0_0 a0_1 a0_2 a0_3 a0_4 l0_5 l0_6 t1436 t1437 t1438 t1439 t1440 t1441 t1444 t1452 t1453 t1454 t1455 t1456 t1457 t1460 t1464 t1465 t1466 t1467 t1468 t1469 t1472) else (laws_FnExactShut.j0 k t1447 t1450 t1475 t1478 true a0_0 a0_1 a0_2 a0_3 a0_4 l0_5 l0_6 t1436 t1437 t1438 t1439 t1440 t1441 t1444 t1452 t1453 t1454 t1455 t1456 t1457 t1460 t1464 t1465 t1466 t1467 t1468 t1469 t1472)) = some r := H
    have A43 := am A430
    clear A430
    by_cases c44 : t1481 = true
    ·subst c44
     replace H : (laws_FnExactShut.j0 k t1447 t1450 t1475 t1478 (t1478 != t1450) a0_0 a0_1 a0_2 a0_3 a0_4 l0_5 l0_6 t1436 t1437 t1438 t1439 t1440 t1441 t1444 t1452 t1453 t1454 t1455 t1456 t1457 t1460 t1464 t1465 t1466 t1467 t1468 t1469 t1472) = some r := by rw [if_pos rfl] at H; exact H
     have H' := am H
     clear H
     have hnb45 := NB1479_1423.out
     have hnc45 := NB1423_1479.out
     have hnb46 := NB1479_1451.out
     have hnc46 := NB1451_1479.out
     have hnb47 := NB1479_1463.out
     have hnc47 := NB1463_1479.out
     obtain ⟨hcz48_0, hcz48_1, hcz48_2, hcz48_3, hcz48_4, hcz48_5, hcz48_6, hfz48_0, hfz48_1, hfz48_2, hfz48_3, hfz48_4, hfz48_5, hfz48_6⟩ := bk7 BK1479.out
     have hnb49 := NB1451_1423.out
     have hnc49 := NB1423_1451.out
     have hnb50 := NB1451_1463.out
     have hnc50 := NB1463_1451.out
     obtain ⟨hcz51_0, hcz51_1, hcz51_2, hcz51_3, hcz51_4, hcz51_5, hcz51_6, hfz51_0, hfz51_1, hfz51_2, hfz51_3, hfz51_4, hfz51_5, hfz51_6⟩ := bk7 BK1451.out
     go_wp2_with (first | ((with_reducible refine gate_callee (f := 34) rfl ?_); refine goesL_ (some 39) rfl rfl Try.func34 (by kernel_rfl) rfl #[.agg #[.int .i64 t1464, .int .i64 t1465, .string t1466, .int .i64 t1467, .bool t1468, .slice Ao39 t1469.length co39, .slice Ao40 t1472.length co40], .agg #[.int .i64 t1436, .int .i64 t1437, .string t1438, .int .i64 t1439, .bool t1440, .slice Ao23 t1441.length co23, .slice Ao24 t1444.length co24]] rfl mpx ?_; (with_reducible refine (laws_eqCell.calls k t1464 t1465 t1466 t1467 t1468 _ _ t1469 _ _ t1472 t1436 t1437 t1438 t1439 t1440 _ _ t1441 _ _ t1444 true _ ?side1 ?side2 ?side3 ?side4 ?side5 ?side6 ?side7 ?side8 A41.out).mono ?_); (case side1 => refine (Kd.R_reads' (e := 3) (base := w.heap.size) (ok := fun k_ => ((((((((some k_ ≠ (.slice Ao40 t1472.length co40 : Value).ownBlock ∧ some k_ ≠ (v1476 : Value).ownBlock) ∧ some k_ ≠ (.slice Ao17 t1430.length co17 : Value).ownBlock) ∧ some k_ ≠ (.slice Ao18 t1433.length co18 : Value).ownBlock) ∧ some k_ ≠ (.slice Ao23 t1441.length co23 : Value).ownBlock) ∧ some k_ ≠ (.slice Ao24 t1444.length co24 : Value).ownBlock) ∧ some k_ ≠ (v1448 : Value).ownBlock) ∧ some k_ ≠ (.slice Ao31 t1457.length co31 : Value).ownBlock) ∧ some k_ ≠ (.slice Ao32 t1460.length co32 : Value).ownBlock)) (n := t1469.length) (c := co39) ?_).2.2; exact (by (with_reducible repeat (first | apply Kd.R_alloc | apply Kd.R_drewN | apply Kd.R_drew)); exact (Kd.R_mono (Kd.R_far (p := ⟨gb1479, 6, none⟩) (Kd.R_far (p := ⟨gb1479, 5, none⟩) (Kd.R_far (p := ⟨gb1479, 4, none⟩) (Kd.R_far (p := ⟨gb1479, 3, none⟩) (Kd.R_far (p := ⟨gb1479, 2, none⟩) (Kd.R_far (p := ⟨gb1479, 1, none⟩) (Kd.R_far (p := ⟨gb1479, 0, none⟩) (Kd.R_types HO1471.out BK1479.out (by decide)) (fun _ hk => hk.2) (.int .i64 t1464)) (fun _ hk => hk.2) (.int .i64 t1465)) (fun _ hk => hk.2) (.string t1466)) (fun _ hk => hk.2) (.int .i64 t1467)) (fun _ hk => hk.2) (.bool t1468)) (fun _ hk => hk.2) (.slice Ao39 t1469.length co39)) (fun _ hk => hk.2) (.slice Ao40 t1472.length co40)) (fun _ h_ => h_.1)))); (case side2 => exact (Kd.R_reads' HO1471.out).2.1); (case side3 => refine (Kd.R_reads' (e := 3) (base := w.heap.size) (ok := fun k_ => ((((((((some k_ ≠ (.slice Ao39 t1469.length co39 : Value).ownBlock ∧ some k_ ≠ (v1476 : Value).ownBlock) ∧ some k_ ≠ (.slice Ao17 t1430.length co17 : Value).ownBlock) ∧ some k_ ≠ (.slice Ao18 t1433.length co18 : Value).ownBlock) ∧ some k_ ≠ (.slice Ao23 t1441.length co23 : Value).ownBlock) ∧ some k_ ≠ (.slice Ao24 t1444.length co24 : Value).ownBlock) ∧ some k_ ≠ (v1448 : Value).ownBlock) ∧ some k_ ≠ (.slice Ao31 t1457.length co31 : Value).ownBlock) ∧ some k_ ≠ (.slice Ao32 t1460.length co32 : Value).ownBlock)) (n := t1472.length) (c := co40) ?_).2.2; exact (by (with_reducible repeat (first | apply Kd.R_alloc | apply Kd.R_drewN | apply Kd.R_drew)); exact (Kd.R_mono (Kd.R_far (p := ⟨gb1479, 6, none⟩) (Kd.R_far (p := ⟨gb1479, 5, none⟩) (Kd.R_far (p := ⟨gb1479, 4, none⟩) (Kd.R_far (p := ⟨gb1479, 3, none⟩) (Kd.R_far (p := ⟨gb1479, 2, none⟩) (Kd.R_far (p := ⟨gb1479, 1, none⟩) (Kd.R_far (p := ⟨gb1479, 0, none⟩) (Kd.R_types HO1474.out BK1479.out (by decide)) (fun _ hk => hk.2) (.int .i64 t1464)) (fun _ hk => hk.2) (.int .i64 t1465)) (fun _ hk => hk.2) (.string t1466)) (fun _ hk => hk.2) (.int .i64 t1467)) (fun _ hk => hk.2) (.bool t1468)) (fun _ hk => hk.2) (.slice Ao39 t1469.length co39)) (fun _ hk => hk.2) (.slice Ao40 t1472.length co40)) (fun _ h_ => h_.1)))); (case side4 => exact (Kd.R_reads' HO1474.out).2.1); (case side5 => refine (Kd.R_reads' (e := 3) (base := w.heap.size) (ok := fun k_ => ((((((((some k_ ≠ (.slice Ao24 t1444.length co24 : Value).ownBlock ∧ some k_ ≠ (v1448 : Value).ownBlock) ∧ some k_ ≠ (.slice Ao17 t1430.length co17 : Value).ownBlock) ∧ some k_ ≠ (.slice Ao18 t1433.length co18 : Value).ownBlock) ∧ some k_ ≠ (.slice Ao31 t1457.length co31 : Value).ownBlock) ∧ some k_ ≠ (.slice Ao32 t1460.length co32 : Value).ownBlock) ∧ some k_ ≠ (.slice Ao39 t1469.length co39 : Value).ownBlock) ∧ some k_ ≠ (.slice Ao40 t1472.length co40 : Value).ownBlock) ∧ some k_ ≠ (v1476 : Value).ownBlock)) (n := t1441.length) (c := co23) ?_).2.2; exact (by (with_reducible repeat (first | apply Kd.R_alloc | apply Kd.R_drewN | apply Kd.R_drew)); exact (Kd.R_mono (Kd.R_far (p := ⟨gb1479, 6, none⟩) (Kd.R_far (p := ⟨gb1479, 5, none⟩) (Kd.R_far (p := ⟨gb1479, 4, none⟩) (Kd.R_far (p := ⟨gb1479, 3, none⟩) (Kd.R_far (p := ⟨gb1479, 2, none⟩) (Kd.R_far (p := ⟨gb1479, 1, none⟩) (Kd.R_far (p := ⟨gb1479, 0, none⟩) (Kd.R_types HO1443.out BK1479.out (by decide)) (fun _ hk => hk.2) (.int .i64 t1464)) (fun _ hk => hk.2) (.int .i64 t1465)) (fun _ hk => hk.2) (.string t1466)) (fun _ hk => hk.2) (.int .i64 t1467)) (fun _ hk => hk.2) (.bool t1468)) (fun _ hk => hk.2) (.slice Ao39 t1469.length co39)) (fun _ hk => hk.2) (.slice Ao40 t1472.length co40)) (fun _ h_ => h_.1)))); (case side6 => exact (Kd.R_reads' HO1443.out).2.1); (case side7 => refine (Kd.R_reads' (e := 3) (base := w.heap.size) (ok := fun k_ => ((((((((some k_ ≠ (.slice Ao23 t1441.length co23 : Value).ownBlock ∧ some k_ ≠ (v1448 : Value).ownBlock) ∧ some k_ ≠ (.slice Ao17 t1430.length co17 : Value).ownBlock) ∧ some k_ ≠ (.slice Ao18 t1433.length co18 : Value).ownBlock) ∧ some k_ ≠ (.slice Ao31 t1457.length co31 : Value).ownBlock) ∧ some k_ ≠ (.slice Ao32 t1460.length co32 : Value).ownBlock) ∧ some k_ ≠ (.slice Ao39 t1469.length co39 : Value).ownBlock) ∧ some k_ ≠ (.slice Ao40 t1472.length co40 : Value).ownBlock) ∧ some k_ ≠ (v1476 : Value).ownBlock)) (n := t1444.length) (c := co24) ?_).2.2; exact (by (with_reducible repeat (first | apply Kd.R_alloc | apply Kd.R_drewN | apply Kd.R_drew)); exact (Kd.R_mono (Kd.R_far (p := ⟨gb1479, 6, none⟩) (Kd.R_far (p := ⟨gb1479, 5, none⟩) (Kd.R_far (p := ⟨gb1479, 4, none⟩) (Kd.R_far (p := ⟨gb1479, 3, none⟩) (Kd.R_far (p := ⟨gb1479, 2, none⟩) (Kd.R_far (p := ⟨gb1479, 1, none⟩) (Kd.R_far (p := ⟨gb1479, 0, none⟩) (Kd.R_types HO1446.out BK1479.out (by decide)) (fun _ hk => hk.2) (.int .i64 t1464)) (fun _ hk => hk.2) (.int .i64 t1465)) (fun _ hk => hk.2) (.string t1466)) (fun _ hk => hk.2) (.int .i64 t1467)) (fun _ hk => hk.2) (.bool t1468)) (fun _ hk => hk.2) (.slice Ao39 t1469.length co39)) (fun _ hk => hk.2) (.slice Ao40 t1472.length co40)) (fun _ h_ => h_.1)))); (case side8 => exact (Kd.R_reads' HO1446.out).2.1); rintro e w52 ⟨rfl, hb⟩; refine ⟨_, rfl, ?_⟩; replace HO1432 := am (Kd.R_below (by (with_reducible repeat (first | apply Kd.R_alloc | apply Kd.R_drewN | apply Kd.R_drew)); exact (Kd.R_mono (Kd.R_far (p := ⟨gb1479, 6, none⟩) (Kd.R_far (p := ⟨gb1479, 5, none⟩) (Kd.R_far (p := ⟨gb1479, 4, none⟩) (Kd.R_far (p := ⟨gb1479, 3, none⟩) (Kd.R_far (p := ⟨gb1479, 2, none⟩) (Kd.R_far (p := ⟨gb1479, 1, none⟩) (Kd.R_far (p := ⟨gb1479, 0, none⟩) (Kd.R_types HO1432.out BK1479.out (by decide)) (fun _ hk => hk.2) (.int .i64 t1464)) (fun _ hk => hk.2) (.int .i64 t1465)) (fun _ hk => hk.2) (.string t1466)) (fun _ hk => hk.2) (.int .i64 t1467)) (fun _ hk => hk.2) (.bool t1468)) (fun _ hk => hk.2) (.slice Ao39 t1469.length co39)) (fun _ hk => hk.2) (.slice Ao40 t1472.length co40)) (fun _ h_ => h_.1))) hb); replace HO1435 := am (Kd.R_below (by (with_reducible repeat (first | apply Kd.R_alloc | apply Kd.R_drewN | apply Kd.R_drew)); exact (Kd.R_mono (Kd.R_far (p := ⟨gb1479, 6, none⟩) (Kd.R_far (p := ⟨gb1479, 5, none⟩) (Kd.R_far (p := ⟨gb1479, 4, none⟩) (Kd.R_far (p := ⟨gb1479, 3, none⟩) (Kd.R_far (p := ⟨gb1479, 2, none⟩) (Kd.R_far (p := ⟨gb1479, 1, none⟩) (Kd.R_far (p := ⟨gb1479, 0, none⟩) (Kd.R_types HO1435.out BK1479.out (by decide)) (fun _ hk => hk.2) (.int .i64 t1464)) (fun _ hk => hk.2) (.int .i64 t1465)) (fun _ hk => hk.2) (.string t1466)) (fun _ hk => hk.2) (.int .i64 t1467)) (fun _ hk => hk.2) (.bool t1468)) (fun _ hk => hk.2) (.slice Ao39 t1469.length co39)) (fun _ hk => hk.2) (.slice Ao40 t1472.length co40)) (fun _ h_ => h_.1))) hb); replace HO1443 := am (Kd.R_below (by (with_reducible repeat (first | apply Kd.R_alloc | apply Kd.R_drewN | apply Kd.R_drew)); exact (Kd.R_mono (Kd.R_far (p := ⟨gb1479, 6, none⟩) (Kd.R_far (p := ⟨gb1479, 5, none⟩) (Kd.R_far (p := ⟨gb1479, 4, none⟩) (Kd.R_far (p := ⟨gb1479, 3, none⟩) (Kd.R_far (p := ⟨gb1479, 2, none⟩) (Kd.R_far (p := ⟨gb1479, 1, none⟩) (Kd.R_far (p := ⟨gb1479, 0, none⟩) (Kd.R_types HO1443.out BK1479.out (by decide)) (fun _ hk => hk.2) (.int .i64 t1464)) (fun _ hk => hk.2) (.int .i64 t1465)) (fun _ hk => hk.2) (.string t1466)) (fun _ hk => hk.2) (.int .i64 t1467)) (fun _ hk => hk.2) (.bool t1468)) (fun _ hk => hk.2) (.slice Ao39 t1469.length co39)) (fun _ hk => hk.2) (.slice Ao40 t1472.length co40)) (fun _ h_ => h_.1))) hb); replace HO1446 := am (Kd.R_below (by (with_reducible repeat (first | apply Kd.R_alloc | apply Kd.R_drewN | apply Kd.R_drew)); exact (Kd.R_mono (Kd.R_far (p := ⟨gb1479, 6, none⟩) (Kd.R_far (p := ⟨gb1479, 5, none⟩) (Kd.R_far (p := ⟨gb1479, 4, none⟩) (Kd.R_far (p := ⟨gb1479, 3, none⟩) (Kd.R_far (p := ⟨gb1479, 2, none⟩) (Kd.R_far (p := ⟨gb1479, 1, none⟩) (Kd.R_far (p := ⟨gb1479, 0, none⟩) (Kd.R_types HO1446.out BK1479.out (by decide)) (fun _ hk => hk.2) (.int .i64 t1464)) (fun _ hk => hk.2) (.int .i64 t1465)) (fun _ hk => hk.2) (.string t1466)) (fun _ hk => hk.2) (.int .i64 t1467)) (fun _ hk => hk.2) (.bool t1468)) (fun _ hk => hk.2) (.slice Ao39 t1469.length co39)) (fun _ hk => hk.2) (.slice Ao40 t1472.length co40)) (fun _ h_ => h_.1))) hb); replace HO1449 := am (Kd.R_below (by (with_reducible repeat (first | apply Kd.R_alloc | apply Kd.R_drewN | apply Kd.R_drew)); exact (Kd.R_mono (Kd.R_far (p := ⟨gb1479, 6, none⟩) (Kd.R_far (p := ⟨gb1479, 5, none⟩) (Kd.R_far (p := ⟨gb1479, 4, none⟩) (Kd.R_far (p := ⟨gb1479, 3, none⟩) (Kd.R_far (p := ⟨gb1479, 2, none⟩) (Kd.R_far (p := ⟨gb1479, 1, none⟩) (Kd.R_far (p := ⟨gb1479, 0, none⟩) (Kd.R_types HO1449.out BK1479.out (by decide)) (fun _ hk => hk.2) (.int .i64 t1464)) (fun _ hk => hk.2) (.int .i64 t1465)) (fun _ hk => hk.2) (.string t1466)) (fun _ hk => hk.2) (.int .i64 t1467)) (fun _ hk => hk.2) (.bool t1468)) (fun _ hk => hk.2) (.slice Ao39 t1469.length co39)) (fun _ hk => hk.2) (.slice Ao40 t1472.length co40)) (fun _ h_ => h_.1))) hb); replace HO1459 := am (Kd.R_below (by (with_reducible repeat (first | apply Kd.R_alloc | apply Kd.R_drewN | apply Kd.R_drew)); exact (Kd.R_mono (Kd.R_far (p := ⟨gb1479, 6, none⟩) (Kd.R_far (p := ⟨gb1479, 5, none⟩) (Kd.R_far (p := ⟨gb1479, 4, none⟩) (Kd.R_far (p := ⟨gb1479, 3, none⟩) (Kd.R_far (p := ⟨gb1479, 2, none⟩) (Kd.R_far (p := ⟨gb1479, 1, none⟩) (Kd.R_far (p := ⟨gb1479, 0, none⟩) (Kd.R_types HO1459.out BK1479.out (by decide)) (fun _ hk => hk.2) (.int .i64 t1464)) (fun _ hk => hk.2) (.int .i64 t1465)) (fun _ hk => hk.2) (.string t1466)) (fun _ hk => hk.2) (.int .i64 t1467)) (fun _ hk => hk.2) (.bool t1468)) (fun _ hk => hk.2) (.slice Ao39 t1469.length co39)) (fun _ hk => hk.2) (.slice Ao40 t1472.length co40)) (fun _ h_ => h_.1))) hb); replace HO1462 := am (Kd.R_below (by (with_reducible repeat (first | apply Kd.R_alloc | apply Kd.R_drewN | apply Kd.R_drew)); exact (Kd.R_mono (Kd.R_far (p := ⟨gb1479, 6, none⟩) (Kd.R_far (p := ⟨gb1479, 5, none⟩) (Kd.R_far (p := ⟨gb1479, 4, none⟩) (Kd.R_far (p := ⟨gb1479, 3, none⟩) (Kd.R_far (p := ⟨gb1479, 2, none⟩) (Kd.R_far (p := ⟨gb1479, 1, none⟩) (Kd.R_far (p := ⟨gb1479, 0, none⟩) (Kd.R_types HO1462.out BK1479.out (by decide)) (fun _ hk => hk.2) (.int .i64 t1464)) (fun _ hk => hk.2) (.int .i64 t1465)) (fun _ hk => hk.2) (.string t1466)) (fun _ hk => hk.2) (.int .i64 t1467)) (fun _ hk => hk.2) (.bool t1468)) (fun _ hk => hk.2) (.slice Ao39 t1469.length co39)) (fun _ hk => hk.2) (.slice Ao40 t1472.length co40)) (fun _ h_ => h_.1))) hb); replace HO1471 := am (Kd.R_below (by (with_reducible repeat (first | apply Kd.R_alloc | apply Kd.R_drewN | apply Kd.R_drew)); exact (Kd.R_mono (Kd.R_far (p := ⟨gb1479, 6, none⟩) (Kd.R_far (p := ⟨gb1479, 5, none⟩) (Kd.R_far (p := ⟨gb1479, 4, none⟩) (Kd.R_far (p := ⟨gb1479, 3, none⟩) (Kd.R_far (p := ⟨gb1479, 2, none⟩) (Kd.R_far (p := ⟨gb1479, 1, none⟩) (Kd.R_far (p := ⟨gb1479, 0, none⟩) (Kd.R_types HO1471.out BK1479.out (by decide)) (fun _ hk => hk.2) (.int .i64 t1464)) (fun _ hk => hk.2) (.int .i64 t1465)) (fun _ hk => hk.2) (.string t1466)) (fun _ hk => hk.2) (.int .i64 t1467)) (fun _ hk => hk.2) (.bool t1468)) (fun _ hk => hk.2) (.slice Ao39 t1469.length co39)) (fun _ hk => hk.2) (.slice Ao40 t1472.length co40)) (fun _ h_ => h_.1))) hb); replace HO1474 := am (Kd.R_below (by (with_reducible repeat (first | apply Kd.R_alloc | apply Kd.R_drewN | apply Kd.R_drew)); exact (Kd.R_mono (Kd.R_far (p := ⟨gb1479, 6, none⟩) (Kd.R_far (p := ⟨gb1479, 5, none⟩) (Kd.R_far (p := ⟨gb1479, 4, none⟩) (Kd.R_far (p := ⟨gb1479, 3, none⟩) (Kd.R_far (p := ⟨gb1479, 2, none⟩) (Kd.R_far (p := ⟨gb1479, 1, none⟩) (Kd.R_far (p := ⟨gb1479, 0, none⟩) (Kd.R_types HO1474.out BK1479.out (by decide)) (fun _ hk => hk.2) (.int .i64 t1464)) (fun _ hk => hk.2) (.int .i64 t1465)) (fun _ hk => hk.2) (.string t1466)) (fun _ hk => hk.2) (.int .i64 t1467)) (fun _ hk => hk.2) (.bool t1468)) (fun _ hk => hk.2) (.slice Ao39 t1469.length co39)) (fun _ hk => hk.2) (.slice Ao40 t1472.length co40)) (fun _ h_ => h_.1))) hb); replace HO1477 := am (Kd.R_below (by (with_reducible repeat (first | apply Kd.R_alloc | apply Kd.R_drewN | apply Kd.R_drew)); exact (Kd.R_mono (Kd.R_far (p := ⟨gb1479, 6, none⟩) (Kd.R_far (p := ⟨gb1479, 5, none⟩) (Kd.R_far (p := ⟨gb1479, 4, none⟩) (Kd.R_far (p := ⟨gb1479, 3, none⟩) (Kd.R_far (p := ⟨gb1479, 2, none⟩) (Kd.R_far (p := ⟨gb1479, 1, none⟩) (Kd.R_far (p := ⟨gb1479, 0, none⟩) (Kd.R_types HO1477.out BK1479.out (by decide)) (fun _ hk => hk.2) (.int .i64 t1464)) (fun _ hk => hk.2) (.int .i64 t1465)) (fun _ hk => hk.2) (.string t1466)) (fun _ hk => hk.2) (.int .i64 t1467)) (fun _ hk => hk.2) (.bool t1468)) (fun _ hk => hk.2) (.slice Ao39 t1469.length co39)) (fun _ hk => hk.2) (.slice Ao40 t1472.length co40)) (fun _ h_ => h_.1))) hb); replace BK1423 := am (blk_below (g := gb1423) (o := .cells #[.int .i64 a0_0, .int .i64 a0_1, .string a0_2, .int .i64 a0_3, .bool a0_4, .slice A0_5 l0_5.length c0_5, .slice A0_6 l0_6.length c0_6] 56 (0, 0)) (by (with_reducible repeat (first | refine blk_drewN ?_ _ | refine blk_drew ?_ | refine blk_alloc ?_ _)); refine blk_far ?_ NB1423_1479.out _; (with_reducible repeat (first | refine blk_drewN ?_ _ | refine blk_drew ?_ | refine blk_alloc ?_ _)); refine blk_far ?_ NB1423_1479.out _; (with_reducible repeat (first | refine blk_drewN ?_ _ | refine blk_drew ?_ | refine blk_alloc ?_ _)); refine blk_far ?_ NB1423_1479.out _; (with_reducible repeat (first | refine blk_drewN ?_ _ | refine blk_drew ?_ | refine blk_alloc ?_ _)); refine blk_far ?_ NB1423_1479.out _; (with_reducible repeat (first | refine blk_drewN ?_ _ | refine blk_drew ?_ | refine blk_alloc ?_ _)); refine blk_far ?_ NB1423_1479.out _; (with_reducible repeat (first | refine blk_drewN ?_ _ | refine blk_drew ?_ | refine blk_alloc ?_ _)); refine blk_far ?_ NB1423_1479.out _; (with_reducible repeat (first | refine blk_drewN ?_ _ | refine blk_drew ?_ | refine blk_alloc ?_ _)); refine blk_far ?_ NB1423_1479.out _; exact pkK BK1423.out) hb); replace BK1451 := am (blk_below (g := gb1451) (o := .cells #[.int .i64 t1436, .int .i64 t1437, .string t1438, .int .i64 t1439, .bool t1440, .slice Ao23 t1441.length co23, .slice Ao24 t1444.length co24] 29 (0, 0)) (by (with_reducible repeat (first | refine blk_drewN ?_ _ | refine blk_drew ?_ | refine blk_alloc ?_ _)); refine blk_far ?_ NB1451_1479.out _; (with_reducible repeat (first | refine blk_drewN ?_ _ | refine blk_drew ?_ | refine blk_alloc ?_ _)); refine blk_far ?_ NB1451_1479.out _; (with_reducible repeat (first | refine blk_drewN ?_ _ | refine blk_drew ?_ | refine blk_alloc ?_ _)); refine blk_far ?_ NB1451_1479.out _; (with_reducible repeat (first | refine blk_drewN ?_ _ | refine blk_drew ?_ | refine blk_alloc ?_ _)); refine blk_far ?_ NB1451_1479.out _; (with_reducible repeat (first | refine blk_drewN ?_ _ | refine blk_drew ?_ | refine blk_alloc ?_ _)); refine blk_far ?_ NB1451_1479.out _; (with_reducible repeat (first | refine blk_drewN ?_ _ | refine blk_drew ?_ | refine blk_alloc ?_ _)); refine blk_far ?_ NB1451_1479.out _; (with_reducible repeat (first | refine blk_drewN ?_ _ | refine blk_drew ?_ | refine blk_alloc ?_ _)); refine blk_far ?_ NB1451_1479.out _; exact pkK BK1451.out) hb); replace BK1463 := am (blk_below (g := gb1463) (o := .cells #[.int .i64 t1452, .int .i64 t1453, .string t1454, .int .i64 t1455, .bool t1456, .slice Ao31 t1457.length co31, .slice Ao32 t1460.length co32] 29 (0, 0)) (by (with_reducible repeat (first | refine blk_drewN ?_ _ | refine blk_drew ?_ | refine blk_alloc ?_ _)); refine blk_far ?_ NB1463_1479.out _; (with_reducible repeat (first | refine blk_drewN ?_ _ | refine blk_drew ?_ | refine blk_alloc ?_ _)); refine blk_far ?_ NB1463_1479.out _; (with_reducible repeat (first | refine blk_drewN ?_ _ | refine blk_drew ?_ | refine blk_alloc ?_ _)); refine blk_far ?_ NB1463_1479.out _; (with_reducible repeat (first | refine blk_drewN ?_ _ | refine blk_drew ?_ | refine blk_alloc ?_ _)); refine blk_far ?_ NB1463_1479.out _; (with_reducible repeat (first | refine blk_drewN ?_ _ | refine blk_drew ?_ | refine blk_alloc ?_ _)); refine blk_far ?_ NB1463_1479.out _; (with_reducible repeat (first | refine blk_drewN ?_ _ | refine blk_drew ?_ | refine blk_alloc ?_ _)); refine blk_far ?_ NB1463_1479.out _; (with_reducible repeat (first | refine blk_drewN ?_ _ | refine blk_drew ?_ | refine blk_alloc ?_ _)); refine blk_far ?_ NB1463_1479.out _; exact pkK BK1463.out) hb); replace BK1479 := am (blk_below (g := gb1479) (o := .cells #[.int .i64 t1464, .int .i64 t1465, .string t1466, .int .i64 t1467, .bool t1468, .slice Ao39 t1469.length co39, .slice Ao40 t1472.length co40] 29 (0, 0)) (by (with_reducible repeat (first | refine blk_drewN ?_ _ | refine blk_drew ?_ | refine blk_alloc ?_ _)); refine blk_put (cs := #[.int .i64 t1464, .int .i64 t1465, .string t1466, .int .i64 t1467, .bool t1468, .slice Ao39 t1469.length co39, .slice none 0 0]) ?_ 6 _ rfl; (with_reducible repeat (first | refine blk_drewN ?_ _ | refine blk_drew ?_ | refine blk_alloc ?_ _)); refine blk_put (cs := #[.int .i64 t1464, .int .i64 t1465, .string t1466, .int .i64 t1467, .bool t1468, .slice none 0 0, .slice none 0 0]) ?_ 5 _ rfl; (with_reducible repeat (first | refine blk_drewN ?_ _ | refine blk_drew ?_ | refine blk_alloc ?_ _)); refine blk_put (cs := #[.int .i64 t1464, .int .i64 t1465, .string t1466, .int .i64 t1467, .bool false, .slice none 0 0, .slice none 0 0]) ?_ 4 _ rfl; (with_reducible repeat (first | refine blk_drewN ?_ _ | refine blk_drew ?_ | refine blk_alloc ?_ _)); refine blk_put (cs := #[.int .i64 t1464, .int .i64 t1465, .string t1466, .int .i64 0, .bool false, .slice none 0 0, .slice none 0 0]) ?_ 3 _ rfl; (with_reducible repeat (first | refine blk_drewN ?_ _ | refine blk_drew ?_ | refine blk_alloc ?_ _)); refine blk_put (cs := #[.int .i64 t1464, .int .i64 t1465, .string (⟨#[]⟩ : ByteArray), .int .i64 0, .bool false, .slice none 0 0, .slice none 0 0]) ?_ 2 _ rfl; (with_reducible repeat (first | refine blk_drewN ?_ _ | refine blk_drew ?_ | refine blk_alloc ?_ _)); refine blk_put (cs := #[.int .i64 t1464, .int .i64 0, .string (⟨#[]⟩ : ByteArray), .int .i64 0, .bool false, .slice none 0 0, .slice none 0 0]) ?_ 1 _ rfl; (with_reducible repeat (first | refine blk_drewN ?_ _ | refine blk_drew ?_ | refine blk_alloc ?_ _)); refine blk_put (cs := #[.int .i64 0, .int .i64 0, .string (⟨#[]⟩ : ByteArray), .int .i64 0, .bool false, .slice none 0 0, .slice none 0 0]) ?_ 0 _ rfl; exact pkK BK1479.out) hb); replace HB := am (below_step (pkW HB.out) hb); (try clear hb); obtain ⟨Ao53, co53, eo53⟩ := Kd.R_slice HO1477.out; subst eo53; obtain ⟨Ao54, co54, eo54⟩ := Kd.R_slice HO1449.out; subst eo54) | (go_at_call 44; (with_reducible refine (laws_eqIntS.calls k _ _ t1475 _ _ t1447 true _ ?side1 ?side2 ?side3 ?side4 A43.out).mono ?_); (case side1 => exact pkC (Kd.R_reads' HO1477.out).2.2); (case side2 => exact (Kd.R_reads' HO1477.out).2.1); (case side3 => exact pkC (Kd.R_reads' HO1449.out).2.2); (case side4 => exact (Kd.R_reads' HO1449.out).2.1); rintro e w' ⟨rfl, ⟨nd, rfl⟩⟩))
     go_meet
     case rel => exact ⟨_, ((t1478 != t1450)), rfx, H', ⟨by first | omega | exact Nat.le_refl _⟩, ⟨by (with_reducible repeat (first | apply Kd.R_alloc | apply Kd.R_drewN | apply Kd.R_drew)); exact Kd.R_mono HO1449.out (fun _ hk => ⟨hk.2, ⟨hk.1.1.1.1.1.1.1.1, ⟨hk.1.1.1.1.1.1.1.2, ⟨hk.1.1.1.1.2, ⟨hk.1.1.1.2, ⟨hk.1.1.2, hk.1.2⟩⟩⟩⟩⟩⟩)⟩, ⟨by (with_reducible repeat (first | apply Kd.R_alloc | apply Kd.R_drewN | apply Kd.R_drew)); exact Kd.R_mono HO1477.out (fun _ hk => ⟨hk.1.1.2, ⟨hk.1.1.1.1.2, ⟨hk.1.1.1.2, ⟨hk.1.2, ⟨hk.2, ⟨hk.1.1.1.1.1.1.1.1, hk.1.1.1.1.1.1.1.2⟩⟩⟩⟩⟩⟩)⟩, ⟨by (with_reducible repeat (first | apply Kd.R_alloc | apply Kd.R_drewN | apply Kd.R_drew)); exact Kd.R_mono HO1443.out (fun _ hk => ⟨hk.1.1.1.1.1.1.1.2, ⟨hk.2, ⟨hk.1.1.1.1.1.1.1.1, ⟨hk.1.1.1.1.2, ⟨hk.1.1.1.2, ⟨hk.1.1.2, hk.1.2⟩⟩⟩⟩⟩⟩)⟩, ⟨by (with_reducible repeat (first | apply Kd.R_alloc | apply Kd.R_drewN | apply Kd.R_drew)); exact Kd.R_mono HO1446.out (fun _ hk => ⟨hk.1.1.1.1.1.1.1.2, ⟨hk.2, ⟨hk.1.1.1.1.1.1.1.1, ⟨hk.1.1.1.1.2, ⟨hk.1.1.1.2, ⟨hk.1.1.2, hk.1.2⟩⟩⟩⟩⟩⟩)⟩, ⟨by (with_reducible repeat (first | apply Kd.R_alloc | apply Kd.R_drewN | apply Kd.R_drew)); exact Kd.R_mono HO1459.out (fun _ hk => ⟨hk.1.1.1.2, ⟨hk.2, ⟨hk.1.1.1.1.1.2, ⟨hk.1.1.1.1.2, ⟨hk.1.1.1.1.1.1.1.1, ⟨hk.1.1.2, hk.1.2⟩⟩⟩⟩⟩⟩)⟩, ⟨by (with_reducible repeat (first | apply Kd.R_alloc | apply Kd.R_drewN | apply Kd.R_drew)); exact Kd.R_mono HO1462.out (fun _ hk => ⟨hk.1.1.1.2, ⟨hk.2, ⟨hk.1.1.1.1.1.2, ⟨hk.1.1.1.1.2, ⟨hk.1.1.1.1.1.1.1.1, ⟨hk.1.1.2, hk.1.2⟩⟩⟩⟩⟩⟩)⟩, ⟨by (with_reducible repeat (first | apply Kd.R_alloc | apply Kd.R_drewN | apply Kd.R_drew)); exact Kd.R_mono HO1471.out (fun _ hk => ⟨hk.1.1.2, ⟨hk.1.1.1.1.1.1.1.2, ⟨hk.1.1.1.1.2, ⟨hk.1.1.1.2, ⟨hk.1.2, ⟨hk.2, hk.1.1.1.1.1.1.1.1⟩⟩⟩⟩⟩⟩)⟩, ⟨by (with_reducible repeat (first | apply Kd.R_alloc | apply Kd.R_drewN | apply Kd.R_drew)); exact Kd.R_mono HO1474.out (fun _ hk => ⟨hk.1.1.2, ⟨hk.1.1.1.1.1.1.1.2, ⟨hk.1.1.1.1.2, ⟨hk.1.1.1.2, ⟨hk.1.2, ⟨hk.2, hk.1.1.1.1.1.1.1.1⟩⟩⟩⟩⟩⟩)⟩, ⟨pkK BK1423.out⟩, ⟨pkK BK1451.out⟩, ⟨pkK BK1463.out⟩, ⟨pkK BK1479.out⟩, ⟨pkW HB.out⟩⟩
    ·replace c44 := Bool.eq_false_iff.mpr c44
     subst c44
     replace H : (laws_FnExactShut.j0 k t1447 t1450 t1475 t1478 true a0_0 a0_1 a0_2 a0_3 a0_4 l0_5 l0_6 t1436 t1437 t1438 t1439 t1440 t1441 t1444 t1452 t1453 t1454 t1455 t1456 t1457 t1460 t1464 t1465 t1466 t1467 t1468 t1469 t1472) = some r := by rw [if_neg (show ¬ (false = true) by decide)] at H; exact H
     cases k with
     | zero => exact absurd H (by simp [laws_FnExactShut.j0])
     | succ k_ => (simp only [laws_FnExactShut.j0, if_pos] at H; exact absurd (Option.some.inj H) (by rw [HQ_.out]; simp))
   ·replace c42 := Bool.eq_false_iff.mpr c42
    subst c42
    replace H : (laws_FnExactShut.j0 k t1447 t1450 t1475 t1478 true a0_0 a0_1 a0_2 a0_3 a0_4 l0_5 l0_6 t1436 t1437 t1438 t1439 t1440 t1441 t1444 t1452 t1453 t1454 t1455 t1456 t1457 t1460 t1464 t1465 t1466 t1467 t1468 t1469 t1472) = some r := by rw [if_neg (show ¬ (false = true) by decide)] at H; exact H
    cases k with
    | zero => exact absurd H (by simp [laws_FnExactShut.j0])
    | succ k_ => (simp only [laws_FnExactShut.j0, if_pos] at H; exact absurd (Option.some.inj H) (by rw [HQ_.out]; simp))
  case rest =>
   clear HC11
   try clear c1
   try clear c2
   try clear p2
   try clear c3
   try clear c3b0
   try clear c4
   try clear c5
   try clear c14
   try clear c21
   try clear c28
   try clear c29
   try clear c31
   try clear c32
   try clear c34
   try clear c35
   try clear c36
   try clear c37
   try clear c42
   try clear c44
   try clear c45
   try clear c46
   try clear c47
   try clear c49
   try clear c50
   try clear c52
   try clear c53
   try clear hcz13_0
   try clear hcz13_1
   try clear hcz13_2
   try clear hcz13_3
   try clear hcz13_4
   try clear hcz13_5
   try clear hcz13_6
   try clear hcz15_0
   try clear hcz15_1
   try clear hcz15_2
   try clear hcz15_3
   try clear hcz15_4
   try clear hcz15_5
   try clear hcz15_6
   try clear hcz22_0
   try clear hcz22_1
   try clear hcz22_2
   try clear hcz22_3
   try clear hcz22_4
   try clear hcz22_5
   try clear hcz22_6
   try clear hcz25_0
   try clear hcz25_1
   try clear hcz25_2
   try clear hcz25_3
   try clear hcz25_4
   try clear hcz25_5
   try clear hcz25_6
   try clear hcz30_0
   try clear hcz30_1
   try clear hcz30_2
   try clear hcz30_3
   try clear hcz30_4
   try clear hcz30_5
   try clear hcz30_6
   try clear hcz38_0
   try clear hcz38_1
   try clear hcz38_2
   try clear hcz38_3
   try clear hcz38_4
   try clear hcz38_5
   try clear hcz38_6
   try clear hcz48_0
   try clear hcz48_1
   try clear hcz48_2
   try clear hcz48_3
   try clear hcz48_4
   try clear hcz48_5
   try clear hcz48_6
   try clear hcz51_0
   try clear hcz51_1
   try clear hcz51_2
   try clear hcz51_3
   try clear hcz51_4
   try clear hcz51_5
   try clear hcz51_6
   try clear hcz5_0
   try clear hcz5_1
   try clear hcz5_2
   try clear hcz5_3
   try clear hcz5_4
   try clear hcz5_5
   try clear hcz5_6
   try clear hfz13_0
   try clear hfz13_1
   try clear hfz13_2
   try clear hfz13_3
   try clear hfz13_4
   try clear hfz13_5
   try clear hfz13_6
   try clear hfz15_0
   try clear hfz15_1
   try clear hfz15_2
   try clear hfz15_3
   try clear hfz15_4
   try clear hfz15_5
   try clear hfz15_6
   try clear hfz22_0
   try clear hfz22_1
   try clear hfz22_2
   try clear hfz22_3
   try clear hfz22_4
   try clear hfz22_5
   try clear hfz22_6
   try clear hfz25_0
   try clear hfz25_1
   try clear hfz25_2
   try clear hfz25_3
   try clear hfz25_4
   try clear hfz25_5
   try clear hfz25_6
   try clear hfz30_0
   try clear hfz30_1
   try clear hfz30_2
   try clear hfz30_3
   try clear hfz30_4
   try clear hfz30_5
   try clear hfz30_6
   try clear hfz38_0
   try clear hfz38_1
   try clear hfz38_2
   try clear hfz38_3
   try clear hfz38_4
   try clear hfz38_5
   try clear hfz38_6
   try clear hfz48_0
   try clear hfz48_1
   try clear hfz48_2
   try clear hfz48_3
   try clear hfz48_4
   try clear hfz48_5
   try clear hfz48_6
   try clear hfz51_0
   try clear hfz51_1
   try clear hfz51_2
   try clear hfz51_3
   try clear hfz51_4
   try clear hfz51_5
   try clear hfz51_6
   try clear hfz5_0
   try clear hfz5_1
   try clear hfz5_2
   try clear hfz5_3
   try clear hfz5_4
   try clear hfz5_5
   try clear hfz5_6
   obtain ⟨kq, x51_10, rfl, HA, HJ10, HO_5, HO_9, HO_1452005, HO_1452006, HO_1464005, HO_1464006, HO_1480005, HO_1480006, BK1423, BK1451, BK1463, BK1479, HB⟩ := hcut
   cases kq with
   | zero => exact absurd HA.out (by simp [laws_FnExactShut.j0])
   | succ kj10 =>
    have H := HA.out
    clear HA
    simp only [laws_FnExactShut.j0] at H
    by_cases c55 : x51_10 = true
    ·subst c55
     replace H : (some false) = some r := by rw [if_pos rfl] at H; exact H
     exact absurd (Option.some.inj H) (by rw [HQ_.out]; simp)
    ·replace c55 := Bool.eq_false_iff.mpr c55
     subst c55
     replace H : ((laws_toCell.f kj10 a0_0 a0_1 a0_2 a0_3 a0_4 l0_5 l0_6).bind fun bt1482 => ((laws_eqCell.f kj10 t1452 t1453 t1454 t1455 t1456 t1457 t1460 bt1482.1 bt1482.2.1 bt1482.2.2.1 bt1482.2.2.2.1 bt1482.2.2.2.2.1 bt1482.2.2.2.2.2.1 bt1482.2.2.2.2.2.2).bind fun t1493 => (if t1493 = true then ((laws_markCell.f kj10 t1452 t1453 t1454 t1455 t1456 t1457 t1460 1).bind fun bt1494 => (if bt1494.1 < 0 then (laws_FnExactShut.j1 kj10 t1447 t1450 t1475 true a0_0 a0_1 a0_2 a0_3 a0_4 l0_5 l0_6 t1436 t1437 t1438 t1439 t1440 t1441 t1444 t1464 t1465 t1466 t1467 t1468 t1469 t1472) else ((laws_eqCell.f kj10 t1464 t1465 t1466 t1467 t1468 t1469 t1472 t1436 t1437 t1438 t1439 t1440 t1441 t1444).bind fun t1497 => (if t1497 = true then ((laws_eqIntS.f kj10 t1475 t1447).bind fun t1498 => (if t1498 = true then (laws_FnExactShut.j1 kj10 t1447 t1450 t1475 (t1478 != t1450) a0_0 a0_1 a0_2 a0_3 a0_4 l0_5 l0_6 t1436 t1437 t1438 t1439 t1440 t1441 t1444 t1464 t1465 t1466 t1467 t1468 t1469 t1472) else (laws_FnExactShut.j1 kj10 t1447 t1450 t1475 true a0_0 a0_1 a0_2 a0_3 a0_4 l0_5 l0_6 t1436 t1437 t1438 t1439 t1440 t1441 t1444 t1464 t1465 t1466 t1467 t1468 t1469 t1472))) else (laws_FnExactShut.j1 kj10 t1447 t1450 t1475 true a0_0 a0_1 a0_2 a0_3 a0_4 l0_5 l0_6 t1436 t1437 t1438 t1439 t1440 t1441 t1444 t1464 t1465 t1466 t1467 t1468 t1469 t1472))))) else (some false)))) = some r := by rw [if_neg (show ¬ (false = true) by decide)] at H; exact H
     replace H := Option.bind_eq_some_iff.mp H
     obtain ⟨⟨t1482, t1483, t1484, t1485, t1486, t1487, t1490⟩, A560, H⟩ := H
     replace H : ((laws_eqCell.f kj10 t1452 t1453 t1454 t1455 t1456 t1457 t1460 t1482 t1483 t1484 t1485 t1486 t1487 t1490).bind fun t1493 => (if t1493 = true then ((laws_markCell.f kj10 t1452 t1453 t1454 t1455 t1456 t1457 t1460 1).bind fun bt1494 => (if bt1494.1 < 0 then (laws_FnExactShut.j1 kj10 t1447 t1450 t1475 true a0_0 a0_1 a0_2 a0_3 a0_4 l0_5 l0_6 t1436 t1437 t1438 t1439 t1440 t1441 t1444 t1464 t1465 t1466 t1467 t1468 t1469 t1472) else ((laws_eqCell.f kj10 t1464 t1465 t1466 t1467 t1468 t1469 t1472 t1436 t1437 t1438 t1439 t1440 t1441 t1444).bind fun t1497 => (if t1497 = true then ((laws_eqIntS.f kj10 t1475 t1447).bind fun t1498 => (if t1498 = true then (laws_FnExactShut.j1 kj10 t1447 t1450 t1475 (t1478 != t1450) a0_0 a0_1 a0_2 a0_3 a0_4 l0_5 l0_6 t1436 t1437 t1438 t1439 t1440 t1441 t1444 t1464 t1465 t1466 t1467 t1468 t1469 t1472) else (laws_FnExactShut.j1 kj10 t1447 t1450 t1475 true a0_0 a0_1 a0_2 a0_3 a0_4 l0_5 l0_6 t1436 t1437 t1438 t1439 t1440 t1441 t1444 t1464 t1465 t1466 t1467 t1468 t1469 t1472))) else (laws_FnExactShut.j1 kj10 t1447 t1450 t1475 true a0_0 a0_1 a0_2 a0_3 a0_4 l0_5 l0_6 t1436 t1437 t1438 t1439 t1440 t1441 t1444 t1464 t1465 t1466 t1467 t1468 t1469 t1472))))) else (some false))) = some r := H
     have A56 := am A560
     clear A560
     replace H := Option.bind_eq_some_iff.mp H
     obtain ⟨t1493, A570, H⟩ := H
     replace H : (if t1493 = true then ((laws_markCell.f kj10 t1452 t1453 t1454 t1455 t1456 t1457 t1460 1).bind fun bt1494 => (if bt1494.1 < 0 then (laws_FnExactShut.j1 kj10 t1447 t1450 t1475 true a0_0 a0_1 a0_2 a0_3 a0_4 l0_5 l0_6 t1436 t1437 t1438 t1439 t1440 t1441 t1444 t1464 t1465 t1466 t1467 t1468 t1469 t1472) else ((laws_eqCell.f kj10 t1464 t1465 t1466 t1467 t1468 t1469 t1472 t1436 t1437 t1438 t1439 t1440 t1441 t1444).bind fun t1497 => (if t1497 = true then ((laws_eqIntS.f kj10 t1475 t1447).bind fun t1498 => (if t1498 = true then (laws_FnExactShut.j1 kj10 t1447 t1450 t1475 (t1478 != t1450) a0_0 a0_1 a0_2 a0_3 a0_4 l0_5 l0_6 t1436 t1437 t1438 t1439 t1440 t1441 t1444 t1464 t1465 t1466 t1467 t1468 t1469 t1472) else (laws_FnExactShut.j1 kj10 t1447 t1450 t1475 true a0_0 a0_1 a0_2 a0_3 a0_4 l0_5 l0_6 t1436 t1437 t1438 t1439 t1440 t1441 t1444 t1464 t1465 t1466 t1467 t1468 t1469 t1472))) else (laws_FnExactShut.j1 kj10 t1447 t1450 t1475 true a0_0 a0_1 a0_2 a0_3 a0_4 l0_5 l0_6 t1436 t1437 t1438 t1439 t1440 t1441 t1444 t1464 t1465 t1466 t1467 t1468 t1469 t1472))))) else (some false)) = some r := H
     have A57 := am A570
     clear A570
     by_cases c58 : t1493 = true
     ·subst c58
      replace H : ((laws_markCell.f kj10 t1452 t1453 t1454 t1455 t1456 t1457 t1460 1).bind fun bt1494 => (if bt1494.1 < 0 then (laws_FnExactShut.j1 kj10 t1447 t1450 t1475 true a0_0 a0_1 a0_2 a0_3 a0_4 l0_5 l0_6 t1436 t1437 t1438 t1439 t1440 t1441 t1444 t1464 t1465 t1466 t1467 t1468 t1469 t1472) else ((laws_eqCell.f kj10 t1464 t1465 t1466 t1467 t1468 t1469 t1472 t1436 t1437 t1438 t1439 t1440 t1441 t1444).bind fun t1497 => (if t1497 = true then ((laws_eqIntS.f kj10 t1475 t1447).bind fun t1498 => (if t1498 = true then (laws_FnExactShut.j1 kj10 t1447 t1450 t1475 (t1478 != t1450) a0_0 a0_1 a0_2 a0_3 a0_4 l0_5 l0_6 t1436 t1437 t1438 t1439 t1440 t1441 t1444 t1464 t1465 t1466 t1467 t1468 t1469 t1472) else (laws_FnExactShut.j1 kj10 t1447 t1450 t1475 true a0_0 a0_1 a0_2 a0_3 a0_4 l0_5 l0_6 t1436 t1437 t1438 t1439 t1440 t1441 t1444 t1464 t1465 t1466 t1467 t1468 t1469 t1472))) else (laws_FnExactShut.j1 kj10 t1447 t1450 t1475 true a0_0 a0_1 a0_2 a0_3 a0_4 l0_5 l0_6 t1436 t1437 t1438 t1439 t1440 t1441 t1444 t1464 t1465 t1466 t1467 t1468 t1469 t1472))))) = some r := by rw [if_pos rfl] at H; exact H
      replace H := Option.bind_eq_some_iff.mp H
      obtain ⟨⟨t1494, t1495, t1496⟩, A590, H⟩ := H
      replace H : (if t1494 < 0 then (laws_FnExactShut.j1 kj10 t1447 t1450 t1475 true a0_0 a0_1 a0_2 a0_3 a0_4 l0_5 l0_6 t1436 t1437 t1438 t1439 t1440 t1441 t1444 t1464 t1465 t1466 t1467 t1468 t1469 t1472) else ((laws_eqCell.f kj10 t1464 t1465 t1466 t1467 t1468 t1469 t1472 t1436 t1437 t1438 t1439 t1440 t1441 t1444).bind fun t1497 => (if t1497 = true then ((laws_eqIntS.f kj10 t1475 t1447).bind fun t1498 => (if t1498 = true then (laws_FnExactShut.j1 kj10 t1447 t1450 t1475 (t1478 != t1450) a0_0 a0_1 a0_2 a0_3 a0_4 l0_5 l0_6 t1436 t1437 t1438 t1439 t1440 t1441 t1444 t1464 t1465 t1466 t1467 t1468 t1469 t1472) else (laws_FnExactShut.j1 kj10 t1447 t1450 t1475 true a0_0 a0_1 a0_2 a0_3 a0_4 l0_5 l0_6 t1436 t1437 t1438 t1439 t1440 t1441 t1444 t1464 t1465 t1466 t1467 t1468 t1469 t1472))) else (laws_FnExactShut.j1 kj10 t1447 t1450 t1475 true a0_0 a0_1 a0_2 a0_3 a0_4 l0_5 l0_6 t1436 t1437 t1438 t1439 t1440 t1441 t1444 t1464 t1465 t1466 t1467 t1468 t1469 t1472)))) = some r := H
      have A59 := am A590
      clear A590
      have HC60 := am H
      clear H
      try go_wp2
      replace HO_5 := am (Kd.R_drew HO_5.out)
      replace HO_9 := am (Kd.R_drew HO_9.out)
      replace HO_1452005 := am (Kd.R_drew HO_1452005.out)
      replace HO_1452006 := am (Kd.R_drew HO_1452006.out)
      replace HO_1464005 := am (Kd.R_drew HO_1464005.out)
      replace HO_1464006 := am (Kd.R_drew HO_1464006.out)
      replace HO_1480005 := am (Kd.R_drew HO_1480005.out)
      replace HO_1480006 := am (Kd.R_drew HO_1480006.out)
      replace BK1423 := am (blk_drew BK1423.out)
      replace BK1451 := am (blk_drew BK1451.out)
      replace BK1463 := am (blk_drew BK1463.out)
      replace BK1479 := am (blk_drew BK1479.out)
      replace HB := am (below_drew1 HB.out)
      refine start_ (n := 5) (S := fun w' => w'.cell? ⟨gb1463, 0, none⟩ = some (.int .i64 t1452) ∧ w'.cell? ⟨gb1463, 1, none⟩ = some (.int .i64 t1453) ∧ w'.cell? ⟨gb1463, 2, none⟩ = some (.string t1454) ∧ w'.cell? ⟨gb1463, 3, none⟩ = some (.int .i64 t1455) ∧ w'.cell? ⟨gb1463, 4, none⟩ = some (.bool t1456) ∧ w'.cell? ⟨gb1463, 5, none⟩ = some (.slice Ao31 t1457.length co31) ∧ w'.cell? ⟨gb1463, 6, none⟩ = some (.slice Ao32 t1460.length co32) ∧ w'.cell? ⟨gb1423, 0, none⟩ = some (.int .i64 a0_0) ∧ w'.cell? ⟨gb1423, 1, none⟩ = some (.int .i64 a0_1) ∧ w'.cell? ⟨gb1423, 2, none⟩ = some (.string a0_2) ∧ w'.cell? ⟨gb1423, 3, none⟩ = some (.int .i64 a0_3) ∧ w'.cell? ⟨gb1423, 4, none⟩ = some (.bool a0_4) ∧ w'.cell? ⟨gb1423, 5, none⟩ = some (.slice A0_5 l0_5.length c0_5) ∧ w'.cell? ⟨gb1423, 6, none⟩ = some (.slice A0_6 l0_6.length c0_6)) (ds := []) #[false, false, false, false, false] (by kernel_rfl) rfl rfl ⟨(blk_cell BK1463.out 0).trans rfl, (blk_cell BK1463.out 1).trans rfl, (blk_cell BK1463.out 2).trans rfl, (blk_cell BK1463.out 3).trans rfl, (blk_cell BK1463.out 4).trans rfl, (blk_cell BK1463.out 5).trans rfl, (blk_cell BK1463.out 6).trans rfl, (blk_cell BK1423.out 0).trans rfl, (blk_cell BK1423.out 1).trans rfl, (blk_cell BK1423.out 2).trans rfl, (blk_cell BK1423.out 3).trans rfl, (blk_cell BK1423.out 4).trans rfl, (blk_cell BK1423.out 5).trans rfl, (blk_cell BK1423.out 6).trans rfl⟩ (fun hHeld => ?_)
      generalize wc.drew = w61 at HO_5 HO_9 HO_1452005 HO_1452006 HO_1464005 HO_1464006 HO_1480005 HO_1480006 BK1423 BK1451 BK1463 BK1479 HB hHeld ⊢
      refine take_ (i := 0) (N := some 52) (v := ?_) (a' := ?_) #[true, false, false, false, false] rfl rfl (by kernel_rfl) (fun _ _ _ h => h) (Or.inl ⟨by rfl, ?_⟩) hHeld ?_ ?_
      rotate_left
      ·rintro w' ⟨s0, s1, s2, s3, s4, s5, s6, s7, s8, s9, s10, s11, s12, s13⟩
       go_simp
       with_reducible rfl
      rotate_left
      ·simp only [Act.put, List.setIfInBounds_toArray, List.set_cons_zero, List.set_cons_succ, i64_w, i32_w]
       rfl
      refine take_ (i := 1) (N := some 53) (v := ?_) (a' := ?_) #[true, true, false, false, false] rfl rfl (by kernel_rfl) (fun _ _ _ h => h) (Or.inl ⟨by rfl, ?_⟩) hHeld ?_ ?_
      rotate_left
      ·rintro w' ⟨s0, s1, s2, s3, s4, s5, s6, s7, s8, s9, s10, s11, s12, s13⟩
       go_simp
       with_reducible rfl
      rotate_left
      ·simp only [Act.put, List.setIfInBounds_toArray, List.set_cons_zero, List.set_cons_succ, i64_w, i32_w]
       rfl
      refine one_ (i := 2) (N := some 54) #[true, true, true, false, false] rfl rfl (by kernel_rfl) (by decide) (fun K hK => ?_)
      refine goes_ Try.func32 (by kernel_rfl) rfl #[.agg #[.int .i64 a0_0, .int .i64 a0_1, .string a0_2, .int .i64 a0_3, .bool a0_4, .slice A0_5 l0_5.length c0_5, .slice A0_6 l0_6.length c0_6]] (by rfl) rfl rfl mpx ?_
      with_reducible refine (laws_toCell.calls kj10 a0_0 a0_1 a0_2 a0_3 a0_4 _ _ l0_5 _ _ l0_6 t1482 t1483 t1484 t1485 t1486 t1487 t1490 _ ?side1 ?side2 ?side3 ?side4 A56.out).mono ?_
      (case side1 => exact pkC (Kd.C_below HR0_5.out HB.out))
      (case side2 => exact HC0_5.out)
      (case side3 => exact pkC (Kd.C_below HR0_6.out HB.out))
      (case side4 => exact HC0_6.out)
      rintro e w62 ⟨v1488, v1491, rfl, ho0, ho1, hb⟩
      refine ⟨_, rfl, ?_⟩
      have HO1489 := am (Kd.R_lower (Kd.R_new' (Kd.R_new' (Kd.R_new' (Kd.R_new' (Kd.R_new' (Kd.R_new' (Kd.R_new' (Kd.R_new' ho0 (Kd.R_lt (pkR HO_5.out))) (Kd.R_lt (pkR HO_9.out))) (Kd.R_lt (pkR HO_1452005.out))) (Kd.R_lt (pkR HO_1452006.out))) (Kd.R_lt (pkR HO_1464005.out))) (Kd.R_lt (pkR HO_1464006.out))) (Kd.R_lt (pkR HO_1480005.out))) (Kd.R_lt (pkR HO_1480006.out))) (below_size (pkW HB.out)))
      have HO1492 := am (Kd.R_lower (Kd.R_new' (Kd.R_new' (Kd.R_new' (Kd.R_new' (Kd.R_new' (Kd.R_new' (Kd.R_new' (Kd.R_new' ho1 (Kd.R_lt (pkR HO_5.out))) (Kd.R_lt (pkR HO_9.out))) (Kd.R_lt (pkR HO_1452005.out))) (Kd.R_lt (pkR HO_1452006.out))) (Kd.R_lt (pkR HO_1464005.out))) (Kd.R_lt (pkR HO_1464006.out))) (Kd.R_lt (pkR HO_1480005.out))) (Kd.R_lt (pkR HO_1480006.out))) (below_size (pkW HB.out)))
      replace HO_5 := am (Kd.R_mono (Kd.R_told (Kd.R_told (Kd.R_old (pkR HO_5.out) hb) (Kd.R_base ho0)) (Kd.R_base ho1)) (fun _ h_ => h_.1))
      replace HO_9 := am (Kd.R_mono (Kd.R_told (Kd.R_told (Kd.R_old (pkR HO_9.out) hb) (Kd.R_base ho0)) (Kd.R_base ho1)) (fun _ h_ => h_.1))
      replace HO_1452005 := am (Kd.R_mono (Kd.R_told (Kd.R_told (Kd.R_old (pkR HO_1452005.out) hb) (Kd.R_base ho0)) (Kd.R_base ho1)) (fun _ h_ => h_.1))
      replace HO_1452006 := am (Kd.R_mono (Kd.R_told (Kd.R_told (Kd.R_old (pkR HO_1452006.out) hb) (Kd.R_base ho0)) (Kd.R_base ho1)) (fun _ h_ => h_.1))
      replace HO_1464005 := am (Kd.R_mono (Kd.R_told (Kd.R_told (Kd.R_old (pkR HO_1464005.out) hb) (Kd.R_base ho0)) (Kd.R_base ho1)) (fun _ h_ => h_.1))
      replace HO_1464006 := am (Kd.R_mono (Kd.R_told (Kd.R_told (Kd.R_old (pkR HO_1464006.out) hb) (Kd.R_base ho0)) (Kd.R_base ho1)) (fun _ h_ => h_.1))
      replace HO_1480005 := am (Kd.R_mono (Kd.R_told (Kd.R_told (Kd.R_old (pkR HO_1480005.out) hb) (Kd.R_base ho0)) (Kd.R_base ho1)) (fun _ h_ => h_.1))
      replace HO_1480006 := am (Kd.R_mono (Kd.R_told (Kd.R_told (Kd.R_old (pkR HO_1480006.out) hb) (Kd.R_base ho0)) (Kd.R_base ho1)) (fun _ h_ => h_.1))
      replace BK1423 := am (blk_below (pkK BK1423.out) hb)
      replace BK1451 := am (blk_below (pkK BK1451.out) hb)
      replace BK1463 := am (blk_below (pkK BK1463.out) hb)
      replace BK1479 := am (blk_below (pkK BK1479.out) hb)
      replace HB := am (below_step (pkW HB.out) hb)
      (try clear hb); (try clear ho0 ho1)
      obtain ⟨Ao63, co63, eo63⟩ := Kd.R_slice HO1489.out
      (first | subst eo63 | (injection eo63 with f1_ f2_ f3_; have f4_ := f1_.symm; have f5_ := f3_.symm; clear f1_ f2_ f3_; subst f4_; subst f5_))
      obtain ⟨Ao64, co64, eo64⟩ := Kd.R_slice HO1492.out
      (first | subst eo64 | (injection eo64 with f1_ f2_ f3_; have f4_ := f1_.symm; have f5_ := f3_.symm; clear f1_ f2_ f3_; subst f4_; subst f5_))
      refine hK.out _ _ ⟨(blk_cell BK1463.out 0).trans rfl, (blk_cell BK1463.out 1).trans rfl, (blk_cell BK1463.out 2).trans rfl, (blk_cell BK1463.out 3).trans rfl, (blk_cell BK1463.out 4).trans rfl, (blk_cell BK1463.out 5).trans rfl, (blk_cell BK1463.out 6).trans rfl, (blk_cell BK1423.out 0).trans rfl, (blk_cell BK1423.out 1).trans rfl, (blk_cell BK1423.out 2).trans rfl, (blk_cell BK1423.out 3).trans rfl, (blk_cell BK1423.out 4).trans rfl, (blk_cell BK1423.out 5).trans rfl, (blk_cell BK1423.out 6).trans rfl⟩ (fun hHeld => ?_)
      clear hK K
      refine norm_ (a' := ?_) ?_ ?_
      rotate_left
      ·show Act.put _ (some 54) _ = _
       simp only [Act.put, List.setIfInBounds_toArray, List.set_cons_zero, List.set_cons_succ, i64_w, i32_w]
       rfl
      refine one_ (i := 3) (N := some 55) #[true, true, true, true, false] rfl rfl (by kernel_rfl) (by decide) (fun K hK => ?_)
      refine goes_ Try.func34 (by kernel_rfl) rfl #[.agg #[.int .i64 t1452, .int .i64 t1453, .string t1454, .int .i64 t1455, .bool t1456, .slice Ao31 t1457.length co31, .slice Ao32 t1460.length co32], .agg #[.int .i64 t1482, .int .i64 t1483, .string t1484, .int .i64 t1485, .bool t1486, .slice Ao63 t1487.length co63, .slice Ao64 t1490.length co64]] (by rfl) rfl rfl mpx ?_
      with_reducible refine (laws_eqCell.calls kj10 t1452 t1453 t1454 t1455 t1456 _ _ t1457 _ _ t1460 t1482 t1483 t1484 t1485 t1486 _ _ t1487 _ _ t1490 true _ ?side1 ?side2 ?side3 ?side4 ?side5 ?side6 ?side7 ?side8 A57.out).mono ?_
      (case side1 => exact pkC (Kd.R_reads' HO_1464005.out).2.2)
      (case side2 => exact (Kd.R_reads' HO_1464005.out).2.1)
      (case side3 => exact pkC (Kd.R_reads' HO_1464006.out).2.2)
      (case side4 => exact (Kd.R_reads' HO_1464006.out).2.1)
      (case side5 => exact pkC (Kd.R_reads' HO1489.out).2.2)
      (case side6 => exact (Kd.R_reads' HO1489.out).2.1)
      (case side7 => exact pkC (Kd.R_reads' HO1492.out).2.2)
      (case side8 => exact (Kd.R_reads' HO1492.out).2.1)
      rintro e w65 ⟨rfl, hb⟩
      refine ⟨_, rfl, ?_⟩
      replace HO_5 := am (Kd.R_below (pkR HO_5.out) hb)
      replace HO_9 := am (Kd.R_below (pkR HO_9.out) hb)
      replace HO_1452005 := am (Kd.R_below (pkR HO_1452005.out) hb)
      replace HO_1452006 := am (Kd.R_below (pkR HO_1452006.out) hb)
      replace HO_1464005 := am (Kd.R_below (pkR HO_1464005.out) hb)
      replace HO_1464006 := am (Kd.R_below (pkR HO_1464006.out) hb)
      replace HO_1480005 := am (Kd.R_below (pkR HO_1480005.out) hb)
      replace HO_1480006 := am (Kd.R_below (pkR HO_1480006.out) hb)
      replace HO1489 := am (Kd.R_below (pkR HO1489.out) hb)
      replace HO1492 := am (Kd.R_below (pkR HO1492.out) hb)
      replace BK1423 := am (blk_below (pkK BK1423.out) hb)
      replace BK1451 := am (blk_below (pkK BK1451.out) hb)
      replace BK1463 := am (blk_below (pkK BK1463.out) hb)
      replace BK1479 := am (blk_below (pkK BK1479.out) hb)
      replace HB := am (below_step (pkW HB.out) hb)
      (try clear hb)
      refine hK.out _ _ ⟨(blk_cell BK1463.out 0).trans rfl, (blk_cell BK1463.out 1).trans rfl, (blk_cell BK1463.out 2).trans rfl, (blk_cell BK1463.out 3).trans rfl, (blk_cell BK1463.out 4).trans rfl, (blk_cell BK1463.out 5).trans rfl, (blk_cell BK1463.out 6).trans rfl, (blk_cell BK1423.out 0).trans rfl, (blk_cell BK1423.out 1).trans rfl, (blk_cell BK1423.out 2).trans rfl, (blk_cell BK1423.out 3).trans rfl, (blk_cell BK1423.out 4).trans rfl, (blk_cell BK1423.out 5).trans rfl, (blk_cell BK1423.out 6).trans rfl⟩ (fun hHeld => ?_)
      clear hK K
      refine norm_ (a' := ?_) ?_ ?_
      rotate_left
      ·show Act.put _ (some 55) _ = _
       simp only [Act.put, List.setIfInBounds_toArray, List.set_cons_zero, List.set_cons_succ, i64_w, i32_w]
       rfl
      refine pure_ (i := 4) (N := some 56) (v := ?_) (a' := ?_) #[true, true, true, true, true] rfl rfl (by kernel_rfl) (fun _ _ _ h => h) (Or.inl ⟨by rfl, ?_⟩) ?_ ?_
      rotate_left
      ·intro w'
       go_simp
       with_reducible rfl
      rotate_left
      ·simp only [Act.put, List.setIfInBounds_toArray, List.set_cons_zero, List.set_cons_succ, i64_w, i32_w]
       rfl
      refine done_ (by kernel_rfl) ?_
      have hnb66 := NB1463_1423.out
      have hnc66 := NB1423_1463.out
      have hnb67 := NB1463_1451.out
      have hnc67 := NB1451_1463.out
      have hnb68 := NB1463_1479.out
      have hnc68 := NB1479_1463.out
      obtain ⟨hcz69_0, hcz69_1, hcz69_2, hcz69_3, hcz69_4, hcz69_5, hcz69_6, hfz69_0, hfz69_1, hfz69_2, hfz69_3, hfz69_4, hfz69_5, hfz69_6⟩ := bk7 BK1463.out
      go_upto_region 14 with (first | ((with_reducible refine gate_callee (f := 48) rfl ?_); refine goesL_ (some 59) rfl rfl Try.func48 (by kernel_rfl) rfl #[.agg #[.int .i64 t1452, .int .i64 t1453, .string t1454, .int .i64 t1455, .bool t1456, .slice Ao31 t1457.length co31, .slice Ao32 t1460.length co32], .int .i64 1] rfl mpx ?_; (with_reducible refine (laws_markCell.calls kj10 t1452 t1453 t1454 t1455 t1456 (fun k_ => some k_ = (.slice Ao31 t1457.length co31 : Value).ownBlock) (.slice Ao31 t1457.length co31) t1457 (fun k_ => some k_ = (.slice Ao32 t1460.length co32 : Value).ownBlock) (.slice Ao32 t1460.length co32) t1460 1 t1494 t1495 t1496 w _ ?side1 ?side2 ?side3 ?side4 ?side5 A59.out).mono ?_); (case side1 => repeat (first | (with_reducible first | exact HB.out | apply below_alloc | apply pw_below_drewN | apply below_drew1 | refine below_set ?_ GE1423.out | refine below_set ?_ GE1451.out | refine below_set ?_ GE1463.out | refine below_set ?_ GE1479.out) | exact HB.out)); (case side2 => exact Kd.R_tight rfl HO_1464005.out); (case side3 => exact fun k_ e_ => (HO_1464005.out.1 k_ e_.symm).1.1.2.2.2.2.1); (case side4 => exact Kd.R_tight rfl HO_1464006.out); (case side5 => exact fun k_ e_ => (HO_1464006.out.1 k_ e_.symm).1.1.2.2.2.2.1); rintro e w70 ⟨rfl, hy0, hy1, hb, hkp⟩; refine ⟨_, rfl, ?_⟩; replace HO_5 := am (Kd.R_mono (ok' := fun k_ => some k_ ≠ (v1476 : Value).ownBlock ∧ some k_ ≠ (.slice Ao23 t1441.length co23 : Value).ownBlock ∧ some k_ ≠ (.slice Ao24 t1444.length co24 : Value).ownBlock ∧ some k_ ≠ (.slice Ao31 t1457.length co31 : Value).ownBlock ∧ some k_ ≠ (.slice Ao32 t1460.length co32 : Value).ownBlock ∧ some k_ ≠ (.slice Ao39 t1469.length co39 : Value).ownBlock ∧ some k_ ≠ (.slice Ao40 t1472.length co40 : Value).ownBlock ∧ some k_ ≠ (.slice Ao63 t1487.length co63 : Value).ownBlock ∧ some k_ ≠ (.slice Ao64 t1490.length co64 : Value).ownBlock) (Kd.R_keptB (HO_5.out) hkp (fun k_ hk_ hs_ => Or.elim hs_ (fun e_ => (hk_.1.1.2.2.2.1) e_) (fun e_ => (hk_.1.1.2.2.2.2.1) e_))) (fun k_ hk_ => ⟨hk_.1.1.1.1, hk_.1.1.1.2.1, hk_.1.1.1.2.2.1, hk_.1.1.1.2.2.2.1, hk_.1.1.1.2.2.2.2.1, hk_.1.1.1.2.2.2.2.2.1, hk_.1.1.1.2.2.2.2.2.2, hk_.1.1.2, hk_.1.2⟩)); replace HO_9 := am (Kd.R_mono (ok' := fun k_ => some k_ ≠ (v1448 : Value).ownBlock ∧ some k_ ≠ (.slice Ao23 t1441.length co23 : Value).ownBlock ∧ some k_ ≠ (.slice Ao24 t1444.length co24 : Value).ownBlock ∧ some k_ ≠ (.slice Ao31 t1457.length co31 : Value).ownBlock ∧ some k_ ≠ (.slice Ao32 t1460.length co32 : Value).ownBlock ∧ some k_ ≠ (.slice Ao39 t1469.length co39 : Value).ownBlock ∧ some k_ ≠ (.slice Ao40 t1472.length co40 : Value).ownBlock ∧ some k_ ≠ (.slice Ao63 t1487.length co63 : Value).ownBlock ∧ some k_ ≠ (.slice Ao64 t1490.length co64 : Value).ownBlock) (Kd.R_keptB (HO_9.out) hkp (fun k_ hk_ hs_ => Or.elim hs_ (fun e_ => (hk_.1.1.2.2.2.1) e_) (fun e_ => (hk_.1.1.2.2.2.2.1) e_))) (fun k_ hk_ => ⟨hk_.1.1.1.1, hk_.1.1.1.2.1, hk_.1.1.1.2.2.1, hk_.1.1.1.2.2.2.1, hk_.1.1.1.2.2.2.2.1, hk_.1.1.1.2.2.2.2.2.1, hk_.1.1.1.2.2.2.2.2.2, hk_.1.1.2, hk_.1.2⟩)); replace HO_1452005 := am (Kd.R_mono (ok' := fun k_ => some k_ ≠ (v1448 : Value).ownBlock ∧ some k_ ≠ (v1476 : Value).ownBlock ∧ some k_ ≠ (.slice Ao24 t1444.length co24 : Value).ownBlock ∧ some k_ ≠ (.slice Ao31 t1457.length co31 : Value).ownBlock ∧ some k_ ≠ (.slice Ao32 t1460.length co32 : Value).ownBlock ∧ some k_ ≠ (.slice Ao39 t1469.length co39 : Value).ownBlock ∧ some k_ ≠ (.slice Ao40 t1472.length co40 : Value).ownBlock ∧ some k_ ≠ (.slice Ao63 t1487.length co63 : Value).ownBlock ∧ some k_ ≠ (.slice Ao64 t1490.length co64 : Value).ownBlock) (Kd.R_keptB (HO_1452005.out) hkp (fun k_ hk_ hs_ => Or.elim hs_ (fun e_ => (hk_.1.1.2.2.2.1) e_) (fun e_ => (hk_.1.1.2.2.2.2.1) e_))) (fun k_ hk_ => ⟨hk_.1.1.1.1, hk_.1.1.1.2.1, hk_.1.1.1.2.2.1, hk_.1.1.1.2.2.2.1, hk_.1.1.1.2.2.2.2.1, hk_.1.1.1.2.2.2.2.2.1, hk_.1.1.1.2.2.2.2.2.2, hk_.1.1.2, hk_.1.2⟩)); replace HO_1452006 := am (Kd.R_mono (ok' := fun k_ => some k_ ≠ (v1448 : Value).ownBlock ∧ some k_ ≠ (v1476 : Value).ownBlock ∧ some k_ ≠ (.slice Ao23 t1441.length co23 : Value).ownBlock ∧ some k_ ≠ (.slice Ao31 t1457.length co31 : Value).ownBlock ∧ some k_ ≠ (.slice Ao32 t1460.length co32 : Value).ownBlock ∧ some k_ ≠ (.slice Ao39 t1469.length co39 : Value).ownBlock ∧ some k_ ≠ (.slice Ao40 t1472.length co40 : Value).ownBlock ∧ some k_ ≠ (.slice Ao63 t1487.length co63 : Value).ownBlock ∧ some k_ ≠ (.slice Ao64 t1490.length co64 : Value).ownBlock) (Kd.R_keptB (HO_1452006.out) hkp (fun k_ hk_ hs_ => Or.elim hs_ (fun e_ => (hk_.1.1.2.2.2.1) e_) (fun e_ => (hk_.1.1.2.2.2.2.1) e_))) (fun k_ hk_ => ⟨hk_.1.1.1.1, hk_.1.1.1.2.1, hk_.1.1.1.2.2.1, hk_.1.1.1.2.2.2.1, hk_.1.1.1.2.2.2.2.1, hk_.1.1.1.2.2.2.2.2.1, hk_.1.1.1.2.2.2.2.2.2, hk_.1.1.2, hk_.1.2⟩)); replace HO_1480005 := am (Kd.R_mono (ok' := fun k_ => some k_ ≠ (v1448 : Value).ownBlock ∧ some k_ ≠ (v1476 : Value).ownBlock ∧ some k_ ≠ (.slice Ao23 t1441.length co23 : Value).ownBlock ∧ some k_ ≠ (.slice Ao24 t1444.length co24 : Value).ownBlock ∧ some k_ ≠ (.slice Ao31 t1457.length co31 : Value).ownBlock ∧ some k_ ≠ (.slice Ao32 t1460.length co32 : Value).ownBlock ∧ some k_ ≠ (.slice Ao40 t1472.length co40 : Value).ownBlock ∧ some k_ ≠ (.slice Ao63 t1487.length co63 : Value).ownBlock ∧ some k_ ≠ (.slice Ao64 t1490.length co64 : Value).ownBlock) (Kd.R_keptB (HO_1480005.out) hkp (fun k_ hk_ hs_ => Or.elim hs_ (fun e_ => (hk_.1.1.2.2.2.2.1) e_) (fun e_ => (hk_.1.1.2.2.2.2.2.1) e_))) (fun k_ hk_ => ⟨hk_.1.1.1.1, hk_.1.1.1.2.1, hk_.1.1.1.2.2.1, hk_.1.1.1.2.2.2.1, hk_.1.1.1.2.2.2.2.1, hk_.1.1.1.2.2.2.2.2.1, hk_.1.1.1.2.2.2.2.2.2, hk_.1.1.2, hk_.1.2⟩)); replace HO_1480006 := am (Kd.R_mono (ok' := fun k_ => some k_ ≠ (v1448 : Value).ownBlock ∧ some k_ ≠ (v1476 : Value).ownBlock ∧ some k_ ≠ (.slice Ao23 t1441.length co23 : Value).ownBlock ∧ some k_ ≠ (.slice Ao24 t1444.length co24 : Value).ownBlock ∧ some k_ ≠ (.slice Ao31 t1457.length co31 : Value).ownBlock ∧ some k_ ≠ (.slice Ao32 t1460.length co32 : Value).ownBlock ∧ some k_ ≠ (.slice Ao39 t1469.length co39 : Value).ownBlock ∧ some k_ ≠ (.slice Ao63 t1487.length co63 : Value).ownBlock ∧ some k_ ≠ (.slice Ao64 t1490.length co64 : Value).ownBlock) (Kd.R_keptB (HO_1480006.out) hkp (fun k_ hk_ hs_ => Or.elim hs_ (fun e_ => (hk_.1.1.2.2.2.2.1) e_) (fun e_ => (hk_.1.1.2.2.2.2.2.1) e_))) (fun k_ hk_ => ⟨hk_.1.1.1.1, hk_.1.1.1.2.1, hk_.1.1.1.2.2.1, hk_.1.1.1.2.2.2.1, hk_.1.1.1.2.2.2.2.1, hk_.1.1.1.2.2.2.2.2.1, hk_.1.1.1.2.2.2.2.2.2, hk_.1.1.2, hk_.1.2⟩)); replace BK1423 := am (blk_kept (pkK BK1423.out) hkp (fun hs_ => Or.elim hs_ (fun e_ => (fun e_ => (Kd.R_ne HO_1464005.out BK1423.out (by decide)) e_) e_) (fun e_ => (fun e_ => (Kd.R_ne HO_1464006.out BK1423.out (by decide)) e_) e_))); replace BK1451 := am (blk_kept (pkK BK1451.out) hkp (fun hs_ => Or.elim hs_ (fun e_ => (fun e_ => (Kd.R_ne HO_1464005.out BK1451.out (by decide)) e_) e_) (fun e_ => (fun e_ => (Kd.R_ne HO_1464006.out BK1451.out (by decide)) e_) e_))); replace BK1463 := am (blk_kept (pkK BK1463.out) hkp (fun hs_ => Or.elim hs_ (fun e_ => (fun e_ => (Kd.R_ne HO_1464005.out BK1463.out (by decide)) e_) e_) (fun e_ => (fun e_ => (Kd.R_ne HO_1464006.out BK1463.out (by decide)) e_) e_))); replace BK1479 := am (blk_kept (pkK BK1479.out) hkp (fun hs_ => Or.elim hs_ (fun e_ => (fun e_ => (Kd.R_ne HO_1464005.out BK1479.out (by decide)) e_) e_) (fun e_ => (fun e_ => (Kd.R_ne HO_1464006.out BK1479.out (by decide)) e_) e_))); replace HO_1464005 := am (Kd.R_reok rfl hy0 (fun k_ e_ => HO_1464005.out.1 k_ e_)); replace HO_1464006 := am (Kd.R_reok rfl hy1 (fun k_ e_ => HO_1464006.out.1 k_ e_)); replace HO1489 := am (Kd.R_mono (ok' := fun k_ => some k_ ≠ (v1448 : Value).ownBlock ∧ some k_ ≠ (v1476 : Value).ownBlock ∧ some k_ ≠ (.slice Ao23 t1441.length co23 : Value).ownBlock ∧ some k_ ≠ (.slice Ao24 t1444.length co24 : Value).ownBlock ∧ some k_ ≠ (.slice Ao31 t1457.length co31 : Value).ownBlock ∧ some k_ ≠ (.slice Ao32 t1460.length co32 : Value).ownBlock ∧ some k_ ≠ (.slice Ao39 t1469.length co39 : Value).ownBlock ∧ some k_ ≠ (.slice Ao40 t1472.length co40 : Value).ownBlock ∧ some k_ ≠ (.slice Ao64 t1490.length co64 : Value).ownBlock) (Kd.R_keptB (HO1489.out) hkp (fun k_ hk_ hs_ => Or.elim hs_ (fun e_ => (hk_.1.1.1.2) e_) (fun e_ => (hk_.1.1.2) e_))) (fun k_ hk_ => ⟨hk_.1.1.1.1.1.1.1.1.2, hk_.1.1.1.1.1.1.1.2, hk_.1.1.1.1.1.1.2, hk_.1.1.1.1.1.2, hk_.1.1.1.1.2, hk_.1.1.1.2, hk_.1.1.2, hk_.1.2, hk_.1.1.1.1.1.1.1.1.1⟩)); replace HO1492 := am (Kd.R_mono (ok' := fun k_ => some k_ ≠ (v1448 : Value).ownBlock ∧ some k_ ≠ (v1476 : Value).ownBlock ∧ some k_ ≠ (.slice Ao23 t1441.length co23 : Value).ownBlock ∧ some k_ ≠ (.slice Ao24 t1444.length co24 : Value).ownBlock ∧ some k_ ≠ (.slice Ao31 t1457.length co31 : Value).ownBlock ∧ some k_ ≠ (.slice Ao32 t1460.length co32 : Value).ownBlock ∧ some k_ ≠ (.slice Ao39 t1469.length co39 : Value).ownBlock ∧ some k_ ≠ (.slice Ao40 t1472.length co40 : Value).ownBlock ∧ some k_ ≠ (.slice Ao63 t1487.length co63 : Value).ownBlock) (Kd.R_keptB (HO1492.out) hkp (fun k_ hk_ hs_ => Or.elim hs_ (fun e_ => (hk_.1.1.1.2) e_) (fun e_ => (hk_.1.1.2) e_))) (fun k_ hk_ => ⟨hk_.1.1.1.1.1.1.1.1.2, hk_.1.1.1.1.1.1.1.2, hk_.1.1.1.1.1.1.2, hk_.1.1.1.1.1.2, hk_.1.1.1.1.2, hk_.1.1.1.2, hk_.1.1.2, hk_.1.2, hk_.1.1.1.1.1.1.1.1.1⟩)); replace HB := am (hb); (try clear hb); (try clear hkp); (try clear hy0); (try clear hy1)))
      (try simp only [Act.put, List.setIfInBounds_toArray, List.set_cons_zero, List.set_cons_succ])
      go_cut [78] (fun v78 wc => ∃ (kq : Nat) (x78_59 : Bool), v78 = .bool x78_59 ∧ Aside0 (laws_FnExactShut.j1 kq t1447 t1450 t1475 x78_59 a0_0 a0_1 a0_2 a0_3 a0_4 l0_5 l0_6 t1436 t1437 t1438 t1439 t1440 t1441 t1444 t1464 t1465 t1466 t1467 t1468 t1469 t1472 = some r) ∧ Aside0 (kq ≤ kj10) ∧ Aside0 (Kd.R (Kd.int .i64) 3 wc w.heap.size (fun k_ => some k_ ≠ (v1476 : Value).ownBlock ∧ some k_ ≠ ((.slice Ao23 t1441.length co23) : Value).ownBlock ∧ some k_ ≠ ((.slice Ao24 t1444.length co24) : Value).ownBlock ∧ some k_ ≠ ((.slice Ao31 t1457.length co31) : Value).ownBlock ∧ some k_ ≠ ((.slice Ao32 t1460.length co32) : Value).ownBlock ∧ some k_ ≠ ((.slice Ao39 t1469.length co39) : Value).ownBlock ∧ some k_ ≠ ((.slice Ao40 t1472.length co40) : Value).ownBlock) v1448 t1447) ∧ Aside0 (Kd.R (Kd.int .i64) 3 wc w.heap.size (fun k_ => some k_ ≠ (v1448 : Value).ownBlock ∧ some k_ ≠ ((.slice Ao23 t1441.length co23) : Value).ownBlock ∧ some k_ ≠ ((.slice Ao24 t1444.length co24) : Value).ownBlock ∧ some k_ ≠ ((.slice Ao31 t1457.length co31) : Value).ownBlock ∧ some k_ ≠ ((.slice Ao32 t1460.length co32) : Value).ownBlock ∧ some k_ ≠ ((.slice Ao39 t1469.length co39) : Value).ownBlock ∧ some k_ ≠ ((.slice Ao40 t1472.length co40) : Value).ownBlock) v1476 t1475) ∧ Aside0 (Kd.R (Kd.int .i64) 3 wc w.heap.size (fun k_ => some k_ ≠ (v1448 : Value).ownBlock ∧ some k_ ≠ (v1476 : Value).ownBlock ∧ some k_ ≠ ((.slice Ao24 t1444.length co24) : Value).ownBlock ∧ some k_ ≠ ((.slice Ao31 t1457.length co31) : Value).ownBlock ∧ some k_ ≠ ((.slice Ao32 t1460.length co32) : Value).ownBlock ∧ some k_ ≠ ((.slice Ao39 t1469.length co39) : Value).ownBlock ∧ some k_ ≠ ((.slice Ao40 t1472.length co40) : Value).ownBlock) (.slice Ao23 t1441.length co23) t1441) ∧ Aside0 (Kd.R (Kd.int .i64) 3 wc w.heap.size (fun k_ => some k_ ≠ (v1448 : Value).ownBlock ∧ some k_ ≠ (v1476 : Value).ownBlock ∧ some k_ ≠ ((.slice Ao23 t1441.length co23) : Value).ownBlock ∧ some k_ ≠ ((.slice Ao31 t1457.length co31) : Value).ownBlock ∧ some k_ ≠ ((.slice Ao32 t1460.length co32) : Value).ownBlock ∧ some k_ ≠ ((.slice Ao39 t1469.length co39) : Value).ownBlock ∧ some k_ ≠ ((.slice Ao40 t1472.length co40) : Value).ownBlock) (.slice Ao24 t1444.length co24) t1444) ∧ Aside0 (Kd.R (Kd.int .i64) 3 wc w.heap.size (fun k_ => some k_ ≠ (v1448 : Value).ownBlock ∧ some k_ ≠ (v1476 : Value).ownBlock ∧ some k_ ≠ ((.slice Ao23 t1441.length co23) : Value).ownBlock ∧ some k_ ≠ ((.slice Ao24 t1444.length co24) : Value).ownBlock ∧ some k_ ≠ ((.slice Ao32 t1460.length co32) : Value).ownBlock ∧ some k_ ≠ ((.slice Ao39 t1469.length co39) : Value).ownBlock ∧ some k_ ≠ ((.slice Ao40 t1472.length co40) : Value).ownBlock) (.slice Ao31 t1457.length co31) t1495) ∧ Aside0 (Kd.R (Kd.int .i64) 3 wc w.heap.size (fun k_ => some k_ ≠ (v1448 : Value).ownBlock ∧ some k_ ≠ (v1476 : Value).ownBlock ∧ some k_ ≠ ((.slice Ao23 t1441.length co23) : Value).ownBlock ∧ some k_ ≠ ((.slice Ao24 t1444.length co24) : Value).ownBlock ∧ some k_ ≠ ((.slice Ao31 t1457.length co31) : Value).ownBlock ∧ some k_ ≠ ((.slice Ao39 t1469.length co39) : Value).ownBlock ∧ some k_ ≠ ((.slice Ao40 t1472.length co40) : Value).ownBlock) (.slice Ao32 t1460.length co32) t1496) ∧ Aside0 (Kd.R (Kd.int .i64) 3 wc w.heap.size (fun k_ => some k_ ≠ (v1448 : Value).ownBlock ∧ some k_ ≠ (v1476 : Value).ownBlock ∧ some k_ ≠ ((.slice Ao23 t1441.length co23) : Value).ownBlock ∧ some k_ ≠ ((.slice Ao24 t1444.length co24) : Value).ownBlock ∧ some k_ ≠ ((.slice Ao31 t1457.length co31) : Value).ownBlock ∧ some k_ ≠ ((.slice Ao32 t1460.length co32) : Value).ownBlock ∧ some k_ ≠ ((.slice Ao40 t1472.length co40) : Value).ownBlock) (.slice Ao39 t1469.length co39) t1469) ∧ Aside0 (Kd.R (Kd.int .i64) 3 wc w.heap.size (fun k_ => some k_ ≠ (v1448 : Value).ownBlock ∧ some k_ ≠ (v1476 : Value).ownBlock ∧ some k_ ≠ ((.slice Ao23 t1441.length co23) : Value).ownBlock ∧ some k_ ≠ ((.slice Ao24 t1444.length co24) : Value).ownBlock ∧ some k_ ≠ ((.slice Ao31 t1457.length co31) : Value).ownBlock ∧ some k_ ≠ ((.slice Ao32 t1460.length co32) : Value).ownBlock ∧ some k_ ≠ ((.slice Ao39 t1469.length co39) : Value).ownBlock) (.slice Ao40 t1472.length co40) t1472) ∧ Aside0 (wc.heap[gb1423]? = some (.cells #[.int .i64 a0_0, .int .i64 a0_1, .string a0_2, .int .i64 a0_3, .bool a0_4, (.slice A0_5 l0_5.length c0_5), (.slice A0_6 l0_6.length c0_6)] 56 (0, 0))) ∧ Aside0 (wc.heap[gb1451]? = some (.cells #[.int .i64 t1436, .int .i64 t1437, .string t1438, .int .i64 t1439, .bool t1440, (.slice Ao23 t1441.length co23), (.slice Ao24 t1444.length co24)] 29 (0, 0))) ∧ Aside0 (wc.heap[gb1463]? = some (.cells #[.int .i64 t1452, .int .i64 t1453, .string t1454, .int .i64 t1455, .bool t1456, (.slice Ao31 t1457.length co31), (.slice Ao32 t1460.length co32)] 29 (0, 0))) ∧ Aside0 (wc.heap[gb1479]? = some (.cells #[.int .i64 t1464, .int .i64 t1465, .string t1466, .int .i64 t1467, .bool t1468, (.slice Ao39 t1469.length co39), (.slice Ao40 t1472.length co40)] 29 (0, 0))) ∧ Aside0 (Below w.heap.size w wc))
      case first =>
       have H := HC60.out
       clear HC60
       by_cases c71 : t1494 < 0
       ·rw [if_pos c71] at H
        have c71b0 : decide (t1494 < 0) = true := decide_eq_true c71
        clear c71
        (first | rw [c71b0] | (simp only [i64_w, i32_w]; rw [c71b0]) | skip)
        cases kj10 with
        | zero => exact absurd H (by simp [laws_FnExactShut.j1])
        | succ k_ => (simp only [laws_FnExactShut.j1, if_pos] at H; exact absurd (Option.some.inj H) (by rw [HQ_.out]; simp))
       ·rw [if_neg c71] at H
        have c71b0 : decide (t1494 < 0) = false := decide_eq_false c71
        clear c71
        (first | rw [c71b0] | (simp only [i64_w, i32_w]; rw [c71b0]) | skip)
        replace H := Option.bind_eq_some_iff.mp H
        obtain ⟨t1497, A720, H⟩ := H
        replace H : (if t1497 = true then ((laws_eqIntS.f kj10 t1475 t1447).bind fun t1498 => (if t1498 = true then (laws_FnExactShut.j1 kj10 t1447 t1450 t1475 (t1478 != t1450) a0_0 a0_1 a0_2 a0_3 a0_4 l0_5 l0_6 t1436 t1437 t1438 t1439 t1440 t1441 t1444 t1464 t1465 t1466 t1467 t1468 t1469 t1472) else (laws_FnExactShut.j1 kj10 t1447 t1450 t1475 true a0_0 a0_1 a0_2 a0_3 a0_4 l0_5 l0_6 t1436 t1437 t1438 t1439 t1440 t1441 t1444 t1464 t1465 t1466 t1467 t1468 t1469 t1472))) else (laws_FnExactShut.j1 kj10 t1447 t1450 t1475 true a0_0 a0_1 a0_2 a0_3 a0_4 l0_5 l0_6 t1436 t1437 t1438 t1439 t1440 t1441 t1444 t1464 t1465 t1466 t1467 t1468 t1469 t1472)) = some r := H
        have A72 := am A720
        clear A720
        by_cases c73 : t1497 = true
        ·subst c73
         replace H : ((laws_eqIntS.f kj10 t1475 t1447).bind fun t1498 => (if t1498 = true then (laws_FnExactShut.j1 kj10 t1447 t1450 t1475 (t1478 != t1450) a0_0 a0_1 a0_2 a0_3 a0_4 l0_5 l0_6 t1436 t1437 t1438 t1439 t1440 t1441 t1444 t1464 t1465 t1466 t1467 t1468 t1469 t1472) else (laws_FnExactShut.j1 kj10 t1447 t1450 t1475 true a0_0 a0_1 a0_2 a0_3 a0_4 l0_5 l0_6 t1436 t1437 t1438 t1439 t1440 t1441 t1444 t1464 t1465 t1466 t1467 t1468 t1469 t1472))) = some r := by rw [if_pos rfl] at H; exact H
         replace H := Option.bind_eq_some_iff.mp H
         obtain ⟨t1498, A740, H⟩ := H
         replace H : (if t1498 = true then (laws_FnExactShut.j1 kj10 t1447 t1450 t1475 (t1478 != t1450) a0_0 a0_1 a0_2 a0_3 a0_4 l0_5 l0_6 t1436 t1437 t1438 t1439 t1440 t1441 t1444 t1464 t1465 t1466 t1467 t1468 t1469 t1472) else (laws_FnExactShut.j1 kj10 t1447 t1450 t1475 true a0_0 a0_1 a0_2 a0_3 a0_4 l0_5 l0_6 t1436 t1437 t1438 t1439 t1440 t1441 t1444 t1464 t1465 t1466 t1467 t1468 t1469 t1472)) = some r := H
         have A74 := am A740
         clear A740
         by_cases c75 : t1498 = true
         ·subst c75
          replace H : (laws_FnExactShut.j1 kj10 t1447 t1450 t1475 (t1478 != t1450) a0_0 a0_1 a0_2 a0_3 a0_4 l0_5 l0_6 t1436 t1437 t1438 t1439 t1440 t1441 t1444 t1464 t1465 t1466 t1467 t1468 t1469 t1472) = some r := by rw [if_pos rfl] at H; exact H
          have H' := am H
          clear H
          have hnb76 := NB1479_1423.out
          have hnc76 := NB1423_1479.out
          have hnb77 := NB1479_1451.out
          have hnc77 := NB1451_1479.out
          have hnb78 := NB1479_1463.out
          have hnc78 := NB1463_1479.out
          obtain ⟨hcz79_0, hcz79_1, hcz79_2, hcz79_3, hcz79_4, hcz79_5, hcz79_6, hfz79_0, hfz79_1, hfz79_2, hfz79_3, hfz79_4, hfz79_5, hfz79_6⟩ := bk7 BK1479.out
          have hnb80 := NB1451_1423.out
          have hnc80 := NB1423_1451.out
          have hnb81 := NB1451_1463.out
          have hnc81 := NB1463_1451.out
          obtain ⟨hcz82_0, hcz82_1, hcz82_2, hcz82_3, hcz82_4, hcz82_5, hcz82_6, hfz82_0, hfz82_1, hfz82_2, hfz82_3, hfz82_4, hfz82_5, hfz82_6⟩ := bk7 BK1451.out
          go_wp2_with (first | (go_at_call 34; (with_reducible refine (laws_eqCell.calls kj10 t1464 t1465 t1466 t1467 t1468 _ _ t1469 _ _ t1472 t1436 t1437 t1438 t1439 t1440 _ _ t1441 _ _ t1444 true _ ?side1 ?side2 ?side3 ?side4 ?side5 ?side6 ?side7 ?side8 A72.out).mono ?_); (case side1 => exact pkC (Kd.R_reads' HO_1480005.out).2.2); (case side2 => exact (Kd.R_reads' HO_1480005.out).2.1); (case side3 => exact pkC (Kd.R_reads' HO_1480006.out).2.2); (case side4 => exact (Kd.R_reads' HO_1480006.out).2.1); (case side5 => exact pkC (Kd.R_reads' HO_1452005.out).2.2); (case side6 => exact (Kd.R_reads' HO_1452005.out).2.1); (case side7 => exact pkC (Kd.R_reads' HO_1452006.out).2.2); (case side8 => exact (Kd.R_reads' HO_1452006.out).2.1); rintro e w83 ⟨rfl, hb⟩; replace HO_5 := am (Kd.R_below (pkR HO_5.out) hb); replace HO_9 := am (Kd.R_below (pkR HO_9.out) hb); replace HO_1452005 := am (Kd.R_below (pkR HO_1452005.out) hb); replace HO_1452006 := am (Kd.R_below (pkR HO_1452006.out) hb); replace HO_1464005 := am (Kd.R_below (pkR HO_1464005.out) hb); replace HO_1464006 := am (Kd.R_below (pkR HO_1464006.out) hb); replace HO_1480005 := am (Kd.R_below (pkR HO_1480005.out) hb); replace HO_1480006 := am (Kd.R_below (pkR HO_1480006.out) hb); replace HO1489 := am (Kd.R_below (pkR HO1489.out) hb); replace HO1492 := am (Kd.R_below (pkR HO1492.out) hb); replace BK1423 := am (blk_below (pkK BK1423.out) hb); replace BK1451 := am (blk_below (pkK BK1451.out) hb); replace BK1463 := am (blk_below (pkK BK1463.out) hb); replace BK1479 := am (blk_below (pkK BK1479.out) hb); replace HB := am (below_step (pkW HB.out) hb); (try clear hb); obtain ⟨Ao84, co84, eo84⟩ := Kd.R_slice HO_9.out; subst eo84; obtain ⟨Ao85, co85, eo85⟩ := Kd.R_slice HO_5.out; subst eo85) | (go_at_call 44; (with_reducible refine (laws_eqIntS.calls kj10 _ _ t1475 _ _ t1447 true _ ?side1 ?side2 ?side3 ?side4 A74.out).mono ?_); (case side1 => exact pkC (Kd.R_reads' HO_9.out).2.2); (case side2 => exact (Kd.R_reads' HO_9.out).2.1); (case side3 => exact pkC (Kd.R_reads' HO_5.out).2.2); (case side4 => exact (Kd.R_reads' HO_5.out).2.1); rintro e w' ⟨rfl, ⟨nd, rfl⟩⟩))
          go_meet
          case rel => exact ⟨_, ((t1478 != t1450)), rfx, H', ⟨by have := HJ10.out; first | omega | exact Nat.le_refl _⟩, ⟨by (with_reducible repeat (first | apply Kd.R_alloc | apply Kd.R_drewN | apply Kd.R_drew)); exact Kd.R_mono HO_5.out (fun _ hk => ⟨hk.1, ⟨hk.2.1, ⟨hk.2.2.1, ⟨hk.2.2.2.1, ⟨hk.2.2.2.2.1, ⟨hk.2.2.2.2.2.1, hk.2.2.2.2.2.2.1⟩⟩⟩⟩⟩⟩)⟩, ⟨by (with_reducible repeat (first | apply Kd.R_alloc | apply Kd.R_drewN | apply Kd.R_drew)); exact Kd.R_mono HO_9.out (fun _ hk => ⟨hk.1, ⟨hk.2.1, ⟨hk.2.2.1, ⟨hk.2.2.2.1, ⟨hk.2.2.2.2.1, ⟨hk.2.2.2.2.2.1, hk.2.2.2.2.2.2.1⟩⟩⟩⟩⟩⟩)⟩, ⟨by (with_reducible repeat (first | apply Kd.R_alloc | apply Kd.R_drewN | apply Kd.R_drew)); exact Kd.R_mono HO_1452005.out (fun _ hk => ⟨hk.1, ⟨hk.2.1, ⟨hk.2.2.1, ⟨hk.2.2.2.1, ⟨hk.2.2.2.2.1, ⟨hk.2.2.2.2.2.1, hk.2.2.2.2.2.2.1⟩⟩⟩⟩⟩⟩)⟩, ⟨by (with_reducible repeat (first | apply Kd.R_alloc | apply Kd.R_drewN | apply Kd.R_drew)); exact Kd.R_mono HO_1452006.out (fun _ hk => ⟨hk.1, ⟨hk.2.1, ⟨hk.2.2.1, ⟨hk.2.2.2.1, ⟨hk.2.2.2.2.1, ⟨hk.2.2.2.2.2.1, hk.2.2.2.2.2.2.1⟩⟩⟩⟩⟩⟩)⟩, ⟨by (with_reducible repeat (first | apply Kd.R_alloc | apply Kd.R_drewN | apply Kd.R_drew)); exact Kd.R_mono HO_1464005.out (fun _ hk => ⟨hk.1.1.1, ⟨hk.1.1.2.1, ⟨hk.1.1.2.2.1, ⟨hk.1.1.2.2.2.1, ⟨hk.1.1.2.2.2.2.1, ⟨hk.1.1.2.2.2.2.2.1, hk.1.1.2.2.2.2.2.2⟩⟩⟩⟩⟩⟩)⟩, ⟨by (with_reducible repeat (first | apply Kd.R_alloc | apply Kd.R_drewN | apply Kd.R_drew)); exact Kd.R_mono HO_1464006.out (fun _ hk => ⟨hk.1.1.1, ⟨hk.1.1.2.1, ⟨hk.1.1.2.2.1, ⟨hk.1.1.2.2.2.1, ⟨hk.1.1.2.2.2.2.1, ⟨hk.1.1.2.2.2.2.2.1, hk.1.1.2.2.2.2.2.2⟩⟩⟩⟩⟩⟩)⟩, ⟨by (with_reducible repeat (first | apply Kd.R_alloc | apply Kd.R_drewN | apply Kd.R_drew)); exact Kd.R_mono HO_1480005.out (fun _ hk => ⟨hk.1, ⟨hk.2.1, ⟨hk.2.2.1, ⟨hk.2.2.2.1, ⟨hk.2.2.2.2.1, ⟨hk.2.2.2.2.2.1, hk.2.2.2.2.2.2.1⟩⟩⟩⟩⟩⟩)⟩, ⟨by (with_reducible repeat (first | apply Kd.R_alloc | apply Kd.R_drewN | apply Kd.R_drew)); exact Kd.R_mono HO_1480006.out (fun _ hk => ⟨hk.1, ⟨hk.2.1, ⟨hk.2.2.1, ⟨hk.2.2.2.1, ⟨hk.2.2.2.2.1, ⟨hk.2.2.2.2.2.1, hk.2.2.2.2.2.2.1⟩⟩⟩⟩⟩⟩)⟩, ⟨pkK BK1423.out⟩, ⟨pkK BK1451.out⟩, ⟨pkK BK1463.out⟩, ⟨pkK BK1479.out⟩, ⟨pkW HB.out⟩⟩
         ·replace c75 := Bool.eq_false_iff.mpr c75
          subst c75
          replace H : (laws_FnExactShut.j1 kj10 t1447 t1450 t1475 true a0_0 a0_1 a0_2 a0_3 a0_4 l0_5 l0_6 t1436 t1437 t1438 t1439 t1440 t1441 t1444 t1464 t1465 t1466 t1467 t1468 t1469 t1472) = some r := by rw [if_neg (show ¬ (false = true) by decide)] at H; exact H
          cases kj10 with
          | zero => exact absurd H (by simp [laws_FnExactShut.j1])
          | succ k_ => (simp only [laws_FnExactShut.j1, if_pos] at H; exact absurd (Option.some.inj H) (by rw [HQ_.out]; simp))
        ·replace c73 := Bool.eq_false_iff.mpr c73
         subst c73
         replace H : (laws_FnExactShut.j1 kj10 t1447 t1450 t1475 true a0_0 a0_1 a0_2 a0_3 a0_4 l0_5 l0_6 t1436 t1437 t1438 t1439 t1440 t1441 t1444 t1464 t1465 t1466 t1467 t1468 t1469 t1472) = some r := by rw [if_neg (show ¬ (false = true) by decide)] at H; exact H
         cases kj10 with
         | zero => exact absurd H (by simp [laws_FnExactShut.j1])
         | succ k_ => (simp only [laws_FnExactShut.j1, if_pos] at H; exact absurd (Option.some.inj H) (by rw [HQ_.out]; simp))
      case rest =>
       clear HC60
       try clear c1
       try clear c2
       try clear p2
       try clear c3
       try clear c3b0
       try clear c4
       try clear c5
       try clear c6
       try clear c7
       try clear c8
       try clear c14
       try clear c21
       try clear c28
       try clear c29
       try clear c31
       try clear c32
       try clear c34
       try clear c35
       try clear c36
       try clear c37
       try clear c42
       try clear c44
       try clear c45
       try clear c46
       try clear c47
       try clear c48
       try clear c49
       try clear c50
       try clear c52
       try clear c53
       try clear c55
       try clear c58
       try clear c66
       try clear c67
       try clear c68
       try clear c71
       try clear c71b0
       try clear c73
       try clear c75
       try clear c76
       try clear c77
       try clear c78
       try clear c80
       try clear c81
       try clear hcz13_0
       try clear hcz13_1
       try clear hcz13_2
       try clear hcz13_3
       try clear hcz13_4
       try clear hcz13_5
       try clear hcz13_6
       try clear hcz15_0
       try clear hcz15_1
       try clear hcz15_2
       try clear hcz15_3
       try clear hcz15_4
       try clear hcz15_5
       try clear hcz15_6
       try clear hcz22_0
       try clear hcz22_1
       try clear hcz22_2
       try clear hcz22_3
       try clear hcz22_4
       try clear hcz22_5
       try clear hcz22_6
       try clear hcz25_0
       try clear hcz25_1
       try clear hcz25_2
       try clear hcz25_3
       try clear hcz25_4
       try clear hcz25_5
       try clear hcz25_6
       try clear hcz30_0
       try clear hcz30_1
       try clear hcz30_2
       try clear hcz30_3
       try clear hcz30_4
       try clear hcz30_5
       try clear hcz30_6
       try clear hcz38_0
       try clear hcz38_1
       try clear hcz38_2
       try clear hcz38_3
       try clear hcz38_4
       try clear hcz38_5
       try clear hcz38_6
       try clear hcz48_0
       try clear hcz48_1
       try clear hcz48_2
       try clear hcz48_3
       try clear hcz48_4
       try clear hcz48_5
       try clear hcz48_6
       try clear hcz51_0
       try clear hcz51_1
       try clear hcz51_2
       try clear hcz51_3
       try clear hcz51_4
       try clear hcz51_5
       try clear hcz51_6
       try clear hcz5_0
       try clear hcz5_1
       try clear hcz5_2
       try clear hcz5_3
       try clear hcz5_4
       try clear hcz5_5
       try clear hcz5_6
       try clear hcz69_0
       try clear hcz69_1
       try clear hcz69_2
       try clear hcz69_3
       try clear hcz69_4
       try clear hcz69_5
       try clear hcz69_6
       try clear hcz79_0
       try clear hcz79_1
       try clear hcz79_2
       try clear hcz79_3
       try clear hcz79_4
       try clear hcz79_5
       try clear hcz79_6
       try clear hcz82_0
       try clear hcz82_1
       try clear hcz82_2
       try clear hcz82_3
       try clear hcz82_4
       try clear hcz82_5
       try clear hcz82_6
       try clear hfz13_0
       try clear hfz13_1
       try clear hfz13_2
       try clear hfz13_3
       try clear hfz13_4
       try clear hfz13_5
       try clear hfz13_6
       try clear hfz15_0
       try clear hfz15_1
       try clear hfz15_2
       try clear hfz15_3
       try clear hfz15_4
       try clear hfz15_5
       try clear hfz15_6
       try clear hfz22_0
       try clear hfz22_1
       try clear hfz22_2
       try clear hfz22_3
       try clear hfz22_4
       try clear hfz22_5
       try clear hfz22_6
       try clear hfz25_0
       try clear hfz25_1
       try clear hfz25_2
       try clear hfz25_3
       try clear hfz25_4
       try clear hfz25_5
       try clear hfz25_6
       try clear hfz30_0
       try clear hfz30_1
       try clear hfz30_2
       try clear hfz30_3
       try clear hfz30_4
       try clear hfz30_5
       try clear hfz30_6
       try clear hfz38_0
       try clear hfz38_1
       try clear hfz38_2
       try clear hfz38_3
       try clear hfz38_4
       try clear hfz38_5
       try clear hfz38_6
       try clear hfz48_0
       try clear hfz48_1
       try clear hfz48_2
       try clear hfz48_3
       try clear hfz48_4
       try clear hfz48_5
       try clear hfz48_6
       try clear hfz51_0
       try clear hfz51_1
       try clear hfz51_2
       try clear hfz51_3
       try clear hfz51_4
       try clear hfz51_5
       try clear hfz51_6
       try clear hfz5_0
       try clear hfz5_1
       try clear hfz5_2
       try clear hfz5_3
       try clear hfz5_4
       try clear hfz5_5
       try clear hfz5_6
       try clear hfz69_0
       try clear hfz69_1
       try clear hfz69_2
       try clear hfz69_3
       try clear hfz69_4
       try clear hfz69_5
       try clear hfz69_6
       try clear hfz79_0
       try clear hfz79_1
       try clear hfz79_2
       try clear hfz79_3
       try clear hfz79_4
       try clear hfz79_5
       try clear hfz79_6
       try clear hfz82_0
       try clear hfz82_1
       try clear hfz82_2
       try clear hfz82_3
       try clear hfz82_4
       try clear hfz82_5
       try clear hfz82_6
       try clear p2
       obtain ⟨kq, x78_59, rfl, HA, HJ59, HO_5, HO_9, HO_1452005, HO_1452006, HO_1464005, HO_1464006, HO_1480005, HO_1480006, BK1423, BK1451, BK1463, BK1479, HB⟩ := hcut
       have hl1464005_59 := (Kd.R_reads' HO_1464005.out).1
       rw [hl1464005_59] at HO_1464005
       (try simp only [hl1464005_59])
       (try simp only [hl1464005_59] at BK1423)
       (try simp only [hl1464005_59] at BK1451)
       (try simp only [hl1464005_59] at BK1463)
       (try simp only [hl1464005_59] at BK1479)
       (try simp only [hl1464005_59] at HO_5)
       (try simp only [hl1464005_59] at HO_9)
       (try simp only [hl1464005_59] at HO_1452005)
       (try simp only [hl1464005_59] at HO_1452006)
       (try simp only [hl1464005_59] at HO_1464006)
       (try simp only [hl1464005_59] at HO_1480005)
       (try simp only [hl1464005_59] at HO_1480006)
       have hl1464006_59 := (Kd.R_reads' HO_1464006.out).1
       rw [hl1464006_59] at HO_1464006
       (try simp only [hl1464006_59])
       (try simp only [hl1464006_59] at BK1423)
       (try simp only [hl1464006_59] at BK1451)
       (try simp only [hl1464006_59] at BK1463)
       (try simp only [hl1464006_59] at BK1479)
       (try simp only [hl1464006_59] at HO_5)
       (try simp only [hl1464006_59] at HO_9)
       (try simp only [hl1464006_59] at HO_1452005)
       (try simp only [hl1464006_59] at HO_1452006)
       (try simp only [hl1464006_59] at HO_1464005)
       (try simp only [hl1464006_59] at HO_1480005)
       (try simp only [hl1464006_59] at HO_1480006)
       cases kq with
       | zero => exact absurd HA.out (by simp [laws_FnExactShut.j1])
       | succ kj59 =>
        have H := HA.out
        clear HA
        simp only [laws_FnExactShut.j1] at H
        by_cases c86 : x78_59 = true
        ·subst c86
         replace H : (some false) = some r := by rw [if_pos rfl] at H; exact H
         exact absurd (Option.some.inj H) (by rw [HQ_.out]; simp)
        ·replace c86 := Bool.eq_false_iff.mpr c86
         subst c86
         replace H : ((laws_markCell.f kj59 t1464 t1465 t1466 t1467 t1468 t1469 t1472 1).bind fun bt1499 => ((laws_markIntS.f kj59 t1475 bt1499.1).bind fun bt1502 => ((laws_heldCell.f kj59 t1464 t1465 t1466 t1467 t1468 bt1499.2.1 bt1499.2.2 1).bind fun t1504 => (if t1504 < 0 then (some false) else ((laws_heldIntS.f kj59 bt1502.2 t1504).bind fun t1505 => (if t1505 < 0 then (some false) else (if t1505 = bt1502.1 then ((laws_toCell.f kj59 a0_0 a0_1 a0_2 a0_3 a0_4 l0_5 l0_6).bind fun bt1506 => ((impl_Shut.f kj59 bt1506.1 bt1506.2.1 bt1506.2.2.1 bt1506.2.2.2.1 bt1506.2.2.2.2.1 bt1506.2.2.2.2.2.1 bt1506.2.2.2.2.2.2).bind fun bt1517 => ((laws_eqCell.f kj59 bt1517.1 bt1517.2.1 bt1517.2.2.1 bt1517.2.2.2.1 bt1517.2.2.2.2.1 bt1517.2.2.2.2.2.1 bt1517.2.2.2.2.2.2.1 t1436 t1437 t1438 t1439 t1440 t1441 t1444).bind fun t1533 => (if t1533 = true then ((laws_eqIntS.f kj59 bt1517.2.2.2.2.2.2.2.1 t1447).bind fun t1534 => (if t1534 = true then (laws_FnExactShut.j2 kj59 bt1502.2 bt1502.1 (bt1517.2.2.2.2.2.2.2.2 != t1450) t1464 t1465 t1466 t1467 t1468 bt1499.2.1 bt1499.2.2) else (laws_FnExactShut.j2 kj59 bt1502.2 bt1502.1 true t1464 t1465 t1466 t1467 t1468 bt1499.2.1 bt1499.2.2))) else (laws_FnExactShut.j2 kj59 bt1502.2 bt1502.1 true t1464 t1465 t1466 t1467 t1468 bt1499.2.1 bt1499.2.2))))) else (some false)))))))) = some r := by rw [if_neg (show ¬ (false = true) by decide)] at H; exact H
         replace H := Option.bind_eq_some_iff.mp H
         obtain ⟨⟨t1499, t1500, t1501⟩, A870, H⟩ := H
         replace H : ((laws_markIntS.f kj59 t1475 t1499).bind fun bt1502 => ((laws_heldCell.f kj59 t1464 t1465 t1466 t1467 t1468 t1500 t1501 1).bind fun t1504 => (if t1504 < 0 then (some false) else ((laws_heldIntS.f kj59 bt1502.2 t1504).bind fun t1505 => (if t1505 < 0 then (some false) else (if t1505 = bt1502.1 then ((laws_toCell.f kj59 a0_0 a0_1 a0_2 a0_3 a0_4 l0_5 l0_6).bind fun bt1506 => ((impl_Shut.f kj59 bt1506.1 bt1506.2.1 bt1506.2.2.1 bt1506.2.2.2.1 bt1506.2.2.2.2.1 bt1506.2.2.2.2.2.1 bt1506.2.2.2.2.2.2).bind fun bt1517 => ((laws_eqCell.f kj59 bt1517.1 bt1517.2.1 bt1517.2.2.1 bt1517.2.2.2.1 bt1517.2.2.2.2.1 bt1517.2.2.2.2.2.1 bt1517.2.2.2.2.2.2.1 t1436 t1437 t1438 t1439 t1440 t1441 t1444).bind fun t1533 => (if t1533 = true then ((laws_eqIntS.f kj59 bt1517.2.2.2.2.2.2.2.1 t1447).bind fun t1534 => (if t1534 = true then (laws_FnExactShut.j2 kj59 bt1502.2 bt1502.1 (bt1517.2.2.2.2.2.2.2.2 != t1450) t1464 t1465 t1466 t1467 t1468 t1500 t1501) else (laws_FnExactShut.j2 kj59 bt1502.2 bt1502.1 true t1464 t1465 t1466 t1467 t1468 t1500 t1501))) else (laws_FnExactShut.j2 kj59 bt1502.2 bt1502.1 true t1464 t1465 t1466 t1467 t1468 t1500 t1501))))) else (some false))))))) = some r := H
         have A87 := am A870
         clear A870
         replace H := Option.bind_eq_some_iff.mp H
         obtain ⟨⟨t1502, t1503⟩, A880, H⟩ := H
         replace H : ((laws_heldCell.f kj59 t1464 t1465 t1466 t1467 t1468 t1500 t1501 1).bind fun t1504 => (if t1504 < 0 then (some false) else ((laws_heldIntS.f kj59 t1503 t1504).bind fun t1505 => (if t1505 < 0 then (some false) else (if t1505 = t1502 then ((laws_toCell.f kj59 a0_0 a0_1 a0_2 a0_3 a0_4 l0_5 l0_6).bind fun bt1506 => ((impl_Shut.f kj59 bt1506.1 bt1506.2.1 bt1506.2.2.1 bt1506.2.2.2.1 bt1506.2.2.2.2.1 bt1506.2.2.2.2.2.1 bt1506.2.2.2.2.2.2).bind fun bt1517 => ((laws_eqCell.f kj59 bt1517.1 bt1517.2.1 bt1517.2.2.1 bt1517.2.2.2.1 bt1517.2.2.2.2.1 bt1517.2.2.2.2.2.1 bt1517.2.2.2.2.2.2.1 t1436 t1437 t1438 t1439 t1440 t1441 t1444).bind fun t1533 => (if t1533 = true then ((laws_eqIntS.f kj59 bt1517.2.2.2.2.2.2.2.1 t1447).bind fun t1534 => (if t1534 = true then (laws_FnExactShut.j2 kj59 t1503 t1502 (bt1517.2.2.2.2.2.2.2.2 != t1450) t1464 t1465 t1466 t1467 t1468 t1500 t1501) else (laws_FnExactShut.j2 kj59 t1503 t1502 true t1464 t1465 t1466 t1467 t1468 t1500 t1501))) else (laws_FnExactShut.j2 kj59 t1503 t1502 true t1464 t1465 t1466 t1467 t1468 t1500 t1501))))) else (some false)))))) = some r := H
         have A88 := am A880
         clear A880
         replace H := Option.bind_eq_some_iff.mp H
         obtain ⟨t1504, A890, H⟩ := H
         replace H : (if t1504 < 0 then (some false) else ((laws_heldIntS.f kj59 t1503 t1504).bind fun t1505 => (if t1505 < 0 then (some false) else (if t1505 = t1502 then ((laws_toCell.f kj59 a0_0 a0_1 a0_2 a0_3 a0_4 l0_5 l0_6).bind fun bt1506 => ((impl_Shut.f kj59 bt1506.1 bt1506.2.1 bt1506.2.2.1 bt1506.2.2.2.1 bt1506.2.2.2.2.1 bt1506.2.2.2.2.2.1 bt1506.2.2.2.2.2.2).bind fun bt1517 => ((laws_eqCell.f kj59 bt1517.1 bt1517.2.1 bt1517.2.2.1 bt1517.2.2.2.1 bt1517.2.2.2.2.1 bt1517.2.2.2.2.2.1 bt1517.2.2.2.2.2.2.1 t1436 t1437 t1438 t1439 t1440 t1441 t1444).bind fun t1533 => (if t1533 = true then ((laws_eqIntS.f kj59 bt1517.2.2.2.2.2.2.2.1 t1447).bind fun t1534 => (if t1534 = true then (laws_FnExactShut.j2 kj59 t1503 t1502 (bt1517.2.2.2.2.2.2.2.2 != t1450) t1464 t1465 t1466 t1467 t1468 t1500 t1501) else (laws_FnExactShut.j2 kj59 t1503 t1502 true t1464 t1465 t1466 t1467 t1468 t1500 t1501))) else (laws_FnExactShut.j2 kj59 t1503 t1502 true t1464 t1465 t1466 t1467 t1468 t1500 t1501))))) else (some false))))) = some r := H
         have A89 := am A890
         clear A890
         by_cases c90 : t1504 < 0
         ·rw [if_pos c90] at H
          have c90b0 : decide (t1504 < 0) = true := decide_eq_true c90
          clear c90
          exact absurd (Option.some.inj H) (by rw [HQ_.out]; simp)
         ·rw [if_neg c90] at H
          have c90b0 : decide (t1504 < 0) = false := decide_eq_false c90
          clear c90
          replace H := Option.bind_eq_some_iff.mp H
          obtain ⟨t1505, A910, H⟩ := H
          replace H : (if t1505 < 0 then (some false) else (if t1505 = t1502 then ((laws_toCell.f kj59 a0_0 a0_1 a0_2 a0_3 a0_4 l0_5 l0_6).bind fun bt1506 => ((impl_Shut.f kj59 bt1506.1 bt1506.2.1 bt1506.2.2.1 bt1506.2.2.2.1 bt1506.2.2.2.2.1 bt1506.2.2.2.2.2.1 bt1506.2.2.2.2.2.2).bind fun bt1517 => ((laws_eqCell.f kj59 bt1517.1 bt1517.2.1 bt1517.2.2.1 bt1517.2.2.2.1 bt1517.2.2.2.2.1 bt1517.2.2.2.2.2.1 bt1517.2.2.2.2.2.2.1 t1436 t1437 t1438 t1439 t1440 t1441 t1444).bind fun t1533 => (if t1533 = true then ((laws_eqIntS.f kj59 bt1517.2.2.2.2.2.2.2.1 t1447).bind fun t1534 => (if t1534 = true then (laws_FnExactShut.j2 kj59 t1503 t1502 (bt1517.2.2.2.2.2.2.2.2 != t1450) t1464 t1465 t1466 t1467 t1468 t1500 t1501) else (laws_FnExactShut.j2 kj59 t1503 t1502 true t1464 t1465 t1466 t1467 t1468 t1500 t1501))) else (laws_FnExactShut.j2 kj59 t1503 t1502 true t1464 t1465 t1466 t1467 t1468 t1500 t1501))))) else (some false))) = some r := H
          have A91 := am A910
          clear A910
          by_cases c92 : t1505 < 0
          ·rw [if_pos c92] at H
           have c92b0 : decide (t1505 < 0) = true := decide_eq_true c92
           clear c92
           exact absurd (Option.some.inj H) (by rw [HQ_.out]; simp)
          ·rw [if_neg c92] at H
           have c92b0 : decide (t1505 < 0) = false := decide_eq_false c92
           clear c92
           by_cases c93 : t1505 = t1502
           ·rw [if_pos c93] at H
            have c93b0 : (t1505 == t1502) = true := beq_iff_eq.mpr c93
            have c93b1 : (t1505 != t1502) = false := bne_eq_false_iff_eq.mpr c93
            clear c93
            replace H := Option.bind_eq_some_iff.mp H
            obtain ⟨⟨t1506, t1507, t1508, t1509, t1510, t1511, t1514⟩, A940, H⟩ := H
            replace H : ((impl_Shut.f kj59 t1506 t1507 t1508 t1509 t1510 t1511 t1514).bind fun bt1517 => ((laws_eqCell.f kj59 bt1517.1 bt1517.2.1 bt1517.2.2.1 bt1517.2.2.2.1 bt1517.2.2.2.2.1 bt1517.2.2.2.2.2.1 bt1517.2.2.2.2.2.2.1 t1436 t1437 t1438 t1439 t1440 t1441 t1444).bind fun t1533 => (if t1533 = true then ((laws_eqIntS.f kj59 bt1517.2.2.2.2.2.2.2.1 t1447).bind fun t1534 => (if t1534 = true then (laws_FnExactShut.j2 kj59 t1503 t1502 (bt1517.2.2.2.2.2.2.2.2 != t1450) t1464 t1465 t1466 t1467 t1468 t1500 t1501) else (laws_FnExactShut.j2 kj59 t1503 t1502 true t1464 t1465 t1466 t1467 t1468 t1500 t1501))) else (laws_FnExactShut.j2 kj59 t1503 t1502 true t1464 t1465 t1466 t1467 t1468 t1500 t1501)))) = some r := H
            have A94 := am A940
            clear A940
            replace H := Option.bind_eq_some_iff.mp H
            obtain ⟨⟨t1517, t1518, t1519, t1520, t1521, t1522, t1525, t1528, t1531⟩, A950, H⟩ := H
            replace H : ((laws_eqCell.f kj59 t1517 t1518 t1519 t1520 t1521 t1522 t1525 t1436 t1437 t1438 t1439 t1440 t1441 t1444).bind fun t1533 => (if t1533 = true then ((laws_eqIntS.f kj59 t1528 t1447).bind fun t1534 => (if t1534 = true then (laws_FnExactShut.j2 kj59 t1503 t1502 (t1531 != t1450) t1464 t1465 t1466 t1467 t1468 t1500 t1501) else (laws_FnExactShut.j2 kj59 t1503 t1502 true t1464 t1465 t1466 t1467 t1468 t1500 t1501))) else (laws_FnExactShut.j2 kj59 t1503 t1502 true t1464 t1465 t1466 t1467 t1468 t1500 t1501))) = some r := H
            have A95 := am A950
            clear A950
            have HC96 := am H
            clear H
            have hnb97 := NB1479_1423.out
            have hnc97 := NB1423_1479.out
            have hnb98 := NB1479_1451.out
            have hnc98 := NB1451_1479.out
            have hnb99 := NB1479_1463.out
            have hnc99 := NB1463_1479.out
            obtain ⟨hcz100_0, hcz100_1, hcz100_2, hcz100_3, hcz100_4, hcz100_5, hcz100_6, hfz100_0, hfz100_1, hfz100_2, hfz100_3, hfz100_4, hfz100_5, hfz100_6⟩ := bk7 BK1479.out
            go_upto_region 29 with (first | ((with_reducible refine gate_callee (f := 48) rfl ?_); refine goesL_ (some 81) rfl rfl Try.func48 (by kernel_rfl) rfl #[.agg #[.int .i64 t1464, .int .i64 t1465, .string t1466, .int .i64 t1467, .bool t1468, .slice Ao39 t1469.length co39, .slice Ao40 t1472.length co40], .int .i64 1] rfl mpx ?_; (with_reducible refine (laws_markCell.calls kj59 t1464 t1465 t1466 t1467 t1468 (fun k_ => some k_ = (.slice Ao39 t1469.length co39 : Value).ownBlock) (.slice Ao39 t1469.length co39) t1469 (fun k_ => some k_ = (.slice Ao40 t1472.length co40 : Value).ownBlock) (.slice Ao40 t1472.length co40) t1472 1 t1499 t1500 t1501 w _ ?side1 ?side2 ?side3 ?side4 ?side5 A87.out).mono ?_); (case side1 => repeat (first | (with_reducible first | exact HB.out | apply below_alloc | apply pw_below_drewN | apply below_drew1 | refine below_set ?_ GE1423.out | refine below_set ?_ GE1451.out | refine below_set ?_ GE1463.out | refine below_set ?_ GE1479.out) | exact HB.out)); (case side2 => exact Kd.R_tight rfl HO_1480005.out); (case side3 => exact fun k_ e_ => (HO_1480005.out.1 k_ e_.symm).2.2.2.2.2.2); (case side4 => exact Kd.R_tight rfl HO_1480006.out); (case side5 => exact fun k_ e_ => (HO_1480006.out.1 k_ e_.symm).2.2.2.2.2.2); rintro e w101 ⟨rfl, hy0, hy1, hb, hkp⟩; refine ⟨_, rfl, ?_⟩; replace HO_5 := am (Kd.R_mono (ok' := fun k_ => some k_ ≠ (v1476 : Value).ownBlock ∧ some k_ ≠ (.slice Ao23 t1441.length co23 : Value).ownBlock ∧ some k_ ≠ (.slice Ao24 t1444.length co24 : Value).ownBlock ∧ some k_ ≠ (.slice Ao31 t1495.length co31 : Value).ownBlock ∧ some k_ ≠ (.slice Ao32 t1496.length co32 : Value).ownBlock ∧ some k_ ≠ (.slice Ao39 t1469.length co39 : Value).ownBlock ∧ some k_ ≠ (.slice Ao40 t1472.length co40 : Value).ownBlock) (Kd.R_keptB (HO_5.out) hkp (fun k_ hk_ hs_ => Or.elim hs_ (fun e_ => (hk_.2.2.2.2.2.1) e_) (fun e_ => (hk_.2.2.2.2.2.2) e_))) (fun k_ hk_ => ⟨hk_.1.1, hk_.1.2.1, hk_.1.2.2.1, hk_.1.2.2.2.1, hk_.1.2.2.2.2.1, hk_.1.2.2.2.2.2.1, hk_.1.2.2.2.2.2.2⟩)); replace HO_9 := am (Kd.R_mono (ok' := fun k_ => some k_ ≠ (v1448 : Value).ownBlock ∧ some k_ ≠ (.slice Ao23 t1441.length co23 : Value).ownBlock ∧ some k_ ≠ (.slice Ao24 t1444.length co24 : Value).ownBlock ∧ some k_ ≠ (.slice Ao31 t1495.length co31 : Value).ownBlock ∧ some k_ ≠ (.slice Ao32 t1496.length co32 : Value).ownBlock ∧ some k_ ≠ (.slice Ao39 t1469.length co39 : Value).ownBlock ∧ some k_ ≠ (.slice Ao40 t1472.length co40 : Value).ownBlock) (Kd.R_keptB (HO_9.out) hkp (fun k_ hk_ hs_ => Or.elim hs_ (fun e_ => (hk_.2.2.2.2.2.1) e_) (fun e_ => (hk_.2.2.2.2.2.2) e_))) (fun k_ hk_ => ⟨hk_.1.1, hk_.1.2.1, hk_.1.2.2.1, hk_.1.2.2.2.1, hk_.1.2.2.2.2.1, hk_.1.2.2.2.2.2.1, hk_.1.2.2.2.2.2.2⟩)); replace HO_1452005 := am (Kd.R_mono (ok' := fun k_ => some k_ ≠ (v1448 : Value).ownBlock ∧ some k_ ≠ (v1476 : Value).ownBlock ∧ some k_ ≠ (.slice Ao24 t1444.length co24 : Value).ownBlock ∧ some k_ ≠ (.slice Ao31 t1495.length co31 : Value).ownBlock ∧ some k_ ≠ (.slice Ao32 t1496.length co32 : Value).ownBlock ∧ some k_ ≠ (.slice Ao39 t1469.length co39 : Value).ownBlock ∧ some k_ ≠ (.slice Ao40 t1472.length co40 : Value).ownBlock) (Kd.R_keptB (HO_1452005.out) hkp (fun k_ hk_ hs_ => Or.elim hs_ (fun e_ => (hk_.2.2.2.2.2.1) e_) (fun e_ => (hk_.2.2.2.2.2.2) e_))) (fun k_ hk_ => ⟨hk_.1.1, hk_.1.2.1, hk_.1.2.2.1, hk_.1.2.2.2.1, hk_.1.2.2.2.2.1, hk_.1.2.2.2.2.2.1, hk_.1.2.2.2.2.2.2⟩)); replace HO_1452006 := am (Kd.R_mono (ok' := fun k_ => some k_ ≠ (v1448 : Value).ownBlock ∧ some k_ ≠ (v1476 : Value).ownBlock ∧ some k_ ≠ (.slice Ao23 t1441.length co23 : Value).ownBlock ∧ some k_ ≠ (.slice Ao31 t1495.length co31 : Value).ownBlock ∧ some k_ ≠ (.slice Ao32 t1496.length co32 : Value).ownBlock ∧ some k_ ≠ (.slice Ao39 t1469.length co39 : Value).ownBlock ∧ some k_ ≠ (.slice Ao40 t1472.length co40 : Value).ownBlock) (Kd.R_keptB (HO_1452006.out) hkp (fun k_ hk_ hs_ => Or.elim hs_ (fun e_ => (hk_.2.2.2.2.2.1) e_) (fun e_ => (hk_.2.2.2.2.2.2) e_))) (fun k_ hk_ => ⟨hk_.1.1, hk_.1.2.1, hk_.1.2.2.1, hk_.1.2.2.2.1, hk_.1.2.2.2.2.1, hk_.1.2.2.2.2.2.1, hk_.1.2.2.2.2.2.2⟩)); replace HO_1464005 := am (Kd.R_mono (ok' := fun k_ => some k_ ≠ (v1448 : Value).ownBlock ∧ some k_ ≠ (v1476 : Value).ownBlock ∧ some k_ ≠ (.slice Ao23 t1441.length co23 : Value).ownBlock ∧ some k_ ≠ (.slice Ao24 t1444.length co24 : Value).ownBlock ∧ some k_ ≠ (.slice Ao32 t1496.length co32 : Value).ownBlock ∧ some k_ ≠ (.slice Ao39 t1469.length co39 : Value).ownBlock ∧ some k_ ≠ (.slice Ao40 t1472.length co40 : Value).ownBlock) (Kd.R_keptB (HO_1464005.out) hkp (fun k_ hk_ hs_ => Or.elim hs_ (fun e_ => (hk_.2.2.2.2.2.1) e_) (fun e_ => (hk_.2.2.2.2.2.2) e_))) (fun k_ hk_ => ⟨hk_.1.1, hk_.1.2.1, hk_.1.2.2.1, hk_.1.2.2.2.1, hk_.1.2.2.2.2.1, hk_.1.2.2.2.2.2.1, hk_.1.2.2.2.2.2.2⟩)); replace HO_1464006 := am (Kd.R_mono (ok' := fun k_ => some k_ ≠ (v1448 : Value).ownBlock ∧ some k_ ≠ (v1476 : Value).ownBlock ∧ some k_ ≠ (.slice Ao23 t1441.length co23 : Value).ownBlock ∧ some k_ ≠ (.slice Ao24 t1444.length co24 : Value).ownBlock ∧ some k_ ≠ (.slice Ao31 t1495.length co31 : Value).ownBlock ∧ some k_ ≠ (.slice Ao39 t1469.length co39 : Value).ownBlock ∧ some k_ ≠ (.slice Ao40 t1472.length co40 : Value).ownBlock) (Kd.R_keptB (HO_1464006.out) hkp (fun k_ hk_ hs_ => Or.elim hs_ (fun e_ => (hk_.2.2.2.2.2.1) e_) (fun e_ => (hk_.2.2.2.2.2.2) e_))) (fun k_ hk_ => ⟨hk_.1.1, hk_.1.2.1, hk_.1.2.2.1, hk_.1.2.2.2.1, hk_.1.2.2.2.2.1, hk_.1.2.2.2.2.2.1, hk_.1.2.2.2.2.2.2⟩)); replace BK1423 := am (blk_kept (pkK BK1423.out) hkp (fun hs_ => Or.elim hs_ (fun e_ => (fun e_ => (Kd.R_ne HO_1480005.out BK1423.out (by decide)) e_) e_) (fun e_ => (fun e_ => (Kd.R_ne HO_1480006.out BK1423.out (by decide)) e_) e_))); replace BK1451 := am (blk_kept (pkK BK1451.out) hkp (fun hs_ => Or.elim hs_ (fun e_ => (fun e_ => (Kd.R_ne HO_1480005.out BK1451.out (by decide)) e_) e_) (fun e_ => (fun e_ => (Kd.R_ne HO_1480006.out BK1451.out (by decide)) e_) e_))); replace BK1463 := am (blk_kept (pkK BK1463.out) hkp (fun hs_ => Or.elim hs_ (fun e_ => (fun e_ => (Kd.R_ne HO_1480005.out BK1463.out (by decide)) e_) e_) (fun e_ => (fun e_ => (Kd.R_ne HO_1480006.out BK1463.out (by decide)) e_) e_))); replace BK1479 := am (blk_kept (pkK BK1479.out) hkp (fun hs_ => Or.elim hs_ (fun e_ => (fun e_ => (Kd.R_ne HO_1480005.out BK1479.out (by decide)) e_) e_) (fun e_ => (fun e_ => (Kd.R_ne HO_1480006.out BK1479.out (by decide)) e_) e_))); replace HO_1480005 := am (Kd.R_reok rfl hy0 (fun k_ e_ => HO_1480005.out.1 k_ e_)); replace HO_1480006 := am (Kd.R_reok rfl hy1 (fun k_ e_ => HO_1480006.out.1 k_ e_)); replace HB := am (hb); (try clear hb); (try clear hkp); (try clear hy0); (try clear hy1); obtain ⟨Ao102, co102, eo102⟩ := Kd.R_slice HO_9.out; subst eo102) | ((with_reducible refine gate_callee (f := 45) rfl ?_); refine goesL_ (some 84) rfl rfl Try.func45 (by kernel_rfl) rfl #[.slice Ao102 t1475.length co102, .int .i64 t1499] rfl mpx ?_; (with_reducible refine (laws_markIntS.calls kj59 (fun k_ => some k_ = (.slice Ao102 t1475.length co102 : Value).ownBlock) (.slice Ao102 t1475.length co102) t1475 t1499 t1502 t1503 w _ ?side1 ?side2 A88.out).mono ?_); (case side1 => repeat (first | (with_reducible first | exact HB.out | apply below_alloc | apply pw_below_drewN | apply below_drew1 | refine below_set ?_ GE1423.out | refine below_set ?_ GE1451.out | refine below_set ?_ GE1463.out | refine below_set ?_ GE1479.out) | exact HB.out)); (case side2 => exact Kd.R_tight rfl HO_9.out); rintro e w103 ⟨rfl, hy0, hb, hkp⟩; refine ⟨_, rfl, ?_⟩; replace HO_5 := am (Kd.R_mono (ok' := fun k_ => some k_ ≠ (.slice Ao102 t1475.length co102 : Value).ownBlock ∧ some k_ ≠ (.slice Ao23 t1441.length co23 : Value).ownBlock ∧ some k_ ≠ (.slice Ao24 t1444.length co24 : Value).ownBlock ∧ some k_ ≠ (.slice Ao31 t1495.length co31 : Value).ownBlock ∧ some k_ ≠ (.slice Ao32 t1496.length co32 : Value).ownBlock ∧ some k_ ≠ (.slice Ao39 t1469.length co39 : Value).ownBlock ∧ some k_ ≠ (.slice Ao40 t1472.length co40 : Value).ownBlock) (Kd.R_keptB (HO_5.out) hkp (fun k_ hk_ hs_ => (hk_.1) hs_)) (fun k_ hk_ => ⟨hk_.1.1, hk_.1.2.1, hk_.1.2.2.1, hk_.1.2.2.2.1, hk_.1.2.2.2.2.1, hk_.1.2.2.2.2.2.1, hk_.1.2.2.2.2.2.2⟩)); replace HO_1452005 := am (Kd.R_mono (ok' := fun k_ => some k_ ≠ (v1448 : Value).ownBlock ∧ some k_ ≠ (.slice Ao102 t1475.length co102 : Value).ownBlock ∧ some k_ ≠ (.slice Ao24 t1444.length co24 : Value).ownBlock ∧ some k_ ≠ (.slice Ao31 t1495.length co31 : Value).ownBlock ∧ some k_ ≠ (.slice Ao32 t1496.length co32 : Value).ownBlock ∧ some k_ ≠ (.slice Ao39 t1469.length co39 : Value).ownBlock ∧ some k_ ≠ (.slice Ao40 t1472.length co40 : Value).ownBlock) (Kd.R_keptB (HO_1452005.out) hkp (fun k_ hk_ hs_ => (hk_.2.1) hs_)) (fun k_ hk_ => ⟨hk_.1.1, hk_.1.2.1, hk_.1.2.2.1, hk_.1.2.2.2.1, hk_.1.2.2.2.2.1, hk_.1.2.2.2.2.2.1, hk_.1.2.2.2.2.2.2⟩)); replace HO_1452006 := am (Kd.R_mono (ok' := fun k_ => some k_ ≠ (v1448 : Value).ownBlock ∧ some k_ ≠ (.slice Ao102 t1475.length co102 : Value).ownBlock ∧ some k_ ≠ (.slice Ao23 t1441.length co23 : Value).ownBlock ∧ some k_ ≠ (.slice Ao31 t1495.length co31 : Value).ownBlock ∧ some k_ ≠ (.slice Ao32 t1496.length co32 : Value).ownBlock ∧ some k_ ≠ (.slice Ao39 t1469.length co39 : Value).ownBlock ∧ some k_ ≠ (.slice Ao40 t1472.length co40 : Value).ownBlock) (Kd.R_keptB (HO_1452006.out) hkp (fun k_ hk_ hs_ => (hk_.2.1) hs_)) (fun k_ hk_ => ⟨hk_.1.1, hk_.1.2.1, hk_.1.2.2.1, hk_.1.2.2.2.1, hk_.1.2.2.2.2.1, hk_.1.2.2.2.2.2.1, hk_.1.2.2.2.2.2.2⟩)); replace HO_1464005 := am (Kd.R_mono (ok' := fun k_ => some k_ ≠ (v1448 : Value).ownBlock ∧ some k_ ≠ (.slice Ao102 t1475.length co102 : Value).ownBlock ∧ some k_ ≠ (.slice Ao23 t1441.length co23 : Value).ownBlock ∧ some k_ ≠ (.slice Ao24 t1444.length co24 : Value).ownBlock ∧ some k_ ≠ (.slice Ao32 t1496.length co32 : Value).ownBlock ∧ some k_ ≠ (.slice Ao39 t1469.length co39 : Value).ownBlock ∧ some k_ ≠ (.slice Ao40 t1472.length co40 : Value).ownBlock) (Kd.R_keptB (HO_1464005.out) hkp (fun k_ hk_ hs_ => (hk_.2.1) hs_)) (fun k_ hk_ => ⟨hk_.1.1, hk_.1.2.1, hk_.1.2.2.1, hk_.1.2.2.2.1, hk_.1.2.2.2.2.1, hk_.1.2.2.2.2.2.1, hk_.1.2.2.2.2.2.2⟩)); replace HO_1464006 := am (Kd.R_mono (ok' := fun k_ => some k_ ≠ (v1448 : Value).ownBlock ∧ some k_ ≠ (.slice Ao102 t1475.length co102 : Value).ownBlock ∧ some k_ ≠ (.slice Ao23 t1441.length co23 : Value).ownBlock ∧ some k_ ≠ (.slice Ao24 t1444.length co24 : Value).ownBlock ∧ some k_ ≠ (.slice Ao31 t1495.length co31 : Value).ownBlock ∧ some k_ ≠ (.slice Ao39 t1469.length co39 : Value).ownBlock ∧ some k_ ≠ (.slice Ao40 t1472.length co40 : Value).ownBlock) (Kd.R_keptB (HO_1464006.out) hkp (fun k_ hk_ hs_ => (hk_.2.1) hs_)) (fun k_ hk_ => ⟨hk_.1.1, hk_.1.2.1, hk_.1.2.2.1, hk_.1.2.2.2.1, hk_.1.2.2.2.2.1, hk_.1.2.2.2.2.2.1, hk_.1.2.2.2.2.2.2⟩)); replace HO_1480005 := am (Kd.R_mono (ok' := fun k_ => some k_ ≠ (v1448 : Value).ownBlock ∧ some k_ ≠ (.slice Ao102 t1475.length co102 : Value).ownBlock ∧ some k_ ≠ (.slice Ao23 t1441.length co23 : Value).ownBlock ∧ some k_ ≠ (.slice Ao24 t1444.length co24 : Value).ownBlock ∧ some k_ ≠ (.slice Ao31 t1495.length co31 : Value).ownBlock ∧ some k_ ≠ (.slice Ao32 t1496.length co32 : Value).ownBlock ∧ some k_ ≠ (.slice Ao40 t1472.length co40 : Value).ownBlock) (Kd.R_keptB (HO_1480005.out) hkp (fun k_ hk_ hs_ => (hk_.2.1) hs_)) (fun k_ hk_ => ⟨hk_.1.1, hk_.1.2.1, hk_.1.2.2.1, hk_.1.2.2.2.1, hk_.1.2.2.2.2.1, hk_.1.2.2.2.2.2.1, hk_.1.2.2.2.2.2.2⟩)); replace HO_1480006 := am (Kd.R_mono (ok' := fun k_ => some k_ ≠ (v1448 : Value).ownBlock ∧ some k_ ≠ (.slice Ao102 t1475.length co102 : Value).ownBlock ∧ some k_ ≠ (.slice Ao23 t1441.length co23 : Value).ownBlock ∧ some k_ ≠ (.slice Ao24 t1444.length co24 : Value).ownBlock ∧ some k_ ≠ (.slice Ao31 t1495.length co31 : Value).ownBlock ∧ some k_ ≠ (.slice Ao32 t1496.length co32 : Value).ownBlock ∧ some k_ ≠ (.slice Ao39 t1469.length co39 : Value).ownBlock) (Kd.R_keptB (HO_1480006.out) hkp (fun k_ hk_ hs_ => (hk_.2.1) hs_)) (fun k_ hk_ => ⟨hk_.1.1, hk_.1.2.1, hk_.1.2.2.1, hk_.1.2.2.2.1, hk_.1.2.2.2.2.1, hk_.1.2.2.2.2.2.1, hk_.1.2.2.2.2.2.2⟩)); replace BK1423 := am (blk_kept (pkK BK1423.out) hkp (fun hs_ => (fun e_ => (Kd.R_ne HO_9.out BK1423.out (by decide)) e_) hs_)); replace BK1451 := am (blk_kept (pkK BK1451.out) hkp (fun hs_ => (fun e_ => (Kd.R_ne HO_9.out BK1451.out (by decide)) e_) hs_)); replace BK1463 := am (blk_kept (pkK BK1463.out) hkp (fun hs_ => (fun e_ => (Kd.R_ne HO_9.out BK1463.out (by decide)) e_) hs_)); replace BK1479 := am (blk_kept (pkK BK1479.out) hkp (fun hs_ => (fun e_ => (Kd.R_ne HO_9.out BK1479.out (by decide)) e_) hs_)); replace HO_9 := am (Kd.R_reok rfl hy0 (fun k_ e_ => HO_9.out.1 k_ e_)); replace HB := am (hb); (try clear hb); (try clear hkp); (try clear hy0); obtain ⟨hcz104_0, hcz104_1, hcz104_2, hcz104_3, hcz104_4, hcz104_5, hcz104_6, hfz104_0, hfz104_1, hfz104_2, hfz104_3, hfz104_4, hfz104_5, hfz104_6⟩ := bk7 BK1479.out) | ((with_reducible refine gate_callee (f := 49) rfl ?_); refine goesL_ (some 87) rfl rfl Try.func49 (by kernel_rfl) rfl #[.agg #[.int .i64 t1464, .int .i64 t1465, .string t1466, .int .i64 t1467, .bool t1468, .slice Ao39 t1500.length co39, .slice Ao40 t1501.length co40], .int .i64 1] rfl (by (try simp only [List.map_toArray, List.map_cons, List.map_nil]); first | done | (rw [show t1500.length = t1469.length from (Kd.R_reads' HO_1480005.out).1.symm, show t1501.length = t1472.length from (Kd.R_reads' HO_1480006.out).1.symm] <;> rfl) | rfl | (simp only [List.length_drop, List.length_take]; rfl) | (go_simp; done) | (simp [*]; done)) ?_; (with_reducible refine (laws_heldCell.calls kj59 t1464 t1465 t1466 t1467 t1468 _ _ t1500 _ _ t1501 1 t1504 _ ?side1 ?side2 ?side3 ?side4 A89.out).mono ?_); (case side1 => exact pkC (Kd.R_reads' HO_1480005.out).2.2); (case side2 => rw [show t1500.length = t1469.length from (Kd.R_reads' HO_1480005.out).1.symm]; exact (Kd.R_reads' HO_1480005.out).2.1); (case side3 => exact pkC (Kd.R_reads' HO_1480006.out).2.2); (case side4 => rw [show t1501.length = t1472.length from (Kd.R_reads' HO_1480006.out).1.symm]; exact (Kd.R_reads' HO_1480006.out).2.1); rintro e w105 ⟨rfl, hb⟩; refine ⟨_, rfl, ?_⟩; replace HO_5 := am (Kd.R_below (pkR HO_5.out) hb); replace HO_9 := am (Kd.R_below (pkR HO_9.out) hb); replace HO_1452005 := am (Kd.R_below (pkR HO_1452005.out) hb); replace HO_1452006 := am (Kd.R_below (pkR HO_1452006.out) hb); replace HO_1464005 := am (Kd.R_below (pkR HO_1464005.out) hb); replace HO_1464006 := am (Kd.R_below (pkR HO_1464006.out) hb); replace HO_1480005 := am (Kd.R_below (pkR HO_1480005.out) hb); replace HO_1480006 := am (Kd.R_below (pkR HO_1480006.out) hb); replace BK1423 := am (blk_below (pkK BK1423.out) hb); replace BK1451 := am (blk_below (pkK BK1451.out) hb); replace BK1463 := am (blk_below (pkK BK1463.out) hb); replace BK1479 := am (blk_below (pkK BK1479.out) hb); replace HB := am (below_step (pkW HB.out) hb); (try clear hb)) | ((with_reducible refine gate_callee (f := 46) rfl ?_); refine goesL_ (some 92) rfl rfl Try.func46 (by kernel_rfl) rfl #[.slice Ao102 t1503.length co102, .int .i64 t1504] rfl (by (try simp only [List.map_toArray, List.map_cons, List.map_nil]); first | done | (rw [show t1503.length = t1475.length from (Kd.R_reads' HO_9.out).1.symm] <;> rfl) | rfl | (simp only [List.length_drop, List.length_take]; rfl) | (go_simp; done) | (simp [*]; done)) ?_; (with_reducible refine (laws_heldIntS.calls kj59 _ _ t1503 t1504 t1505 _ ?side1 ?side2 A91.out).mono ?_); (case side1 => exact pkC (Kd.R_reads' HO_9.out).2.2); (case side2 => rw [show t1503.length = t1475.length from (Kd.R_reads' HO_9.out).1.symm]; exact (Kd.R_reads' HO_9.out).2.1); rintro e w' ⟨rfl, ⟨nd, rfl⟩⟩; refine ⟨_, rfl, ?_⟩; (try (rw [drewN_self w105]; generalize hq_ : World.drewN w105 _ = w105; replace HO_1452005 : Aside0 (Kd.R (Kd.int .i64) 3 w105 w.heap.size (fun k_ => (some k_ ≠ (v1448 : Value).ownBlock ∧ (some k_ ≠ (.slice Ao102 t1475.length co102 : Value).ownBlock ∧ (some k_ ≠ (.slice Ao24 t1444.length co24 : Value).ownBlock ∧ (some k_ ≠ (.slice Ao31 t1495.length co31 : Value).ownBlock ∧ (some k_ ≠ (.slice Ao32 t1496.length co32 : Value).ownBlock ∧ (some k_ ≠ (.slice Ao39 t1469.length co39 : Value).ownBlock ∧ some k_ ≠ (.slice Ao40 t1472.length co40 : Value).ownBlock))))))) (.slice Ao23 t1441.length co23) t1441) := ⟨by rw [← hq_]; exact (pkR HO_1452005.out)⟩; replace HO_1452006 : Aside0 (Kd.R (Kd.int .i64) 3 w105 w.heap.size (fun k_ => (some k_ ≠ (v1448 : Value).ownBlock ∧ (some k_ ≠ (.slice Ao102 t1475.length co102 : Value).ownBlock ∧ (some k_ ≠ (.slice Ao23 t1441.length co23 : Value).ownBlock ∧ (some k_ ≠ (.slice Ao31 t1495.length co31 : Value).ownBlock ∧ (some k_ ≠ (.slice Ao32 t1496.length co32 : Value).ownBlock ∧ (some k_ ≠ (.slice Ao39 t1469.length co39 : Value).ownBlock ∧ some k_ ≠ (.slice Ao40 t1472.length co40 : Value).ownBlock))))))) (.slice Ao24 t1444.length co24) t1444) := ⟨by rw [← hq_]; exact (pkR HO_1452006.out)⟩; replace HO_1464005 : Aside0 (Kd.R (Kd.int .i64) 3 w105 w.heap.size (fun k_ => (some k_ ≠ (v1448 : Value).ownBlock ∧ (some k_ ≠ (.slice Ao102 t1475.length co102 : Value).ownBlock ∧ (some k_ ≠ (.slice Ao23 t1441.length co23 : Value).ownBlock ∧ (some k_ ≠ (.slice Ao24 t1444.length co24 : Value).ownBlock ∧ (some k_ ≠ (.slice Ao32 t1496.length co32 : Value).ownBlock ∧ (some k_ ≠ (.slice Ao39 t1469.length co39 : Value).ownBlock ∧ some k_ ≠ (.slice Ao40 t1472.length co40 : Value).ownBlock))))))) (.slice Ao31 t1495.length co31) t1495) := ⟨by rw [← hq_]; exact (pkR HO_1464005.out)⟩; replace HO_1464006 : Aside0 (Kd.R (Kd.int .i64) 3 w105 w.heap.size (fun k_ => (some k_ ≠ (v1448 : Value).ownBlock ∧ (some k_ ≠ (.slice Ao102 t1475.length co102 : Value).ownBlock ∧ (some k_ ≠ (.slice Ao23 t1441.length co23 : Value).ownBlock ∧ (some k_ ≠ (.slice Ao24 t1444.length co24 : Value).ownBlock ∧ (some k_ ≠ (.slice Ao31 t1495.length co31 : Value).ownBlock ∧ (some k_ ≠ (.slice Ao39 t1469.length co39 : Value).ownBlock ∧ some k_ ≠ (.slice Ao40 t1472.length co40 : Value).ownBlock))))))) (.slice Ao32 t1496.length co32) t1496) := ⟨by rw [← hq_]; exact (pkR HO_1464006.out)⟩; replace HO_1480005 : Aside0 (Kd.R (Kd.int .i64) 3 w105 w.heap.size (fun k_ => (some k_ ≠ (v1448 : Value).ownBlock ∧ (some k_ ≠ (.slice Ao102 t1475.length co102 : Value).ownBlock ∧ (some k_ ≠ (.slice Ao23 t1441.length co23 : Value).ownBlock ∧ (some k_ ≠ (.slice Ao24 t1444.length co24 : Value).ownBlock ∧ (some k_ ≠ (.slice Ao31 t1495.length co31 : Value).ownBlock ∧ (some k_ ≠ (.slice Ao32 t1496.length co32 : Value).ownBlock ∧ some k_ ≠ (.slice Ao40 t1472.length co40 : Value).ownBlock))))))) (.slice Ao39 t1469.length co39) t1500) := ⟨by rw [← hq_]; exact (pkR HO_1480005.out)⟩; replace HO_1480006 : Aside0 (Kd.R (Kd.int .i64) 3 w105 w.heap.size (fun k_ => (some k_ ≠ (v1448 : Value).ownBlock ∧ (some k_ ≠ (.slice Ao102 t1475.length co102 : Value).ownBlock ∧ (some k_ ≠ (.slice Ao23 t1441.length co23 : Value).ownBlock ∧ (some k_ ≠ (.slice Ao24 t1444.length co24 : Value).ownBlock ∧ (some k_ ≠ (.slice Ao31 t1495.length co31 : Value).ownBlock ∧ (some k_ ≠ (.slice Ao32 t1496.length co32 : Value).ownBlock ∧ some k_ ≠ (.slice Ao39 t1469.length co39 : Value).ownBlock))))))) (.slice Ao40 t1472.length co40) t1501) := ⟨by rw [← hq_]; exact (pkR HO_1480006.out)⟩; replace HO_5 : Aside0 (Kd.R (Kd.int .i64) 3 w105 w.heap.size (fun k_ => (some k_ ≠ (.slice Ao102 t1475.length co102 : Value).ownBlock ∧ (some k_ ≠ (.slice Ao23 t1441.length co23 : Value).ownBlock ∧ (some k_ ≠ (.slice Ao24 t1444.length co24 : Value).ownBlock ∧ (some k_ ≠ (.slice Ao31 t1495.length co31 : Value).ownBlock ∧ (some k_ ≠ (.slice Ao32 t1496.length co32 : Value).ownBlock ∧ (some k_ ≠ (.slice Ao39 t1469.length co39 : Value).ownBlock ∧ some k_ ≠ (.slice Ao40 t1472.length co40 : Value).ownBlock))))))) v1448 t1447) := ⟨by rw [← hq_]; exact (pkR HO_5.out)⟩; replace HO_9 : Aside0 (Kd.R (Kd.int .i64) 3 w105 w.heap.size (fun k_ => (some k_ ≠ (v1448 : Value).ownBlock ∧ (some k_ ≠ (.slice Ao23 t1441.length co23 : Value).ownBlock ∧ (some k_ ≠ (.slice Ao24 t1444.length co24 : Value).ownBlock ∧ (some k_ ≠ (.slice Ao31 t1495.length co31 : Value).ownBlock ∧ (some k_ ≠ (.slice Ao32 t1496.length co32 : Value).ownBlock ∧ (some k_ ≠ (.slice Ao39 t1469.length co39 : Value).ownBlock ∧ some k_ ≠ (.slice Ao40 t1472.length co40 : Value).ownBlock))))))) (.slice Ao102 t1475.length co102) t1503) := ⟨by rw [← hq_]; exact (pkR HO_9.out)⟩; replace BK1423 : Aside0 (w105.heap[gb1423]? = some (.cells #[.int .i64 a0_0, .int .i64 a0_1, .string a0_2, .int .i64 a0_3, .bool a0_4, .slice A0_5 l0_5.length c0_5, .slice A0_6 l0_6.length c0_6] 56 (0, 0))) := ⟨by rw [← hq_]; exact (pkK BK1423.out)⟩; replace BK1451 : Aside0 (w105.heap[gb1451]? = some (.cells #[.int .i64 t1436, .int .i64 t1437, .string t1438, .int .i64 t1439, .bool t1440, .slice Ao23 t1441.length co23, .slice Ao24 t1444.length co24] 29 (0, 0))) := ⟨by rw [← hq_]; exact (pkK BK1451.out)⟩; replace BK1463 : Aside0 (w105.heap[gb1463]? = some (.cells #[.int .i64 t1452, .int .i64 t1453, .string t1454, .int .i64 t1455, .bool t1456, .slice Ao31 t1495.length co31, .slice Ao32 t1496.length co32] 29 (0, 0))) := ⟨by rw [← hq_]; exact (pkK BK1463.out)⟩; replace BK1479 : Aside0 (w105.heap[gb1479]? = some (.cells #[.int .i64 t1464, .int .i64 t1465, .string t1466, .int .i64 t1467, .bool t1468, .slice Ao39 t1469.length co39, .slice Ao40 t1472.length co40] 29 (0, 0))) := ⟨by rw [← hq_]; exact (pkK BK1479.out)⟩; replace HB : Aside0 (Below w.heap.size w w105) := ⟨by rw [← hq_]; exact (pkW HB.out)⟩; clear hq_)); have hnb106 := NB1423_1451.out; have hnc106 := NB1451_1423.out; have hnb107 := NB1423_1463.out; have hnc107 := NB1463_1423.out; obtain ⟨hcz108_0, hcz108_1, hcz108_2, hcz108_3, hcz108_4, hcz108_5, hcz108_6, hfz108_0, hfz108_1, hfz108_2, hfz108_3, hfz108_4, hfz108_5, hfz108_6⟩ := bk7 BK1423.out) | ((with_reducible refine gate_callee (f := 32) rfl ?_); refine goesL_ (some 100) rfl rfl Try.func32 (by kernel_rfl) rfl #[.agg #[.int .i64 a0_0, .int .i64 a0_1, .string a0_2, .int .i64 a0_3, .bool a0_4, .slice A0_5 l0_5.length c0_5, .slice A0_6 l0_6.length c0_6]] rfl mpx ?_; (with_reducible refine (laws_toCell.calls kj59 a0_0 a0_1 a0_2 a0_3 a0_4 _ _ l0_5 _ _ l0_6 t1506 t1507 t1508 t1509 t1510 t1511 t1514 _ ?side1 ?side2 ?side3 ?side4 A94.out).mono ?_); (case side1 => exact pkC (Kd.C_below HR0_5.out HB.out)); (case side2 => exact HC0_5.out); (case side3 => exact pkC (Kd.C_below HR0_6.out HB.out)); (case side4 => exact HC0_6.out); rintro e w109 ⟨v1512, v1515, rfl, ho0, ho1, hb⟩; refine ⟨_, rfl, ?_⟩; have HO1513 := am (Kd.R_lower (Kd.R_new' (Kd.R_new' (Kd.R_new' (Kd.R_new' (Kd.R_new' (Kd.R_new' (Kd.R_new' (Kd.R_new' ho0 (Kd.R_lt (pkR HO_5.out))) (Kd.R_lt (pkR HO_9.out))) (Kd.R_lt (pkR HO_1452005.out))) (Kd.R_lt (pkR HO_1452006.out))) (Kd.R_lt (pkR HO_1464005.out))) (Kd.R_lt (pkR HO_1464006.out))) (Kd.R_lt (pkR HO_1480005.out))) (Kd.R_lt (pkR HO_1480006.out))) (below_size (pkW HB.out))); have HO1516 := am (Kd.R_lower (Kd.R_new' (Kd.R_new' (Kd.R_new' (Kd.R_new' (Kd.R_new' (Kd.R_new' (Kd.R_new' (Kd.R_new' ho1 (Kd.R_lt (pkR HO_5.out))) (Kd.R_lt (pkR HO_9.out))) (Kd.R_lt (pkR HO_1452005.out))) (Kd.R_lt (pkR HO_1452006.out))) (Kd.R_lt (pkR HO_1464005.out))) (Kd.R_lt (pkR HO_1464006.out))) (Kd.R_lt (pkR HO_1480005.out))) (Kd.R_lt (pkR HO_1480006.out))) (below_size (pkW HB.out))); replace HO_5 := am (Kd.R_mono (Kd.R_told (Kd.R_told (Kd.R_old (pkR HO_5.out) hb) (Kd.R_base ho0)) (Kd.R_base ho1)) (fun _ h_ => h_.1)); replace HO_9 := am (Kd.R_mono (Kd.R_told (Kd.R_told (Kd.R_old (pkR HO_9.out) hb) (Kd.R_base ho0)) (Kd.R_base ho1)) (fun _ h_ => h_.1)); replace HO_1452005 := am (Kd.R_mono (Kd.R_told (Kd.R_told (Kd.R_old (pkR HO_1452005.out) hb) (Kd.R_base ho0)) (Kd.R_base ho1)) (fun _ h_ => h_.1)); replace HO_1452006 := am (Kd.R_mono (Kd.R_told (Kd.R_told (Kd.R_old (pkR HO_1452006.out) hb) (Kd.R_base ho0)) (Kd.R_base ho1)) (fun _ h_ => h_.1)); replace HO_1464005 := am (Kd.R_mono (Kd.R_told (Kd.R_told (Kd.R_old (pkR HO_1464005.out) hb) (Kd.R_base ho0)) (Kd.R_base ho1)) (fun _ h_ => h_.1)); replace HO_1464006 := am (Kd.R_mono (Kd.R_told (Kd.R_told (Kd.R_old (pkR HO_1464006.out) hb) (Kd.R_base ho0)) (Kd.R_base ho1)) (fun _ h_ => h_.1)); replace HO_1480005 := am (Kd.R_mono (Kd.R_told (Kd.R_told (Kd.R_old (pkR HO_1480005.out) hb) (Kd.R_base ho0)) (Kd.R_base ho1)) (fun _ h_ => h_.1)); replace HO_1480006 := am (Kd.R_mono (Kd.R_told (Kd.R_told (Kd.R_old (pkR HO_1480006.out) hb) (Kd.R_base ho0)) (Kd.R_base ho1)) (fun _ h_ => h_.1)); replace BK1423 := am (blk_below (pkK BK1423.out) hb); replace BK1451 := am (blk_below (pkK BK1451.out) hb); replace BK1463 := am (blk_below (pkK BK1463.out) hb); replace BK1479 := am (blk_below (pkK BK1479.out) hb); replace HB := am (below_step (pkW HB.out) hb); (try clear hb ho0 ho1); obtain ⟨Ao110, co110, eo110⟩ := Kd.R_slice HO1513.out; subst eo110; obtain ⟨Ao111, co111, eo111⟩ := Kd.R_slice HO1516.out; subst eo111) | ((with_reducible refine gate_callee (f := 53) rfl ?_); refine goesL_ (some 101) rfl rfl Try.func53 (by kernel_rfl) rfl #[.agg #[.int .i64 t1506, .int .i64 t1507, .string t1508, .int .i64 t1509, .bool t1510, .slice Ao110 t1511.length co110, .slice Ao111 t1514.length co111]] rfl mpx ?_; (with_reducible refine (impl_Shut.calls kj59 t1506 t1507 t1508 t1509 t1510 _ _ t1511 _ _ t1514 t1517 t1518 t1519 t1520 t1521 t1522 t1525 t1528 t1531 _ ?side1 ?side2 ?side3 ?side4 A95.out).mono ?_); (case side1 => exact pkC (Kd.R_reads' HO1513.out).2.2); (case side2 => exact (Kd.R_reads' HO1513.out).2.1); (case side3 => exact pkC (Kd.R_reads' HO1516.out).2.2); (case side4 => exact (Kd.R_reads' HO1516.out).2.1); rintro e w112 ⟨v1523, v1526, v1529, rfl, ho0, ho1, ho2, hb⟩; refine ⟨_, rfl, ?_⟩; have HO1524 := am (Kd.R_lower (Kd.R_new' (Kd.R_new' (Kd.R_new' (Kd.R_new' (Kd.R_new' (Kd.R_new' (Kd.R_new' (Kd.R_new' (Kd.R_new' (Kd.R_new' ho0 (Kd.R_lt (pkR HO_5.out))) (Kd.R_lt (pkR HO_9.out))) (Kd.R_lt (pkR HO_1452005.out))) (Kd.R_lt (pkR HO_1452006.out))) (Kd.R_lt (pkR HO_1464005.out))) (Kd.R_lt (pkR HO_1464006.out))) (Kd.R_lt (pkR HO_1480005.out))) (Kd.R_lt (pkR HO_1480006.out))) (Kd.R_lt (pkR HO1513.out))) (Kd.R_lt (pkR HO1516.out))) (below_size (pkW HB.out))); have HO1527 := am (Kd.R_lower (Kd.R_new' (Kd.R_new' (Kd.R_new' (Kd.R_new' (Kd.R_new' (Kd.R_new' (Kd.R_new' (Kd.R_new' (Kd.R_new' (Kd.R_new' ho1 (Kd.R_lt (pkR HO_5.out))) (Kd.R_lt (pkR HO_9.out))) (Kd.R_lt (pkR HO_1452005.out))) (Kd.R_lt (pkR HO_1452006.out))) (Kd.R_lt (pkR HO_1464005.out))) (Kd.R_lt (pkR HO_1464006.out))) (Kd.R_lt (pkR HO_1480005.out))) (Kd.R_lt (pkR HO_1480006.out))) (Kd.R_lt (pkR HO1513.out))) (Kd.R_lt (pkR HO1516.out))) (below_size (pkW HB.out))); have HO1530 := am (Kd.R_lower (Kd.R_new' (Kd.R_new' (Kd.R_new' (Kd.R_new' (Kd.R_new' (Kd.R_new' (Kd.R_new' (Kd.R_new' (Kd.R_new' (Kd.R_new' ho2 (Kd.R_lt (pkR HO_5.out))) (Kd.R_lt (pkR HO_9.out))) (Kd.R_lt (pkR HO_1452005.out))) (Kd.R_lt (pkR HO_1452006.out))) (Kd.R_lt (pkR HO_1464005.out))) (Kd.R_lt (pkR HO_1464006.out))) (Kd.R_lt (pkR HO_1480005.out))) (Kd.R_lt (pkR HO_1480006.out))) (Kd.R_lt (pkR HO1513.out))) (Kd.R_lt (pkR HO1516.out))) (below_size (pkW HB.out))); replace HO_5 := am (Kd.R_mono (Kd.R_told (Kd.R_told (Kd.R_told (Kd.R_old (pkR HO_5.out) hb) (Kd.R_base ho0)) (Kd.R_base ho1)) (Kd.R_base ho2)) (fun _ h_ => h_.1)); replace HO_9 := am (Kd.R_mono (Kd.R_told (Kd.R_told (Kd.R_told (Kd.R_old (pkR HO_9.out) hb) (Kd.R_base ho0)) (Kd.R_base ho1)) (Kd.R_base ho2)) (fun _ h_ => h_.1)); replace HO_1452005 := am (Kd.R_mono (Kd.R_told (Kd.R_told (Kd.R_told (Kd.R_old (pkR HO_1452005.out) hb) (Kd.R_base ho0)) (Kd.R_base ho1)) (Kd.R_base ho2)) (fun _ h_ => h_.1)); replace HO_1452006 := am (Kd.R_mono (Kd.R_told (Kd.R_told (Kd.R_told (Kd.R_old (pkR HO_1452006.out) hb) (Kd.R_base ho0)) (Kd.R_base ho1)) (Kd.R_base ho2)) (fun _ h_ => h_.1)); replace HO_1464005 := am (Kd.R_mono (Kd.R_told (Kd.R_told (Kd.R_told (Kd.R_old (pkR HO_1464005.out) hb) (Kd.R_base ho0)) (Kd.R_base ho1)) (Kd.R_base ho2)) (fun _ h_ => h_.1)); replace HO_1464006 := am (Kd.R_mono (Kd.R_told (Kd.R_told (Kd.R_told (Kd.R_old (pkR HO_1464006.out) hb) (Kd.R_base ho0)) (Kd.R_base ho1)) (Kd.R_base ho2)) (fun _ h_ => h_.1)); replace HO_1480005 := am (Kd.R_mono (Kd.R_told (Kd.R_told (Kd.R_told (Kd.R_old (pkR HO_1480005.out) hb) (Kd.R_base ho0)) (Kd.R_base ho1)) (Kd.R_base ho2)) (fun _ h_ => h_.1)); replace HO_1480006 := am (Kd.R_mono (Kd.R_told (Kd.R_told (Kd.R_told (Kd.R_old (pkR HO_1480006.out) hb) (Kd.R_base ho0)) (Kd.R_base ho1)) (Kd.R_base ho2)) (fun _ h_ => h_.1)); replace HO1513 := am (Kd.R_mono (Kd.R_told (Kd.R_told (Kd.R_told (Kd.R_old (pkR HO1513.out) hb) (Kd.R_base ho0)) (Kd.R_base ho1)) (Kd.R_base ho2)) (fun _ h_ => h_.1)); replace HO1516 := am (Kd.R_mono (Kd.R_told (Kd.R_told (Kd.R_told (Kd.R_old (pkR HO1516.out) hb) (Kd.R_base ho0)) (Kd.R_base ho1)) (Kd.R_base ho2)) (fun _ h_ => h_.1)); replace BK1423 := am (blk_below (pkK BK1423.out) hb); replace BK1451 := am (blk_below (pkK BK1451.out) hb); replace BK1463 := am (blk_below (pkK BK1463.out) hb); replace BK1479 := am (blk_below (pkK BK1479.out) hb); replace HB := am (below_step (pkW HB.out) hb); (try clear hb ho0 ho1 ho2)) | ((with_reducible refine gate_dst (N := 14) rfl ?_); refine box_event ?hg (N := 14) ?hd (cs := #[.int .i64 0, .int .i64 0, .string (⟨#[]⟩ : ByteArray), .int .i64 0, .bool false, .slice none 0 0, .slice none 0 0]) (t := 29) ?hr ?_; (case hd => rfl); (case hg => rfl); (case hr => first | (go_simp; done) | (go_simp; rfl)); intro gb1532 hg w113 hbox hb; replace HO_5 := am (Kd.R_below (pkR HO_5.out) hb); replace HO_9 := am (Kd.R_below (pkR HO_9.out) hb); replace HO_1452005 := am (Kd.R_below (pkR HO_1452005.out) hb); replace HO_1452006 := am (Kd.R_below (pkR HO_1452006.out) hb); replace HO_1464005 := am (Kd.R_below (pkR HO_1464005.out) hb); replace HO_1464006 := am (Kd.R_below (pkR HO_1464006.out) hb); replace HO_1480005 := am (Kd.R_below (pkR HO_1480005.out) hb); replace HO_1480006 := am (Kd.R_below (pkR HO_1480006.out) hb); replace HO1513 := am (Kd.R_below (pkR HO1513.out) hb); replace HO1516 := am (Kd.R_below (pkR HO1516.out) hb); replace HO1524 := am (Kd.R_below (pkR HO1524.out) hb); replace HO1527 := am (Kd.R_below (pkR HO1527.out) hb); replace HO1530 := am (Kd.R_below (pkR HO1530.out) hb); have BK1532 := am (hbox); have GW1532 := am ((by rw [hg]; exact (below_size (pkW HB.out)) : w.heap.size ≤ gb1532)); have GE1532 := am ((by rw [hg]; exact (below_size (pkW HB.out)) : w.heap.size ≤ gb1532)); replace HB := am (below_step (pkW HB.out) hb); have NB1423_1532 := am ((by rw [hg]; exact Nat.ne_of_lt (blk_lt (g := gb1423) (o := .cells #[.int .i64 a0_0, .int .i64 a0_1, .string a0_2, .int .i64 a0_3, .bool a0_4, .slice A0_5 l0_5.length c0_5, .slice A0_6 l0_6.length c0_6] 56 (0, 0)) (pkK BK1423.out)) : gb1423 ≠ gb1532)); have NB1532_1423 := am ((by rw [hg]; exact Nat.ne_of_gt (blk_lt (g := gb1423) (o := .cells #[.int .i64 a0_0, .int .i64 a0_1, .string a0_2, .int .i64 a0_3, .bool a0_4, .slice A0_5 l0_5.length c0_5, .slice A0_6 l0_6.length c0_6] 56 (0, 0)) (pkK BK1423.out)) : gb1532 ≠ gb1423)); replace BK1423 := am (blk_below (pkK BK1423.out) hb); have NB1451_1532 := am ((by rw [hg]; exact Nat.ne_of_lt (blk_lt (g := gb1451) (o := .cells #[.int .i64 t1436, .int .i64 t1437, .string t1438, .int .i64 t1439, .bool t1440, .slice Ao23 t1441.length co23, .slice Ao24 t1444.length co24] 29 (0, 0)) (pkK BK1451.out)) : gb1451 ≠ gb1532)); have NB1532_1451 := am ((by rw [hg]; exact Nat.ne_of_gt (blk_lt (g := gb1451) (o := .cells #[.int .i64 t1436, .int .i64 t1437, .string t1438, .int .i64 t1439, .bool t1440, .slice Ao23 t1441.length co23, .slice Ao24 t1444.length co24] 29 (0, 0)) (pkK BK1451.out)) : gb1532 ≠ gb1451)); replace BK1451 := am (blk_below (pkK BK1451.out) hb); have NB1463_1532 := am ((by rw [hg]; exact Nat.ne_of_lt (blk_lt (g := gb1463) (o := .cells #[.int .i64 t1452, .int .i64 t1453, .string t1454, .int .i64 t1455, .bool t1456, .slice Ao31 t1495.length co31, .slice Ao32 t1496.length co32] 29 (0, 0)) (pkK BK1463.out)) : gb1463 ≠ gb1532)); have NB1532_1463 := am ((by rw [hg]; exact Nat.ne_of_gt (blk_lt (g := gb1463) (o := .cells #[.int .i64 t1452, .int .i64 t1453, .string t1454, .int .i64 t1455, .bool t1456, .slice Ao31 t1495.length co31, .slice Ao32 t1496.length co32] 29 (0, 0)) (pkK BK1463.out)) : gb1532 ≠ gb1463)); replace BK1463 := am (blk_below (pkK BK1463.out) hb); have NB1479_1532 := am ((by rw [hg]; exact Nat.ne_of_lt (blk_lt (g := gb1479) (o := .cells #[.int .i64 t1464, .int .i64 t1465, .string t1466, .int .i64 t1467, .bool t1468, .slice Ao39 t1469.length co39, .slice Ao40 t1472.length co40] 29 (0, 0)) (pkK BK1479.out)) : gb1479 ≠ gb1532)); have NB1532_1479 := am ((by rw [hg]; exact Nat.ne_of_gt (blk_lt (g := gb1479) (o := .cells #[.int .i64 t1464, .int .i64 t1465, .string t1466, .int .i64 t1467, .bool t1468, .slice Ao39 t1469.length co39, .slice Ao40 t1472.length co40] 29 (0, 0)) (pkK BK1479.out)) : gb1532 ≠ gb1479)); replace BK1479 := am (blk_below (pkK BK1479.out) hb); clear hb hbox hg; have hnb114 := NB1532_1423.out; have hnc114 := NB1423_1532.out; have hnb115 := NB1532_1451.out; have hnc115 := NB1451_1532.out; have hnb116 := NB1532_1463.out; have hnc116 := NB1463_1532.out; have hnb117 := NB1532_1479.out; have hnc117 := NB1479_1532.out; obtain ⟨hcz118_0, hcz118_1, hcz118_2, hcz118_3, hcz118_4, hcz118_5, hcz118_6, hfz118_0, hfz118_1, hfz118_2, hfz118_3, hfz118_4, hfz118_5, hfz118_6⟩ := bk7 BK1532.out; obtain ⟨Ao119, co119, eo119⟩ := Kd.R_slice HO1524.out; subst eo119; obtain ⟨Ao120, co120, eo120⟩ := Kd.R_slice HO1527.out; subst eo120))
            (try simp only [Act.put, List.setIfInBounds_toArray, List.set_cons_zero, List.set_cons_succ])
            go_cut [119] (fun v119 wc => ∃ (kq : Nat) (x119_95 : Bool), v119 = .bool x119_95 ∧ Aside0 (laws_FnExactShut.j2 kq t1503 t1502 x119_95 t1464 t1465 t1466 t1467 t1468 t1500 t1501 = some r) ∧ Aside0 (kq ≤ kj59) ∧ Aside0 (Kd.R (Kd.int .i64) 3 wc w.heap.size (fun k_ => some k_ ≠ ((.slice Ao23 t1441.length co23) : Value).ownBlock ∧ some k_ ≠ ((.slice Ao24 t1444.length co24) : Value).ownBlock ∧ some k_ ≠ ((.slice Ao31 t1495.length co31) : Value).ownBlock ∧ some k_ ≠ ((.slice Ao32 t1496.length co32) : Value).ownBlock ∧ some k_ ≠ ((.slice Ao39 t1469.length co39) : Value).ownBlock ∧ some k_ ≠ ((.slice Ao40 t1472.length co40) : Value).ownBlock ∧ some k_ ≠ ((.slice Ao119 t1522.length co119) : Value).ownBlock ∧ some k_ ≠ ((.slice Ao120 t1525.length co120) : Value).ownBlock) (.slice Ao102 t1475.length co102) t1503) ∧ Aside0 (Kd.R (Kd.int .i64) 3 wc w.heap.size (fun k_ => some k_ ≠ ((.slice Ao102 t1475.length co102) : Value).ownBlock ∧ some k_ ≠ ((.slice Ao24 t1444.length co24) : Value).ownBlock ∧ some k_ ≠ ((.slice Ao31 t1495.length co31) : Value).ownBlock ∧ some k_ ≠ ((.slice Ao32 t1496.length co32) : Value).ownBlock ∧ some k_ ≠ ((.slice Ao39 t1469.length co39) : Value).ownBlock ∧ some k_ ≠ ((.slice Ao40 t1472.length co40) : Value).ownBlock ∧ some k_ ≠ ((.slice Ao119 t1522.length co119) : Value).ownBlock ∧ some k_ ≠ ((.slice Ao120 t1525.length co120) : Value).ownBlock) (.slice Ao23 t1441.length co23) t1441) ∧ Aside0 (Kd.R (Kd.int .i64) 3 wc w.heap.size (fun k_ => some k_ ≠ ((.slice Ao102 t1475.length co102) : Value).ownBlock ∧ some k_ ≠ ((.slice Ao23 t1441.length co23) : Value).ownBlock ∧ some k_ ≠ ((.slice Ao31 t1495.length co31) : Value).ownBlock ∧ some k_ ≠ ((.slice Ao32 t1496.length co32) : Value).ownBlock ∧ some k_ ≠ ((.slice Ao39 t1469.length co39) : Value).ownBlock ∧ some k_ ≠ ((.slice Ao40 t1472.length co40) : Value).ownBlock ∧ some k_ ≠ ((.slice Ao119 t1522.length co119) : Value).ownBlock ∧ some k_ ≠ ((.slice Ao120 t1525.length co120) : Value).ownBlock) (.slice Ao24 t1444.length co24) t1444) ∧ Aside0 (Kd.R (Kd.int .i64) 3 wc w.heap.size (fun k_ => some k_ ≠ ((.slice Ao102 t1475.length co102) : Value).ownBlock ∧ some k_ ≠ ((.slice Ao23 t1441.length co23) : Value).ownBlock ∧ some k_ ≠ ((.slice Ao24 t1444.length co24) : Value).ownBlock ∧ some k_ ≠ ((.slice Ao32 t1496.length co32) : Value).ownBlock ∧ some k_ ≠ ((.slice Ao39 t1469.length co39) : Value).ownBlock ∧ some k_ ≠ ((.slice Ao40 t1472.length co40) : Value).ownBlock ∧ some k_ ≠ ((.slice Ao119 t1522.length co119) : Value).ownBlock ∧ some k_ ≠ ((.slice Ao120 t1525.length co120) : Value).ownBlock) (.slice Ao31 t1495.length co31) t1495) ∧ Aside0 (Kd.R (Kd.int .i64) 3 wc w.heap.size (fun k_ => some k_ ≠ ((.slice Ao102 t1475.length co102) : Value).ownBlock ∧ some k_ ≠ ((.slice Ao23 t1441.length co23) : Value).ownBlock ∧ some k_ ≠ ((.slice Ao24 t1444.length co24) : Value).ownBlock ∧ some k_ ≠ ((.slice Ao31 t1495.length co31) : Value).ownBlock ∧ some k_ ≠ ((.slice Ao39 t1469.length co39) : Value).ownBlock ∧ some k_ ≠ ((.slice Ao40 t1472.length co40) : Value).ownBlock ∧ some k_ ≠ ((.slice Ao119 t1522.length co119) : Value).ownBlock ∧ some k_ ≠ ((.slice Ao120 t1525.length co120) : Value).ownBlock) (.slice Ao32 t1496.length co32) t1496) ∧ Aside0 (Kd.R (Kd.int .i64) 3 wc w.heap.size (fun k_ => some k_ ≠ ((.slice Ao102 t1475.length co102) : Value).ownBlock ∧ some k_ ≠ ((.slice Ao23 t1441.length co23) : Value).ownBlock ∧ some k_ ≠ ((.slice Ao24 t1444.length co24) : Value).ownBlock ∧ some k_ ≠ ((.slice Ao31 t1495.length co31) : Value).ownBlock ∧ some k_ ≠ ((.slice Ao32 t1496.length co32) : Value).ownBlock ∧ some k_ ≠ ((.slice Ao40 t1472.length co40) : Value).ownBlock ∧ some k_ ≠ ((.slice Ao119 t1522.length co119) : Value).ownBlock ∧ some k_ ≠ ((.slice Ao120 t1525.length co120) : Value).ownBlock) (.slice Ao39 t1469.length co39) t1500) ∧ Aside0 (Kd.R (Kd.int .i64) 3 wc w.heap.size (fun k_ => some k_ ≠ ((.slice Ao102 t1475.length co102) : Value).ownBlock ∧ some k_ ≠ ((.slice Ao23 t1441.length co23) : Value).ownBlock ∧ some k_ ≠ ((.slice Ao24 t1444.length co24) : Value).ownBlock ∧ some k_ ≠ ((.slice Ao31 t1495.length co31) : Value).ownBlock ∧ some k_ ≠ ((.slice Ao32 t1496.length co32) : Value).ownBlock ∧ some k_ ≠ ((.slice Ao39 t1469.length co39) : Value).ownBlock ∧ some k_ ≠ ((.slice Ao119 t1522.length co119) : Value).ownBlock ∧ some k_ ≠ ((.slice Ao120 t1525.length co120) : Value).ownBlock) (.slice Ao40 t1472.length co40) t1501) ∧ Aside0 (Kd.R (Kd.int .i64) 3 wc w.heap.size (fun k_ => some k_ ≠ ((.slice Ao102 t1475.length co102) : Value).ownBlock ∧ some k_ ≠ ((.slice Ao23 t1441.length co23) : Value).ownBlock ∧ some k_ ≠ ((.slice Ao24 t1444.length co24) : Value).ownBlock ∧ some k_ ≠ ((.slice Ao31 t1495.length co31) : Value).ownBlock ∧ some k_ ≠ ((.slice Ao32 t1496.length co32) : Value).ownBlock ∧ some k_ ≠ ((.slice Ao39 t1469.length co39) : Value).ownBlock ∧ some k_ ≠ ((.slice Ao40 t1472.length co40) : Value).ownBlock ∧ some k_ ≠ ((.slice Ao120 t1525.length co120) : Value).ownBlock) (.slice Ao119 t1522.length co119) t1522) ∧ Aside0 (Kd.R (Kd.int .i64) 3 wc w.heap.size (fun k_ => some k_ ≠ ((.slice Ao102 t1475.length co102) : Value).ownBlock ∧ some k_ ≠ ((.slice Ao23 t1441.length co23) : Value).ownBlock ∧ some k_ ≠ ((.slice Ao24 t1444.length co24) : Value).ownBlock ∧ some k_ ≠ ((.slice Ao31 t1495.length co31) : Value).ownBlock ∧ some k_ ≠ ((.slice Ao32 t1496.length co32) : Value).ownBlock ∧ some k_ ≠ ((.slice Ao39 t1469.length co39) : Value).ownBlock ∧ some k_ ≠ ((.slice Ao40 t1472.length co40) : Value).ownBlock ∧ some k_ ≠ ((.slice Ao119 t1522.length co119) : Value).ownBlock) (.slice Ao120 t1525.length co120) t1525) ∧ Aside0 (wc.heap[gb1423]? = some (.cells #[.int .i64 a0_0, .int .i64 a0_1, .string a0_2, .int .i64 a0_3, .bool a0_4, (.slice A0_5 l0_5.length c0_5), (.slice A0_6 l0_6.length c0_6)] 56 (0, 0))) ∧ Aside0 (wc.heap[gb1451]? = some (.cells #[.int .i64 t1436, .int .i64 t1437, .string t1438, .int .i64 t1439, .bool t1440, (.slice Ao23 t1441.length co23), (.slice Ao24 t1444.length co24)] 29 (0, 0))) ∧ Aside0 (wc.heap[gb1463]? = some (.cells #[.int .i64 t1452, .int .i64 t1453, .string t1454, .int .i64 t1455, .bool t1456, (.slice Ao31 t1495.length co31), (.slice Ao32 t1496.length co32)] 29 (0, 0))) ∧ Aside0 (wc.heap[gb1479]? = some (.cells #[.int .i64 t1464, .int .i64 t1465, .string t1466, .int .i64 t1467, .bool t1468, (.slice Ao39 t1469.length co39), (.slice Ao40 t1472.length co40)] 29 (0, 0))) ∧ Aside0 (wc.heap[gb1532]? = some (.cells #[.int .i64 t1517, .int .i64 t1518, .string t1519, .int .i64 t1520, .bool t1521, (.slice Ao119 t1522.length co119), (.slice Ao120 t1525.length co120)] 29 (0, 0))) ∧ Aside0 (Below w.heap.size w wc))
            case first =>
             have H := HC96.out
             clear HC96
             replace H := Option.bind_eq_some_iff.mp H
             obtain ⟨t1533, A1210, H⟩ := H
             replace H : (if t1533 = true then ((laws_eqIntS.f kj59 t1528 t1447).bind fun t1534 => (if t1534 = true then (laws_FnExactShut.j2 kj59 t1503 t1502 (t1531 != t1450) t1464 t1465 t1466 t1467 t1468 t1500 t1501) else (laws_FnExactShut.j2 kj59 t1503 t1502 true t1464 t1465 t1466 t1467 t1468 t1500 t1501))) else (laws_FnExactShut.j2 kj59 t1503 t1502 true t1464 t1465 t1466 t1467 t1468 t1500 t1501)) = some r := H
             have A121 := am A1210
             clear A1210
             by_cases c122 : t1533 = true
             ·subst c122
              replace H : ((laws_eqIntS.f kj59 t1528 t1447).bind fun t1534 => (if t1534 = true then (laws_FnExactShut.j2 kj59 t1503 t1502 (t1531 != t1450) t1464 t1465 t1466 t1467 t1468 t1500 t1501) else (laws_FnExactShut.j2 kj59 t1503 t1502 true t1464 t1465 t1466 t1467 t1468 t1500 t1501))) = some r := by rw [if_pos rfl] at H; exact H
              replace H := Option.bind_eq_some_iff.mp H
              obtain ⟨t1534, A1230, H⟩ := H
              replace H : (if t1534 = true then (laws_FnExactShut.j2 kj59 t1503 t1502 (t1531 != t1450) t1464 t1465 t1466 t1467 t1468 t1500 t1501) else (laws_FnExactShut.j2 kj59 t1503 t1502 true t1464 t1465 t1466 t1467 t1468 t1500 t1501)) = some r := H
              have A123 := am A1230
              clear A1230
              by_cases c124 : t1534 = true
              ·subst c124
               replace H : (laws_FnExactShut.j2 kj59 t1503 t1502 (t1531 != t1450) t1464 t1465 t1466 t1467 t1468 t1500 t1501) = some r := by rw [if_pos rfl] at H; exact H
               have H' := am H
               clear H
               have hnb125 := NB1532_1423.out
               have hnc125 := NB1423_1532.out
               have hnb126 := NB1532_1451.out
               have hnc126 := NB1451_1532.out
               have hnb127 := NB1532_1463.out
               have hnc127 := NB1463_1532.out
               have hnb128 := NB1532_1479.out
               have hnc128 := NB1479_1532.out
               obtain ⟨hcz129_0, hcz129_1, hcz129_2, hcz129_3, hcz129_4, hcz129_5, hcz129_6, hfz129_0, hfz129_1, hfz129_2, hfz129_3, hfz129_4, hfz129_5, hfz129_6⟩ := bk7 BK1532.out
               have hnb130 := NB1451_1423.out
               have hnc130 := NB1423_1451.out
               have hnb131 := NB1451_1463.out
               have hnc131 := NB1463_1451.out
               have hnb132 := NB1451_1479.out
               have hnc132 := NB1479_1451.out
               obtain ⟨hcz133_0, hcz133_1, hcz133_2, hcz133_3, hcz133_4, hcz133_5, hcz133_6, hfz133_0, hfz133_1, hfz133_2, hfz133_3, hfz133_4, hfz133_5, hfz133_6⟩ := bk7 BK1451.out
               go_wp2_with (first | ((with_reducible refine gate_callee (f := 34) rfl ?_); refine goesL_ (some 107) rfl rfl Try.func34 (by kernel_rfl) rfl #[.agg #[.int .i64 t1517, .int .i64 t1518, .string t1519, .int .i64 t1520, .bool t1521, .slice Ao119 t1522.length co119, .slice Ao120 t1525.length co120], .agg #[.int .i64 t1436, .int .i64 t1437, .string t1438, .int .i64 t1439, .bool t1440, .slice Ao23 t1441.length co23, .slice Ao24 t1444.length co24]] rfl mpx ?_; (with_reducible refine (laws_eqCell.calls kj59 t1517 t1518 t1519 t1520 t1521 _ _ t1522 _ _ t1525 t1436 t1437 t1438 t1439 t1440 _ _ t1441 _ _ t1444 true _ ?side1 ?side2 ?side3 ?side4 ?side5 ?side6 ?side7 ?side8 A121.out).mono ?_); (case side1 => refine (Kd.R_reads' (e := 3) (base := w.heap.size) (ok := fun k_ => (((((((((((some k_ ≠ (.slice Ao120 t1525.length co120 : Value).ownBlock ∧ some k_ ≠ (v1529 : Value).ownBlock) ∧ some k_ ≠ (v1448 : Value).ownBlock) ∧ some k_ ≠ (.slice Ao102 t1475.length co102 : Value).ownBlock) ∧ some k_ ≠ (.slice Ao23 t1441.length co23 : Value).ownBlock) ∧ some k_ ≠ (.slice Ao24 t1444.length co24 : Value).ownBlock) ∧ some k_ ≠ (.slice Ao31 t1495.length co31 : Value).ownBlock) ∧ some k_ ≠ (.slice Ao32 t1496.length co32 : Value).ownBlock) ∧ some k_ ≠ (.slice Ao39 t1469.length co39 : Value).ownBlock) ∧ some k_ ≠ (.slice Ao40 t1472.length co40 : Value).ownBlock) ∧ some k_ ≠ (.slice Ao110 t1511.length co110 : Value).ownBlock) ∧ some k_ ≠ (.slice Ao111 t1514.length co111 : Value).ownBlock)) (n := t1522.length) (c := co119) ?_).2.2; exact (by (with_reducible repeat (first | apply Kd.R_alloc | apply Kd.R_drewN | apply Kd.R_drew)); exact (Kd.R_mono (Kd.R_far (p := ⟨gb1532, 6, none⟩) (Kd.R_far (p := ⟨gb1532, 5, none⟩) (Kd.R_far (p := ⟨gb1532, 4, none⟩) (Kd.R_far (p := ⟨gb1532, 3, none⟩) (Kd.R_far (p := ⟨gb1532, 2, none⟩) (Kd.R_far (p := ⟨gb1532, 1, none⟩) (Kd.R_far (p := ⟨gb1532, 0, none⟩) (Kd.R_types HO1524.out BK1532.out (by decide)) (fun _ hk => hk.2) (.int .i64 t1517)) (fun _ hk => hk.2) (.int .i64 t1518)) (fun _ hk => hk.2) (.string t1519)) (fun _ hk => hk.2) (.int .i64 t1520)) (fun _ hk => hk.2) (.bool t1521)) (fun _ hk => hk.2) (.slice Ao119 t1522.length co119)) (fun _ hk => hk.2) (.slice Ao120 t1525.length co120)) (fun _ h_ => h_.1)))); (case side2 => exact (Kd.R_reads' HO1524.out).2.1); (case side3 => refine (Kd.R_reads' (e := 3) (base := w.heap.size) (ok := fun k_ => (((((((((((some k_ ≠ (.slice Ao119 t1522.length co119 : Value).ownBlock ∧ some k_ ≠ (v1529 : Value).ownBlock) ∧ some k_ ≠ (v1448 : Value).ownBlock) ∧ some k_ ≠ (.slice Ao102 t1475.length co102 : Value).ownBlock) ∧ some k_ ≠ (.slice Ao23 t1441.length co23 : Value).ownBlock) ∧ some k_ ≠ (.slice Ao24 t1444.length co24 : Value).ownBlock) ∧ some k_ ≠ (.slice Ao31 t1495.length co31 : Value).ownBlock) ∧ some k_ ≠ (.slice Ao32 t1496.length co32 : Value).ownBlock) ∧ some k_ ≠ (.slice Ao39 t1469.length co39 : Value).ownBlock) ∧ some k_ ≠ (.slice Ao40 t1472.length co40 : Value).ownBlock) ∧ some k_ ≠ (.slice Ao110 t1511.length co110 : Value).ownBlock) ∧ some k_ ≠ (.slice Ao111 t1514.length co111 : Value).ownBlock)) (n := t1525.length) (c := co120) ?_).2.2; exact (by (with_reducible repeat (first | apply Kd.R_alloc | apply Kd.R_drewN | apply Kd.R_drew)); exact (Kd.R_mono (Kd.R_far (p := ⟨gb1532, 6, none⟩) (Kd.R_far (p := ⟨gb1532, 5, none⟩) (Kd.R_far (p := ⟨gb1532, 4, none⟩) (Kd.R_far (p := ⟨gb1532, 3, none⟩) (Kd.R_far (p := ⟨gb1532, 2, none⟩) (Kd.R_far (p := ⟨gb1532, 1, none⟩) (Kd.R_far (p := ⟨gb1532, 0, none⟩) (Kd.R_types HO1527.out BK1532.out (by decide)) (fun _ hk => hk.2) (.int .i64 t1517)) (fun _ hk => hk.2) (.int .i64 t1518)) (fun _ hk => hk.2) (.string t1519)) (fun _ hk => hk.2) (.int .i64 t1520)) (fun _ hk => hk.2) (.bool t1521)) (fun _ hk => hk.2) (.slice Ao119 t1522.length co119)) (fun _ hk => hk.2) (.slice Ao120 t1525.length co120)) (fun _ h_ => h_.1)))); (case side4 => exact (Kd.R_reads' HO1527.out).2.1); (case side5 => refine (Kd.R_reads' (e := 3) (base := w.heap.size) (ok := fun k_ => ((((((some k_ ≠ (v1448 : Value).ownBlock ∧ (some k_ ≠ (.slice Ao102 t1475.length co102 : Value).ownBlock ∧ (some k_ ≠ (.slice Ao24 t1444.length co24 : Value).ownBlock ∧ (some k_ ≠ (.slice Ao31 t1495.length co31 : Value).ownBlock ∧ (some k_ ≠ (.slice Ao32 t1496.length co32 : Value).ownBlock ∧ (some k_ ≠ (.slice Ao39 t1469.length co39 : Value).ownBlock ∧ some k_ ≠ (.slice Ao40 t1472.length co40 : Value).ownBlock)))))) ∧ some k_ ≠ (.slice Ao110 t1511.length co110 : Value).ownBlock) ∧ some k_ ≠ (.slice Ao111 t1514.length co111 : Value).ownBlock) ∧ some k_ ≠ (.slice Ao119 t1522.length co119 : Value).ownBlock) ∧ some k_ ≠ (.slice Ao120 t1525.length co120 : Value).ownBlock) ∧ some k_ ≠ (v1529 : Value).ownBlock)) (n := t1441.length) (c := co23) ?_).2.2; exact (by (with_reducible repeat (first | apply Kd.R_alloc | apply Kd.R_drewN | apply Kd.R_drew)); exact (Kd.R_mono (Kd.R_far (p := ⟨gb1532, 6, none⟩) (Kd.R_far (p := ⟨gb1532, 5, none⟩) (Kd.R_far (p := ⟨gb1532, 4, none⟩) (Kd.R_far (p := ⟨gb1532, 3, none⟩) (Kd.R_far (p := ⟨gb1532, 2, none⟩) (Kd.R_far (p := ⟨gb1532, 1, none⟩) (Kd.R_far (p := ⟨gb1532, 0, none⟩) (Kd.R_types HO_1452005.out BK1532.out (by decide)) (fun _ hk => hk.2) (.int .i64 t1517)) (fun _ hk => hk.2) (.int .i64 t1518)) (fun _ hk => hk.2) (.string t1519)) (fun _ hk => hk.2) (.int .i64 t1520)) (fun _ hk => hk.2) (.bool t1521)) (fun _ hk => hk.2) (.slice Ao119 t1522.length co119)) (fun _ hk => hk.2) (.slice Ao120 t1525.length co120)) (fun _ h_ => h_.1)))); (case side6 => exact (Kd.R_reads' HO_1452005.out).2.1); (case side7 => refine (Kd.R_reads' (e := 3) (base := w.heap.size) (ok := fun k_ => ((((((some k_ ≠ (v1448 : Value).ownBlock ∧ (some k_ ≠ (.slice Ao102 t1475.length co102 : Value).ownBlock ∧ (some k_ ≠ (.slice Ao23 t1441.length co23 : Value).ownBlock ∧ (some k_ ≠ (.slice Ao31 t1495.length co31 : Value).ownBlock ∧ (some k_ ≠ (.slice Ao32 t1496.length co32 : Value).ownBlock ∧ (some k_ ≠ (.slice Ao39 t1469.length co39 : Value).ownBlock ∧ some k_ ≠ (.slice Ao40 t1472.length co40 : Value).ownBlock)))))) ∧ some k_ ≠ (.slice Ao110 t1511.length co110 : Value).ownBlock) ∧ some k_ ≠ (.slice Ao111 t1514.length co111 : Value).ownBlock) ∧ some k_ ≠ (.slice Ao119 t1522.length co119 : Value).ownBlock) ∧ some k_ ≠ (.slice Ao120 t1525.length co120 : Value).ownBlock) ∧ some k_ ≠ (v1529 : Value).ownBlock)) (n := t1444.length) (c := co24) ?_).2.2; exact (by (with_reducible repeat (first | apply Kd.R_alloc | apply Kd.R_drewN | apply Kd.R_drew)); exact (Kd.R_mono (Kd.R_far (p := ⟨gb1532, 6, none⟩) (Kd.R_far (p := ⟨gb1532, 5, none⟩) (Kd.R_far (p := ⟨gb1532, 4, none⟩) (Kd.R_far (p := ⟨gb1532, 3, none⟩) (Kd.R_far (p := ⟨gb1532, 2, none⟩) (Kd.R_far (p := ⟨gb1532, 1, none⟩) (Kd.R_far (p := ⟨gb1532, 0, none⟩) (Kd.R_types HO_1452006.out BK1532.out (by decide)) (fun _ hk => hk.2) (.int .i64 t1517)) (fun _ hk => hk.2) (.int .i64 t1518)) (fun _ hk => hk.2) (.string t1519)) (fun _ hk => hk.2) (.int .i64 t1520)) (fun _ hk => hk.2) (.bool t1521)) (fun _ hk => hk.2) (.slice Ao119 t1522.length co119)) (fun _ hk => hk.2) (.slice Ao120 t1525.length co120)) (fun _ h_ => h_.1)))); (case side8 => exact (Kd.R_reads' HO_1452006.out).2.1); rintro e w134 ⟨rfl, hb⟩; refine ⟨_, rfl, ?_⟩; replace HO_5 := am (Kd.R_below (by (with_reducible repeat (first | apply Kd.R_alloc | apply Kd.R_drewN | apply Kd.R_drew)); exact (Kd.R_mono (Kd.R_far (p := ⟨gb1532, 6, none⟩) (Kd.R_far (p := ⟨gb1532, 5, none⟩) (Kd.R_far (p := ⟨gb1532, 4, none⟩) (Kd.R_far (p := ⟨gb1532, 3, none⟩) (Kd.R_far (p := ⟨gb1532, 2, none⟩) (Kd.R_far (p := ⟨gb1532, 1, none⟩) (Kd.R_far (p := ⟨gb1532, 0, none⟩) (Kd.R_types HO_5.out BK1532.out (by decide)) (fun _ hk => hk.2) (.int .i64 t1517)) (fun _ hk => hk.2) (.int .i64 t1518)) (fun _ hk => hk.2) (.string t1519)) (fun _ hk => hk.2) (.int .i64 t1520)) (fun _ hk => hk.2) (.bool t1521)) (fun _ hk => hk.2) (.slice Ao119 t1522.length co119)) (fun _ hk => hk.2) (.slice Ao120 t1525.length co120)) (fun _ h_ => h_.1))) hb); replace HO_9 := am (Kd.R_below (by (with_reducible repeat (first | apply Kd.R_alloc | apply Kd.R_drewN | apply Kd.R_drew)); exact (Kd.R_mono (Kd.R_far (p := ⟨gb1532, 6, none⟩) (Kd.R_far (p := ⟨gb1532, 5, none⟩) (Kd.R_far (p := ⟨gb1532, 4, none⟩) (Kd.R_far (p := ⟨gb1532, 3, none⟩) (Kd.R_far (p := ⟨gb1532, 2, none⟩) (Kd.R_far (p := ⟨gb1532, 1, none⟩) (Kd.R_far (p := ⟨gb1532, 0, none⟩) (Kd.R_types HO_9.out BK1532.out (by decide)) (fun _ hk => hk.2) (.int .i64 t1517)) (fun _ hk => hk.2) (.int .i64 t1518)) (fun _ hk => hk.2) (.string t1519)) (fun _ hk => hk.2) (.int .i64 t1520)) (fun _ hk => hk.2) (.bool t1521)) (fun _ hk => hk.2) (.slice Ao119 t1522.length co119)) (fun _ hk => hk.2) (.slice Ao120 t1525.length co120)) (fun _ h_ => h_.1))) hb); replace HO_1452005 := am (Kd.R_below (by (with_reducible repeat (first | apply Kd.R_alloc | apply Kd.R_drewN | apply Kd.R_drew)); exact (Kd.R_mono (Kd.R_far (p := ⟨gb1532, 6, none⟩) (Kd.R_far (p := ⟨gb1532, 5, none⟩) (Kd.R_far (p := ⟨gb1532, 4, none⟩) (Kd.R_far (p := ⟨gb1532, 3, none⟩) (Kd.R_far (p := ⟨gb1532, 2, none⟩) (Kd.R_far (p := ⟨gb1532, 1, none⟩) (Kd.R_far (p := ⟨gb1532, 0, none⟩) (Kd.R_types HO_1452005.out BK1532.out (by decide)) (fun _ hk => hk.2) (.int .i64 t1517)) (fun _ hk => hk.2) (.int .i64 t1518)) (fun _ hk => hk.2) (.string t1519)) (fun _ hk => hk.2) (.int .i64 t1520)) (fun _ hk => hk.2) (.bool t1521)) (fun _ hk => hk.2) (.slice Ao119 t1522.length co119)) (fun _ hk => hk.2) (.slice Ao120 t1525.length co120)) (fun _ h_ => h_.1))) hb); replace HO_1452006 := am (Kd.R_below (by (with_reducible repeat (first | apply Kd.R_alloc | apply Kd.R_drewN | apply Kd.R_drew)); exact (Kd.R_mono (Kd.R_far (p := ⟨gb1532, 6, none⟩) (Kd.R_far (p := ⟨gb1532, 5, none⟩) (Kd.R_far (p := ⟨gb1532, 4, none⟩) (Kd.R_far (p := ⟨gb1532, 3, none⟩) (Kd.R_far (p := ⟨gb1532, 2, none⟩) (Kd.R_far (p := ⟨gb1532, 1, none⟩) (Kd.R_far (p := ⟨gb1532, 0, none⟩) (Kd.R_types HO_1452006.out BK1532.out (by decide)) (fun _ hk => hk.2) (.int .i64 t1517)) (fun _ hk => hk.2) (.int .i64 t1518)) (fun _ hk => hk.2) (.string t1519)) (fun _ hk => hk.2) (.int .i64 t1520)) (fun _ hk => hk.2) (.bool t1521)) (fun _ hk => hk.2) (.slice Ao119 t1522.length co119)) (fun _ hk => hk.2) (.slice Ao120 t1525.length co120)) (fun _ h_ => h_.1))) hb); replace HO_1464005 := am (Kd.R_below (by (with_reducible repeat (first | apply Kd.R_alloc | apply Kd.R_drewN | apply Kd.R_drew)); exact (Kd.R_mono (Kd.R_far (p := ⟨gb1532, 6, none⟩) (Kd.R_far (p := ⟨gb1532, 5, none⟩) (Kd.R_far (p := ⟨gb1532, 4, none⟩) (Kd.R_far (p := ⟨gb1532, 3, none⟩) (Kd.R_far (p := ⟨gb1532, 2, none⟩) (Kd.R_far (p := ⟨gb1532, 1, none⟩) (Kd.R_far (p := ⟨gb1532, 0, none⟩) (Kd.R_types HO_1464005.out BK1532.out (by decide)) (fun _ hk => hk.2) (.int .i64 t1517)) (fun _ hk => hk.2) (.int .i64 t1518)) (fun _ hk => hk.2) (.string t1519)) (fun _ hk => hk.2) (.int .i64 t1520)) (fun _ hk => hk.2) (.bool t1521)) (fun _ hk => hk.2) (.slice Ao119 t1522.length co119)) (fun _ hk => hk.2) (.slice Ao120 t1525.length co120)) (fun _ h_ => h_.1))) hb); replace HO_1464006 := am (Kd.R_below (by (with_reducible repeat (first | apply Kd.R_alloc | apply Kd.R_drewN | apply Kd.R_drew)); exact (Kd.R_mono (Kd.R_far (p := ⟨gb1532, 6, none⟩) (Kd.R_far (p := ⟨gb1532, 5, none⟩) (Kd.R_far (p := ⟨gb1532, 4, none⟩) (Kd.R_far (p := ⟨gb1532, 3, none⟩) (Kd.R_far (p := ⟨gb1532, 2, none⟩) (Kd.R_far (p := ⟨gb1532, 1, none⟩) (Kd.R_far (p := ⟨gb1532, 0, none⟩) (Kd.R_types HO_1464006.out BK1532.out (by decide)) (fun _ hk => hk.2) (.int .i64 t1517)) (fun _ hk => hk.2) (.int .i64 t1518)) (fun _ hk => hk.2) (.string t1519)) (fun _ hk => hk.2) (.int .i64 t1520)) (fun _ hk => hk.2) (.bool t1521)) (fun _ hk => hk.2) (.slice Ao119 t1522.length co119)) (fun _ hk => hk.2) (.slice Ao120 t1525.length co120)) (fun _ h_ => h_.1))) hb); replace HO_1480005 := am (Kd.R_below (by (with_reducible repeat (first | apply Kd.R_alloc | apply Kd.R_drewN | apply Kd.R_drew)); exact (Kd.R_mono (Kd.R_far (p := ⟨gb1532, 6, none⟩) (Kd.R_far (p := ⟨gb1532, 5, none⟩) (Kd.R_far (p := ⟨gb1532, 4, none⟩) (Kd.R_far (p := ⟨gb1532, 3, none⟩) (Kd.R_far (p := ⟨gb1532, 2, none⟩) (Kd.R_far (p := ⟨gb1532, 1, none⟩) (Kd.R_far (p := ⟨gb1532, 0, none⟩) (Kd.R_types HO_1480005.out BK1532.out (by decide)) (fun _ hk => hk.2) (.int .i64 t1517)) (fun _ hk => hk.2) (.int .i64 t1518)) (fun _ hk => hk.2) (.string t1519)) (fun _ hk => hk.2) (.int .i64 t1520)) (fun _ hk => hk.2) (.bool t1521)) (fun _ hk => hk.2) (.slice Ao119 t1522.length co119)) (fun _ hk => hk.2) (.slice Ao120 t1525.length co120)) (fun _ h_ => h_.1))) hb); replace HO_1480006 := am (Kd.R_below (by (with_reducible repeat (first | apply Kd.R_alloc | apply Kd.R_drewN | apply Kd.R_drew)); exact (Kd.R_mono (Kd.R_far (p := ⟨gb1532, 6, none⟩) (Kd.R_far (p := ⟨gb1532, 5, none⟩) (Kd.R_far (p := ⟨gb1532, 4, none⟩) (Kd.R_far (p := ⟨gb1532, 3, none⟩) (Kd.R_far (p := ⟨gb1532, 2, none⟩) (Kd.R_far (p := ⟨gb1532, 1, none⟩) (Kd.R_far (p := ⟨gb1532, 0, none⟩) (Kd.R_types HO_1480006.out BK1532.out (by decide)) (fun _ hk => hk.2) (.int .i64 t1517)) (fun _ hk => hk.2) (.int .i64 t1518)) (fun _ hk => hk.2) (.string t1519)) (fun _ hk => hk.2) (.int .i64 t1520)) (fun _ hk => hk.2) (.bool t1521)) (fun _ hk => hk.2) (.slice Ao119 t1522.length co119)) (fun _ hk => hk.2) (.slice Ao120 t1525.length co120)) (fun _ h_ => h_.1))) hb); replace HO1513 := am (Kd.R_below (by (with_reducible repeat (first | apply Kd.R_alloc | apply Kd.R_drewN | apply Kd.R_drew)); exact (Kd.R_mono (Kd.R_far (p := ⟨gb1532, 6, none⟩) (Kd.R_far (p := ⟨gb1532, 5, none⟩) (Kd.R_far (p := ⟨gb1532, 4, none⟩) (Kd.R_far (p := ⟨gb1532, 3, none⟩) (Kd.R_far (p := ⟨gb1532, 2, none⟩) (Kd.R_far (p := ⟨gb1532, 1, none⟩) (Kd.R_far (p := ⟨gb1532, 0, none⟩) (Kd.R_types HO1513.out BK1532.out (by decide)) (fun _ hk => hk.2) (.int .i64 t1517)) (fun _ hk => hk.2) (.int .i64 t1518)) (fun _ hk => hk.2) (.string t1519)) (fun _ hk => hk.2) (.int .i64 t1520)) (fun _ hk => hk.2) (.bool t1521)) (fun _ hk => hk.2) (.slice Ao119 t1522.length co119)) (fun _ hk => hk.2) (.slice Ao120 t1525.length co120)) (fun _ h_ => h_.1))) hb); replace HO1516 := am (Kd.R_below (by (with_reducible repeat (first | apply Kd.R_alloc | apply Kd.R_drewN | apply Kd.R_drew)); exact (Kd.R_mono (Kd.R_far (p := ⟨gb1532, 6, none⟩) (Kd.R_far (p := ⟨gb1532, 5, none⟩) (Kd.R_far (p := ⟨gb1532, 4, none⟩) (Kd.R_far (p := ⟨gb1532, 3, none⟩) (Kd.R_far (p := ⟨gb1532, 2, none⟩) (Kd.R_far (p := ⟨gb1532, 1, none⟩) (Kd.R_far (p := ⟨gb1532, 0, none⟩) (Kd.R_types HO1516.out BK1532.out (by decide)) (fun _ hk => hk.2) (.int .i64 t1517)) (fun _ hk => hk.2) (.int .i64 t1518)) (fun _ hk => hk.2) (.string t1519)) (fun _ hk => hk.2) (.int .i64 t1520)) (fun _ hk => hk.2) (.bool t1521)) (fun _ hk => hk.2) (.slice Ao119 t1522.length co119)) (fun _ hk => hk.2) (.slice Ao120 t1525.length co120)) (fun _ h_ => h_.1))) hb); replace HO1524 := am (Kd.R_below (by (with_reducible repeat (first | apply Kd.R_alloc | apply Kd.R_drewN | apply Kd.R_drew)); exact (Kd.R_mono (Kd.R_far (p := ⟨gb1532, 6, none⟩) (Kd.R_far (p := ⟨gb1532, 5, none⟩) (Kd.R_far (p := ⟨gb1532, 4, none⟩) (Kd.R_far (p := ⟨gb1532, 3, none⟩) (Kd.R_far (p := ⟨gb1532, 2, none⟩) (Kd.R_far (p := ⟨gb1532, 1, none⟩) (Kd.R_far (p := ⟨gb1532, 0, none⟩) (Kd.R_types HO1524.out BK1532.out (by decide)) (fun _ hk => hk.2) (.int .i64 t1517)) (fun _ hk => hk.2) (.int .i64 t1518)) (fun _ hk => hk.2) (.string t1519)) (fun _ hk => hk.2) (.int .i64 t1520)) (fun _ hk => hk.2) (.bool t1521)) (fun _ hk => hk.2) (.slice Ao119 t1522.length co119)) (fun _ hk => hk.2) (.slice Ao120 t1525.length co120)) (fun _ h_ => h_.1))) hb); replace HO1527 := am (Kd.R_below (by (with_reducible repeat (first | apply Kd.R_alloc | apply Kd.R_drewN | apply Kd.R_drew)); exact (Kd.R_mono (Kd.R_far (p := ⟨gb1532, 6, none⟩) (Kd.R_far (p := ⟨gb1532, 5, none⟩) (Kd.R_far (p := ⟨gb1532, 4, none⟩) (Kd.R_far (p := ⟨gb1532, 3, none⟩) (Kd.R_far (p := ⟨gb1532, 2, none⟩) (Kd.R_far (p := ⟨gb1532, 1, none⟩) (Kd.R_far (p := ⟨gb1532, 0, none⟩) (Kd.R_types HO1527.out BK1532.out (by decide)) (fun _ hk => hk.2) (.int .i64 t1517)) (fun _ hk => hk.2) (.int .i64 t1518)) (fun _ hk => hk.2) (.string t1519)) (fun _ hk => hk.2) (.int .i64 t1520)) (fun _ hk => hk.2) (.bool t1521)) (fun _ hk => hk.2) (.slice Ao119 t1522.length co119)) (fun _ hk => hk.2) (.slice Ao120 t1525.length co120)) (fun _ h_ => h_.1))) hb); replace HO1530 := am (Kd.R_below (by (with_reducible repeat (first | apply Kd.R_alloc | apply Kd.R_drewN | apply Kd.R_drew)); exact (Kd.R_mono (Kd.R_far (p := ⟨gb1532, 6, none⟩) (Kd.R_far (p := ⟨gb1532, 5, none⟩) (Kd.R_far (p := ⟨gb1532, 4, none⟩) (Kd.R_far (p := ⟨gb1532, 3, none⟩) (Kd.R_far (p := ⟨gb1532, 2, none⟩) (Kd.R_far (p := ⟨gb1532, 1, none⟩) (Kd.R_far (p := ⟨gb1532, 0, none⟩) (Kd.R_types HO1530.out BK1532.out (by decide)) (fun _ hk => hk.2) (.int .i64 t1517)) (fun _ hk => hk.2) (.int .i64 t1518)) (fun _ hk => hk.2) (.string t1519)) (fun _ hk => hk.2) (.int .i64 t1520)) (fun _ hk => hk.2) (.bool t1521)) (fun _ hk => hk.2) (.slice Ao119 t1522.length co119)) (fun _ hk => hk.2) (.slice Ao120 t1525.length co120)) (fun _ h_ => h_.1))) hb); replace BK1423 := am (blk_below (g := gb1423) (o := .cells #[.int .i64 a0_0, .int .i64 a0_1, .string a0_2, .int .i64 a0_3, .bool a0_4, .slice A0_5 l0_5.length c0_5, .slice A0_6 l0_6.length c0_6] 56 (0, 0)) (by (with_reducible repeat (first | refine blk_drewN ?_ _ | refine blk_drew ?_ | refine blk_alloc ?_ _)); refine blk_far ?_ NB1423_1532.out _; (with_reducible repeat (first | refine blk_drewN ?_ _ | refine blk_drew ?_ | refine blk_alloc ?_ _)); refine blk_far ?_ NB1423_1532.out _; (with_reducible repeat (first | refine blk_drewN ?_ _ | refine blk_drew ?_ | refine blk_alloc ?_ _)); refine blk_far ?_ NB1423_1532.out _; (with_reducible repeat (first | refine blk_drewN ?_ _ | refine blk_drew ?_ | refine blk_alloc ?_ _)); refine blk_far ?_ NB1423_1532.out _; (with_reducible repeat (first | refine blk_drewN ?_ _ | refine blk_drew ?_ | refine blk_alloc ?_ _)); refine blk_far ?_ NB1423_1532.out _; (with_reducible repeat (first | refine blk_drewN ?_ _ | refine blk_drew ?_ | refine blk_alloc ?_ _)); refine blk_far ?_ NB1423_1532.out _; (with_reducible repeat (first | refine blk_drewN ?_ _ | refine blk_drew ?_ | refine blk_alloc ?_ _)); refine blk_far ?_ NB1423_1532.out _; exact pkK BK1423.out) hb); replace BK1451 := am (blk_below (g := gb1451) (o := .cells #[.int .i64 t1436, .int .i64 t1437, .string t1438, .int .i64 t1439, .bool t1440, .slice Ao23 t1441.length co23, .slice Ao24 t1444.length co24] 29 (0, 0)) (by (with_reducible repeat (first | refine blk_drewN ?_ _ | refine blk_drew ?_ | refine blk_alloc ?_ _)); refine blk_far ?_ NB1451_1532.out _; (with_reducible repeat (first | refine blk_drewN ?_ _ | refine blk_drew ?_ | refine blk_alloc ?_ _)); refine blk_far ?_ NB1451_1532.out _; (with_reducible repeat (first | refine blk_drewN ?_ _ | refine blk_drew ?_ | refine blk_alloc ?_ _)); refine blk_far ?_ NB1451_1532.out _; (with_reducible repeat (first | refine blk_drewN ?_ _ | refine blk_drew ?_ | refine blk_alloc ?_ _)); refine blk_far ?_ NB1451_1532.out _; (with_reducible repeat (first | refine blk_drewN ?_ _ | refine blk_drew ?_ | refine blk_alloc ?_ _)); refine blk_far ?_ NB1451_1532.out _; (with_reducible repeat (first | refine blk_drewN ?_ _ | refine blk_drew ?_ | refine blk_alloc ?_ _)); refine blk_far ?_ NB1451_1532.out _; (with_reducible repeat (first | refine blk_drewN ?_ _ | refine blk_drew ?_ | refine blk_alloc ?_ _)); refine blk_far ?_ NB1451_1532.out _; exact pkK BK1451.out) hb); replace BK1463 := am (blk_below (g := gb1463) (o := .cells #[.int .i64 t1452, .int .i64 t1453, .string t1454, .int .i64 t1455, .bool t1456, .slice Ao31 t1495.length co31, .slice Ao32 t1496.length co32] 29 (0, 0)) (by (with_reducible repeat (first | refine blk_drewN ?_ _ | refine blk_drew ?_ | refine blk_alloc ?_ _)); refine blk_far ?_ NB1463_1532.out _; (with_reducible repeat (first | refine blk_drewN ?_ _ | refine blk_drew ?_ | refine blk_alloc ?_ _)); refine blk_far ?_ NB1463_1532.out _; (with_reducible repeat (first | refine blk_drewN ?_ _ | refine blk_drew ?_ | refine blk_alloc ?_ _)); refine blk_far ?_ NB1463_1532.out _; (with_reducible repeat (first | refine blk_drewN ?_ _ | refine blk_drew ?_ | refine blk_alloc ?_ _)); refine blk_far ?_ NB1463_1532.out _; (with_reducible repeat (first | refine blk_drewN ?_ _ | refine blk_drew ?_ | refine blk_alloc ?_ _)); refine blk_far ?_ NB1463_1532.out _; (with_reducible repeat (first | refine blk_drewN ?_ _ | refine blk_drew ?_ | refine blk_alloc ?_ _)); refine blk_far ?_ NB1463_1532.out _; (with_reducible repeat (first | refine blk_drewN ?_ _ | refine blk_drew ?_ | refine blk_alloc ?_ _)); refine blk_far ?_ NB1463_1532.out _; exact pkK BK1463.out) hb); replace BK1479 := am (blk_below (g := gb1479) (o := .cells #[.int .i64 t1464, .int .i64 t1465, .string t1466, .int .i64 t1467, .bool t1468, .slice Ao39 t1469.length co39, .slice Ao40 t1472.length co40] 29 (0, 0)) (by (with_reducible repeat (first | refine blk_drewN ?_ _ | refine blk_drew ?_ | refine blk_alloc ?_ _)); refine blk_far ?_ NB1479_1532.out _; (with_reducible repeat (first | refine blk_drewN ?_ _ | refine blk_drew ?_ | refine blk_alloc ?_ _)); refine blk_far ?_ NB1479_1532.out _; (with_reducible repeat (first | refine blk_drewN ?_ _ | refine blk_drew ?_ | refine blk_alloc ?_ _)); refine blk_far ?_ NB1479_1532.out _; (with_reducible repeat (first | refine blk_drewN ?_ _ | refine blk_drew ?_ | refine blk_alloc ?_ _)); refine blk_far ?_ NB1479_1532.out _; (with_reducible repeat (first | refine blk_drewN ?_ _ | refine blk_drew ?_ | refine blk_alloc ?_ _)); refine blk_far ?_ NB1479_1532.out _; (with_reducible repeat (first | refine blk_drewN ?_ _ | refine blk_drew ?_ | refine blk_alloc ?_ _)); refine blk_far ?_ NB1479_1532.out _; (with_reducible repeat (first | refine blk_drewN ?_ _ | refine blk_drew ?_ | refine blk_alloc ?_ _)); refine blk_far ?_ NB1479_1532.out _; exact pkK BK1479.out) hb); replace BK1532 := am (blk_below (g := gb1532) (o := .cells #[.int .i64 t1517, .int .i64 t1518, .string t1519, .int .i64 t1520, .bool t1521, .slice Ao119 t1522.length co119, .slice Ao120 t1525.length co120] 29 (0, 0)) (by (with_reducible repeat (first | refine blk_drewN ?_ _ | refine blk_drew ?_ | refine blk_alloc ?_ _)); refine blk_put (cs := #[.int .i64 t1517, .int .i64 t1518, .string t1519, .int .i64 t1520, .bool t1521, .slice Ao119 t1522.length co119, .slice none 0 0]) ?_ 6 _ rfl; (with_reducible repeat (first | refine blk_drewN ?_ _ | refine blk_drew ?_ | refine blk_alloc ?_ _)); refine blk_put (cs := #[.int .i64 t1517, .int .i64 t1518, .string t1519, .int .i64 t1520, .bool t1521, .slice none 0 0, .slice none 0 0]) ?_ 5 _ rfl; (with_reducible repeat (first | refine blk_drewN ?_ _ | refine blk_drew ?_ | refine blk_alloc ?_ _)); refine blk_put (cs := #[.int .i64 t1517, .int .i64 t1518, .string t1519, .int .i64 t1520, .bool false, .slice none 0 0, .slice none 0 0]) ?_ 4 _ rfl; (with_reducible repeat (first | refine blk_drewN ?_ _ | refine blk_drew ?_ | refine blk_alloc ?_ _)); refine blk_put (cs := #[.int .i64 t1517, .int .i64 t1518, .string t1519, .int .i64 0, .bool false, .slice none 0 0, .slice none 0 0]) ?_ 3 _ rfl; (with_reducible repeat (first | refine blk_drewN ?_ _ | refine blk_drew ?_ | refine blk_alloc ?_ _)); refine blk_put (cs := #[.int .i64 t1517, .int .i64 t1518, .string (⟨#[]⟩ : ByteArray), .int .i64 0, .bool false, .slice none 0 0, .slice none 0 0]) ?_ 2 _ rfl; (with_reducible repeat (first | refine blk_drewN ?_ _ | refine blk_drew ?_ | refine blk_alloc ?_ _)); refine blk_put (cs := #[.int .i64 t1517, .int .i64 0, .string (⟨#[]⟩ : ByteArray), .int .i64 0, .bool false, .slice none 0 0, .slice none 0 0]) ?_ 1 _ rfl; (with_reducible repeat (first | refine blk_drewN ?_ _ | refine blk_drew ?_ | refine blk_alloc ?_ _)); refine blk_put (cs := #[.int .i64 0, .int .i64 0, .string (⟨#[]⟩ : ByteArray), .int .i64 0, .bool false, .slice none 0 0, .slice none 0 0]) ?_ 0 _ rfl; exact pkK BK1532.out) hb); replace HB := am (below_step (pkW HB.out) hb); (try clear hb); obtain ⟨Ao135, co135, eo135⟩ := Kd.R_slice HO1530.out; subst eo135; obtain ⟨Ao136, co136, eo136⟩ := Kd.R_slice HO_5.out; subst eo136) | (go_at_call 44; (with_reducible refine (laws_eqIntS.calls kj59 _ _ t1528 _ _ t1447 true _ ?side1 ?side2 ?side3 ?side4 A123.out).mono ?_); (case side1 => exact pkC (Kd.R_reads' HO1530.out).2.2); (case side2 => exact (Kd.R_reads' HO1530.out).2.1); (case side3 => exact pkC (Kd.R_reads' HO_5.out).2.2); (case side4 => exact (Kd.R_reads' HO_5.out).2.1); rintro e w' ⟨rfl, ⟨nd, rfl⟩⟩))
               go_meet
               case rel => exact ⟨_, ((t1531 != t1450)), rfx, H', ⟨by have := HJ10.out; have := HJ59.out; first | omega | exact Nat.le_refl _⟩, ⟨by (try simp only [hl1464005_59]); (try simp only [hl1464006_59]); (with_reducible repeat (first | apply Kd.R_alloc | apply Kd.R_drewN | apply Kd.R_drew)); exact Kd.R_mono HO_9.out (fun _ hk => ⟨hk.1.1.1.1.1.2.1, ⟨hk.1.1.1.1.1.2.2.1, ⟨hk.1.1.1.1.1.2.2.2.1, ⟨hk.1.1.1.1.1.2.2.2.2.1, ⟨hk.1.1.1.1.1.2.2.2.2.2.1, ⟨hk.1.1.1.1.1.2.2.2.2.2.2, ⟨hk.1.1.2, hk.1.2⟩⟩⟩⟩⟩⟩⟩)⟩, ⟨by (try simp only [hl1464005_59]); (try simp only [hl1464006_59]); (with_reducible repeat (first | apply Kd.R_alloc | apply Kd.R_drewN | apply Kd.R_drew)); exact Kd.R_mono HO_1452005.out (fun _ hk => ⟨hk.1.1.1.1.1.2.1, ⟨hk.1.1.1.1.1.2.2.1, ⟨hk.1.1.1.1.1.2.2.2.1, ⟨hk.1.1.1.1.1.2.2.2.2.1, ⟨hk.1.1.1.1.1.2.2.2.2.2.1, ⟨hk.1.1.1.1.1.2.2.2.2.2.2, ⟨hk.1.1.2, hk.1.2⟩⟩⟩⟩⟩⟩⟩)⟩, ⟨by (try simp only [hl1464005_59]); (try simp only [hl1464006_59]); (with_reducible repeat (first | apply Kd.R_alloc | apply Kd.R_drewN | apply Kd.R_drew)); exact Kd.R_mono HO_1452006.out (fun _ hk => ⟨hk.1.1.1.1.1.2.1, ⟨hk.1.1.1.1.1.2.2.1, ⟨hk.1.1.1.1.1.2.2.2.1, ⟨hk.1.1.1.1.1.2.2.2.2.1, ⟨hk.1.1.1.1.1.2.2.2.2.2.1, ⟨hk.1.1.1.1.1.2.2.2.2.2.2, ⟨hk.1.1.2, hk.1.2⟩⟩⟩⟩⟩⟩⟩)⟩, ⟨by (try simp only [hl1464005_59]); (try simp only [hl1464006_59]); (with_reducible repeat (first | apply Kd.R_alloc | apply Kd.R_drewN | apply Kd.R_drew)); exact Kd.R_mono HO_1464005.out (fun _ hk => ⟨hk.1.1.1.1.1.2.1, ⟨hk.1.1.1.1.1.2.2.1, ⟨hk.1.1.1.1.1.2.2.2.1, ⟨hk.1.1.1.1.1.2.2.2.2.1, ⟨hk.1.1.1.1.1.2.2.2.2.2.1, ⟨hk.1.1.1.1.1.2.2.2.2.2.2, ⟨hk.1.1.2, hk.1.2⟩⟩⟩⟩⟩⟩⟩)⟩, ⟨by (try simp only [hl1464005_59]); (try simp only [hl1464006_59]); (with_reducible repeat (first | apply Kd.R_alloc | apply Kd.R_drewN | apply Kd.R_drew)); exact Kd.R_mono HO_1464006.out (fun _ hk => ⟨hk.1.1.1.1.1.2.1, ⟨hk.1.1.1.1.1.2.2.1, ⟨hk.1.1.1.1.1.2.2.2.1, ⟨hk.1.1.1.1.1.2.2.2.2.1, ⟨hk.1.1.1.1.1.2.2.2.2.2.1, ⟨hk.1.1.1.1.1.2.2.2.2.2.2, ⟨hk.1.1.2, hk.1.2⟩⟩⟩⟩⟩⟩⟩)⟩, ⟨by (try simp only [hl1464005_59]); (try simp only [hl1464006_59]); (with_reducible repeat (first | apply Kd.R_alloc | apply Kd.R_drewN | apply Kd.R_drew)); exact Kd.R_mono HO_1480005.out (fun _ hk => ⟨hk.1.1.1.1.1.2.1, ⟨hk.1.1.1.1.1.2.2.1, ⟨hk.1.1.1.1.1.2.2.2.1, ⟨hk.1.1.1.1.1.2.2.2.2.1, ⟨hk.1.1.1.1.1.2.2.2.2.2.1, ⟨hk.1.1.1.1.1.2.2.2.2.2.2, ⟨hk.1.1.2, hk.1.2⟩⟩⟩⟩⟩⟩⟩)⟩, ⟨by (try simp only [hl1464005_59]); (try simp only [hl1464006_59]); (with_reducible repeat (first | apply Kd.R_alloc | apply Kd.R_drewN | apply Kd.R_drew)); exact Kd.R_mono HO_1480006.out (fun _ hk => ⟨hk.1.1.1.1.1.2.1, ⟨hk.1.1.1.1.1.2.2.1, ⟨hk.1.1.1.1.1.2.2.2.1, ⟨hk.1.1.1.1.1.2.2.2.2.1, ⟨hk.1.1.1.1.1.2.2.2.2.2.1, ⟨hk.1.1.1.1.1.2.2.2.2.2.2, ⟨hk.1.1.2, hk.1.2⟩⟩⟩⟩⟩⟩⟩)⟩, ⟨by (try simp only [hl1464005_59]); (try simp only [hl1464006_59]); (with_reducible repeat (first | apply Kd.R_alloc | apply Kd.R_drewN | apply Kd.R_drew)); exact Kd.R_mono HO1524.out (fun _ hk => ⟨hk.1.1.1.1.1.1.1.1.2, ⟨hk.1.1.1.1.1.1.1.2, ⟨hk.1.1.1.1.1.1.2, ⟨hk.1.1.1.1.1.2, ⟨hk.1.1.1.1.2, ⟨hk.1.1.1.2, ⟨hk.1.1.2, hk.1.1.1.1.1.1.1.1.1.1.1⟩⟩⟩⟩⟩⟩⟩)⟩, ⟨by (try simp only [hl1464005_59]); (try simp only [hl1464006_59]); (with_reducible repeat (first | apply Kd.R_alloc | apply Kd.R_drewN | apply Kd.R_drew)); exact Kd.R_mono HO1527.out (fun _ hk => ⟨hk.1.1.1.1.1.1.1.1.2, ⟨hk.1.1.1.1.1.1.1.2, ⟨hk.1.1.1.1.1.1.2, ⟨hk.1.1.1.1.1.2, ⟨hk.1.1.1.1.2, ⟨hk.1.1.1.2, ⟨hk.1.1.2, hk.1.1.1.1.1.1.1.1.1.1.1⟩⟩⟩⟩⟩⟩⟩)⟩, ⟨by (try simp only [hl1464005_59]); (try simp only [hl1464006_59]); exact pkK BK1423.out⟩, ⟨by (try simp only [hl1464005_59]); (try simp only [hl1464006_59]); exact pkK BK1451.out⟩, ⟨by (try simp only [hl1464005_59]); (try simp only [hl1464006_59]); exact pkK BK1463.out⟩, ⟨by (try simp only [hl1464005_59]); (try simp only [hl1464006_59]); exact pkK BK1479.out⟩, ⟨by (try simp only [hl1464005_59]); (try simp only [hl1464006_59]); exact pkK BK1532.out⟩, ⟨pkW HB.out⟩⟩
              ·replace c124 := Bool.eq_false_iff.mpr c124
               subst c124
               replace H : (laws_FnExactShut.j2 kj59 t1503 t1502 true t1464 t1465 t1466 t1467 t1468 t1500 t1501) = some r := by rw [if_neg (show ¬ (false = true) by decide)] at H; exact H
               cases kj59 with
               | zero => exact absurd H (by simp [laws_FnExactShut.j2])
               | succ k_ => (simp only [laws_FnExactShut.j2, if_pos] at H; exact absurd (Option.some.inj H) (by rw [HQ_.out]; simp))
             ·replace c122 := Bool.eq_false_iff.mpr c122
              subst c122
              replace H : (laws_FnExactShut.j2 kj59 t1503 t1502 true t1464 t1465 t1466 t1467 t1468 t1500 t1501) = some r := by rw [if_neg (show ¬ (false = true) by decide)] at H; exact H
              cases kj59 with
              | zero => exact absurd H (by simp [laws_FnExactShut.j2])
              | succ k_ => (simp only [laws_FnExactShut.j2, if_pos] at H; exact absurd (Option.some.inj H) (by rw [HQ_.out]; simp))
            case rest =>
             clear HC96
             try clear c1
             try clear c2
             try clear p2
             try clear c3
             try clear c3b0
             try clear c4
             try clear c5
             try clear c6
             try clear c7
             try clear c8
             try clear c9
             try clear c10
             try clear c11
             try clear c12
             try clear c13
             try clear c14
             try clear c21
             try clear c28
             try clear c29
             try clear c31
             try clear c32
             try clear c34
             try clear c35
             try clear c36
             try clear c37
             try clear c42
             try clear c44
             try clear c45
             try clear c46
             try clear c47
             try clear c48
             try clear c49
             try clear c50
             try clear c52
             try clear c53
             try clear c55
             try clear c58
             try clear c66
             try clear c67
             try clear c68
             try clear c71
             try clear c71b0
             try clear c73
             try clear c75
             try clear c76
             try clear c77
             try clear c78
             try clear c80
             try clear c81
             try clear c86
             try clear c90
             try clear c90b0
             try clear c92
             try clear c92b0
             try clear c93
             try clear c93b0
             try clear c93b1
             try clear c97
             try clear c98
             try clear c99
             try clear c106
             try clear c107
             try clear c114
             try clear c115
             try clear c116
             try clear c117
             try clear c122
             try clear c124
             try clear c125
             try clear c126
             try clear c127
             try clear c128
             try clear c130
             try clear c131
             try clear c132
             try clear hcz100_0
             try clear hcz100_1
             try clear hcz100_2
             try clear hcz100_3
             try clear hcz100_4
             try clear hcz100_5
             try clear hcz100_6
             try clear hcz104_0
             try clear hcz104_1
             try clear hcz104_2
             try clear hcz104_3
             try clear hcz104_4
             try clear hcz104_5
             try clear hcz104_6
             try clear hcz108_0
             try clear hcz108_1
             try clear hcz108_2
             try clear hcz108_3
             try clear hcz108_4
             try clear hcz108_5
             try clear hcz108_6
             try clear hcz118_0
             try clear hcz118_1
             try clear hcz118_2
             try clear hcz118_3
             try clear hcz118_4
             try clear hcz118_5
             try clear hcz118_6
             try clear hcz129_0
             try clear hcz129_1
             try clear hcz129_2
             try clear hcz129_3
             try clear hcz129_4
             try clear hcz129_5
             try clear hcz129_6
             try clear hcz133_0
             try clear hcz133_1
             try clear hcz133_2
             try clear hcz133_3
             try clear hcz133_4
             try clear hcz133_5
             try clear hcz133_6
             try clear hcz13_0
             try clear hcz13_1
             try clear hcz13_2
             try clear hcz13_3
             try clear hcz13_4
             try clear hcz13_5
             try clear hcz13_6
             try clear hcz15_0
             try clear hcz15_1
             try clear hcz15_2
             try clear hcz15_3
             try clear hcz15_4
             try clear hcz15_5
             try clear hcz15_6
             try clear hcz22_0
             try clear hcz22_1
             try clear hcz22_2
             try clear hcz22_3
             try clear hcz22_4
             try clear hcz22_5
             try clear hcz22_6
             try clear hcz25_0
             try clear hcz25_1
             try clear hcz25_2
             try clear hcz25_3
             try clear hcz25_4
             try clear hcz25_5
             try clear hcz25_6
             try clear hcz30_0
             try clear hcz30_1
             try clear hcz30_2
             try clear hcz30_3
             try clear hcz30_4
             try clear hcz30_5
             try clear hcz30_6
             try clear hcz38_0
             try clear hcz38_1
             try clear hcz38_2
             try clear hcz38_3
             try clear hcz38_4
             try clear hcz38_5
             try clear hcz38_6
             try clear hcz48_0
             try clear hcz48_1
             try clear hcz48_2
             try clear hcz48_3
             try clear hcz48_4
             try clear hcz48_5
             try clear hcz48_6
             try clear hcz51_0
             try clear hcz51_1
             try clear hcz51_2
             try clear hcz51_3
             try clear hcz51_4
             try clear hcz51_5
             try clear hcz51_6
             try clear hcz5_0
             try clear hcz5_1
             try clear hcz5_2
             try clear hcz5_3
             try clear hcz5_4
             try clear hcz5_5
             try clear hcz5_6
             try clear hcz69_0
             try clear hcz69_1
             try clear hcz69_2
             try clear hcz69_3
             try clear hcz69_4
             try clear hcz69_5
             try clear hcz69_6
             try clear hcz79_0
             try clear hcz79_1
             try clear hcz79_2
             try clear hcz79_3
             try clear hcz79_4
             try clear hcz79_5
             try clear hcz79_6
             try clear hcz82_0
             try clear hcz82_1
             try clear hcz82_2
             try clear hcz82_3
             try clear hcz82_4
             try clear hcz82_5
             try clear hcz82_6
             try clear hfz100_0
             try clear hfz100_1
             try clear hfz100_2
             try clear hfz100_3
             try clear hfz100_4
             try clear hfz100_5
             try clear hfz100_6
             try clear hfz104_0
             try clear hfz104_1
             try clear hfz104_2
             try clear hfz104_3
             try clear hfz104_4
             try clear hfz104_5
             try clear hfz104_6
             try clear hfz108_0
             try clear hfz108_1
             try clear hfz108_2
             try clear hfz108_3
             try clear hfz108_4
             try clear hfz108_5
             try clear hfz108_6
             try clear hfz118_0
             try clear hfz118_1
             try clear hfz118_2
             try clear hfz118_3
             try clear hfz118_4
             try clear hfz118_5
             try clear hfz118_6
             try clear hfz129_0
             try clear hfz129_1
             try clear hfz129_2
             try clear hfz129_3
             try clear hfz129_4
             try clear hfz129_5
             try clear hfz129_6
             try clear hfz133_0
             try clear hfz133_1
             try clear hfz133_2
             try clear hfz133_3
             try clear hfz133_4
             try clear hfz133_5
             try clear hfz133_6
             try clear hfz13_0
             try clear hfz13_1
             try clear hfz13_2
             try clear hfz13_3
             try clear hfz13_4
             try clear hfz13_5
             try clear hfz13_6
             try clear hfz15_0
             try clear hfz15_1
             try clear hfz15_2
             try clear hfz15_3
             try clear hfz15_4
             try clear hfz15_5
             try clear hfz15_6
             try clear hfz22_0
             try clear hfz22_1
             try clear hfz22_2
             try clear hfz22_3
             try clear hfz22_4
             try clear hfz22_5
             try clear hfz22_6
             try clear hfz25_0
             try clear hfz25_1
             try clear hfz25_2
             try clear hfz25_3
             try clear hfz25_4
             try clear hfz25_5
             try clear hfz25_6
             try clear hfz30_0
             try clear hfz30_1
             try clear hfz30_2
             try clear hfz30_3
             try clear hfz30_4
             try clear hfz30_5
             try clear hfz30_6
             try clear hfz38_0
             try clear hfz38_1
             try clear hfz38_2
             try clear hfz38_3
             try clear hfz38_4
             try clear hfz38_5
             try clear hfz38_6
             try clear hfz48_0
             try clear hfz48_1
             try clear hfz48_2
             try clear hfz48_3
             try clear hfz48_4
             try clear hfz48_5
             try clear hfz48_6
             try clear hfz51_0
             try clear hfz51_1
             try clear hfz51_2
             try clear hfz51_3
             try clear hfz51_4
             try clear hfz51_5
             try clear hfz51_6
             try clear hfz5_0
             try clear hfz5_1
             try clear hfz5_2
             try clear hfz5_3
             try clear hfz5_4
             try clear hfz5_5
             try clear hfz5_6
             try clear hfz69_0
             try clear hfz69_1
             try clear hfz69_2
             try clear hfz69_3
             try clear hfz69_4
             try clear hfz69_5
             try clear hfz69_6
             try clear hfz79_0
             try clear hfz79_1
             try clear hfz79_2
             try clear hfz79_3
             try clear hfz79_4
             try clear hfz79_5
             try clear hfz79_6
             try clear hfz82_0
             try clear hfz82_1
             try clear hfz82_2
             try clear hfz82_3
             try clear hfz82_4
             try clear hfz82_5
             try clear hfz82_6
             try clear p2
             obtain ⟨kq, x119_95, rfl, HA, HJ95, HO_9, HO_1452005, HO_1452006, HO_1464005, HO_1464006, HO_1480005, HO_1480006, HO_1533005, HO_1533006, BK1423, BK1451, BK1463, BK1479, BK1532, HB⟩ := hcut
             have hl9_95 := (Kd.R_reads' HO_9.out).1
             rw [hl9_95] at HO_9
             (try simp only [hl9_95])
             (try simp only [hl9_95] at BK1423)
             (try simp only [hl9_95] at BK1451)
             (try simp only [hl9_95] at BK1463)
             (try simp only [hl9_95] at BK1479)
             (try simp only [hl9_95] at BK1532)
             (try simp only [hl9_95] at HO_1452005)
             (try simp only [hl9_95] at HO_1452006)
             (try simp only [hl9_95] at HO_1464005)
             (try simp only [hl9_95] at HO_1464006)
             (try simp only [hl9_95] at HO_1480005)
             (try simp only [hl9_95] at HO_1480006)
             (try simp only [hl9_95] at HO_1533005)
             (try simp only [hl9_95] at HO_1533006)
             have hl1480005_95 := (Kd.R_reads' HO_1480005.out).1
             rw [hl1480005_95] at HO_1480005
             (try simp only [hl1480005_95])
             (try simp only [hl1480005_95] at BK1423)
             (try simp only [hl1480005_95] at BK1451)
             (try simp only [hl1480005_95] at BK1463)
             (try simp only [hl1480005_95] at BK1479)
             (try simp only [hl1480005_95] at BK1532)
             (try simp only [hl1480005_95] at HO_9)
             (try simp only [hl1480005_95] at HO_1452005)
             (try simp only [hl1480005_95] at HO_1452006)
             (try simp only [hl1480005_95] at HO_1464005)
             (try simp only [hl1480005_95] at HO_1464006)
             (try simp only [hl1480005_95] at HO_1480006)
             (try simp only [hl1480005_95] at HO_1533005)
             (try simp only [hl1480005_95] at HO_1533006)
             have hl1480006_95 := (Kd.R_reads' HO_1480006.out).1
             rw [hl1480006_95] at HO_1480006
             (try simp only [hl1480006_95])
             (try simp only [hl1480006_95] at BK1423)
             (try simp only [hl1480006_95] at BK1451)
             (try simp only [hl1480006_95] at BK1463)
             (try simp only [hl1480006_95] at BK1479)
             (try simp only [hl1480006_95] at BK1532)
             (try simp only [hl1480006_95] at HO_9)
             (try simp only [hl1480006_95] at HO_1452005)
             (try simp only [hl1480006_95] at HO_1452006)
             (try simp only [hl1480006_95] at HO_1464005)
             (try simp only [hl1480006_95] at HO_1464006)
             (try simp only [hl1480006_95] at HO_1480005)
             (try simp only [hl1480006_95] at HO_1533005)
             (try simp only [hl1480006_95] at HO_1533006)
             cases kq with
             | zero => exact absurd HA.out (by simp [laws_FnExactShut.j2])
             | succ kj95 =>
              have H := HA.out
              clear HA
              simp only [laws_FnExactShut.j2] at H
              by_cases c137 : x119_95 = true
              ·subst c137
               replace H : (some false) = some r := by rw [if_pos rfl] at H; exact H
               exact absurd (Option.some.inj H) (by rw [HQ_.out]; simp)
              ·replace c137 := Bool.eq_false_iff.mpr c137
               subst c137
               replace H : ((laws_heldCell.f kj95 t1464 t1465 t1466 t1467 t1468 t1500 t1501 1).bind fun t1535 => (if t1535 < 0 then (some false) else ((laws_heldIntS.f kj95 t1503 t1535).bind fun t1536 => (if t1536 < 0 then (some false) else (if t1536 = t1502 then (some true) else (some false)))))) = some r := by rw [if_neg (show ¬ (false = true) by decide)] at H; exact H
               replace H := Option.bind_eq_some_iff.mp H
               obtain ⟨t1535, A1380, H⟩ := H
               replace H : (if t1535 < 0 then (some false) else ((laws_heldIntS.f kj95 t1503 t1535).bind fun t1536 => (if t1536 < 0 then (some false) else (if t1536 = t1502 then (some true) else (some false))))) = some r := H
               have A138 := am A1380
               clear A1380
               by_cases c139 : t1535 < 0
               ·rw [if_pos c139] at H
                have c139b0 : decide (t1535 < 0) = true := decide_eq_true c139
                clear c139
                exact absurd (Option.some.inj H) (by rw [HQ_.out]; simp)
               ·rw [if_neg c139] at H
                have c139b0 : decide (t1535 < 0) = false := decide_eq_false c139
                clear c139
                replace H := Option.bind_eq_some_iff.mp H
                obtain ⟨t1536, A1400, H⟩ := H
                replace H : (if t1536 < 0 then (some false) else (if t1536 = t1502 then (some true) else (some false))) = some r := H
                have A140 := am A1400
                clear A1400
                by_cases c141 : t1536 < 0
                ·rw [if_pos c141] at H
                 have c141b0 : decide (t1536 < 0) = true := decide_eq_true c141
                 clear c141
                 exact absurd (Option.some.inj H) (by rw [HQ_.out]; simp)
                ·rw [if_neg c141] at H
                 have c141b0 : decide (t1536 < 0) = false := decide_eq_false c141
                 clear c141
                 by_cases c142 : t1536 = t1502
                 ·rw [if_pos c142] at H
                  have c142b0 : (t1536 == t1502) = true := beq_iff_eq.mpr c142
                  have c142b1 : (t1536 != t1502) = false := bne_eq_false_iff_eq.mpr c142
                  clear c142
                  obtain rfl := Option.some.inj H
                  have hnb143 := NB1479_1423.out
                  have hnc143 := NB1423_1479.out
                  have hnb144 := NB1479_1451.out
                  have hnc144 := NB1451_1479.out
                  have hnb145 := NB1479_1463.out
                  have hnc145 := NB1463_1479.out
                  have hnb146 := NB1479_1532.out
                  have hnc146 := NB1532_1479.out
                  obtain ⟨hcz147_0, hcz147_1, hcz147_2, hcz147_3, hcz147_4, hcz147_5, hcz147_6, hfz147_0, hfz147_1, hfz147_2, hfz147_3, hfz147_4, hfz147_5, hfz147_6⟩ := bk7 BK1479.out
                  go_wp2_with (first | ((with_reducible refine gate_callee (f := 49) rfl ?_); refine goesL_ (some 122) rfl rfl Try.func49 (by kernel_rfl) rfl #[.agg #[.int .i64 t1464, .int .i64 t1465, .string t1466, .int .i64 t1467, .bool t1468, .slice Ao39 t1500.length co39, .slice Ao40 t1501.length co40], .int .i64 1] rfl mpx ?_; (with_reducible refine (laws_heldCell.calls kj95 t1464 t1465 t1466 t1467 t1468 _ _ t1500 _ _ t1501 1 t1535 _ ?side1 ?side2 ?side3 ?side4 A138.out).mono ?_); (case side1 => exact pkC (Kd.R_reads' HO_1480005.out).2.2); (case side2 => exact (Kd.R_reads' HO_1480005.out).2.1); (case side3 => exact pkC (Kd.R_reads' HO_1480006.out).2.2); (case side4 => exact (Kd.R_reads' HO_1480006.out).2.1); rintro e w148 ⟨rfl, hb⟩; refine ⟨_, rfl, ?_⟩; replace HO_9 := am (Kd.R_below (pkR HO_9.out) hb); replace HO_1452005 := am (Kd.R_below (pkR HO_1452005.out) hb); replace HO_1452006 := am (Kd.R_below (pkR HO_1452006.out) hb); replace HO_1464005 := am (Kd.R_below (pkR HO_1464005.out) hb); replace HO_1464006 := am (Kd.R_below (pkR HO_1464006.out) hb); replace HO_1480005 := am (Kd.R_below (pkR HO_1480005.out) hb); replace HO_1480006 := am (Kd.R_below (pkR HO_1480006.out) hb); replace HO_1533005 := am (Kd.R_below (pkR HO_1533005.out) hb); replace HO_1533006 := am (Kd.R_below (pkR HO_1533006.out) hb); replace BK1423 := am (blk_below (pkK BK1423.out) hb); replace BK1451 := am (blk_below (pkK BK1451.out) hb); replace BK1463 := am (blk_below (pkK BK1463.out) hb); replace BK1479 := am (blk_below (pkK BK1479.out) hb); replace BK1532 := am (blk_below (pkK BK1532.out) hb); replace HB := am (below_step (pkW HB.out) hb); (try clear hb)) | ((with_reducible refine gate_callee (f := 46) rfl ?_); refine goesL_ (some 127) rfl rfl Try.func46 (by kernel_rfl) rfl #[.slice Ao102 t1503.length co102, .int .i64 t1535] rfl mpx ?_; (with_reducible refine (laws_heldIntS.calls kj95 _ _ t1503 t1535 t1536 _ ?side1 ?side2 A140.out).mono ?_); (case side1 => exact pkC (Kd.R_reads' HO_9.out).2.2); (case side2 => exact (Kd.R_reads' HO_9.out).2.1); rintro e w' ⟨rfl, ⟨nd, rfl⟩⟩; refine ⟨_, rfl, ?_⟩))
                  go_ret
                  exact ⟨rfe, pkW HB.out⟩
                 ·rw [if_neg c142] at H
                  have c142b0 : (t1536 == t1502) = false := beq_eq_false_iff_ne.mpr c142
                  have c142b1 : (t1536 != t1502) = true := bne_iff_ne.mpr c142
                  exact absurd (Option.some.inj H) (by rw [HQ_.out]; simp)
           ·rw [if_neg c93] at H
            have c93b0 : (t1505 == t1502) = false := beq_eq_false_iff_ne.mpr c93
            have c93b1 : (t1505 != t1502) = true := bne_iff_ne.mpr c93
            exact absurd (Option.some.inj H) (by rw [HQ_.out]; simp)
     ·replace c58 := Bool.eq_false_iff.mpr c58
      subst c58
      replace H : (some false) = some r := by rw [if_neg (show ¬ (false = true) by decide)] at H; exact H
      exact absurd (Option.some.inj H) (by rw [HQ_.out]; simp)
end Go.Proofs.Ytffcphplnilokaa.Z
