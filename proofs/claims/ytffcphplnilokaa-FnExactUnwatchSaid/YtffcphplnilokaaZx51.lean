import Derived.Test.YtffcphplnilokaaZx0
import Derived.Test.YtffcphplnilokaaZx25
import Derived.Test.YtffcphplnilokaaZx26
import Derived.Test.YtffcphplnilokaaZx27
import Derived.Test.YtffcphplnilokaaZx39
import Derived.Test.YtffcphplnilokaaZx40
import Derived.Test.YtffcphplnilokaaZx41
namespace Go.Proofs.Ytffcphplnilokaa.Z
open Go.RowKit Go.Proofs.YtffcphplnilokaaW.PrintWords Go.Proofs.YtffcphplnilokaaW.PrintLast Go.Proofs.YtffcphplnilokaaW.PrintMore
attribute [local go_sem] max2_int min2_int max_two min_two max_three min_three max_four min_four   -- for this text's walks alone
set_option linter.unusedVariables false
set_option linter.unusedSimpArgs false
mutual
def laws_FnExactUnwatch.j0 : Nat → Int → Int → Int → Bool → Int → Int → ByteArray → Int → Bool → List Int → List Int → Int → Int → ByteArray → Int → Bool → List Int → List Int → Int → Int → ByteArray → Int → Bool → List Int → List Int → Int → Int → ByteArray → Int → Bool → List Int → List Int → Option (Bool)
  | 0, _, _, _, _, _, _, _, _, _, _, _, _, _, _, _, _, _, _, _, _, _, _, _, _, _, _, _, _, _, _, _, _ => none
  | k + 1, x1, x7, x10, x44, x1053000, x1053001, x1053002, x1053003, x1053004, x1053005, x1053006, x1078000, x1078001, x1078002, x1078003, x1078004, x1078005, x1078006, x1090000, x1090001, x1090002, x1090003, x1090004, x1090005, x1090006, x1103000, x1103001, x1103002, x1103003, x1103004, x1103005, x1103006 => if x44 = true then (some false) else ((laws_toCell.f k x1053000 x1053001 x1053002 x1053003 x1053004 x1053005 x1053006).bind fun bt1104 => ((laws_eqCell.f k x1090000 x1090001 x1090002 x1090003 x1090004 x1090005 x1090006 bt1104.1 bt1104.2.1 bt1104.2.2.1 bt1104.2.2.2.1 bt1104.2.2.2.2.1 bt1104.2.2.2.2.2.1 bt1104.2.2.2.2.2.2).bind fun t1115 => (if t1115 = true then ((laws_markCell.f k x1090000 x1090001 x1090002 x1090003 x1090004 x1090005 x1090006 1).bind fun bt1116 => (if bt1116.1 < 0 then (laws_FnExactUnwatch.j1 k x1 x7 true x1053000 x1053001 x1053002 x1053003 x1053004 x1053005 x1053006 x1078000 x1078001 x1078002 x1078003 x1078004 x1078005 x1078006 x1103000 x1103001 x1103002 x1103003 x1103004 x1103005 x1103006) else ((laws_eqCell.f k x1103000 x1103001 x1103002 x1103003 x1103004 x1103005 x1103006 x1078000 x1078001 x1078002 x1078003 x1078004 x1078005 x1078006).bind fun t1119 => (if t1119 = true then (laws_FnExactUnwatch.j1 k x1 x7 (x10 != x7) x1053000 x1053001 x1053002 x1053003 x1053004 x1053005 x1053006 x1078000 x1078001 x1078002 x1078003 x1078004 x1078005 x1078006 x1103000 x1103001 x1103002 x1103003 x1103004 x1103005 x1103006) else (laws_FnExactUnwatch.j1 k x1 x7 true x1053000 x1053001 x1053002 x1053003 x1053004 x1053005 x1053006 x1078000 x1078001 x1078002 x1078003 x1078004 x1078005 x1078006 x1103000 x1103001 x1103002 x1103003 x1103004 x1103005 x1103006))))) else (some false))))
def laws_FnExactUnwatch.j1 : Nat → Int → Int → Bool → Int → Int → ByteArray → Int → Bool → List Int → List Int → Int → Int → ByteArray → Int → Bool → List Int → List Int → Int → Int → ByteArray → Int → Bool → List Int → List Int → Option (Bool)
  | 0, _, _, _, _, _, _, _, _, _, _, _, _, _, _, _, _, _, _, _, _, _, _, _, _ => none
  | k + 1, x1, x7, x65, x1053000, x1053001, x1053002, x1053003, x1053004, x1053005, x1053006, x1078000, x1078001, x1078002, x1078003, x1078004, x1078005, x1078006, x1103000, x1103001, x1103002, x1103003, x1103004, x1103005, x1103006 => if x65 = true then (some false) else ((laws_markCell.f k x1103000 x1103001 x1103002 x1103003 x1103004 x1103005 x1103006 1).bind fun bt1120 => ((laws_heldCell.f k x1103000 x1103001 x1103002 x1103003 x1103004 bt1120.2.1 bt1120.2.2 1).bind fun t1123 => (if t1123 < 0 then (some false) else (if t1123 = bt1120.1 then ((laws_toCell.f k x1053000 x1053001 x1053002 x1053003 x1053004 x1053005 x1053006).bind fun bt1124 => ((impl_Unwatch.f k bt1124.1 bt1124.2.1 bt1124.2.2.1 bt1124.2.2.2.1 bt1124.2.2.2.2.1 bt1124.2.2.2.2.2.1 bt1124.2.2.2.2.2.2 x1).bind fun bt1135 => ((laws_eqCell.f k bt1135.1 bt1135.2.1 bt1135.2.2.1 bt1135.2.2.2.1 bt1135.2.2.2.2.1 bt1135.2.2.2.2.2.1 bt1135.2.2.2.2.2.2.1 x1078000 x1078001 x1078002 x1078003 x1078004 x1078005 x1078006).bind fun t1148 => (if t1148 = true then (laws_FnExactUnwatch.j2 k bt1120.1 (bt1135.2.2.2.2.2.2.2 != x7) x1103000 x1103001 x1103002 x1103003 x1103004 bt1120.2.1 bt1120.2.2) else (laws_FnExactUnwatch.j2 k bt1120.1 true x1103000 x1103001 x1103002 x1103003 x1103004 bt1120.2.1 bt1120.2.2))))) else (some false)))))
def laws_FnExactUnwatch.j2 : Nat → Int → Bool → Int → Int → ByteArray → Int → Bool → List Int → List Int → Option (Bool)
  | 0, _, _, _, _, _, _, _, _, _ => none
  | k + 1, x12, x92, x1103000, x1103001, x1103002, x1103003, x1103004, x1103005, x1103006 => if x92 = true then (some false) else ((laws_heldCell.f k x1103000 x1103001 x1103002 x1103003 x1103004 x1103005 x1103006 1).bind fun t1149 => (if t1149 < 0 then (some false) else (if t1149 = x12 then (some true) else (some false))))
end
def laws_FnExactUnwatch.f (k : Nat) (a0_0 : Int) (a0_1 : Int) (a0_2 : ByteArray) (a0_3 : Int) (a0_4 : Bool) (l0_5 : List Int) (l0_6 : List Int) (a1 : Int) : Option (Bool) := (laws_szCell.f a0_0 a0_1 a0_2 a0_3 a0_4 l0_5 l0_6 1048576).bind fun t1053 => (if t1053 < 0 then (some true) else ((laws_toCell.f k a0_0 a0_1 a0_2 a0_3 a0_4 l0_5 l0_6).bind fun bt1054 => ((spec_Unwatch.f k bt1054.1 bt1054.2.1 bt1054.2.2.1 bt1054.2.2.2.1 bt1054.2.2.2.2.1 bt1054.2.2.2.2.2.1 bt1054.2.2.2.2.2.2 a1).bind fun bt1065 => ((laws_toCell.f k a0_0 a0_1 a0_2 a0_3 a0_4 l0_5 l0_6).bind fun bt1078 => ((impl_Unwatch.f k bt1078.1 bt1078.2.1 bt1078.2.2.1 bt1078.2.2.2.1 bt1078.2.2.2.2.1 bt1078.2.2.2.2.2.1 bt1078.2.2.2.2.2.2 a1).bind fun bt1090 => ((laws_eqCell.f k bt1090.1 bt1090.2.1 bt1090.2.2.1 bt1090.2.2.2.1 bt1090.2.2.2.2.1 bt1090.2.2.2.2.2.1 bt1090.2.2.2.2.2.2.1 bt1065.1 bt1065.2.1 bt1065.2.2.1 bt1065.2.2.2.1 bt1065.2.2.2.2.1 bt1065.2.2.2.2.2.1 bt1065.2.2.2.2.2.2.1).bind fun t1103 => (if t1103 = true then (laws_FnExactUnwatch.j0 k a1 bt1065.2.2.2.2.2.2.2 bt1090.2.2.2.2.2.2.2 (bt1090.2.2.2.2.2.2.2 != bt1065.2.2.2.2.2.2.2) a0_0 a0_1 a0_2 a0_3 a0_4 l0_5 l0_6 bt1065.1 bt1065.2.1 bt1065.2.2.1 bt1065.2.2.2.1 bt1065.2.2.2.2.1 bt1065.2.2.2.2.2.1 bt1065.2.2.2.2.2.2.1 bt1078.1 bt1078.2.1 bt1078.2.2.1 bt1078.2.2.2.1 bt1078.2.2.2.2.1 bt1078.2.2.2.2.2.1 bt1078.2.2.2.2.2.2 bt1090.1 bt1090.2.1 bt1090.2.2.1 bt1090.2.2.2.1 bt1090.2.2.2.2.1 bt1090.2.2.2.2.2.1 bt1090.2.2.2.2.2.2.1) else (laws_FnExactUnwatch.j0 k a1 bt1065.2.2.2.2.2.2.2 bt1090.2.2.2.2.2.2.2 true a0_0 a0_1 a0_2 a0_3 a0_4 l0_5 l0_6 bt1065.1 bt1065.2.1 bt1065.2.2.1 bt1065.2.2.2.1 bt1065.2.2.2.2.1 bt1065.2.2.2.2.2.1 bt1065.2.2.2.2.2.2.1 bt1078.1 bt1078.2.1 bt1078.2.2.1 bt1078.2.2.2.1 bt1078.2.2.2.2.1 bt1078.2.2.2.2.2.1 bt1078.2.2.2.2.2.2 bt1090.1 bt1090.2.1 bt1090.2.2.1 bt1090.2.2.2.1 bt1090.2.2.2.2.1 bt1090.2.2.2.2.2.1 bt1090.2.2.2.2.2.2.1))))))))
theorem laws_FnExactUnwatch.mono_l : ∀ k, (∀ y0 y1 y2 y3 y4 y5 y6 y7 y8 y9 y10 y11 y12 y13 y14 y15 y16 y17 y18 y19 y20 y21 y22 y23 y24 y25 y26 y27 y28 y29 y30 y31, LeO (laws_FnExactUnwatch.j0 k y0 y1 y2 y3 y4 y5 y6 y7 y8 y9 y10 y11 y12 y13 y14 y15 y16 y17 y18 y19 y20 y21 y22 y23 y24 y25 y26 y27 y28 y29 y30 y31) (laws_FnExactUnwatch.j0 (k + 1) y0 y1 y2 y3 y4 y5 y6 y7 y8 y9 y10 y11 y12 y13 y14 y15 y16 y17 y18 y19 y20 y21 y22 y23 y24 y25 y26 y27 y28 y29 y30 y31)) ∧ (∀ y0 y1 y2 y3 y4 y5 y6 y7 y8 y9 y10 y11 y12 y13 y14 y15 y16 y17 y18 y19 y20 y21 y22 y23, LeO (laws_FnExactUnwatch.j1 k y0 y1 y2 y3 y4 y5 y6 y7 y8 y9 y10 y11 y12 y13 y14 y15 y16 y17 y18 y19 y20 y21 y22 y23) (laws_FnExactUnwatch.j1 (k + 1) y0 y1 y2 y3 y4 y5 y6 y7 y8 y9 y10 y11 y12 y13 y14 y15 y16 y17 y18 y19 y20 y21 y22 y23)) ∧ (∀ y0 y1 y2 y3 y4 y5 y6 y7 y8, LeO (laws_FnExactUnwatch.j2 k y0 y1 y2 y3 y4 y5 y6 y7 y8) (laws_FnExactUnwatch.j2 (k + 1) y0 y1 y2 y3 y4 y5 y6 y7 y8))
  | 0 => ⟨fun _ _ _ _ _ _ _ _ _ _ _ _ _ _ _ _ _ _ _ _ _ _ _ _ _ _ _ _ _ _ _ _ r h => by simp [laws_FnExactUnwatch.j0] at h, fun _ _ _ _ _ _ _ _ _ _ _ _ _ _ _ _ _ _ _ _ _ _ _ _ r h => by simp [laws_FnExactUnwatch.j1] at h, fun _ _ _ _ _ _ _ _ _ r h => by simp [laws_FnExactUnwatch.j2] at h⟩
  | k + 1 => by
    obtain ⟨ih0, ih1, ih2⟩ := laws_FnExactUnwatch.mono_l k
    refine ⟨?_, ?_, ?_⟩
    · intro y0 y1 y2 y3 y4 y5 y6 y7 y8 y9 y10 y11 y12 y13 y14 y15 y16 y17 y18 y19 y20 y21 y22 y23 y24 y25 y26 y27 y28 y29 y30 y31
      unfold laws_FnExactUnwatch.j0
      repeat' first
      | (with_reducible exact ih0 _ _ _ _ _ _ _ _ _ _ _ _ _ _ _ _ _ _ _ _ _ _ _ _ _ _ _ _ _ _ _ _)
      | (with_reducible exact ih1 _ _ _ _ _ _ _ _ _ _ _ _ _ _ _ _ _ _ _ _ _ _ _ _)
      | (with_reducible exact ih2 _ _ _ _ _ _ _ _ _)
      | (with_reducible exact impl_Unwatch.mono _ _ _ _ _ _ _ _ _)
      | (with_reducible exact laws_eqCell.mono _ _ _ _ _ _ _ _ _ _ _ _ _ _ _)
      | (with_reducible exact laws_heldCell.mono _ _ _ _ _ _ _ _ _)
      | (with_reducible exact laws_markCell.mono _ _ _ _ _ _ _ _ _)
      | (with_reducible exact laws_toCell.mono _ _ _ _ _ _ _ _)
      | (with_reducible exact spec_Unwatch.mono _ _ _ _ _ _ _ _ _)
      | (with_reducible exact LeO.refl _)
      | (with_reducible exact LeO.none _)
      | (with_reducible refine LeO.ite ?_ ?_)
      | (with_reducible refine LeO.bind ?_ (fun _ => ?_))
      | exact ih0 _ _ _ _ _ _ _ _ _ _ _ _ _ _ _ _ _ _ _ _ _ _ _ _ _ _ _ _ _ _ _ _
      | exact ih1 _ _ _ _ _ _ _ _ _ _ _ _ _ _ _ _ _ _ _ _ _ _ _ _
      | exact ih2 _ _ _ _ _ _ _ _ _
      | exact impl_Unwatch.mono _ _ _ _ _ _ _ _ _
      | exact laws_eqCell.mono _ _ _ _ _ _ _ _ _ _ _ _ _ _ _
      | exact laws_heldCell.mono _ _ _ _ _ _ _ _ _
      | exact laws_markCell.mono _ _ _ _ _ _ _ _ _
      | exact laws_toCell.mono _ _ _ _ _ _ _ _
      | exact spec_Unwatch.mono _ _ _ _ _ _ _ _ _
      | exact LeO.none _
      | refine LeO.ite ?_ ?_
      | refine LeO.bind ?_ (fun _ => ?_)
    · intro y0 y1 y2 y3 y4 y5 y6 y7 y8 y9 y10 y11 y12 y13 y14 y15 y16 y17 y18 y19 y20 y21 y22 y23
      unfold laws_FnExactUnwatch.j1
      repeat' first
      | (with_reducible exact ih0 _ _ _ _ _ _ _ _ _ _ _ _ _ _ _ _ _ _ _ _ _ _ _ _ _ _ _ _ _ _ _ _)
      | (with_reducible exact ih1 _ _ _ _ _ _ _ _ _ _ _ _ _ _ _ _ _ _ _ _ _ _ _ _)
      | (with_reducible exact ih2 _ _ _ _ _ _ _ _ _)
      | (with_reducible exact impl_Unwatch.mono _ _ _ _ _ _ _ _ _)
      | (with_reducible exact laws_eqCell.mono _ _ _ _ _ _ _ _ _ _ _ _ _ _ _)
      | (with_reducible exact laws_heldCell.mono _ _ _ _ _ _ _ _ _)
      | (with_reducible exact laws_markCell.mono _ _ _ _ _ _ _ _ _)
      | (with_reducible exact laws_toCell.mono _ _ _ _ _ _ _ _)
      | (with_reducible exact spec_Unwatch.mono _ _ _ _ _ _ _ _ _)
      | (with_reducible exact LeO.refl _)
      | (with_reducible exact LeO.none _)
      | (with_reducible refine LeO.ite ?_ ?_)
      | (with_reducible refine LeO.bind ?_ (fun _ => ?_))
      | exact ih0 _ _ _ _ _ _ _ _ _ _ _ _ _ _ _ _ _ _ _ _ _ _ _ _ _ _ _ _ _ _ _ _
      | exact ih1 _ _ _ _ _ _ _ _ _ _ _ _ _ _ _ _ _ _ _ _ _ _ _ _
      | exact ih2 _ _ _ _ _ _ _ _ _
      | exact impl_Unwatch.mono _ _ _ _ _ _ _ _ _
      | exact laws_eqCell.mono _ _ _ _ _ _ _ _ _ _ _ _ _ _ _
      | exact laws_heldCell.mono _ _ _ _ _ _ _ _ _
      | exact laws_markCell.mono _ _ _ _ _ _ _ _ _
      | exact laws_toCell.mono _ _ _ _ _ _ _ _
      | exact spec_Unwatch.mono _ _ _ _ _ _ _ _ _
      | exact LeO.none _
      | refine LeO.ite ?_ ?_
      | refine LeO.bind ?_ (fun _ => ?_)
    · intro y0 y1 y2 y3 y4 y5 y6 y7 y8
      unfold laws_FnExactUnwatch.j2
      repeat' first
      | (with_reducible exact ih0 _ _ _ _ _ _ _ _ _ _ _ _ _ _ _ _ _ _ _ _ _ _ _ _ _ _ _ _ _ _ _ _)
      | (with_reducible exact ih1 _ _ _ _ _ _ _ _ _ _ _ _ _ _ _ _ _ _ _ _ _ _ _ _)
      | (with_reducible exact ih2 _ _ _ _ _ _ _ _ _)
      | (with_reducible exact impl_Unwatch.mono _ _ _ _ _ _ _ _ _)
      | (with_reducible exact laws_eqCell.mono _ _ _ _ _ _ _ _ _ _ _ _ _ _ _)
      | (with_reducible exact laws_heldCell.mono _ _ _ _ _ _ _ _ _)
      | (with_reducible exact laws_markCell.mono _ _ _ _ _ _ _ _ _)
      | (with_reducible exact laws_toCell.mono _ _ _ _ _ _ _ _)
      | (with_reducible exact spec_Unwatch.mono _ _ _ _ _ _ _ _ _)
      | (with_reducible exact LeO.refl _)
      | (with_reducible exact LeO.none _)
      | (with_reducible refine LeO.ite ?_ ?_)
      | (with_reducible refine LeO.bind ?_ (fun _ => ?_))
      | exact ih0 _ _ _ _ _ _ _ _ _ _ _ _ _ _ _ _ _ _ _ _ _ _ _ _ _ _ _ _ _ _ _ _
      | exact ih1 _ _ _ _ _ _ _ _ _ _ _ _ _ _ _ _ _ _ _ _ _ _ _ _
      | exact ih2 _ _ _ _ _ _ _ _ _
      | exact impl_Unwatch.mono _ _ _ _ _ _ _ _ _
      | exact laws_eqCell.mono _ _ _ _ _ _ _ _ _ _ _ _ _ _ _
      | exact laws_heldCell.mono _ _ _ _ _ _ _ _ _
      | exact laws_markCell.mono _ _ _ _ _ _ _ _ _
      | exact laws_toCell.mono _ _ _ _ _ _ _ _
      | exact spec_Unwatch.mono _ _ _ _ _ _ _ _ _
      | exact LeO.none _
      | refine LeO.ite ?_ ?_
      | refine LeO.bind ?_ (fun _ => ?_)
theorem laws_FnExactUnwatch.mono : ∀ a0 a1 a2 a3 a4 a5 a6 a7 k, LeO (laws_FnExactUnwatch.f k a0 a1 a2 a3 a4 a5 a6 a7) (laws_FnExactUnwatch.f (k + 1) a0 a1 a2 a3 a4 a5 a6 a7) := by
  intro a0 a1 a2 a3 a4 a5 a6 a7 k
  obtain ⟨ih0, ih1, ih2⟩ := laws_FnExactUnwatch.mono_l k
  unfold laws_FnExactUnwatch.f
  repeat' first
      | (with_reducible exact ih0 _ _ _ _ _ _ _ _ _ _ _ _ _ _ _ _ _ _ _ _ _ _ _ _ _ _ _ _ _ _ _ _)
      | (with_reducible exact ih1 _ _ _ _ _ _ _ _ _ _ _ _ _ _ _ _ _ _ _ _ _ _ _ _)
      | (with_reducible exact ih2 _ _ _ _ _ _ _ _ _)
      | (with_reducible exact impl_Unwatch.mono _ _ _ _ _ _ _ _ _)
      | (with_reducible exact laws_eqCell.mono _ _ _ _ _ _ _ _ _ _ _ _ _ _ _)
      | (with_reducible exact laws_heldCell.mono _ _ _ _ _ _ _ _ _)
      | (with_reducible exact laws_markCell.mono _ _ _ _ _ _ _ _ _)
      | (with_reducible exact laws_toCell.mono _ _ _ _ _ _ _ _)
      | (with_reducible exact spec_Unwatch.mono _ _ _ _ _ _ _ _ _)
      | (with_reducible exact LeO.refl _)
      | (with_reducible exact LeO.none _)
      | (with_reducible refine LeO.ite ?_ ?_)
      | (with_reducible refine LeO.bind ?_ (fun _ => ?_))
      | exact ih0 _ _ _ _ _ _ _ _ _ _ _ _ _ _ _ _ _ _ _ _ _ _ _ _ _ _ _ _ _ _ _ _
      | exact ih1 _ _ _ _ _ _ _ _ _ _ _ _ _ _ _ _ _ _ _ _ _ _ _ _
      | exact ih2 _ _ _ _ _ _ _ _ _
      | exact impl_Unwatch.mono _ _ _ _ _ _ _ _ _
      | exact laws_eqCell.mono _ _ _ _ _ _ _ _ _ _ _ _ _ _ _
      | exact laws_heldCell.mono _ _ _ _ _ _ _ _ _
      | exact laws_markCell.mono _ _ _ _ _ _ _ _ _
      | exact laws_toCell.mono _ _ _ _ _ _ _ _
      | exact spec_Unwatch.mono _ _ _ _ _ _ _ _ _
      | exact LeO.none _
      | refine LeO.ite ?_ ?_
      | refine LeO.bind ?_ (fun _ => ?_)
set_option maxHeartbeats 8000000 in
set_option maxRecDepth 100000 in
theorem laws_FnExactUnwatch.calls (k : Nat) (a0_0 : Int) (a0_1 : Int) (a0_2 : ByteArray) (a0_3 : Int) (a0_4 : Bool) (A0_5 : Option Addr) (c0_5 : Nat) (l0_5 : List Int) (A0_6 : Option Addr) (c0_6 : Nat) (l0_6 : List Int) (a1 : Int) (r : Bool) (w : World) (hr0_5 : Kd.C (Kd.int .i64) w A0_5 l0_5.length l0_5) (hc0_5 : l0_5.length ≤ c0_5) (hr0_6 : Kd.C (Kd.int .i64) w A0_6 l0_6.length l0_6) (hc0_6 : l0_6.length ≤ c0_6) (HQ_ : Aside0 (r = true)) (h : laws_FnExactUnwatch.f k a0_0 a0_1 a0_2 a0_3 a0_4 l0_5 l0_6 a1 = some r) :
    Calls Try.prog 13 #[.agg #[.int .i64 a0_0, .int .i64 a0_1, .string a0_2, .int .i64 a0_3, .bool a0_4, .slice A0_5 l0_5.length c0_5, .slice A0_6 l0_6.length c0_6], .int .i64 a1] w fun e w' => e = .returned (.bool r) ∧ Below w.heap.size w w' := by
  have hu56 := Try.underlying56
  have hu29 := Try.underlying29
  have HR0_5 := Aside0.mk hr0_5
  have HC0_5 := Aside0.mk hc0_5
  clear hr0_5 hc0_5
  have HR0_6 := Aside0.mk hr0_6
  have HC0_6 := Aside0.mk hc0_6
  clear hr0_6 hc0_6
  have HB := Aside0.mk (Below.refl w.heap.size w)
  have H : ((laws_szCell.f a0_0 a0_1 a0_2 a0_3 a0_4 l0_5 l0_6 1048576).bind fun t1053 => (if t1053 < 0 then (some true) else ((laws_toCell.f k a0_0 a0_1 a0_2 a0_3 a0_4 l0_5 l0_6).bind fun bt1054 => ((spec_Unwatch.f k bt1054.1 bt1054.2.1 bt1054.2.2.1 bt1054.2.2.2.1 bt1054.2.2.2.2.1 bt1054.2.2.2.2.2.1 bt1054.2.2.2.2.2.2 a1).bind fun bt1065 => ((laws_toCell.f k a0_0 a0_1 a0_2 a0_3 a0_4 l0_5 l0_6).bind fun bt1078 => ((impl_Unwatch.f k bt1078.1 bt1078.2.1 bt1078.2.2.1 bt1078.2.2.2.1 bt1078.2.2.2.2.1 bt1078.2.2.2.2.2.1 bt1078.2.2.2.2.2.2 a1).bind fun bt1090 => ((laws_eqCell.f k bt1090.1 bt1090.2.1 bt1090.2.2.1 bt1090.2.2.2.1 bt1090.2.2.2.2.1 bt1090.2.2.2.2.2.1 bt1090.2.2.2.2.2.2.1 bt1065.1 bt1065.2.1 bt1065.2.2.1 bt1065.2.2.2.1 bt1065.2.2.2.2.1 bt1065.2.2.2.2.2.1 bt1065.2.2.2.2.2.2.1).bind fun t1103 => (if t1103 = true then (laws_FnExactUnwatch.j0 k a1 bt1065.2.2.2.2.2.2.2 bt1090.2.2.2.2.2.2.2 (bt1090.2.2.2.2.2.2.2 != bt1065.2.2.2.2.2.2.2) a0_0 a0_1 a0_2 a0_3 a0_4 l0_5 l0_6 bt1065.1 bt1065.2.1 bt1065.2.2.1 bt1065.2.2.2.1 bt1065.2.2.2.2.1 bt1065.2.2.2.2.2.1 bt1065.2.2.2.2.2.2.1 bt1078.1 bt1078.2.1 bt1078.2.2.1 bt1078.2.2.2.1 bt1078.2.2.2.2.1 bt1078.2.2.2.2.2.1 bt1078.2.2.2.2.2.2 bt1090.1 bt1090.2.1 bt1090.2.2.1 bt1090.2.2.2.1 bt1090.2.2.2.2.1 bt1090.2.2.2.2.2.1 bt1090.2.2.2.2.2.2.1) else (laws_FnExactUnwatch.j0 k a1 bt1065.2.2.2.2.2.2.2 bt1090.2.2.2.2.2.2.2 true a0_0 a0_1 a0_2 a0_3 a0_4 l0_5 l0_6 bt1065.1 bt1065.2.1 bt1065.2.2.1 bt1065.2.2.2.1 bt1065.2.2.2.2.1 bt1065.2.2.2.2.2.1 bt1065.2.2.2.2.2.2.1 bt1078.1 bt1078.2.1 bt1078.2.2.1 bt1078.2.2.2.1 bt1078.2.2.2.2.1 bt1078.2.2.2.2.2.1 bt1078.2.2.2.2.2.2 bt1090.1 bt1090.2.1 bt1090.2.2.1 bt1090.2.2.2.1 bt1090.2.2.2.2.1 bt1090.2.2.2.2.2.1 bt1090.2.2.2.2.2.2.1))))))))) = some r := h
  clear h
  replace H := Option.bind_eq_some_iff.mp H
  obtain ⟨t1053, A30, H⟩ := H
  replace H : (if t1053 < 0 then (some true) else ((laws_toCell.f k a0_0 a0_1 a0_2 a0_3 a0_4 l0_5 l0_6).bind fun bt1054 => ((spec_Unwatch.f k bt1054.1 bt1054.2.1 bt1054.2.2.1 bt1054.2.2.2.1 bt1054.2.2.2.2.1 bt1054.2.2.2.2.2.1 bt1054.2.2.2.2.2.2 a1).bind fun bt1065 => ((laws_toCell.f k a0_0 a0_1 a0_2 a0_3 a0_4 l0_5 l0_6).bind fun bt1078 => ((impl_Unwatch.f k bt1078.1 bt1078.2.1 bt1078.2.2.1 bt1078.2.2.2.1 bt1078.2.2.2.2.1 bt1078.2.2.2.2.2.1 bt1078.2.2.2.2.2.2 a1).bind fun bt1090 => ((laws_eqCell.f k bt1090.1 bt1090.2.1 bt1090.2.2.1 bt1090.2.2.2.1 bt1090.2.2.2.2.1 bt1090.2.2.2.2.2.1 bt1090.2.2.2.2.2.2.1 bt1065.1 bt1065.2.1 bt1065.2.2.1 bt1065.2.2.2.1 bt1065.2.2.2.2.1 bt1065.2.2.2.2.2.1 bt1065.2.2.2.2.2.2.1).bind fun t1103 => (if t1103 = true then (laws_FnExactUnwatch.j0 k a1 bt1065.2.2.2.2.2.2.2 bt1090.2.2.2.2.2.2.2 (bt1090.2.2.2.2.2.2.2 != bt1065.2.2.2.2.2.2.2) a0_0 a0_1 a0_2 a0_3 a0_4 l0_5 l0_6 bt1065.1 bt1065.2.1 bt1065.2.2.1 bt1065.2.2.2.1 bt1065.2.2.2.2.1 bt1065.2.2.2.2.2.1 bt1065.2.2.2.2.2.2.1 bt1078.1 bt1078.2.1 bt1078.2.2.1 bt1078.2.2.2.1 bt1078.2.2.2.2.1 bt1078.2.2.2.2.2.1 bt1078.2.2.2.2.2.2 bt1090.1 bt1090.2.1 bt1090.2.2.1 bt1090.2.2.2.1 bt1090.2.2.2.2.1 bt1090.2.2.2.2.2.1 bt1090.2.2.2.2.2.2.1) else (laws_FnExactUnwatch.j0 k a1 bt1065.2.2.2.2.2.2.2 bt1090.2.2.2.2.2.2.2 true a0_0 a0_1 a0_2 a0_3 a0_4 l0_5 l0_6 bt1065.1 bt1065.2.1 bt1065.2.2.1 bt1065.2.2.2.1 bt1065.2.2.2.2.1 bt1065.2.2.2.2.2.1 bt1065.2.2.2.2.2.2.1 bt1078.1 bt1078.2.1 bt1078.2.2.1 bt1078.2.2.2.1 bt1078.2.2.2.2.1 bt1078.2.2.2.2.2.1 bt1078.2.2.2.2.2.2 bt1090.1 bt1090.2.1 bt1090.2.2.1 bt1090.2.2.2.1 bt1090.2.2.2.2.1 bt1090.2.2.2.2.2.1 bt1090.2.2.2.2.2.2.1)))))))) = some r := H
  have A3 := Aside0.mk A30
  clear A30
  by_cases c4 : t1053 < 0
  · rw [if_pos c4] at H
    have c4b0 : decide (t1053 < 0) = true := decide_eq_true c4
    clear c4
    obtain rfl := Option.some.inj H
    go_enter Try.func13, Try.ntmps13
    go_wp2_with (first | ((with_reducible refine gate_dst (N := 2) rfl ?_); refine box_event ?hg (N := 2) ?hd (cs := #[.int .i64 a0_0, .int .i64 a0_1, .string a0_2, .int .i64 a0_3, .bool a0_4, .slice A0_5 l0_5.length c0_5, .slice A0_6 l0_6.length c0_6]) (t := 56) ?hr ?_; (case hd => rfl); (case hg => rfl); (case hr => first | (go_simp; done) | (go_simp; rfl)); intro gb1052 hg w5 hbox hb; have n0_ := Aside0.mk (below_step (pkB HB.out) hb); have n1_ := Aside0.mk (hbox); have n2_ := Aside0.mk ((by rw [hg]; exact (below_size (pkB HB.out)) : w.heap.size ≤ gb1052)); have n3_ := Aside0.mk ((by rw [hg]; exact (below_size (pkB HB.out)) : w.heap.size ≤ gb1052)); clear HB; have HB := n0_; have BK1052 := n1_; have GW1052 := n2_; have GE1052 := n3_; clear n0_ n1_ n2_ n3_; clear hb hbox hg; have hcz6_0 : w5.cell? ⟨gb1052, 0, none⟩ = some (.int .i64 a0_0) := (blk_cell BK1052.out 0).trans rfl; have hcz6_1 : w5.cell? ⟨gb1052, 1, none⟩ = some (.int .i64 a0_1) := (blk_cell BK1052.out 1).trans rfl; have hcz6_2 : w5.cell? ⟨gb1052, 2, none⟩ = some (.string a0_2) := (blk_cell BK1052.out 2).trans rfl; have hcz6_3 : w5.cell? ⟨gb1052, 3, none⟩ = some (.int .i64 a0_3) := (blk_cell BK1052.out 3).trans rfl; have hcz6_4 : w5.cell? ⟨gb1052, 4, none⟩ = some (.bool a0_4) := (blk_cell BK1052.out 4).trans rfl; have hcz6_5 : w5.cell? ⟨gb1052, 5, none⟩ = some (.slice A0_5 l0_5.length c0_5) := (blk_cell BK1052.out 5).trans rfl; have hcz6_6 : w5.cell? ⟨gb1052, 6, none⟩ = some (.slice A0_6 l0_6.length c0_6) := (blk_cell BK1052.out 6).trans rfl; have hfz6_0 := blk_frozen BK1052.out 0; have hfz6_1 := blk_frozen BK1052.out 1; have hfz6_2 := blk_frozen BK1052.out 2; have hfz6_3 := blk_frozen BK1052.out 3; have hfz6_4 := blk_frozen BK1052.out 4; have hfz6_5 := blk_frozen BK1052.out 5; have hfz6_6 := blk_frozen BK1052.out 6) | ((with_reducible refine gate_callee (f := 31) rfl ?_); refine goesL_ (some 18) rfl rfl Try.func31 (by kernel_rfl) rfl #[.agg #[.int .i64 a0_0, .int .i64 a0_1, .string a0_2, .int .i64 a0_3, .bool a0_4, .slice A0_5 l0_5.length c0_5, .slice A0_6 l0_6.length c0_6], .int .i64 1048576] rfl (by (try simp only [List.map_toArray, List.map_cons, List.map_nil]); first | done | rfl | (simp only [List.length_drop, List.length_take]; rfl) | (go_simp; done) | (simp [*]; done)) ?_; (with_reducible refine (laws_szCell.calls a0_0 a0_1 a0_2 a0_3 a0_4 _ _ l0_5 _ _ l0_6 1048576 t1053 _ ?side1 ?side2 ?side3 ?side4 A3.out).mono ?_); (case side1 => exact pkC (Kd.C_below HR0_5.out HB.out)); (case side2 => exact HC0_5.out); (case side3 => exact pkC (Kd.C_below HR0_6.out HB.out)); (case side4 => exact HC0_6.out); rintro e w7 ⟨rfl, hb⟩; refine ⟨_, rfl, ?_⟩; have n0_ := Aside0.mk (blk_below (g := gb1052) (o := .cells #[.int .i64 a0_0, .int .i64 a0_1, .string a0_2, .int .i64 a0_3, .bool a0_4, .slice A0_5 l0_5.length c0_5, .slice A0_6 l0_6.length c0_6] 56 (0, 0)) (pkK BK1052.out) hb); have n1_ := Aside0.mk (below_step (by repeat (first | (with_reducible first | exact HB.out | apply below_alloc | apply pw_below_drewN | apply below_drew1 | refine below_set ?_ GE1052.out) | exact HB.out)) hb); clear BK1052 HB; have BK1052 := n0_; have HB := n1_; clear n0_ n1_; (try clear hb); (try clear hb2); (try clear hk); (try clear hi)))
    go_ret
    exact ⟨by first | rfl | (simp [errW_none, errW_some] <;> rfl) | (simp [*, errW_none, errW_some] <;> rfl), by repeat (first | (with_reducible first | exact HB.out | apply below_alloc | apply pw_below_drewN | apply below_drew1 | refine below_set ?_ GE1052.out) | exact HB.out)⟩
  · rw [if_neg c4] at H
    have c4b0 : decide (t1053 < 0) = false := decide_eq_false c4
    clear c4
    replace H := Option.bind_eq_some_iff.mp H
    obtain ⟨⟨t1054, t1055, t1056, t1057, t1058, t1059, t1062⟩, A80, H⟩ := H
    replace H : ((spec_Unwatch.f k t1054 t1055 t1056 t1057 t1058 t1059 t1062 a1).bind fun bt1065 => ((laws_toCell.f k a0_0 a0_1 a0_2 a0_3 a0_4 l0_5 l0_6).bind fun bt1078 => ((impl_Unwatch.f k bt1078.1 bt1078.2.1 bt1078.2.2.1 bt1078.2.2.2.1 bt1078.2.2.2.2.1 bt1078.2.2.2.2.2.1 bt1078.2.2.2.2.2.2 a1).bind fun bt1090 => ((laws_eqCell.f k bt1090.1 bt1090.2.1 bt1090.2.2.1 bt1090.2.2.2.1 bt1090.2.2.2.2.1 bt1090.2.2.2.2.2.1 bt1090.2.2.2.2.2.2.1 bt1065.1 bt1065.2.1 bt1065.2.2.1 bt1065.2.2.2.1 bt1065.2.2.2.2.1 bt1065.2.2.2.2.2.1 bt1065.2.2.2.2.2.2.1).bind fun t1103 => (if t1103 = true then (laws_FnExactUnwatch.j0 k a1 bt1065.2.2.2.2.2.2.2 bt1090.2.2.2.2.2.2.2 (bt1090.2.2.2.2.2.2.2 != bt1065.2.2.2.2.2.2.2) a0_0 a0_1 a0_2 a0_3 a0_4 l0_5 l0_6 bt1065.1 bt1065.2.1 bt1065.2.2.1 bt1065.2.2.2.1 bt1065.2.2.2.2.1 bt1065.2.2.2.2.2.1 bt1065.2.2.2.2.2.2.1 bt1078.1 bt1078.2.1 bt1078.2.2.1 bt1078.2.2.2.1 bt1078.2.2.2.2.1 bt1078.2.2.2.2.2.1 bt1078.2.2.2.2.2.2 bt1090.1 bt1090.2.1 bt1090.2.2.1 bt1090.2.2.2.1 bt1090.2.2.2.2.1 bt1090.2.2.2.2.2.1 bt1090.2.2.2.2.2.2.1) else (laws_FnExactUnwatch.j0 k a1 bt1065.2.2.2.2.2.2.2 bt1090.2.2.2.2.2.2.2 true a0_0 a0_1 a0_2 a0_3 a0_4 l0_5 l0_6 bt1065.1 bt1065.2.1 bt1065.2.2.1 bt1065.2.2.2.1 bt1065.2.2.2.2.1 bt1065.2.2.2.2.2.1 bt1065.2.2.2.2.2.2.1 bt1078.1 bt1078.2.1 bt1078.2.2.1 bt1078.2.2.2.1 bt1078.2.2.2.2.1 bt1078.2.2.2.2.2.1 bt1078.2.2.2.2.2.2 bt1090.1 bt1090.2.1 bt1090.2.2.1 bt1090.2.2.2.1 bt1090.2.2.2.2.1 bt1090.2.2.2.2.2.1 bt1090.2.2.2.2.2.2.1)))))) = some r := H
    have A8 := Aside0.mk A80
    clear A80
    replace H := Option.bind_eq_some_iff.mp H
    obtain ⟨⟨t1065, t1066, t1067, t1068, t1069, t1070, t1073, t1076⟩, A90, H⟩ := H
    replace H : ((laws_toCell.f k a0_0 a0_1 a0_2 a0_3 a0_4 l0_5 l0_6).bind fun bt1078 => ((impl_Unwatch.f k bt1078.1 bt1078.2.1 bt1078.2.2.1 bt1078.2.2.2.1 bt1078.2.2.2.2.1 bt1078.2.2.2.2.2.1 bt1078.2.2.2.2.2.2 a1).bind fun bt1090 => ((laws_eqCell.f k bt1090.1 bt1090.2.1 bt1090.2.2.1 bt1090.2.2.2.1 bt1090.2.2.2.2.1 bt1090.2.2.2.2.2.1 bt1090.2.2.2.2.2.2.1 t1065 t1066 t1067 t1068 t1069 t1070 t1073).bind fun t1103 => (if t1103 = true then (laws_FnExactUnwatch.j0 k a1 t1076 bt1090.2.2.2.2.2.2.2 (bt1090.2.2.2.2.2.2.2 != t1076) a0_0 a0_1 a0_2 a0_3 a0_4 l0_5 l0_6 t1065 t1066 t1067 t1068 t1069 t1070 t1073 bt1078.1 bt1078.2.1 bt1078.2.2.1 bt1078.2.2.2.1 bt1078.2.2.2.2.1 bt1078.2.2.2.2.2.1 bt1078.2.2.2.2.2.2 bt1090.1 bt1090.2.1 bt1090.2.2.1 bt1090.2.2.2.1 bt1090.2.2.2.2.1 bt1090.2.2.2.2.2.1 bt1090.2.2.2.2.2.2.1) else (laws_FnExactUnwatch.j0 k a1 t1076 bt1090.2.2.2.2.2.2.2 true a0_0 a0_1 a0_2 a0_3 a0_4 l0_5 l0_6 t1065 t1066 t1067 t1068 t1069 t1070 t1073 bt1078.1 bt1078.2.1 bt1078.2.2.1 bt1078.2.2.2.1 bt1078.2.2.2.2.1 bt1078.2.2.2.2.2.1 bt1078.2.2.2.2.2.2 bt1090.1 bt1090.2.1 bt1090.2.2.1 bt1090.2.2.2.1 bt1090.2.2.2.2.1 bt1090.2.2.2.2.2.1 bt1090.2.2.2.2.2.2.1))))) = some r := H
    have A9 := Aside0.mk A90
    clear A90
    replace H := Option.bind_eq_some_iff.mp H
    obtain ⟨⟨t1078, t1079, t1080, t1081, t1082, t1083, t1086⟩, A100, H⟩ := H
    replace H : ((impl_Unwatch.f k t1078 t1079 t1080 t1081 t1082 t1083 t1086 a1).bind fun bt1090 => ((laws_eqCell.f k bt1090.1 bt1090.2.1 bt1090.2.2.1 bt1090.2.2.2.1 bt1090.2.2.2.2.1 bt1090.2.2.2.2.2.1 bt1090.2.2.2.2.2.2.1 t1065 t1066 t1067 t1068 t1069 t1070 t1073).bind fun t1103 => (if t1103 = true then (laws_FnExactUnwatch.j0 k a1 t1076 bt1090.2.2.2.2.2.2.2 (bt1090.2.2.2.2.2.2.2 != t1076) a0_0 a0_1 a0_2 a0_3 a0_4 l0_5 l0_6 t1065 t1066 t1067 t1068 t1069 t1070 t1073 t1078 t1079 t1080 t1081 t1082 t1083 t1086 bt1090.1 bt1090.2.1 bt1090.2.2.1 bt1090.2.2.2.1 bt1090.2.2.2.2.1 bt1090.2.2.2.2.2.1 bt1090.2.2.2.2.2.2.1) else (laws_FnExactUnwatch.j0 k a1 t1076 bt1090.2.2.2.2.2.2.2 true a0_0 a0_1 a0_2 a0_3 a0_4 l0_5 l0_6 t1065 t1066 t1067 t1068 t1069 t1070 t1073 t1078 t1079 t1080 t1081 t1082 t1083 t1086 bt1090.1 bt1090.2.1 bt1090.2.2.1 bt1090.2.2.2.1 bt1090.2.2.2.2.1 bt1090.2.2.2.2.2.1 bt1090.2.2.2.2.2.2.1)))) = some r := H
    have A10 := Aside0.mk A100
    clear A100
    replace H := Option.bind_eq_some_iff.mp H
    obtain ⟨⟨t1090, t1091, t1092, t1093, t1094, t1095, t1098, t1101⟩, A110, H⟩ := H
    replace H : ((laws_eqCell.f k t1090 t1091 t1092 t1093 t1094 t1095 t1098 t1065 t1066 t1067 t1068 t1069 t1070 t1073).bind fun t1103 => (if t1103 = true then (laws_FnExactUnwatch.j0 k a1 t1076 t1101 (t1101 != t1076) a0_0 a0_1 a0_2 a0_3 a0_4 l0_5 l0_6 t1065 t1066 t1067 t1068 t1069 t1070 t1073 t1078 t1079 t1080 t1081 t1082 t1083 t1086 t1090 t1091 t1092 t1093 t1094 t1095 t1098) else (laws_FnExactUnwatch.j0 k a1 t1076 t1101 true a0_0 a0_1 a0_2 a0_3 a0_4 l0_5 l0_6 t1065 t1066 t1067 t1068 t1069 t1070 t1073 t1078 t1079 t1080 t1081 t1082 t1083 t1086 t1090 t1091 t1092 t1093 t1094 t1095 t1098))) = some r := H
    have A11 := Aside0.mk A110
    clear A110
    have HC12 := Aside0.mk H
    clear H
    go_enter Try.func13, Try.ntmps13
    go_upto_region 8 with (first | ((with_reducible refine gate_dst (N := 2) rfl ?_); refine box_event ?hg (N := 2) ?hd (cs := #[.int .i64 a0_0, .int .i64 a0_1, .string a0_2, .int .i64 a0_3, .bool a0_4, .slice A0_5 l0_5.length c0_5, .slice A0_6 l0_6.length c0_6]) (t := 56) ?hr ?_; (case hd => rfl); (case hg => rfl); (case hr => first | (go_simp; done) | (go_simp; rfl)); intro gb1052 hg w13 hbox hb; have n0_ := Aside0.mk (below_step (pkB HB.out) hb); have n1_ := Aside0.mk (hbox); have n2_ := Aside0.mk ((by rw [hg]; exact (below_size (pkB HB.out)) : w.heap.size ≤ gb1052)); have n3_ := Aside0.mk ((by rw [hg]; exact (below_size (pkB HB.out)) : w.heap.size ≤ gb1052)); clear HB; have HB := n0_; have BK1052 := n1_; have GW1052 := n2_; have GE1052 := n3_; clear n0_ n1_ n2_ n3_; clear hb hbox hg; have hcz14_0 : w13.cell? ⟨gb1052, 0, none⟩ = some (.int .i64 a0_0) := (blk_cell BK1052.out 0).trans rfl; have hcz14_1 : w13.cell? ⟨gb1052, 1, none⟩ = some (.int .i64 a0_1) := (blk_cell BK1052.out 1).trans rfl; have hcz14_2 : w13.cell? ⟨gb1052, 2, none⟩ = some (.string a0_2) := (blk_cell BK1052.out 2).trans rfl; have hcz14_3 : w13.cell? ⟨gb1052, 3, none⟩ = some (.int .i64 a0_3) := (blk_cell BK1052.out 3).trans rfl; have hcz14_4 : w13.cell? ⟨gb1052, 4, none⟩ = some (.bool a0_4) := (blk_cell BK1052.out 4).trans rfl; have hcz14_5 : w13.cell? ⟨gb1052, 5, none⟩ = some (.slice A0_5 l0_5.length c0_5) := (blk_cell BK1052.out 5).trans rfl; have hcz14_6 : w13.cell? ⟨gb1052, 6, none⟩ = some (.slice A0_6 l0_6.length c0_6) := (blk_cell BK1052.out 6).trans rfl; have hfz14_0 := blk_frozen BK1052.out 0; have hfz14_1 := blk_frozen BK1052.out 1; have hfz14_2 := blk_frozen BK1052.out 2; have hfz14_3 := blk_frozen BK1052.out 3; have hfz14_4 := blk_frozen BK1052.out 4; have hfz14_5 := blk_frozen BK1052.out 5; have hfz14_6 := blk_frozen BK1052.out 6) | ((with_reducible refine gate_callee (f := 31) rfl ?_); refine goesL_ (some 18) rfl rfl Try.func31 (by kernel_rfl) rfl #[.agg #[.int .i64 a0_0, .int .i64 a0_1, .string a0_2, .int .i64 a0_3, .bool a0_4, .slice A0_5 l0_5.length c0_5, .slice A0_6 l0_6.length c0_6], .int .i64 1048576] rfl (by (try simp only [List.map_toArray, List.map_cons, List.map_nil]); first | done | rfl | (simp only [List.length_drop, List.length_take]; rfl) | (go_simp; done) | (simp [*]; done)) ?_; (with_reducible refine (laws_szCell.calls a0_0 a0_1 a0_2 a0_3 a0_4 _ _ l0_5 _ _ l0_6 1048576 t1053 _ ?side1 ?side2 ?side3 ?side4 A3.out).mono ?_); (case side1 => exact pkC (Kd.C_below HR0_5.out HB.out)); (case side2 => exact HC0_5.out); (case side3 => exact pkC (Kd.C_below HR0_6.out HB.out)); (case side4 => exact HC0_6.out); rintro e w15 ⟨rfl, hb⟩; refine ⟨_, rfl, ?_⟩; have n0_ := Aside0.mk (blk_below (g := gb1052) (o := .cells #[.int .i64 a0_0, .int .i64 a0_1, .string a0_2, .int .i64 a0_3, .bool a0_4, .slice A0_5 l0_5.length c0_5, .slice A0_6 l0_6.length c0_6] 56 (0, 0)) (pkK BK1052.out) hb); have n1_ := Aside0.mk (below_step (by repeat (first | (with_reducible first | exact HB.out | apply below_alloc | apply pw_below_drewN | apply below_drew1 | refine below_set ?_ GE1052.out) | exact HB.out)) hb); clear BK1052 HB; have BK1052 := n0_; have HB := n1_; clear n0_ n1_; (try clear hb); (try clear hb2); (try clear hk); (try clear hi); have hcz16_0 : w15.cell? ⟨gb1052, 0, none⟩ = some (.int .i64 a0_0) := (blk_cell BK1052.out 0).trans rfl; have hcz16_1 : w15.cell? ⟨gb1052, 1, none⟩ = some (.int .i64 a0_1) := (blk_cell BK1052.out 1).trans rfl; have hcz16_2 : w15.cell? ⟨gb1052, 2, none⟩ = some (.string a0_2) := (blk_cell BK1052.out 2).trans rfl; have hcz16_3 : w15.cell? ⟨gb1052, 3, none⟩ = some (.int .i64 a0_3) := (blk_cell BK1052.out 3).trans rfl; have hcz16_4 : w15.cell? ⟨gb1052, 4, none⟩ = some (.bool a0_4) := (blk_cell BK1052.out 4).trans rfl; have hcz16_5 : w15.cell? ⟨gb1052, 5, none⟩ = some (.slice A0_5 l0_5.length c0_5) := (blk_cell BK1052.out 5).trans rfl; have hcz16_6 : w15.cell? ⟨gb1052, 6, none⟩ = some (.slice A0_6 l0_6.length c0_6) := (blk_cell BK1052.out 6).trans rfl; have hfz16_0 := blk_frozen BK1052.out 0; have hfz16_1 := blk_frozen BK1052.out 1; have hfz16_2 := blk_frozen BK1052.out 2; have hfz16_3 := blk_frozen BK1052.out 3; have hfz16_4 := blk_frozen BK1052.out 4; have hfz16_5 := blk_frozen BK1052.out 5; have hfz16_6 := blk_frozen BK1052.out 6) | ((with_reducible refine gate_callee (f := 32) rfl ?_); refine goesL_ (some 23) rfl rfl Try.func32 (by kernel_rfl) rfl #[.agg #[.int .i64 a0_0, .int .i64 a0_1, .string a0_2, .int .i64 a0_3, .bool a0_4, .slice A0_5 l0_5.length c0_5, .slice A0_6 l0_6.length c0_6]] rfl (by (try simp only [List.map_toArray, List.map_cons, List.map_nil]); first | done | rfl | (simp only [List.length_drop, List.length_take]; rfl) | (go_simp; done) | (simp [*]; done)) ?_; (with_reducible refine (laws_toCell.calls k a0_0 a0_1 a0_2 a0_3 a0_4 _ _ l0_5 _ _ l0_6 t1054 t1055 t1056 t1057 t1058 t1059 t1062 _ ?side1 ?side2 ?side3 ?side4 A8.out).mono ?_); (case side1 => exact pkC (Kd.C_below HR0_5.out HB.out)); (case side2 => exact HC0_5.out); (case side3 => exact pkC (Kd.C_below HR0_6.out HB.out)); (case side4 => exact HC0_6.out); rintro e w17 ⟨v1060, v1063, rfl, ho0, ho1, hb⟩; refine ⟨_, rfl, ?_⟩; have n0_ := Aside0.mk (Kd.R_lower ho0 (below_size (by repeat (first | (with_reducible first | exact HB.out | apply below_alloc | apply pw_below_drewN | apply below_drew1 | refine below_set ?_ GE1052.out) | exact HB.out)))); have n1_ := Aside0.mk (Kd.R_lower ho1 (below_size (by repeat (first | (with_reducible first | exact HB.out | apply below_alloc | apply pw_below_drewN | apply below_drew1 | refine below_set ?_ GE1052.out) | exact HB.out)))); have n2_ := Aside0.mk (blk_below (g := gb1052) (o := .cells #[.int .i64 a0_0, .int .i64 a0_1, .string a0_2, .int .i64 a0_3, .bool a0_4, .slice A0_5 l0_5.length c0_5, .slice A0_6 l0_6.length c0_6] 56 (0, 0)) (pkK BK1052.out) hb); have n3_ := Aside0.mk (below_step (by repeat (first | (with_reducible first | exact HB.out | apply below_alloc | apply pw_below_drewN | apply below_drew1 | refine below_set ?_ GE1052.out) | exact HB.out)) hb); clear BK1052 HB; have HO1061 := n0_; have HO1064 := n1_; have BK1052 := n2_; have HB := n3_; clear n0_ n1_ n2_ n3_; (try clear hb); (try clear hb2); (try clear hk); (try clear hi); (try clear ho0); (try clear ho1); obtain ⟨Ao18, co18, eo18⟩ := Kd.R_slice HO1061.out; subst eo18; obtain ⟨Ao19, co19, eo19⟩ := Kd.R_slice HO1064.out; subst eo19) | ((with_reducible refine gate_callee (f := 50) rfl ?_); refine goesL_ (some 25) rfl rfl Try.func50 (by kernel_rfl) rfl #[.agg #[.int .i64 t1054, .int .i64 t1055, .string t1056, .int .i64 t1057, .bool t1058, .slice Ao18 t1059.length co18, .slice Ao19 t1062.length co19], .int .i64 a1] rfl (by (try simp only [List.map_toArray, List.map_cons, List.map_nil]); first | done | rfl | (simp only [List.length_drop, List.length_take]; rfl) | (go_simp; done) | (simp [*]; done)) ?_; (with_reducible refine (spec_Unwatch.calls k t1054 t1055 t1056 t1057 t1058 _ _ t1059 _ _ t1062 a1 t1065 t1066 t1067 t1068 t1069 t1070 t1073 t1076 _ ?side1 ?side2 ?side3 ?side4 A9.out).mono ?_); (case side1 => exact pkC (Kd.R_reads' HO1061.out).2.2); (case side2 => exact (Kd.R_reads' HO1061.out).2.1); (case side3 => exact pkC (Kd.R_reads' HO1064.out).2.2); (case side4 => exact (Kd.R_reads' HO1064.out).2.1); rintro e w20 ⟨v1071, v1074, rfl, ho0, ho1, hb⟩; refine ⟨_, rfl, ?_⟩; have n0_ := Aside0.mk (Kd.R_mono (Kd.R_told (Kd.R_told (Kd.R_old (pkR HO1061.out) hb) (Kd.R_base ho0)) (Kd.R_base ho1)) (fun _ h_ => h_.1)); have n1_ := Aside0.mk (Kd.R_mono (Kd.R_told (Kd.R_told (Kd.R_old (pkR HO1064.out) hb) (Kd.R_base ho0)) (Kd.R_base ho1)) (fun _ h_ => h_.1)); have n2_ := Aside0.mk (Kd.R_lower (Kd.R_new' (Kd.R_new' ho0 (Kd.R_lt (pkR HO1061.out))) (Kd.R_lt (pkR HO1064.out))) (below_size (by repeat (first | (with_reducible first | exact HB.out | apply below_alloc | apply pw_below_drewN | apply below_drew1 | refine below_set ?_ GE1052.out) | exact HB.out)))); have n3_ := Aside0.mk (Kd.R_lower (Kd.R_new' (Kd.R_new' ho1 (Kd.R_lt (pkR HO1061.out))) (Kd.R_lt (pkR HO1064.out))) (below_size (by repeat (first | (with_reducible first | exact HB.out | apply below_alloc | apply pw_below_drewN | apply below_drew1 | refine below_set ?_ GE1052.out) | exact HB.out)))); have n4_ := Aside0.mk (blk_below (g := gb1052) (o := .cells #[.int .i64 a0_0, .int .i64 a0_1, .string a0_2, .int .i64 a0_3, .bool a0_4, .slice A0_5 l0_5.length c0_5, .slice A0_6 l0_6.length c0_6] 56 (0, 0)) (pkK BK1052.out) hb); have n5_ := Aside0.mk (below_step (by repeat (first | (with_reducible first | exact HB.out | apply below_alloc | apply pw_below_drewN | apply below_drew1 | refine below_set ?_ GE1052.out) | exact HB.out)) hb); clear HO1061 HO1064 BK1052 HB; have HO1061 := n0_; have HO1064 := n1_; have HO1072 := n2_; have HO1075 := n3_; have BK1052 := n4_; have HB := n5_; clear n0_ n1_ n2_ n3_ n4_ n5_; (try clear hb); (try clear hb2); (try clear hk); (try clear hi); (try clear ho0); (try clear ho1)) | ((with_reducible refine gate_dst (N := 6) rfl ?_); refine box_event ?hg (N := 6) ?hd (cs := #[.int .i64 0, .int .i64 0, .string (⟨#[]⟩ : ByteArray), .int .i64 0, .bool false, .slice none 0 0, .slice none 0 0]) (t := 29) ?hr ?_; (case hd => rfl); (case hg => rfl); (case hr => first | (go_simp; done) | (go_simp; rfl)); intro gb1077 hg w21 hbox hb; have n0_ := Aside0.mk (Kd.R_below (pkR HO1061.out) hb); have n1_ := Aside0.mk (Kd.R_below (pkR HO1064.out) hb); have n2_ := Aside0.mk (Kd.R_below (pkR HO1072.out) hb); have n3_ := Aside0.mk (Kd.R_below (pkR HO1075.out) hb); have n4_ := Aside0.mk (blk_below (g := gb1052) (o := .cells #[.int .i64 a0_0, .int .i64 a0_1, .string a0_2, .int .i64 a0_3, .bool a0_4, .slice A0_5 l0_5.length c0_5, .slice A0_6 l0_6.length c0_6] 56 (0, 0)) (pkK BK1052.out) hb); have n5_ := Aside0.mk (below_step (by repeat (first | (with_reducible first | exact HB.out | apply below_alloc | apply pw_below_drewN | apply below_drew1 | refine below_set ?_ GE1052.out) | exact HB.out)) hb); have n6_ := Aside0.mk (hbox); have n7_ := Aside0.mk ((by rw [hg]; exact (below_size (by repeat (first | (with_reducible first | exact HB.out | apply below_alloc | apply pw_below_drewN | apply below_drew1 | refine below_set ?_ GE1052.out) | exact HB.out))) : w.heap.size ≤ gb1077)); have n8_ := Aside0.mk ((by rw [hg]; exact (below_size (by repeat (first | (with_reducible first | exact HB.out | apply below_alloc | apply pw_below_drewN | apply below_drew1 | refine below_set ?_ GE1052.out) | exact HB.out))) : w.heap.size ≤ gb1077)); have n9_ := Aside0.mk ((by rw [hg]; exact Nat.ne_of_lt (blk_lt (g := gb1052) (o := .cells #[.int .i64 a0_0, .int .i64 a0_1, .string a0_2, .int .i64 a0_3, .bool a0_4, .slice A0_5 l0_5.length c0_5, .slice A0_6 l0_6.length c0_6] 56 (0, 0)) (pkK BK1052.out)) : gb1052 ≠ gb1077)); have n10_ := Aside0.mk ((by rw [hg]; exact Nat.ne_of_gt (blk_lt (g := gb1052) (o := .cells #[.int .i64 a0_0, .int .i64 a0_1, .string a0_2, .int .i64 a0_3, .bool a0_4, .slice A0_5 l0_5.length c0_5, .slice A0_6 l0_6.length c0_6] 56 (0, 0)) (pkK BK1052.out)) : gb1077 ≠ gb1052)); clear HO1061 HO1064 HO1072 HO1075 BK1052 HB; have HO1061 := n0_; have HO1064 := n1_; have HO1072 := n2_; have HO1075 := n3_; have BK1052 := n4_; have HB := n5_; have BK1077 := n6_; have GW1077 := n7_; have GE1077 := n8_; have NB1052_1077 := n9_; have NB1077_1052 := n10_; clear n0_ n1_ n2_ n3_ n4_ n5_ n6_ n7_ n8_ n9_ n10_; clear hb hbox hg; have hnb22 := NB1077_1052.out; have hnc22 := NB1052_1077.out; have hcz23_0 : w21.cell? ⟨gb1077, 0, none⟩ = some (.int .i64 0) := (blk_cell BK1077.out 0).trans rfl; have hcz23_1 : w21.cell? ⟨gb1077, 1, none⟩ = some (.int .i64 0) := (blk_cell BK1077.out 1).trans rfl; have hcz23_2 : w21.cell? ⟨gb1077, 2, none⟩ = some (.string (⟨#[]⟩ : ByteArray)) := (blk_cell BK1077.out 2).trans rfl; have hcz23_3 : w21.cell? ⟨gb1077, 3, none⟩ = some (.int .i64 0) := (blk_cell BK1077.out 3).trans rfl; have hcz23_4 : w21.cell? ⟨gb1077, 4, none⟩ = some (.bool false) := (blk_cell BK1077.out 4).trans rfl; have hcz23_5 : w21.cell? ⟨gb1077, 5, none⟩ = some (.slice none 0 0) := (blk_cell BK1077.out 5).trans rfl; have hcz23_6 : w21.cell? ⟨gb1077, 6, none⟩ = some (.slice none 0 0) := (blk_cell BK1077.out 6).trans rfl; have hfz23_0 := blk_frozen BK1077.out 0; have hfz23_1 := blk_frozen BK1077.out 1; have hfz23_2 := blk_frozen BK1077.out 2; have hfz23_3 := blk_frozen BK1077.out 3; have hfz23_4 := blk_frozen BK1077.out 4; have hfz23_5 := blk_frozen BK1077.out 5; have hfz23_6 := blk_frozen BK1077.out 6; obtain ⟨Ao24, co24, eo24⟩ := Kd.R_slice HO1072.out; subst eo24; obtain ⟨Ao25, co25, eo25⟩ := Kd.R_slice HO1075.out; subst eo25; have hcz26_0 : w21.cell? ⟨gb1052, 0, none⟩ = some (.int .i64 a0_0) := (blk_cell BK1052.out 0).trans rfl; have hcz26_1 : w21.cell? ⟨gb1052, 1, none⟩ = some (.int .i64 a0_1) := (blk_cell BK1052.out 1).trans rfl; have hcz26_2 : w21.cell? ⟨gb1052, 2, none⟩ = some (.string a0_2) := (blk_cell BK1052.out 2).trans rfl; have hcz26_3 : w21.cell? ⟨gb1052, 3, none⟩ = some (.int .i64 a0_3) := (blk_cell BK1052.out 3).trans rfl; have hcz26_4 : w21.cell? ⟨gb1052, 4, none⟩ = some (.bool a0_4) := (blk_cell BK1052.out 4).trans rfl; have hcz26_5 : w21.cell? ⟨gb1052, 5, none⟩ = some (.slice A0_5 l0_5.length c0_5) := (blk_cell BK1052.out 5).trans rfl; have hcz26_6 : w21.cell? ⟨gb1052, 6, none⟩ = some (.slice A0_6 l0_6.length c0_6) := (blk_cell BK1052.out 6).trans rfl; have hfz26_0 := blk_frozen BK1052.out 0; have hfz26_1 := blk_frozen BK1052.out 1; have hfz26_2 := blk_frozen BK1052.out 2; have hfz26_3 := blk_frozen BK1052.out 3; have hfz26_4 := blk_frozen BK1052.out 4; have hfz26_5 := blk_frozen BK1052.out 5; have hfz26_6 := blk_frozen BK1052.out 6) | ((with_reducible refine gate_callee (f := 32) rfl ?_); refine goesL_ (some 29) rfl rfl Try.func32 (by kernel_rfl) rfl #[.agg #[.int .i64 a0_0, .int .i64 a0_1, .string a0_2, .int .i64 a0_3, .bool a0_4, .slice A0_5 l0_5.length c0_5, .slice A0_6 l0_6.length c0_6]] rfl (by (try simp only [List.map_toArray, List.map_cons, List.map_nil]); first | done | rfl | (simp only [List.length_drop, List.length_take]; rfl) | (go_simp; done) | (simp [*]; done)) ?_; (with_reducible refine (laws_toCell.calls k a0_0 a0_1 a0_2 a0_3 a0_4 _ _ l0_5 _ _ l0_6 t1078 t1079 t1080 t1081 t1082 t1083 t1086 _ ?side1 ?side2 ?side3 ?side4 A10.out).mono ?_); (case side1 => exact Kd.C_below HR0_5.out (by repeat (first | (with_reducible first | exact HB.out | apply below_alloc | apply pw_below_drewN | apply below_drew1 | refine below_set ?_ GE1052.out | refine below_set ?_ GE1077.out) | exact HB.out))); (case side2 => exact HC0_5.out); (case side3 => exact Kd.C_below HR0_6.out (by repeat (first | (with_reducible first | exact HB.out | apply below_alloc | apply pw_below_drewN | apply below_drew1 | refine below_set ?_ GE1052.out | refine below_set ?_ GE1077.out) | exact HB.out))); (case side4 => exact HC0_6.out); rintro e w27 ⟨v1084, v1087, rfl, ho0, ho1, hb⟩; refine ⟨_, rfl, ?_⟩; have n0_ := Aside0.mk (Kd.R_mono (Kd.R_told (Kd.R_told (Kd.R_old (by (with_reducible repeat (first | apply Kd.R_alloc | apply Kd.R_drewN | apply Kd.R_drew)); exact (Kd.R_mono (Kd.R_far (p := ⟨gb1077, 6, none⟩) (Kd.R_far (p := ⟨gb1077, 5, none⟩) (Kd.R_far (p := ⟨gb1077, 4, none⟩) (Kd.R_far (p := ⟨gb1077, 3, none⟩) (Kd.R_far (p := ⟨gb1077, 2, none⟩) (Kd.R_far (p := ⟨gb1077, 1, none⟩) (Kd.R_far (p := ⟨gb1077, 0, none⟩) (Kd.R_types HO1061.out BK1077.out (by decide)) (fun _ hk => hk.2) (.int .i64 t1065)) (fun _ hk => hk.2) (.int .i64 t1066)) (fun _ hk => hk.2) (.string t1067)) (fun _ hk => hk.2) (.int .i64 t1068)) (fun _ hk => hk.2) (.bool t1069)) (fun _ hk => hk.2) (.slice Ao24 t1070.length co24)) (fun _ hk => hk.2) (.slice Ao25 t1073.length co25)) (fun _ h_ => h_.1))) hb) (Kd.R_base ho0)) (Kd.R_base ho1)) (fun _ h_ => h_.1)); have n1_ := Aside0.mk (Kd.R_mono (Kd.R_told (Kd.R_told (Kd.R_old (by (with_reducible repeat (first | apply Kd.R_alloc | apply Kd.R_drewN | apply Kd.R_drew)); exact (Kd.R_mono (Kd.R_far (p := ⟨gb1077, 6, none⟩) (Kd.R_far (p := ⟨gb1077, 5, none⟩) (Kd.R_far (p := ⟨gb1077, 4, none⟩) (Kd.R_far (p := ⟨gb1077, 3, none⟩) (Kd.R_far (p := ⟨gb1077, 2, none⟩) (Kd.R_far (p := ⟨gb1077, 1, none⟩) (Kd.R_far (p := ⟨gb1077, 0, none⟩) (Kd.R_types HO1064.out BK1077.out (by decide)) (fun _ hk => hk.2) (.int .i64 t1065)) (fun _ hk => hk.2) (.int .i64 t1066)) (fun _ hk => hk.2) (.string t1067)) (fun _ hk => hk.2) (.int .i64 t1068)) (fun _ hk => hk.2) (.bool t1069)) (fun _ hk => hk.2) (.slice Ao24 t1070.length co24)) (fun _ hk => hk.2) (.slice Ao25 t1073.length co25)) (fun _ h_ => h_.1))) hb) (Kd.R_base ho0)) (Kd.R_base ho1)) (fun _ h_ => h_.1)); have n2_ := Aside0.mk (Kd.R_mono (Kd.R_told (Kd.R_told (Kd.R_old (by (with_reducible repeat (first | apply Kd.R_alloc | apply Kd.R_drewN | apply Kd.R_drew)); exact (Kd.R_mono (Kd.R_far (p := ⟨gb1077, 6, none⟩) (Kd.R_far (p := ⟨gb1077, 5, none⟩) (Kd.R_far (p := ⟨gb1077, 4, none⟩) (Kd.R_far (p := ⟨gb1077, 3, none⟩) (Kd.R_far (p := ⟨gb1077, 2, none⟩) (Kd.R_far (p := ⟨gb1077, 1, none⟩) (Kd.R_far (p := ⟨gb1077, 0, none⟩) (Kd.R_types HO1072.out BK1077.out (by decide)) (fun _ hk => hk.2) (.int .i64 t1065)) (fun _ hk => hk.2) (.int .i64 t1066)) (fun _ hk => hk.2) (.string t1067)) (fun _ hk => hk.2) (.int .i64 t1068)) (fun _ hk => hk.2) (.bool t1069)) (fun _ hk => hk.2) (.slice Ao24 t1070.length co24)) (fun _ hk => hk.2) (.slice Ao25 t1073.length co25)) (fun _ h_ => h_.1))) hb) (Kd.R_base ho0)) (Kd.R_base ho1)) (fun _ h_ => h_.1)); have n3_ := Aside0.mk (Kd.R_mono (Kd.R_told (Kd.R_told (Kd.R_old (by (with_reducible repeat (first | apply Kd.R_alloc | apply Kd.R_drewN | apply Kd.R_drew)); exact (Kd.R_mono (Kd.R_far (p := ⟨gb1077, 6, none⟩) (Kd.R_far (p := ⟨gb1077, 5, none⟩) (Kd.R_far (p := ⟨gb1077, 4, none⟩) (Kd.R_far (p := ⟨gb1077, 3, none⟩) (Kd.R_far (p := ⟨gb1077, 2, none⟩) (Kd.R_far (p := ⟨gb1077, 1, none⟩) (Kd.R_far (p := ⟨gb1077, 0, none⟩) (Kd.R_types HO1075.out BK1077.out (by decide)) (fun _ hk => hk.2) (.int .i64 t1065)) (fun _ hk => hk.2) (.int .i64 t1066)) (fun _ hk => hk.2) (.string t1067)) (fun _ hk => hk.2) (.int .i64 t1068)) (fun _ hk => hk.2) (.bool t1069)) (fun _ hk => hk.2) (.slice Ao24 t1070.length co24)) (fun _ hk => hk.2) (.slice Ao25 t1073.length co25)) (fun _ h_ => h_.1))) hb) (Kd.R_base ho0)) (Kd.R_base ho1)) (fun _ h_ => h_.1)); have n4_ := Aside0.mk (Kd.R_lower (Kd.R_new' (Kd.R_new' (Kd.R_new' (Kd.R_new' ho0 (Kd.R_lt (by (with_reducible repeat (first | apply Kd.R_alloc | apply Kd.R_drewN | apply Kd.R_drew)); exact (Kd.R_mono (Kd.R_far (p := ⟨gb1077, 6, none⟩) (Kd.R_far (p := ⟨gb1077, 5, none⟩) (Kd.R_far (p := ⟨gb1077, 4, none⟩) (Kd.R_far (p := ⟨gb1077, 3, none⟩) (Kd.R_far (p := ⟨gb1077, 2, none⟩) (Kd.R_far (p := ⟨gb1077, 1, none⟩) (Kd.R_far (p := ⟨gb1077, 0, none⟩) (Kd.R_types HO1061.out BK1077.out (by decide)) (fun _ hk => hk.2) (.int .i64 t1065)) (fun _ hk => hk.2) (.int .i64 t1066)) (fun _ hk => hk.2) (.string t1067)) (fun _ hk => hk.2) (.int .i64 t1068)) (fun _ hk => hk.2) (.bool t1069)) (fun _ hk => hk.2) (.slice Ao24 t1070.length co24)) (fun _ hk => hk.2) (.slice Ao25 t1073.length co25)) (fun _ h_ => h_.1))))) (Kd.R_lt (by (with_reducible repeat (first | apply Kd.R_alloc | apply Kd.R_drewN | apply Kd.R_drew)); exact (Kd.R_mono (Kd.R_far (p := ⟨gb1077, 6, none⟩) (Kd.R_far (p := ⟨gb1077, 5, none⟩) (Kd.R_far (p := ⟨gb1077, 4, none⟩) (Kd.R_far (p := ⟨gb1077, 3, none⟩) (Kd.R_far (p := ⟨gb1077, 2, none⟩) (Kd.R_far (p := ⟨gb1077, 1, none⟩) (Kd.R_far (p := ⟨gb1077, 0, none⟩) (Kd.R_types HO1064.out BK1077.out (by decide)) (fun _ hk => hk.2) (.int .i64 t1065)) (fun _ hk => hk.2) (.int .i64 t1066)) (fun _ hk => hk.2) (.string t1067)) (fun _ hk => hk.2) (.int .i64 t1068)) (fun _ hk => hk.2) (.bool t1069)) (fun _ hk => hk.2) (.slice Ao24 t1070.length co24)) (fun _ hk => hk.2) (.slice Ao25 t1073.length co25)) (fun _ h_ => h_.1))))) (Kd.R_lt (by (with_reducible repeat (first | apply Kd.R_alloc | apply Kd.R_drewN | apply Kd.R_drew)); exact (Kd.R_mono (Kd.R_far (p := ⟨gb1077, 6, none⟩) (Kd.R_far (p := ⟨gb1077, 5, none⟩) (Kd.R_far (p := ⟨gb1077, 4, none⟩) (Kd.R_far (p := ⟨gb1077, 3, none⟩) (Kd.R_far (p := ⟨gb1077, 2, none⟩) (Kd.R_far (p := ⟨gb1077, 1, none⟩) (Kd.R_far (p := ⟨gb1077, 0, none⟩) (Kd.R_types HO1072.out BK1077.out (by decide)) (fun _ hk => hk.2) (.int .i64 t1065)) (fun _ hk => hk.2) (.int .i64 t1066)) (fun _ hk => hk.2) (.string t1067)) (fun _ hk => hk.2) (.int .i64 t1068)) (fun _ hk => hk.2) (.bool t1069)) (fun _ hk => hk.2) (.slice Ao24 t1070.length co24)) (fun _ hk => hk.2) (.slice Ao25 t1073.length co25)) (fun _ h_ => h_.1))))) (Kd.R_lt (by (with_reducible repeat (first | apply Kd.R_alloc | apply Kd.R_drewN | apply Kd.R_drew)); exact (Kd.R_mono (Kd.R_far (p := ⟨gb1077, 6, none⟩) (Kd.R_far (p := ⟨gb1077, 5, none⟩) (Kd.R_far (p := ⟨gb1077, 4, none⟩) (Kd.R_far (p := ⟨gb1077, 3, none⟩) (Kd.R_far (p := ⟨gb1077, 2, none⟩) (Kd.R_far (p := ⟨gb1077, 1, none⟩) (Kd.R_far (p := ⟨gb1077, 0, none⟩) (Kd.R_types HO1075.out BK1077.out (by decide)) (fun _ hk => hk.2) (.int .i64 t1065)) (fun _ hk => hk.2) (.int .i64 t1066)) (fun _ hk => hk.2) (.string t1067)) (fun _ hk => hk.2) (.int .i64 t1068)) (fun _ hk => hk.2) (.bool t1069)) (fun _ hk => hk.2) (.slice Ao24 t1070.length co24)) (fun _ hk => hk.2) (.slice Ao25 t1073.length co25)) (fun _ h_ => h_.1))))) (below_size (by repeat (first | (with_reducible first | exact HB.out | apply below_alloc | apply pw_below_drewN | apply below_drew1 | refine below_set ?_ GE1052.out | refine below_set ?_ GE1077.out) | exact HB.out)))); have n5_ := Aside0.mk (Kd.R_lower (Kd.R_new' (Kd.R_new' (Kd.R_new' (Kd.R_new' ho1 (Kd.R_lt (by (with_reducible repeat (first | apply Kd.R_alloc | apply Kd.R_drewN | apply Kd.R_drew)); exact (Kd.R_mono (Kd.R_far (p := ⟨gb1077, 6, none⟩) (Kd.R_far (p := ⟨gb1077, 5, none⟩) (Kd.R_far (p := ⟨gb1077, 4, none⟩) (Kd.R_far (p := ⟨gb1077, 3, none⟩) (Kd.R_far (p := ⟨gb1077, 2, none⟩) (Kd.R_far (p := ⟨gb1077, 1, none⟩) (Kd.R_far (p := ⟨gb1077, 0, none⟩) (Kd.R_types HO1061.out BK1077.out (by decide)) (fun _ hk => hk.2) (.int .i64 t1065)) (fun _ hk => hk.2) (.int .i64 t1066)) (fun _ hk => hk.2) (.string t1067)) (fun _ hk => hk.2) (.int .i64 t1068)) (fun _ hk => hk.2) (.bool t1069)) (fun _ hk => hk.2) (.slice Ao24 t1070.length co24)) (fun _ hk => hk.2) (.slice Ao25 t1073.length co25)) (fun _ h_ => h_.1))))) (Kd.R_lt (by (with_reducible repeat (first | apply Kd.R_alloc | apply Kd.R_drewN | apply Kd.R_drew)); exact (Kd.R_mono (Kd.R_far (p := ⟨gb1077, 6, none⟩) (Kd.R_far (p := ⟨gb1077, 5, none⟩) (Kd.R_far (p := ⟨gb1077, 4, none⟩) (Kd.R_far (p := ⟨gb1077, 3, none⟩) (Kd.R_far (p := ⟨gb1077, 2, none⟩) (Kd.R_far (p := ⟨gb1077, 1, none⟩) (Kd.R_far (p := ⟨gb1077, 0, none⟩) (Kd.R_types HO1064.out BK1077.out (by decide)) (fun _ hk => hk.2) (.int .i64 t1065)) (fun _ hk => hk.2) (.int .i64 t1066)) (fun _ hk => hk.2) (.string t1067)) (fun _ hk => hk.2) (.int .i64 t1068)) (fun _ hk => hk.2) (.bool t1069)) (fun _ hk => hk.2) (.slice Ao24 t1070.length co24)) (fun _ hk => hk.2) (.slice Ao25 t1073.length co25)) (fun _ h_ => h_.1))))) (Kd.R_lt (by (with_reducible repeat (first | apply Kd.R_alloc | apply Kd.R_drewN | apply Kd.R_drew)); exact (Kd.R_mono (Kd.R_far (p := ⟨gb1077, 6, none⟩) (Kd.R_far (p := ⟨gb1077, 5, none⟩) (Kd.R_far (p := ⟨gb1077, 4, none⟩) (Kd.R_far (p := ⟨gb1077, 3, none⟩) (Kd.R_far (p := ⟨gb1077, 2, none⟩) (Kd.R_far (p := ⟨gb1077, 1, none⟩) (Kd.R_far (p := ⟨gb1077, 0, none⟩) (Kd.R_types HO1072.out BK1077.out (by decide)) (fun _ hk => hk.2) (.int .i64 t1065)) (fun _ hk => hk.2) (.int .i64 t1066)) (fun _ hk => hk.2) (.string t1067)) (fun _ hk => hk.2) (.int .i64 t1068)) (fun _ hk => hk.2) (.bool t1069)) (fun _ hk => hk.2) (.slice Ao24 t1070.length co24)) (fun _ hk => hk.2) (.slice Ao25 t1073.length co25)) (fun _ h_ => h_.1))))) (Kd.R_lt (by (with_reducible repeat (first | apply Kd.R_alloc | apply Kd.R_drewN | apply Kd.R_drew)); exact (Kd.R_mono (Kd.R_far (p := ⟨gb1077, 6, none⟩) (Kd.R_far (p := ⟨gb1077, 5, none⟩) (Kd.R_far (p := ⟨gb1077, 4, none⟩) (Kd.R_far (p := ⟨gb1077, 3, none⟩) (Kd.R_far (p := ⟨gb1077, 2, none⟩) (Kd.R_far (p := ⟨gb1077, 1, none⟩) (Kd.R_far (p := ⟨gb1077, 0, none⟩) (Kd.R_types HO1075.out BK1077.out (by decide)) (fun _ hk => hk.2) (.int .i64 t1065)) (fun _ hk => hk.2) (.int .i64 t1066)) (fun _ hk => hk.2) (.string t1067)) (fun _ hk => hk.2) (.int .i64 t1068)) (fun _ hk => hk.2) (.bool t1069)) (fun _ hk => hk.2) (.slice Ao24 t1070.length co24)) (fun _ hk => hk.2) (.slice Ao25 t1073.length co25)) (fun _ h_ => h_.1))))) (below_size (by repeat (first | (with_reducible first | exact HB.out | apply below_alloc | apply pw_below_drewN | apply below_drew1 | refine below_set ?_ GE1052.out | refine below_set ?_ GE1077.out) | exact HB.out)))); have n6_ := Aside0.mk (blk_below (g := gb1052) (o := .cells #[.int .i64 a0_0, .int .i64 a0_1, .string a0_2, .int .i64 a0_3, .bool a0_4, .slice A0_5 l0_5.length c0_5, .slice A0_6 l0_6.length c0_6] 56 (0, 0)) (by (with_reducible repeat (first | refine blk_drewN ?_ _ | refine blk_drew ?_ | refine blk_alloc ?_ _)); refine blk_far ?_ NB1052_1077.out _; (with_reducible repeat (first | refine blk_drewN ?_ _ | refine blk_drew ?_ | refine blk_alloc ?_ _)); refine blk_far ?_ NB1052_1077.out _; (with_reducible repeat (first | refine blk_drewN ?_ _ | refine blk_drew ?_ | refine blk_alloc ?_ _)); refine blk_far ?_ NB1052_1077.out _; (with_reducible repeat (first | refine blk_drewN ?_ _ | refine blk_drew ?_ | refine blk_alloc ?_ _)); refine blk_far ?_ NB1052_1077.out _; (with_reducible repeat (first | refine blk_drewN ?_ _ | refine blk_drew ?_ | refine blk_alloc ?_ _)); refine blk_far ?_ NB1052_1077.out _; (with_reducible repeat (first | refine blk_drewN ?_ _ | refine blk_drew ?_ | refine blk_alloc ?_ _)); refine blk_far ?_ NB1052_1077.out _; (with_reducible repeat (first | refine blk_drewN ?_ _ | refine blk_drew ?_ | refine blk_alloc ?_ _)); refine blk_far ?_ NB1052_1077.out _; (with_reducible repeat (first | refine blk_drewN ?_ _ | refine blk_drew ?_ | refine blk_alloc ?_ _)); exact BK1052.out) hb); have n7_ := Aside0.mk (blk_below (g := gb1077) (o := .cells #[.int .i64 t1065, .int .i64 t1066, .string t1067, .int .i64 t1068, .bool t1069, .slice Ao24 t1070.length co24, .slice Ao25 t1073.length co25] 29 (0, 0)) (by (with_reducible repeat (first | refine blk_drewN ?_ _ | refine blk_drew ?_ | refine blk_alloc ?_ _)); refine blk_put (cs := #[.int .i64 t1065, .int .i64 t1066, .string t1067, .int .i64 t1068, .bool t1069, .slice Ao24 t1070.length co24, .slice none 0 0]) ?_ 6 _ rfl; (with_reducible repeat (first | refine blk_drewN ?_ _ | refine blk_drew ?_ | refine blk_alloc ?_ _)); refine blk_put (cs := #[.int .i64 t1065, .int .i64 t1066, .string t1067, .int .i64 t1068, .bool t1069, .slice none 0 0, .slice none 0 0]) ?_ 5 _ rfl; (with_reducible repeat (first | refine blk_drewN ?_ _ | refine blk_drew ?_ | refine blk_alloc ?_ _)); refine blk_put (cs := #[.int .i64 t1065, .int .i64 t1066, .string t1067, .int .i64 t1068, .bool false, .slice none 0 0, .slice none 0 0]) ?_ 4 _ rfl; (with_reducible repeat (first | refine blk_drewN ?_ _ | refine blk_drew ?_ | refine blk_alloc ?_ _)); refine blk_put (cs := #[.int .i64 t1065, .int .i64 t1066, .string t1067, .int .i64 0, .bool false, .slice none 0 0, .slice none 0 0]) ?_ 3 _ rfl; (with_reducible repeat (first | refine blk_drewN ?_ _ | refine blk_drew ?_ | refine blk_alloc ?_ _)); refine blk_put (cs := #[.int .i64 t1065, .int .i64 t1066, .string (⟨#[]⟩ : ByteArray), .int .i64 0, .bool false, .slice none 0 0, .slice none 0 0]) ?_ 2 _ rfl; (with_reducible repeat (first | refine blk_drewN ?_ _ | refine blk_drew ?_ | refine blk_alloc ?_ _)); refine blk_put (cs := #[.int .i64 t1065, .int .i64 0, .string (⟨#[]⟩ : ByteArray), .int .i64 0, .bool false, .slice none 0 0, .slice none 0 0]) ?_ 1 _ rfl; (with_reducible repeat (first | refine blk_drewN ?_ _ | refine blk_drew ?_ | refine blk_alloc ?_ _)); refine blk_put (cs := #[.int .i64 0, .int .i64 0, .string (⟨#[]⟩ : ByteArray), .int .i64 0, .bool false, .slice none 0 0, .slice none 0 0]) ?_ 0 _ rfl; (with_reducible repeat (first | refine blk_drewN ?_ _ | refine blk_drew ?_ | refine blk_alloc ?_ _)); exact BK1077.out) hb); have n8_ := Aside0.mk (below_step (by repeat (first | (with_reducible first | exact HB.out | apply below_alloc | apply pw_below_drewN | apply below_drew1 | refine below_set ?_ GE1052.out | refine below_set ?_ GE1077.out) | exact HB.out)) hb); clear HO1061 HO1064 HO1072 HO1075 BK1052 BK1077 HB; have HO1061 := n0_; have HO1064 := n1_; have HO1072 := n2_; have HO1075 := n3_; have HO1085 := n4_; have HO1088 := n5_; have BK1052 := n6_; have BK1077 := n7_; have HB := n8_; clear n0_ n1_ n2_ n3_ n4_ n5_ n6_ n7_ n8_; (try clear hb); (try clear hb2); (try clear hk); (try clear hi); (try clear ho0); (try clear ho1)) | ((with_reducible refine gate_dst (N := 8) rfl ?_); refine box_event ?hg (N := 8) ?hd (cs := #[.int .i64 0, .int .i64 0, .string (⟨#[]⟩ : ByteArray), .int .i64 0, .bool false, .slice none 0 0, .slice none 0 0]) (t := 29) ?hr ?_; (case hd => rfl); (case hg => rfl); (case hr => first | (go_simp; done) | (go_simp; rfl)); intro gb1089 hg w28 hbox hb; have n0_ := Aside0.mk (Kd.R_below (pkR HO1061.out) hb); have n1_ := Aside0.mk (Kd.R_below (pkR HO1064.out) hb); have n2_ := Aside0.mk (Kd.R_below (pkR HO1072.out) hb); have n3_ := Aside0.mk (Kd.R_below (pkR HO1075.out) hb); have n4_ := Aside0.mk (Kd.R_below (pkR HO1085.out) hb); have n5_ := Aside0.mk (Kd.R_below (pkR HO1088.out) hb); have n6_ := Aside0.mk (blk_below (g := gb1052) (o := .cells #[.int .i64 a0_0, .int .i64 a0_1, .string a0_2, .int .i64 a0_3, .bool a0_4, .slice A0_5 l0_5.length c0_5, .slice A0_6 l0_6.length c0_6] 56 (0, 0)) (pkK BK1052.out) hb); have n7_ := Aside0.mk (blk_below (g := gb1077) (o := .cells #[.int .i64 t1065, .int .i64 t1066, .string t1067, .int .i64 t1068, .bool t1069, .slice Ao24 t1070.length co24, .slice Ao25 t1073.length co25] 29 (0, 0)) (pkK BK1077.out) hb); have n8_ := Aside0.mk (below_step (by repeat (first | (with_reducible first | exact HB.out | apply below_alloc | apply pw_below_drewN | apply below_drew1 | refine below_set ?_ GE1052.out | refine below_set ?_ GE1077.out) | exact HB.out)) hb); have n9_ := Aside0.mk (hbox); have n10_ := Aside0.mk ((by rw [hg]; exact (below_size (by repeat (first | (with_reducible first | exact HB.out | apply below_alloc | apply pw_below_drewN | apply below_drew1 | refine below_set ?_ GE1052.out | refine below_set ?_ GE1077.out) | exact HB.out))) : w.heap.size ≤ gb1089)); have n11_ := Aside0.mk ((by rw [hg]; exact (below_size (by repeat (first | (with_reducible first | exact HB.out | apply below_alloc | apply pw_below_drewN | apply below_drew1 | refine below_set ?_ GE1052.out | refine below_set ?_ GE1077.out) | exact HB.out))) : w.heap.size ≤ gb1089)); have n12_ := Aside0.mk ((by rw [hg]; exact Nat.ne_of_lt (blk_lt (g := gb1052) (o := .cells #[.int .i64 a0_0, .int .i64 a0_1, .string a0_2, .int .i64 a0_3, .bool a0_4, .slice A0_5 l0_5.length c0_5, .slice A0_6 l0_6.length c0_6] 56 (0, 0)) (pkK BK1052.out)) : gb1052 ≠ gb1089)); have n13_ := Aside0.mk ((by rw [hg]; exact Nat.ne_of_gt (blk_lt (g := gb1052) (o := .cells #[.int .i64 a0_0, .int .i64 a0_1, .string a0_2, .int .i64 a0_3, .bool a0_4, .slice A0_5 l0_5.length c0_5, .slice A0_6 l0_6.length c0_6] 56 (0, 0)) (pkK BK1052.out)) : gb1089 ≠ gb1052)); have n14_ := Aside0.mk ((by rw [hg]; exact Nat.ne_of_lt (blk_lt (g := gb1077) (o := .cells #[.int .i64 t1065, .int .i64 t1066, .string t1067, .int .i64 t1068, .bool t1069, .slice Ao24 t1070.length co24, .slice Ao25 t1073.length co25] 29 (0, 0)) (pkK BK1077.out)) : gb1077 ≠ gb1089)); have n15_ := Aside0.mk ((by rw [hg]; exact Nat.ne_of_gt (blk_lt (g := gb1077) (o := .cells #[.int .i64 t1065, .int .i64 t1066, .string t1067, .int .i64 t1068, .bool t1069, .slice Ao24 t1070.length co24, .slice Ao25 t1073.length co25] 29 (0, 0)) (pkK BK1077.out)) : gb1089 ≠ gb1077)); clear HO1061 HO1064 HO1072 HO1075 HO1085 HO1088 BK1052 BK1077 HB; have HO1061 := n0_; have HO1064 := n1_; have HO1072 := n2_; have HO1075 := n3_; have HO1085 := n4_; have HO1088 := n5_; have BK1052 := n6_; have BK1077 := n7_; have HB := n8_; have BK1089 := n9_; have GW1089 := n10_; have GE1089 := n11_; have NB1052_1089 := n12_; have NB1089_1052 := n13_; have NB1077_1089 := n14_; have NB1089_1077 := n15_; clear n0_ n1_ n2_ n3_ n4_ n5_ n6_ n7_ n8_ n9_ n10_ n11_ n12_ n13_ n14_ n15_; clear hb hbox hg; have hnb29 := NB1089_1052.out; have hnc29 := NB1052_1089.out; have hnb30 := NB1089_1077.out; have hnc30 := NB1077_1089.out; have hcz31_0 : w28.cell? ⟨gb1089, 0, none⟩ = some (.int .i64 0) := (blk_cell BK1089.out 0).trans rfl; have hcz31_1 : w28.cell? ⟨gb1089, 1, none⟩ = some (.int .i64 0) := (blk_cell BK1089.out 1).trans rfl; have hcz31_2 : w28.cell? ⟨gb1089, 2, none⟩ = some (.string (⟨#[]⟩ : ByteArray)) := (blk_cell BK1089.out 2).trans rfl; have hcz31_3 : w28.cell? ⟨gb1089, 3, none⟩ = some (.int .i64 0) := (blk_cell BK1089.out 3).trans rfl; have hcz31_4 : w28.cell? ⟨gb1089, 4, none⟩ = some (.bool false) := (blk_cell BK1089.out 4).trans rfl; have hcz31_5 : w28.cell? ⟨gb1089, 5, none⟩ = some (.slice none 0 0) := (blk_cell BK1089.out 5).trans rfl; have hcz31_6 : w28.cell? ⟨gb1089, 6, none⟩ = some (.slice none 0 0) := (blk_cell BK1089.out 6).trans rfl; have hfz31_0 := blk_frozen BK1089.out 0; have hfz31_1 := blk_frozen BK1089.out 1; have hfz31_2 := blk_frozen BK1089.out 2; have hfz31_3 := blk_frozen BK1089.out 3; have hfz31_4 := blk_frozen BK1089.out 4; have hfz31_5 := blk_frozen BK1089.out 5; have hfz31_6 := blk_frozen BK1089.out 6; obtain ⟨Ao32, co32, eo32⟩ := Kd.R_slice HO1085.out; subst eo32; obtain ⟨Ao33, co33, eo33⟩ := Kd.R_slice HO1088.out; subst eo33) | ((with_reducible refine gate_callee (f := 51) rfl ?_); refine goesL_ (some 33) rfl rfl Try.func51 (by kernel_rfl) rfl #[.agg #[.int .i64 t1078, .int .i64 t1079, .string t1080, .int .i64 t1081, .bool t1082, .slice Ao32 t1083.length co32, .slice Ao33 t1086.length co33], .int .i64 a1] rfl (by (try simp only [List.map_toArray, List.map_cons, List.map_nil]); first | done | rfl | (simp only [List.length_drop, List.length_take]; rfl) | (go_simp; done) | (simp [*]; done)) ?_; (with_reducible refine (impl_Unwatch.calls k t1078 t1079 t1080 t1081 t1082 _ _ t1083 _ _ t1086 a1 t1090 t1091 t1092 t1093 t1094 t1095 t1098 t1101 _ ?side1 ?side2 ?side3 ?side4 A11.out).mono ?_); (case side1 => refine (Kd.R_reads' (e := 3) (base := w.heap.size) (ok := fun k_ => ((((some k_ ≠ (.slice Ao33 t1086.length co33 : Value).ownBlock ∧ some k_ ≠ (.slice Ao18 t1059.length co18 : Value).ownBlock) ∧ some k_ ≠ (.slice Ao19 t1062.length co19 : Value).ownBlock) ∧ some k_ ≠ (.slice Ao24 t1070.length co24 : Value).ownBlock) ∧ some k_ ≠ (.slice Ao25 t1073.length co25 : Value).ownBlock)) (n := t1083.length) (c := co32) ?_).2.2; exact (by (with_reducible repeat (first | apply Kd.R_alloc | apply Kd.R_drewN | apply Kd.R_drew)); exact (Kd.R_mono (Kd.R_far (p := ⟨gb1089, 6, none⟩) (Kd.R_far (p := ⟨gb1089, 5, none⟩) (Kd.R_far (p := ⟨gb1089, 4, none⟩) (Kd.R_far (p := ⟨gb1089, 3, none⟩) (Kd.R_far (p := ⟨gb1089, 2, none⟩) (Kd.R_far (p := ⟨gb1089, 1, none⟩) (Kd.R_far (p := ⟨gb1089, 0, none⟩) (Kd.R_types HO1085.out BK1089.out (by decide)) (fun _ hk => hk.2) (.int .i64 t1078)) (fun _ hk => hk.2) (.int .i64 t1079)) (fun _ hk => hk.2) (.string t1080)) (fun _ hk => hk.2) (.int .i64 t1081)) (fun _ hk => hk.2) (.bool t1082)) (fun _ hk => hk.2) (.slice Ao32 t1083.length co32)) (fun _ hk => hk.2) (.slice Ao33 t1086.length co33)) (fun _ h_ => h_.1)))); (case side2 => exact (Kd.R_reads' HO1085.out).2.1); (case side3 => refine (Kd.R_reads' (e := 3) (base := w.heap.size) (ok := fun k_ => ((((some k_ ≠ (.slice Ao32 t1083.length co32 : Value).ownBlock ∧ some k_ ≠ (.slice Ao18 t1059.length co18 : Value).ownBlock) ∧ some k_ ≠ (.slice Ao19 t1062.length co19 : Value).ownBlock) ∧ some k_ ≠ (.slice Ao24 t1070.length co24 : Value).ownBlock) ∧ some k_ ≠ (.slice Ao25 t1073.length co25 : Value).ownBlock)) (n := t1086.length) (c := co33) ?_).2.2; exact (by (with_reducible repeat (first | apply Kd.R_alloc | apply Kd.R_drewN | apply Kd.R_drew)); exact (Kd.R_mono (Kd.R_far (p := ⟨gb1089, 6, none⟩) (Kd.R_far (p := ⟨gb1089, 5, none⟩) (Kd.R_far (p := ⟨gb1089, 4, none⟩) (Kd.R_far (p := ⟨gb1089, 3, none⟩) (Kd.R_far (p := ⟨gb1089, 2, none⟩) (Kd.R_far (p := ⟨gb1089, 1, none⟩) (Kd.R_far (p := ⟨gb1089, 0, none⟩) (Kd.R_types HO1088.out BK1089.out (by decide)) (fun _ hk => hk.2) (.int .i64 t1078)) (fun _ hk => hk.2) (.int .i64 t1079)) (fun _ hk => hk.2) (.string t1080)) (fun _ hk => hk.2) (.int .i64 t1081)) (fun _ hk => hk.2) (.bool t1082)) (fun _ hk => hk.2) (.slice Ao32 t1083.length co32)) (fun _ hk => hk.2) (.slice Ao33 t1086.length co33)) (fun _ h_ => h_.1)))); (case side4 => exact (Kd.R_reads' HO1088.out).2.1); rintro e w34 ⟨v1096, v1099, rfl, ho0, ho1, hb⟩; refine ⟨_, rfl, ?_⟩; have n0_ := Aside0.mk (Kd.R_mono (Kd.R_told (Kd.R_told (Kd.R_old (by (with_reducible repeat (first | apply Kd.R_alloc | apply Kd.R_drewN | apply Kd.R_drew)); exact (Kd.R_mono (Kd.R_far (p := ⟨gb1089, 6, none⟩) (Kd.R_far (p := ⟨gb1089, 5, none⟩) (Kd.R_far (p := ⟨gb1089, 4, none⟩) (Kd.R_far (p := ⟨gb1089, 3, none⟩) (Kd.R_far (p := ⟨gb1089, 2, none⟩) (Kd.R_far (p := ⟨gb1089, 1, none⟩) (Kd.R_far (p := ⟨gb1089, 0, none⟩) (Kd.R_types HO1061.out BK1089.out (by decide)) (fun _ hk => hk.2) (.int .i64 t1078)) (fun _ hk => hk.2) (.int .i64 t1079)) (fun _ hk => hk.2) (.string t1080)) (fun _ hk => hk.2) (.int .i64 t1081)) (fun _ hk => hk.2) (.bool t1082)) (fun _ hk => hk.2) (.slice Ao32 t1083.length co32)) (fun _ hk => hk.2) (.slice Ao33 t1086.length co33)) (fun _ h_ => h_.1))) hb) (Kd.R_base ho0)) (Kd.R_base ho1)) (fun _ h_ => h_.1)); have n1_ := Aside0.mk (Kd.R_mono (Kd.R_told (Kd.R_told (Kd.R_old (by (with_reducible repeat (first | apply Kd.R_alloc | apply Kd.R_drewN | apply Kd.R_drew)); exact (Kd.R_mono (Kd.R_far (p := ⟨gb1089, 6, none⟩) (Kd.R_far (p := ⟨gb1089, 5, none⟩) (Kd.R_far (p := ⟨gb1089, 4, none⟩) (Kd.R_far (p := ⟨gb1089, 3, none⟩) (Kd.R_far (p := ⟨gb1089, 2, none⟩) (Kd.R_far (p := ⟨gb1089, 1, none⟩) (Kd.R_far (p := ⟨gb1089, 0, none⟩) (Kd.R_types HO1064.out BK1089.out (by decide)) (fun _ hk => hk.2) (.int .i64 t1078)) (fun _ hk => hk.2) (.int .i64 t1079)) (fun _ hk => hk.2) (.string t1080)) (fun _ hk => hk.2) (.int .i64 t1081)) (fun _ hk => hk.2) (.bool t1082)) (fun _ hk => hk.2) (.slice Ao32 t1083.length co32)) (fun _ hk => hk.2) (.slice Ao33 t1086.length co33)) (fun _ h_ => h_.1))) hb) (Kd.R_base ho0)) (Kd.R_base ho1)) (fun _ h_ => h_.1)); have n2_ := Aside0.mk (Kd.R_mono (Kd.R_told (Kd.R_told (Kd.R_old (by (with_reducible repeat (first | apply Kd.R_alloc | apply Kd.R_drewN | apply Kd.R_drew)); exact (Kd.R_mono (Kd.R_far (p := ⟨gb1089, 6, none⟩) (Kd.R_far (p := ⟨gb1089, 5, none⟩) (Kd.R_far (p := ⟨gb1089, 4, none⟩) (Kd.R_far (p := ⟨gb1089, 3, none⟩) (Kd.R_far (p := ⟨gb1089, 2, none⟩) (Kd.R_far (p := ⟨gb1089, 1, none⟩) (Kd.R_far (p := ⟨gb1089, 0, none⟩) (Kd.R_types HO1072.out BK1089.out (by decide)) (fun _ hk => hk.2) (.int .i64 t1078)) (fun _ hk => hk.2) (.int .i64 t1079)) (fun _ hk => hk.2) (.string t1080)) (fun _ hk => hk.2) (.int .i64 t1081)) (fun _ hk => hk.2) (.bool t1082)) (fun _ hk => hk.2) (.slice Ao32 t1083.length co32)) (fun _ hk => hk.2) (.slice Ao33 t1086.length co33)) (fun _ h_ => h_.1))) hb) (Kd.R_base ho0)) (Kd.R_base ho1)) (fun _ h_ => h_.1)); have n3_ := Aside0.mk (Kd.R_mono (Kd.R_told (Kd.R_told (Kd.R_old (by (with_reducible repeat (first | apply Kd.R_alloc | apply Kd.R_drewN | apply Kd.R_drew)); exact (Kd.R_mono (Kd.R_far (p := ⟨gb1089, 6, none⟩) (Kd.R_far (p := ⟨gb1089, 5, none⟩) (Kd.R_far (p := ⟨gb1089, 4, none⟩) (Kd.R_far (p := ⟨gb1089, 3, none⟩) (Kd.R_far (p := ⟨gb1089, 2, none⟩) (Kd.R_far (p := ⟨gb1089, 1, none⟩) (Kd.R_far (p := ⟨gb1089, 0, none⟩) (Kd.R_types HO1075.out BK1089.out (by decide)) (fun _ hk => hk.2) (.int .i64 t1078)) (fun _ hk => hk.2) (.int .i64 t1079)) (fun _ hk => hk.2) (.string t1080)) (fun _ hk => hk.2) (.int .i64 t1081)) (fun _ hk => hk.2) (.bool t1082)) (fun _ hk => hk.2) (.slice Ao32 t1083.length co32)) (fun _ hk => hk.2) (.slice Ao33 t1086.length co33)) (fun _ h_ => h_.1))) hb) (Kd.R_base ho0)) (Kd.R_base ho1)) (fun _ h_ => h_.1)); have n4_ := Aside0.mk (Kd.R_mono (Kd.R_told (Kd.R_told (Kd.R_old (by (with_reducible repeat (first | apply Kd.R_alloc | apply Kd.R_drewN | apply Kd.R_drew)); exact (Kd.R_mono (Kd.R_far (p := ⟨gb1089, 6, none⟩) (Kd.R_far (p := ⟨gb1089, 5, none⟩) (Kd.R_far (p := ⟨gb1089, 4, none⟩) (Kd.R_far (p := ⟨gb1089, 3, none⟩) (Kd.R_far (p := ⟨gb1089, 2, none⟩) (Kd.R_far (p := ⟨gb1089, 1, none⟩) (Kd.R_far (p := ⟨gb1089, 0, none⟩) (Kd.R_types HO1085.out BK1089.out (by decide)) (fun _ hk => hk.2) (.int .i64 t1078)) (fun _ hk => hk.2) (.int .i64 t1079)) (fun _ hk => hk.2) (.string t1080)) (fun _ hk => hk.2) (.int .i64 t1081)) (fun _ hk => hk.2) (.bool t1082)) (fun _ hk => hk.2) (.slice Ao32 t1083.length co32)) (fun _ hk => hk.2) (.slice Ao33 t1086.length co33)) (fun _ h_ => h_.1))) hb) (Kd.R_base ho0)) (Kd.R_base ho1)) (fun _ h_ => h_.1)); have n5_ := Aside0.mk (Kd.R_mono (Kd.R_told (Kd.R_told (Kd.R_old (by (with_reducible repeat (first | apply Kd.R_alloc | apply Kd.R_drewN | apply Kd.R_drew)); exact (Kd.R_mono (Kd.R_far (p := ⟨gb1089, 6, none⟩) (Kd.R_far (p := ⟨gb1089, 5, none⟩) (Kd.R_far (p := ⟨gb1089, 4, none⟩) (Kd.R_far (p := ⟨gb1089, 3, none⟩) (Kd.R_far (p := ⟨gb1089, 2, none⟩) (Kd.R_far (p := ⟨gb1089, 1, none⟩) (Kd.R_far (p := ⟨gb1089, 0, none⟩) (Kd.R_types HO1088.out BK1089.out (by decide)) (fun _ hk => hk.2) (.int .i64 t1078)) (fun _ hk => hk.2) (.int .i64 t1079)) (fun _ hk => hk.2) (.string t1080)) (fun _ hk => hk.2) (.int .i64 t1081)) (fun _ hk => hk.2) (.bool t1082)) (fun _ hk => hk.2) (.slice Ao32 t1083.length co32)) (fun _ hk => hk.2) (.slice Ao33 t1086.length co33)) (fun _ h_ => h_.1))) hb) (Kd.R_base ho0)) (Kd.R_base ho1)) (fun _ h_ => h_.1)); have n6_ := Aside0.mk (Kd.R_lower (Kd.R_new' (Kd.R_new' (Kd.R_new' (Kd.R_new' (Kd.R_new' (Kd.R_new' ho0 (Kd.R_lt (by (with_reducible repeat (first | apply Kd.R_alloc | apply Kd.R_drewN | apply Kd.R_drew)); exact (Kd.R_mono (Kd.R_far (p := ⟨gb1089, 6, none⟩) (Kd.R_far (p := ⟨gb1089, 5, none⟩) (Kd.R_far (p := ⟨gb1089, 4, none⟩) (Kd.R_far (p := ⟨gb1089, 3, none⟩) (Kd.R_far (p := ⟨gb1089, 2, none⟩) (Kd.R_far (p := ⟨gb1089, 1, none⟩) (Kd.R_far (p := ⟨gb1089, 0, none⟩) (Kd.R_types HO1061.out BK1089.out (by decide)) (fun _ hk => hk.2) (.int .i64 t1078)) (fun _ hk => hk.2) (.int .i64 t1079)) (fun _ hk => hk.2) (.string t1080)) (fun _ hk => hk.2) (.int .i64 t1081)) (fun _ hk => hk.2) (.bool t1082)) (fun _ hk => hk.2) (.slice Ao32 t1083.length co32)) (fun _ hk => hk.2) (.slice Ao33 t1086.length co33)) (fun _ h_ => h_.1))))) (Kd.R_lt (by (with_reducible repeat (first | apply Kd.R_alloc | apply Kd.R_drewN | apply Kd.R_drew)); exact (Kd.R_mono (Kd.R_far (p := ⟨gb1089, 6, none⟩) (Kd.R_far (p := ⟨gb1089, 5, none⟩) (Kd.R_far (p := ⟨gb1089, 4, none⟩) (Kd.R_far (p := ⟨gb1089, 3, none⟩) (Kd.R_far (p := ⟨gb1089, 2, none⟩) (Kd.R_far (p := ⟨gb1089, 1, none⟩) (Kd.R_far (p := ⟨gb1089, 0, none⟩) (Kd.R_types HO1064.out BK1089.out (by decide)) (fun _ hk => hk.2) (.int .i64 t1078)) (fun _ hk => hk.2) (.int .i64 t1079)) (fun _ hk => hk.2) (.string t1080)) (fun _ hk => hk.2) (.int .i64 t1081)) (fun _ hk => hk.2) (.bool t1082)) (fun _ hk => hk.2) (.slice Ao32 t1083.length co32)) (fun _ hk => hk.2) (.slice Ao33 t1086.length co33)) (fun _ h_ => h_.1))))) (Kd.R_lt (by (with_reducible repeat (first | apply Kd.R_alloc | apply Kd.R_drewN | apply Kd.R_drew)); exact (Kd.R_mono (Kd.R_far (p := ⟨gb1089, 6, none⟩) (Kd.R_far (p := ⟨gb1089, 5, none⟩) (Kd.R_far (p := ⟨gb1089, 4, none⟩) (Kd.R_far (p := ⟨gb1089, 3, none⟩) (Kd.R_far (p := ⟨gb1089, 2, none⟩) (Kd.R_far (p := ⟨gb1089, 1, none⟩) (Kd.R_far (p := ⟨gb1089, 0, none⟩) (Kd.R_types HO1072.out BK1089.out (by decide)) (fun _ hk => hk.2) (.int .i64 t1078)) (fun _ hk => hk.2) (.int .i64 t1079)) (fun _ hk => hk.2) (.string t1080)) (fun _ hk => hk.2) (.int .i64 t1081)) (fun _ hk => hk.2) (.bool t1082)) (fun _ hk => hk.2) (.slice Ao32 t1083.length co32)) (fun _ hk => hk.2) (.slice Ao33 t1086.length co33)) (fun _ h_ => h_.1))))) (Kd.R_lt (by (with_reducible repeat (first | apply Kd.R_alloc | apply Kd.R_drewN | apply Kd.R_drew)); exact (Kd.R_mono (Kd.R_far (p := ⟨gb1089, 6, none⟩) (Kd.R_far (p := ⟨gb1089, 5, none⟩) (Kd.R_far (p := ⟨gb1089, 4, none⟩) (Kd.R_far (p := ⟨gb1089, 3, none⟩) (Kd.R_far (p := ⟨gb1089, 2, none⟩) (Kd.R_far (p := ⟨gb1089, 1, none⟩) (Kd.R_far (p := ⟨gb1089, 0, none⟩) (Kd.R_types HO1075.out BK1089.out (by decide)) (fun _ hk => hk.2) (.int .i64 t1078)) (fun _ hk => hk.2) (.int .i64 t1079)) (fun _ hk => hk.2) (.string t1080)) (fun _ hk => hk.2) (.int .i64 t1081)) (fun _ hk => hk.2) (.bool t1082)) (fun _ hk => hk.2) (.slice Ao32 t1083.length co32)) (fun _ hk => hk.2) (.slice Ao33 t1086.length co33)) (fun _ h_ => h_.1))))) (Kd.R_lt (by (with_reducible repeat (first | apply Kd.R_alloc | apply Kd.R_drewN | apply Kd.R_drew)); exact (Kd.R_mono (Kd.R_far (p := ⟨gb1089, 6, none⟩) (Kd.R_far (p := ⟨gb1089, 5, none⟩) (Kd.R_far (p := ⟨gb1089, 4, none⟩) (Kd.R_far (p := ⟨gb1089, 3, none⟩) (Kd.R_far (p := ⟨gb1089, 2, none⟩) (Kd.R_far (p := ⟨gb1089, 1, none⟩) (Kd.R_far (p := ⟨gb1089, 0, none⟩) (Kd.R_types HO1085.out BK1089.out (by decide)) (fun _ hk => hk.2) (.int .i64 t1078)) (fun _ hk => hk.2) (.int .i64 t1079)) (fun _ hk => hk.2) (.string t1080)) (fun _ hk => hk.2) (.int .i64 t1081)) (fun _ hk => hk.2) (.bool t1082)) (fun _ hk => hk.2) (.slice Ao32 t1083.length co32)) (fun _ hk => hk.2) (.slice Ao33 t1086.length co33)) (fun _ h_ => h_.1))))) (Kd.R_lt (by (with_reducible repeat (first | apply Kd.R_alloc | apply Kd.R_drewN | apply Kd.R_drew)); exact (Kd.R_mono (Kd.R_far (p := ⟨gb1089, 6, none⟩) (Kd.R_far (p := ⟨gb1089, 5, none⟩) (Kd.R_far (p := ⟨gb1089, 4, none⟩) (Kd.R_far (p := ⟨gb1089, 3, none⟩) (Kd.R_far (p := ⟨gb1089, 2, none⟩) (Kd.R_far (p := ⟨gb1089, 1, none⟩) (Kd.R_far (p := ⟨gb1089, 0, none⟩) (Kd.R_types HO1088.out BK1089.out (by decide)) (fun _ hk => hk.2) (.int .i64 t1078)) (fun _ hk => hk.2) (.int .i64 t1079)) (fun _ hk => hk.2) (.string t1080)) (fun _ hk => hk.2) (.int .i64 t1081)) (fun _ hk => hk.2) (.bool t1082)) (fun _ hk => hk.2) (.slice Ao32 t1083.length co32)) (fun _ hk => hk.2) (.slice Ao33 t1086.length co33)) (fun _ h_ => h_.1))))) (below_size (by repeat (first | (with_reducible first | exact HB.out | apply below_alloc | apply pw_below_drewN | apply below_drew1 | refine below_set ?_ GE1052.out | refine below_set ?_ GE1077.out | refine below_set ?_ GE1089.out) | exact HB.out)))); have n7_ := Aside0.mk (Kd.R_lower (Kd.R_new' (Kd.R_new' (Kd.R_new' (Kd.R_new' (Kd.R_new' (Kd.R_new' ho1 (Kd.R_lt (by (with_reducible repeat (first | apply Kd.R_alloc | apply Kd.R_drewN | apply Kd.R_drew)); exact (Kd.R_mono (Kd.R_far (p := ⟨gb1089, 6, none⟩) (Kd.R_far (p := ⟨gb1089, 5, none⟩) (Kd.R_far (p := ⟨gb1089, 4, none⟩) (Kd.R_far (p := ⟨gb1089, 3, none⟩) (Kd.R_far (p := ⟨gb1089, 2, none⟩) (Kd.R_far (p := ⟨gb1089, 1, none⟩) (Kd.R_far (p := ⟨gb1089, 0, none⟩) (Kd.R_types HO1061.out BK1089.out (by decide)) (fun _ hk => hk.2) (.int .i64 t1078)) (fun _ hk => hk.2) (.int .i64 t1079)) (fun _ hk => hk.2) (.string t1080)) (fun _ hk => hk.2) (.int .i64 t1081)) (fun _ hk => hk.2) (.bool t1082)) (fun _ hk => hk.2) (.slice Ao32 t1083.length co32)) (fun _ hk => hk.2) (.slice Ao33 t1086.length co33)) (fun _ h_ => h_.1))))) (Kd.R_lt (by (with_reducible repeat (first | apply Kd.R_alloc | apply Kd.R_drewN | apply Kd.R_drew)); exact (Kd.R_mono (Kd.R_far (p := ⟨gb1089, 6, none⟩) (Kd.R_far (p := ⟨gb1089, 5, none⟩) (Kd.R_far (p := ⟨gb1089, 4, none⟩) (Kd.R_far (p := ⟨gb1089, 3, none⟩) (Kd.R_far (p := ⟨gb1089, 2, none⟩) (Kd.R_far (p := ⟨gb1089, 1, none⟩) (Kd.R_far (p := ⟨gb1089, 0, none⟩) (Kd.R_types HO1064.out BK1089.out (by decide)) (fun _ hk => hk.2) (.int .i64 t1078)) (fun _ hk => hk.2) (.int .i64 t1079)) (fun _ hk => hk.2) (.string t1080)) (fun _ hk => hk.2) (.int .i64 t1081)) (fun _ hk => hk.2) (.bool t1082)) (fun _ hk => hk.2) (.slice Ao32 t1083.length co32)) (fun _ hk => hk.2) (.slice Ao33 t1086.length co33)) (fun _ h_ => h_.1))))) (Kd.R_lt (by (with_reducible repeat (first | apply Kd.R_alloc | apply Kd.R_drewN | apply Kd.R_drew)); exact (Kd.R_mono (Kd.R_far (p := ⟨gb1089, 6, none⟩) (Kd.R_far (p := ⟨gb1089, 5, none⟩) (Kd.R_far (p := ⟨gb1089, 4, none⟩) (Kd.R_far (p := ⟨gb1089, 3, none⟩) (Kd.R_far (p := ⟨gb1089, 2, none⟩) (Kd.R_far (p := ⟨gb1089, 1, none⟩) (Kd.R_far (p := ⟨gb1089, 0, none⟩) (Kd.R_types HO1072.out BK1089.out (by decide)) (fun _ hk => hk.2) (.int .i64 t1078)) (fun _ hk => hk.2) (.int .i64 t1079)) (fun _ hk => hk.2) (.string t1080)) (fun _ hk => hk.2) (.int .i64 t1081)) (fun _ hk => hk.2) (.bool t1082)) (fun _ hk => hk.2) (.slice Ao32 t1083.length co32)) (fun _ hk => hk.2) (.slice Ao33 t1086.length co33)) (fun _ h_ => h_.1))))) (Kd.R_lt (by (with_reducible repeat (first | apply Kd.R_alloc | apply Kd.R_drewN | apply Kd.R_drew)); exact (Kd.R_mono (Kd.R_far (p := ⟨gb1089, 6, none⟩) (Kd.R_far (p := ⟨gb1089, 5, none⟩) (Kd.R_far (p := ⟨gb1089, 4, none⟩) (Kd.R_far (p := ⟨gb1089, 3, none⟩) (Kd.R_far (p := ⟨gb1089, 2, none⟩) (Kd.R_far (p := ⟨gb1089, 1, none⟩) (Kd.R_far (p := ⟨gb1089, 0, none⟩) (Kd.R_types HO1075.out BK1089.out (by decide)) (fun _ hk => hk.2) (.int .i64 t1078)) (fun _ hk => hk.2) (.int .i64 t1079)) (fun _ hk => hk.2) (.string t1080)) (fun _ hk => hk.2) (.int .i64 t1081)) (fun _ hk => hk.2) (.bool t1082)) (fun _ hk => hk.2) (.slice Ao32 t1083.length co32)) (fun _ hk => hk.2) (.slice Ao33 t1086.length co33)) (fun _ h_ => h_.1))))) (Kd.R_lt (by (with_reducible repeat (first | apply Kd.R_alloc | apply Kd.R_drewN | apply Kd.R_drew)); exact (Kd.R_mono (Kd.R_far (p := ⟨gb1089, 6, none⟩) (Kd.R_far (p := ⟨gb1089, 5, none⟩) (Kd.R_far (p := ⟨gb1089, 4, none⟩) (Kd.R_far (p := ⟨gb1089, 3, none⟩) (Kd.R_far (p := ⟨gb1089, 2, none⟩) (Kd.R_far (p := ⟨gb1089, 1, none⟩) (Kd.R_far (p := ⟨gb1089, 0, none⟩) (Kd.R_types HO1085.out BK1089.out (by decide)) (fun _ hk => hk.2) (.int .i64 t1078)) (fun _ hk => hk.2) (.int .i64 t1079)) (fun _ hk => hk.2) (.string t1080)) (fun _ hk => hk.2) (.int .i64 t1081)) (fun _ hk => hk.2) (.bool t1082)) (fun _ hk => hk.2) (.slice Ao32 t1083.length co32)) (fun _ hk => hk.2) (.slice Ao33 t1086.length co33)) (fun _ h_ => h_.1))))) (Kd.R_lt (by (with_reducible repeat (first | apply Kd.R_alloc | apply Kd.R_drewN | apply Kd.R_drew)); exact (Kd.R_mono (Kd.R_far (p := ⟨gb1089, 6, none⟩) (Kd.R_far (p := ⟨gb1089, 5, none⟩) (Kd.R_far (p := ⟨gb1089, 4, none⟩) (Kd.R_far (p := ⟨gb1089, 3, none⟩) (Kd.R_far (p := ⟨gb1089, 2, none⟩) (Kd.R_far (p := ⟨gb1089, 1, none⟩) (Kd.R_far (p := ⟨gb1089, 0, none⟩) (Kd.R_types HO1088.out BK1089.out (by decide)) (fun _ hk => hk.2) (.int .i64 t1078)) (fun _ hk => hk.2) (.int .i64 t1079)) (fun _ hk => hk.2) (.string t1080)) (fun _ hk => hk.2) (.int .i64 t1081)) (fun _ hk => hk.2) (.bool t1082)) (fun _ hk => hk.2) (.slice Ao32 t1083.length co32)) (fun _ hk => hk.2) (.slice Ao33 t1086.length co33)) (fun _ h_ => h_.1))))) (below_size (by repeat (first | (with_reducible first | exact HB.out | apply below_alloc | apply pw_below_drewN | apply below_drew1 | refine below_set ?_ GE1052.out | refine below_set ?_ GE1077.out | refine below_set ?_ GE1089.out) | exact HB.out)))); have n8_ := Aside0.mk (blk_below (g := gb1052) (o := .cells #[.int .i64 a0_0, .int .i64 a0_1, .string a0_2, .int .i64 a0_3, .bool a0_4, .slice A0_5 l0_5.length c0_5, .slice A0_6 l0_6.length c0_6] 56 (0, 0)) (by (with_reducible repeat (first | refine blk_drewN ?_ _ | refine blk_drew ?_ | refine blk_alloc ?_ _)); refine blk_far ?_ NB1052_1089.out _; (with_reducible repeat (first | refine blk_drewN ?_ _ | refine blk_drew ?_ | refine blk_alloc ?_ _)); refine blk_far ?_ NB1052_1089.out _; (with_reducible repeat (first | refine blk_drewN ?_ _ | refine blk_drew ?_ | refine blk_alloc ?_ _)); refine blk_far ?_ NB1052_1089.out _; (with_reducible repeat (first | refine blk_drewN ?_ _ | refine blk_drew ?_ | refine blk_alloc ?_ _)); refine blk_far ?_ NB1052_1089.out _; (with_reducible repeat (first | refine blk_drewN ?_ _ | refine blk_drew ?_ | refine blk_alloc ?_ _)); refine blk_far ?_ NB1052_1089.out _; (with_reducible repeat (first | refine blk_drewN ?_ _ | refine blk_drew ?_ | refine blk_alloc ?_ _)); refine blk_far ?_ NB1052_1089.out _; (with_reducible repeat (first | refine blk_drewN ?_ _ | refine blk_drew ?_ | refine blk_alloc ?_ _)); refine blk_far ?_ NB1052_1089.out _; (with_reducible repeat (first | refine blk_drewN ?_ _ | refine blk_drew ?_ | refine blk_alloc ?_ _)); exact BK1052.out) hb); have n9_ := Aside0.mk (blk_below (g := gb1077) (o := .cells #[.int .i64 t1065, .int .i64 t1066, .string t1067, .int .i64 t1068, .bool t1069, .slice Ao24 t1070.length co24, .slice Ao25 t1073.length co25] 29 (0, 0)) (by (with_reducible repeat (first | refine blk_drewN ?_ _ | refine blk_drew ?_ | refine blk_alloc ?_ _)); refine blk_far ?_ NB1077_1089.out _; (with_reducible repeat (first | refine blk_drewN ?_ _ | refine blk_drew ?_ | refine blk_alloc ?_ _)); refine blk_far ?_ NB1077_1089.out _; (with_reducible repeat (first | refine blk_drewN ?_ _ | refine blk_drew ?_ | refine blk_alloc ?_ _)); refine blk_far ?_ NB1077_1089.out _; (with_reducible repeat (first | refine blk_drewN ?_ _ | refine blk_drew ?_ | refine blk_alloc ?_ _)); refine blk_far ?_ NB1077_1089.out _; (with_reducible repeat (first | refine blk_drewN ?_ _ | refine blk_drew ?_ | refine blk_alloc ?_ _)); refine blk_far ?_ NB1077_1089.out _; (with_reducible repeat (first | refine blk_drewN ?_ _ | refine blk_drew ?_ | refine blk_alloc ?_ _)); refine blk_far ?_ NB1077_1089.out _; (with_reducible repeat (first | refine blk_drewN ?_ _ | refine blk_drew ?_ | refine blk_alloc ?_ _)); refine blk_far ?_ NB1077_1089.out _; (with_reducible repeat (first | refine blk_drewN ?_ _ | refine blk_drew ?_ | refine blk_alloc ?_ _)); exact BK1077.out) hb); have n10_ := Aside0.mk (blk_below (g := gb1089) (o := .cells #[.int .i64 t1078, .int .i64 t1079, .string t1080, .int .i64 t1081, .bool t1082, .slice Ao32 t1083.length co32, .slice Ao33 t1086.length co33] 29 (0, 0)) (by (with_reducible repeat (first | refine blk_drewN ?_ _ | refine blk_drew ?_ | refine blk_alloc ?_ _)); refine blk_put (cs := #[.int .i64 t1078, .int .i64 t1079, .string t1080, .int .i64 t1081, .bool t1082, .slice Ao32 t1083.length co32, .slice none 0 0]) ?_ 6 _ rfl; (with_reducible repeat (first | refine blk_drewN ?_ _ | refine blk_drew ?_ | refine blk_alloc ?_ _)); refine blk_put (cs := #[.int .i64 t1078, .int .i64 t1079, .string t1080, .int .i64 t1081, .bool t1082, .slice none 0 0, .slice none 0 0]) ?_ 5 _ rfl; (with_reducible repeat (first | refine blk_drewN ?_ _ | refine blk_drew ?_ | refine blk_alloc ?_ _)); refine blk_put (cs := #[.int .i64 t1078, .int .i64 t1079, .string t1080, .int .i64 t1081, .bool false, .slice none 0 0, .slice none 0 0]) ?_ 4 _ rfl; (with_reducible repeat (first | refine blk_drewN ?_ _ | refine blk_drew ?_ | refine blk_alloc ?_ _)); refine blk_put (cs := #[.int .i64 t1078, .int .i64 t1079, .string t1080, .int .i64 0, .bool false, .slice none 0 0, .slice none 0 0]) ?_ 3 _ rfl; (with_reducible repeat (first | refine blk_drewN ?_ _ | refine blk_drew ?_ | refine blk_alloc ?_ _)); refine blk_put (cs := #[.int .i64 t1078, .int .i64 t1079, .string (⟨#[]⟩ : ByteArray), .int .i64 0, .bool false, .slice none 0 0, .slice none 0 0]) ?_ 2 _ rfl; (with_reducible repeat (first | refine blk_drewN ?_ _ | refine blk_drew ?_ | refine blk_alloc ?_ _)); refine blk_put (cs := #[.int .i64 t1078, .int .i64 0, .string (⟨#[]⟩ : ByteArray), .int .i64 0, .bool false, .slice none 0 0, .slice none 0 0]) ?_ 1 _ rfl; (with_reducible repeat (first | refine blk_drewN ?_ _ | refine blk_drew ?_ | refine blk_alloc ?_ _)); refine blk_put (cs := #[.int .i64 0, .int .i64 0, .string (⟨#[]⟩ : ByteArray), .int .i64 0, .bool false, .slice none 0 0, .slice none 0 0]) ?_ 0 _ rfl; (with_reducible repeat (first | refine blk_drewN ?_ _ | refine blk_drew ?_ | refine blk_alloc ?_ _)); exact BK1089.out) hb); have n11_ := Aside0.mk (below_step (by repeat (first | (with_reducible first | exact HB.out | apply below_alloc | apply pw_below_drewN | apply below_drew1 | refine below_set ?_ GE1052.out | refine below_set ?_ GE1077.out | refine below_set ?_ GE1089.out) | exact HB.out)) hb); clear HO1061 HO1064 HO1072 HO1075 HO1085 HO1088 BK1052 BK1077 BK1089 HB; have HO1061 := n0_; have HO1064 := n1_; have HO1072 := n2_; have HO1075 := n3_; have HO1085 := n4_; have HO1088 := n5_; have HO1097 := n6_; have HO1100 := n7_; have BK1052 := n8_; have BK1077 := n9_; have BK1089 := n10_; have HB := n11_; clear n0_ n1_ n2_ n3_ n4_ n5_ n6_ n7_ n8_ n9_ n10_ n11_; (try clear hb); (try clear hb2); (try clear hk); (try clear hi); (try clear ho0); (try clear ho1)) | ((with_reducible refine gate_dst (N := 9) rfl ?_); refine box_event ?hg (N := 9) ?hd (cs := #[.int .i64 0, .int .i64 0, .string (⟨#[]⟩ : ByteArray), .int .i64 0, .bool false, .slice none 0 0, .slice none 0 0]) (t := 29) ?hr ?_; (case hd => rfl); (case hg => rfl); (case hr => first | (go_simp; done) | (go_simp; rfl)); intro gb1102 hg w35 hbox hb; have n0_ := Aside0.mk (Kd.R_below (pkR HO1061.out) hb); have n1_ := Aside0.mk (Kd.R_below (pkR HO1064.out) hb); have n2_ := Aside0.mk (Kd.R_below (pkR HO1072.out) hb); have n3_ := Aside0.mk (Kd.R_below (pkR HO1075.out) hb); have n4_ := Aside0.mk (Kd.R_below (pkR HO1085.out) hb); have n5_ := Aside0.mk (Kd.R_below (pkR HO1088.out) hb); have n6_ := Aside0.mk (Kd.R_below (pkR HO1097.out) hb); have n7_ := Aside0.mk (Kd.R_below (pkR HO1100.out) hb); have n8_ := Aside0.mk (blk_below (g := gb1052) (o := .cells #[.int .i64 a0_0, .int .i64 a0_1, .string a0_2, .int .i64 a0_3, .bool a0_4, .slice A0_5 l0_5.length c0_5, .slice A0_6 l0_6.length c0_6] 56 (0, 0)) (pkK BK1052.out) hb); have n9_ := Aside0.mk (blk_below (g := gb1077) (o := .cells #[.int .i64 t1065, .int .i64 t1066, .string t1067, .int .i64 t1068, .bool t1069, .slice Ao24 t1070.length co24, .slice Ao25 t1073.length co25] 29 (0, 0)) (pkK BK1077.out) hb); have n10_ := Aside0.mk (blk_below (g := gb1089) (o := .cells #[.int .i64 t1078, .int .i64 t1079, .string t1080, .int .i64 t1081, .bool t1082, .slice Ao32 t1083.length co32, .slice Ao33 t1086.length co33] 29 (0, 0)) (pkK BK1089.out) hb); have n11_ := Aside0.mk (below_step (by repeat (first | (with_reducible first | exact HB.out | apply below_alloc | apply pw_below_drewN | apply below_drew1 | refine below_set ?_ GE1052.out | refine below_set ?_ GE1077.out | refine below_set ?_ GE1089.out) | exact HB.out)) hb); have n12_ := Aside0.mk (hbox); have n13_ := Aside0.mk ((by rw [hg]; exact (below_size (by repeat (first | (with_reducible first | exact HB.out | apply below_alloc | apply pw_below_drewN | apply below_drew1 | refine below_set ?_ GE1052.out | refine below_set ?_ GE1077.out | refine below_set ?_ GE1089.out) | exact HB.out))) : w.heap.size ≤ gb1102)); have n14_ := Aside0.mk ((by rw [hg]; exact (below_size (by repeat (first | (with_reducible first | exact HB.out | apply below_alloc | apply pw_below_drewN | apply below_drew1 | refine below_set ?_ GE1052.out | refine below_set ?_ GE1077.out | refine below_set ?_ GE1089.out) | exact HB.out))) : w.heap.size ≤ gb1102)); have n15_ := Aside0.mk ((by rw [hg]; exact Nat.ne_of_lt (blk_lt (g := gb1052) (o := .cells #[.int .i64 a0_0, .int .i64 a0_1, .string a0_2, .int .i64 a0_3, .bool a0_4, .slice A0_5 l0_5.length c0_5, .slice A0_6 l0_6.length c0_6] 56 (0, 0)) (pkK BK1052.out)) : gb1052 ≠ gb1102)); have n16_ := Aside0.mk ((by rw [hg]; exact Nat.ne_of_gt (blk_lt (g := gb1052) (o := .cells #[.int .i64 a0_0, .int .i64 a0_1, .string a0_2, .int .i64 a0_3, .bool a0_4, .slice A0_5 l0_5.length c0_5, .slice A0_6 l0_6.length c0_6] 56 (0, 0)) (pkK BK1052.out)) : gb1102 ≠ gb1052)); have n17_ := Aside0.mk ((by rw [hg]; exact Nat.ne_of_lt (blk_lt (g := gb1077) (o := .cells #[.int .i64 t1065, .int .i64 t1066, .string t1067, .int .i64 t1068, .bool t1069, .slice Ao24 t1070.length co24, .slice Ao25 t1073.length co25] 29 (0, 0)) (pkK BK1077.out)) : gb1077 ≠ gb1102)); have n18_ := Aside0.mk ((by rw [hg]; exact Nat.ne_of_gt (blk_lt (g := gb1077) (o := .cells #[.int .i64 t1065, .int .i64 t1066, .string t1067, .int .i64 t1068, .bool t1069, .slice Ao24 t1070.length co24, .slice Ao25 t1073.length co25] 29 (0, 0)) (pkK BK1077.out)) : gb1102 ≠ gb1077)); have n19_ := Aside0.mk ((by rw [hg]; exact Nat.ne_of_lt (blk_lt (g := gb1089) (o := .cells #[.int .i64 t1078, .int .i64 t1079, .string t1080, .int .i64 t1081, .bool t1082, .slice Ao32 t1083.length co32, .slice Ao33 t1086.length co33] 29 (0, 0)) (pkK BK1089.out)) : gb1089 ≠ gb1102)); have n20_ := Aside0.mk ((by rw [hg]; exact Nat.ne_of_gt (blk_lt (g := gb1089) (o := .cells #[.int .i64 t1078, .int .i64 t1079, .string t1080, .int .i64 t1081, .bool t1082, .slice Ao32 t1083.length co32, .slice Ao33 t1086.length co33] 29 (0, 0)) (pkK BK1089.out)) : gb1102 ≠ gb1089)); clear HO1061 HO1064 HO1072 HO1075 HO1085 HO1088 HO1097 HO1100 BK1052 BK1077 BK1089 HB; have HO1061 := n0_; have HO1064 := n1_; have HO1072 := n2_; have HO1075 := n3_; have HO1085 := n4_; have HO1088 := n5_; have HO1097 := n6_; have HO1100 := n7_; have BK1052 := n8_; have BK1077 := n9_; have BK1089 := n10_; have HB := n11_; have BK1102 := n12_; have GW1102 := n13_; have GE1102 := n14_; have NB1052_1102 := n15_; have NB1102_1052 := n16_; have NB1077_1102 := n17_; have NB1102_1077 := n18_; have NB1089_1102 := n19_; have NB1102_1089 := n20_; clear n0_ n1_ n2_ n3_ n4_ n5_ n6_ n7_ n8_ n9_ n10_ n11_ n12_ n13_ n14_ n15_ n16_ n17_ n18_ n19_ n20_; clear hb hbox hg; have hnb36 := NB1102_1052.out; have hnc36 := NB1052_1102.out; have hnb37 := NB1102_1077.out; have hnc37 := NB1077_1102.out; have hnb38 := NB1102_1089.out; have hnc38 := NB1089_1102.out; have hcz39_0 : w35.cell? ⟨gb1102, 0, none⟩ = some (.int .i64 0) := (blk_cell BK1102.out 0).trans rfl; have hcz39_1 : w35.cell? ⟨gb1102, 1, none⟩ = some (.int .i64 0) := (blk_cell BK1102.out 1).trans rfl; have hcz39_2 : w35.cell? ⟨gb1102, 2, none⟩ = some (.string (⟨#[]⟩ : ByteArray)) := (blk_cell BK1102.out 2).trans rfl; have hcz39_3 : w35.cell? ⟨gb1102, 3, none⟩ = some (.int .i64 0) := (blk_cell BK1102.out 3).trans rfl; have hcz39_4 : w35.cell? ⟨gb1102, 4, none⟩ = some (.bool false) := (blk_cell BK1102.out 4).trans rfl; have hcz39_5 : w35.cell? ⟨gb1102, 5, none⟩ = some (.slice none 0 0) := (blk_cell BK1102.out 5).trans rfl; have hcz39_6 : w35.cell? ⟨gb1102, 6, none⟩ = some (.slice none 0 0) := (blk_cell BK1102.out 6).trans rfl; have hfz39_0 := blk_frozen BK1102.out 0; have hfz39_1 := blk_frozen BK1102.out 1; have hfz39_2 := blk_frozen BK1102.out 2; have hfz39_3 := blk_frozen BK1102.out 3; have hfz39_4 := blk_frozen BK1102.out 4; have hfz39_5 := blk_frozen BK1102.out 5; have hfz39_6 := blk_frozen BK1102.out 6; obtain ⟨Ao40, co40, eo40⟩ := Kd.R_slice HO1097.out; subst eo40; obtain ⟨Ao41, co41, eo41⟩ := Kd.R_slice HO1100.out; subst eo41))
    (try simp only [Act.put, List.setIfInBounds_toArray, List.set_cons_zero, List.set_cons_succ])
    go_cut [44] (fun v44 wc => ∃ (kq : Nat) (x44_11 : Bool), v44 = .bool x44_11 ∧ Aside0 (laws_FnExactUnwatch.j0 kq a1 t1076 t1101 x44_11 a0_0 a0_1 a0_2 a0_3 a0_4 l0_5 l0_6 t1065 t1066 t1067 t1068 t1069 t1070 t1073 t1078 t1079 t1080 t1081 t1082 t1083 t1086 t1090 t1091 t1092 t1093 t1094 t1095 t1098 = some r) ∧ Aside0 (kq ≤ k) ∧ Aside0 (Kd.R (Kd.int .i64) 3 wc w.heap.size (fun k_ => some k_ ≠ ((.slice Ao25 t1073.length co25) : Value).ownBlock ∧ some k_ ≠ ((.slice Ao32 t1083.length co32) : Value).ownBlock ∧ some k_ ≠ ((.slice Ao33 t1086.length co33) : Value).ownBlock ∧ some k_ ≠ ((.slice Ao40 t1095.length co40) : Value).ownBlock ∧ some k_ ≠ ((.slice Ao41 t1098.length co41) : Value).ownBlock) (.slice Ao24 t1070.length co24) t1070) ∧ Aside0 (Kd.R (Kd.int .i64) 3 wc w.heap.size (fun k_ => some k_ ≠ ((.slice Ao24 t1070.length co24) : Value).ownBlock ∧ some k_ ≠ ((.slice Ao32 t1083.length co32) : Value).ownBlock ∧ some k_ ≠ ((.slice Ao33 t1086.length co33) : Value).ownBlock ∧ some k_ ≠ ((.slice Ao40 t1095.length co40) : Value).ownBlock ∧ some k_ ≠ ((.slice Ao41 t1098.length co41) : Value).ownBlock) (.slice Ao25 t1073.length co25) t1073) ∧ Aside0 (Kd.R (Kd.int .i64) 3 wc w.heap.size (fun k_ => some k_ ≠ ((.slice Ao24 t1070.length co24) : Value).ownBlock ∧ some k_ ≠ ((.slice Ao25 t1073.length co25) : Value).ownBlock ∧ some k_ ≠ ((.slice Ao33 t1086.length co33) : Value).ownBlock ∧ some k_ ≠ ((.slice Ao40 t1095.length co40) : Value).ownBlock ∧ some k_ ≠ ((.slice Ao41 t1098.length co41) : Value).ownBlock) (.slice Ao32 t1083.length co32) t1083) ∧ Aside0 (Kd.R (Kd.int .i64) 3 wc w.heap.size (fun k_ => some k_ ≠ ((.slice Ao24 t1070.length co24) : Value).ownBlock ∧ some k_ ≠ ((.slice Ao25 t1073.length co25) : Value).ownBlock ∧ some k_ ≠ ((.slice Ao32 t1083.length co32) : Value).ownBlock ∧ some k_ ≠ ((.slice Ao40 t1095.length co40) : Value).ownBlock ∧ some k_ ≠ ((.slice Ao41 t1098.length co41) : Value).ownBlock) (.slice Ao33 t1086.length co33) t1086) ∧ Aside0 (Kd.R (Kd.int .i64) 3 wc w.heap.size (fun k_ => some k_ ≠ ((.slice Ao24 t1070.length co24) : Value).ownBlock ∧ some k_ ≠ ((.slice Ao25 t1073.length co25) : Value).ownBlock ∧ some k_ ≠ ((.slice Ao32 t1083.length co32) : Value).ownBlock ∧ some k_ ≠ ((.slice Ao33 t1086.length co33) : Value).ownBlock ∧ some k_ ≠ ((.slice Ao41 t1098.length co41) : Value).ownBlock) (.slice Ao40 t1095.length co40) t1095) ∧ Aside0 (Kd.R (Kd.int .i64) 3 wc w.heap.size (fun k_ => some k_ ≠ ((.slice Ao24 t1070.length co24) : Value).ownBlock ∧ some k_ ≠ ((.slice Ao25 t1073.length co25) : Value).ownBlock ∧ some k_ ≠ ((.slice Ao32 t1083.length co32) : Value).ownBlock ∧ some k_ ≠ ((.slice Ao33 t1086.length co33) : Value).ownBlock ∧ some k_ ≠ ((.slice Ao40 t1095.length co40) : Value).ownBlock) (.slice Ao41 t1098.length co41) t1098) ∧ Aside0 (wc.heap[gb1052]? = some (.cells #[.int .i64 a0_0, .int .i64 a0_1, .string a0_2, .int .i64 a0_3, .bool a0_4, (.slice A0_5 l0_5.length c0_5), (.slice A0_6 l0_6.length c0_6)] 56 (0, 0))) ∧ Aside0 (wc.heap[gb1077]? = some (.cells #[.int .i64 t1065, .int .i64 t1066, .string t1067, .int .i64 t1068, .bool t1069, (.slice Ao24 t1070.length co24), (.slice Ao25 t1073.length co25)] 29 (0, 0))) ∧ Aside0 (wc.heap[gb1089]? = some (.cells #[.int .i64 t1078, .int .i64 t1079, .string t1080, .int .i64 t1081, .bool t1082, (.slice Ao32 t1083.length co32), (.slice Ao33 t1086.length co33)] 29 (0, 0))) ∧ Aside0 (wc.heap[gb1102]? = some (.cells #[.int .i64 t1090, .int .i64 t1091, .string t1092, .int .i64 t1093, .bool t1094, (.slice Ao40 t1095.length co40), (.slice Ao41 t1098.length co41)] 29 (0, 0))) ∧ Aside0 (Below w.heap.size w wc))
    case first =>
      have H := HC12.out
      clear HC12
      replace H := Option.bind_eq_some_iff.mp H
      obtain ⟨t1103, A420, H⟩ := H
      replace H : (if t1103 = true then (laws_FnExactUnwatch.j0 k a1 t1076 t1101 (t1101 != t1076) a0_0 a0_1 a0_2 a0_3 a0_4 l0_5 l0_6 t1065 t1066 t1067 t1068 t1069 t1070 t1073 t1078 t1079 t1080 t1081 t1082 t1083 t1086 t1090 t1091 t1092 t1093 t1094 t1095 t1098) else (laws_FnExactUnwatch.j0 k a1 t1076 t1101 true a0_0 a0_1 a0_2 a0_3 a0_4 l0_5 l0_6 t1065 t1066 t1067 t1068 t1069 t1070 t1073 t1078 t1079 t1080 t1081 t1082 t1083 t1086 t1090 t1091 t1092 t1093 t1094 t1095 t1098)) = some r := H
      have A42 := Aside0.mk A420
      clear A420
      by_cases c43 : t1103 = true
      · subst c43
        have H1 : (laws_FnExactUnwatch.j0 k a1 t1076 t1101 (t1101 != t1076) a0_0 a0_1 a0_2 a0_3 a0_4 l0_5 l0_6 t1065 t1066 t1067 t1068 t1069 t1070 t1073 t1078 t1079 t1080 t1081 t1082 t1083 t1086 t1090 t1091 t1092 t1093 t1094 t1095 t1098) = some r := by rw [if_pos rfl] at H; exact H
        clear H
        have H := H1
        clear H1
        have H' := Aside0.mk H
        clear H
        have hnb44 := NB1102_1052.out
        have hnc44 := NB1052_1102.out
        have hnb45 := NB1102_1077.out
        have hnc45 := NB1077_1102.out
        have hnb46 := NB1102_1089.out
        have hnc46 := NB1089_1102.out
        have hcz47_0 : w35.cell? ⟨gb1102, 0, none⟩ = some (.int .i64 0) := (blk_cell BK1102.out 0).trans rfl
        have hcz47_1 : w35.cell? ⟨gb1102, 1, none⟩ = some (.int .i64 0) := (blk_cell BK1102.out 1).trans rfl
        have hcz47_2 : w35.cell? ⟨gb1102, 2, none⟩ = some (.string (⟨#[]⟩ : ByteArray)) := (blk_cell BK1102.out 2).trans rfl
        have hcz47_3 : w35.cell? ⟨gb1102, 3, none⟩ = some (.int .i64 0) := (blk_cell BK1102.out 3).trans rfl
        have hcz47_4 : w35.cell? ⟨gb1102, 4, none⟩ = some (.bool false) := (blk_cell BK1102.out 4).trans rfl
        have hcz47_5 : w35.cell? ⟨gb1102, 5, none⟩ = some (.slice none 0 0) := (blk_cell BK1102.out 5).trans rfl
        have hcz47_6 : w35.cell? ⟨gb1102, 6, none⟩ = some (.slice none 0 0) := (blk_cell BK1102.out 6).trans rfl
        have hfz47_0 := blk_frozen BK1102.out 0
        have hfz47_1 := blk_frozen BK1102.out 1
        have hfz47_2 := blk_frozen BK1102.out 2
        have hfz47_3 := blk_frozen BK1102.out 3
        have hfz47_4 := blk_frozen BK1102.out 4
        have hfz47_5 := blk_frozen BK1102.out 5
        have hfz47_6 := blk_frozen BK1102.out 6
        have hnb48 := NB1077_1052.out
        have hnc48 := NB1052_1077.out
        have hnb49 := NB1077_1089.out
        have hnc49 := NB1089_1077.out
        have hcz50_0 : w35.cell? ⟨gb1077, 0, none⟩ = some (.int .i64 t1065) := (blk_cell BK1077.out 0).trans rfl
        have hcz50_1 : w35.cell? ⟨gb1077, 1, none⟩ = some (.int .i64 t1066) := (blk_cell BK1077.out 1).trans rfl
        have hcz50_2 : w35.cell? ⟨gb1077, 2, none⟩ = some (.string t1067) := (blk_cell BK1077.out 2).trans rfl
        have hcz50_3 : w35.cell? ⟨gb1077, 3, none⟩ = some (.int .i64 t1068) := (blk_cell BK1077.out 3).trans rfl
        have hcz50_4 : w35.cell? ⟨gb1077, 4, none⟩ = some (.bool t1069) := (blk_cell BK1077.out 4).trans rfl
        have hcz50_5 : w35.cell? ⟨gb1077, 5, none⟩ = some (.slice Ao24 t1070.length co24) := (blk_cell BK1077.out 5).trans rfl
        have hcz50_6 : w35.cell? ⟨gb1077, 6, none⟩ = some (.slice Ao25 t1073.length co25) := (blk_cell BK1077.out 6).trans rfl
        have hfz50_0 := blk_frozen BK1077.out 0
        have hfz50_1 := blk_frozen BK1077.out 1
        have hfz50_2 := blk_frozen BK1077.out 2
        have hfz50_3 := blk_frozen BK1077.out 3
        have hfz50_4 := blk_frozen BK1077.out 4
        have hfz50_5 := blk_frozen BK1077.out 5
        have hfz50_6 := blk_frozen BK1077.out 6
        go_wp2_with (first | ((with_reducible refine gate_callee (f := 34) rfl ?_); refine goesL_ (some 38) rfl rfl Try.func34 (by kernel_rfl) rfl #[.agg #[.int .i64 t1090, .int .i64 t1091, .string t1092, .int .i64 t1093, .bool t1094, .slice Ao40 t1095.length co40, .slice Ao41 t1098.length co41], .agg #[.int .i64 t1065, .int .i64 t1066, .string t1067, .int .i64 t1068, .bool t1069, .slice Ao24 t1070.length co24, .slice Ao25 t1073.length co25]] rfl (by (try simp only [List.map_toArray, List.map_cons, List.map_nil]); first | done | rfl | (simp only [List.length_drop, List.length_take]; rfl) | (go_simp; done) | (simp [*]; done)) ?_; (with_reducible refine (laws_eqCell.calls k t1090 t1091 t1092 t1093 t1094 _ _ t1095 _ _ t1098 t1065 t1066 t1067 t1068 t1069 _ _ t1070 _ _ t1073 true _ ?side1 ?side2 ?side3 ?side4 ?side5 ?side6 ?side7 ?side8 A42.out).mono ?_); (case side1 => refine (Kd.R_reads' (e := 3) (base := w.heap.size) (ok := fun k_ => ((((((some k_ ≠ (.slice Ao41 t1098.length co41 : Value).ownBlock ∧ some k_ ≠ (.slice Ao18 t1059.length co18 : Value).ownBlock) ∧ some k_ ≠ (.slice Ao19 t1062.length co19 : Value).ownBlock) ∧ some k_ ≠ (.slice Ao24 t1070.length co24 : Value).ownBlock) ∧ some k_ ≠ (.slice Ao25 t1073.length co25 : Value).ownBlock) ∧ some k_ ≠ (.slice Ao32 t1083.length co32 : Value).ownBlock) ∧ some k_ ≠ (.slice Ao33 t1086.length co33 : Value).ownBlock)) (n := t1095.length) (c := co40) ?_).2.2; exact (by (with_reducible repeat (first | apply Kd.R_alloc | apply Kd.R_drewN | apply Kd.R_drew)); exact (Kd.R_mono (Kd.R_far (p := ⟨gb1102, 6, none⟩) (Kd.R_far (p := ⟨gb1102, 5, none⟩) (Kd.R_far (p := ⟨gb1102, 4, none⟩) (Kd.R_far (p := ⟨gb1102, 3, none⟩) (Kd.R_far (p := ⟨gb1102, 2, none⟩) (Kd.R_far (p := ⟨gb1102, 1, none⟩) (Kd.R_far (p := ⟨gb1102, 0, none⟩) (Kd.R_types HO1097.out BK1102.out (by decide)) (fun _ hk => hk.2) (.int .i64 t1090)) (fun _ hk => hk.2) (.int .i64 t1091)) (fun _ hk => hk.2) (.string t1092)) (fun _ hk => hk.2) (.int .i64 t1093)) (fun _ hk => hk.2) (.bool t1094)) (fun _ hk => hk.2) (.slice Ao40 t1095.length co40)) (fun _ hk => hk.2) (.slice Ao41 t1098.length co41)) (fun _ h_ => h_.1)))); (case side2 => exact (Kd.R_reads' HO1097.out).2.1); (case side3 => refine (Kd.R_reads' (e := 3) (base := w.heap.size) (ok := fun k_ => ((((((some k_ ≠ (.slice Ao40 t1095.length co40 : Value).ownBlock ∧ some k_ ≠ (.slice Ao18 t1059.length co18 : Value).ownBlock) ∧ some k_ ≠ (.slice Ao19 t1062.length co19 : Value).ownBlock) ∧ some k_ ≠ (.slice Ao24 t1070.length co24 : Value).ownBlock) ∧ some k_ ≠ (.slice Ao25 t1073.length co25 : Value).ownBlock) ∧ some k_ ≠ (.slice Ao32 t1083.length co32 : Value).ownBlock) ∧ some k_ ≠ (.slice Ao33 t1086.length co33 : Value).ownBlock)) (n := t1098.length) (c := co41) ?_).2.2; exact (by (with_reducible repeat (first | apply Kd.R_alloc | apply Kd.R_drewN | apply Kd.R_drew)); exact (Kd.R_mono (Kd.R_far (p := ⟨gb1102, 6, none⟩) (Kd.R_far (p := ⟨gb1102, 5, none⟩) (Kd.R_far (p := ⟨gb1102, 4, none⟩) (Kd.R_far (p := ⟨gb1102, 3, none⟩) (Kd.R_far (p := ⟨gb1102, 2, none⟩) (Kd.R_far (p := ⟨gb1102, 1, none⟩) (Kd.R_far (p := ⟨gb1102, 0, none⟩) (Kd.R_types HO1100.out BK1102.out (by decide)) (fun _ hk => hk.2) (.int .i64 t1090)) (fun _ hk => hk.2) (.int .i64 t1091)) (fun _ hk => hk.2) (.string t1092)) (fun _ hk => hk.2) (.int .i64 t1093)) (fun _ hk => hk.2) (.bool t1094)) (fun _ hk => hk.2) (.slice Ao40 t1095.length co40)) (fun _ hk => hk.2) (.slice Ao41 t1098.length co41)) (fun _ h_ => h_.1)))); (case side4 => exact (Kd.R_reads' HO1100.out).2.1); (case side5 => refine (Kd.R_reads' (e := 3) (base := w.heap.size) (ok := fun k_ => ((((((some k_ ≠ (.slice Ao25 t1073.length co25 : Value).ownBlock ∧ some k_ ≠ (.slice Ao18 t1059.length co18 : Value).ownBlock) ∧ some k_ ≠ (.slice Ao19 t1062.length co19 : Value).ownBlock) ∧ some k_ ≠ (.slice Ao32 t1083.length co32 : Value).ownBlock) ∧ some k_ ≠ (.slice Ao33 t1086.length co33 : Value).ownBlock) ∧ some k_ ≠ (.slice Ao40 t1095.length co40 : Value).ownBlock) ∧ some k_ ≠ (.slice Ao41 t1098.length co41 : Value).ownBlock)) (n := t1070.length) (c := co24) ?_).2.2; exact (by (with_reducible repeat (first | apply Kd.R_alloc | apply Kd.R_drewN | apply Kd.R_drew)); exact (Kd.R_mono (Kd.R_far (p := ⟨gb1102, 6, none⟩) (Kd.R_far (p := ⟨gb1102, 5, none⟩) (Kd.R_far (p := ⟨gb1102, 4, none⟩) (Kd.R_far (p := ⟨gb1102, 3, none⟩) (Kd.R_far (p := ⟨gb1102, 2, none⟩) (Kd.R_far (p := ⟨gb1102, 1, none⟩) (Kd.R_far (p := ⟨gb1102, 0, none⟩) (Kd.R_types HO1072.out BK1102.out (by decide)) (fun _ hk => hk.2) (.int .i64 t1090)) (fun _ hk => hk.2) (.int .i64 t1091)) (fun _ hk => hk.2) (.string t1092)) (fun _ hk => hk.2) (.int .i64 t1093)) (fun _ hk => hk.2) (.bool t1094)) (fun _ hk => hk.2) (.slice Ao40 t1095.length co40)) (fun _ hk => hk.2) (.slice Ao41 t1098.length co41)) (fun _ h_ => h_.1)))); (case side6 => exact (Kd.R_reads' HO1072.out).2.1); (case side7 => refine (Kd.R_reads' (e := 3) (base := w.heap.size) (ok := fun k_ => ((((((some k_ ≠ (.slice Ao24 t1070.length co24 : Value).ownBlock ∧ some k_ ≠ (.slice Ao18 t1059.length co18 : Value).ownBlock) ∧ some k_ ≠ (.slice Ao19 t1062.length co19 : Value).ownBlock) ∧ some k_ ≠ (.slice Ao32 t1083.length co32 : Value).ownBlock) ∧ some k_ ≠ (.slice Ao33 t1086.length co33 : Value).ownBlock) ∧ some k_ ≠ (.slice Ao40 t1095.length co40 : Value).ownBlock) ∧ some k_ ≠ (.slice Ao41 t1098.length co41 : Value).ownBlock)) (n := t1073.length) (c := co25) ?_).2.2; exact (by (with_reducible repeat (first | apply Kd.R_alloc | apply Kd.R_drewN | apply Kd.R_drew)); exact (Kd.R_mono (Kd.R_far (p := ⟨gb1102, 6, none⟩) (Kd.R_far (p := ⟨gb1102, 5, none⟩) (Kd.R_far (p := ⟨gb1102, 4, none⟩) (Kd.R_far (p := ⟨gb1102, 3, none⟩) (Kd.R_far (p := ⟨gb1102, 2, none⟩) (Kd.R_far (p := ⟨gb1102, 1, none⟩) (Kd.R_far (p := ⟨gb1102, 0, none⟩) (Kd.R_types HO1075.out BK1102.out (by decide)) (fun _ hk => hk.2) (.int .i64 t1090)) (fun _ hk => hk.2) (.int .i64 t1091)) (fun _ hk => hk.2) (.string t1092)) (fun _ hk => hk.2) (.int .i64 t1093)) (fun _ hk => hk.2) (.bool t1094)) (fun _ hk => hk.2) (.slice Ao40 t1095.length co40)) (fun _ hk => hk.2) (.slice Ao41 t1098.length co41)) (fun _ h_ => h_.1)))); (case side8 => exact (Kd.R_reads' HO1075.out).2.1); rintro e w51 ⟨rfl, hb⟩; refine ⟨_, rfl, ?_⟩; have n0_ := Aside0.mk (Kd.R_below (by (with_reducible repeat (first | apply Kd.R_alloc | apply Kd.R_drewN | apply Kd.R_drew)); exact (Kd.R_mono (Kd.R_far (p := ⟨gb1102, 6, none⟩) (Kd.R_far (p := ⟨gb1102, 5, none⟩) (Kd.R_far (p := ⟨gb1102, 4, none⟩) (Kd.R_far (p := ⟨gb1102, 3, none⟩) (Kd.R_far (p := ⟨gb1102, 2, none⟩) (Kd.R_far (p := ⟨gb1102, 1, none⟩) (Kd.R_far (p := ⟨gb1102, 0, none⟩) (Kd.R_types HO1061.out BK1102.out (by decide)) (fun _ hk => hk.2) (.int .i64 t1090)) (fun _ hk => hk.2) (.int .i64 t1091)) (fun _ hk => hk.2) (.string t1092)) (fun _ hk => hk.2) (.int .i64 t1093)) (fun _ hk => hk.2) (.bool t1094)) (fun _ hk => hk.2) (.slice Ao40 t1095.length co40)) (fun _ hk => hk.2) (.slice Ao41 t1098.length co41)) (fun _ h_ => h_.1))) hb); have n1_ := Aside0.mk (Kd.R_below (by (with_reducible repeat (first | apply Kd.R_alloc | apply Kd.R_drewN | apply Kd.R_drew)); exact (Kd.R_mono (Kd.R_far (p := ⟨gb1102, 6, none⟩) (Kd.R_far (p := ⟨gb1102, 5, none⟩) (Kd.R_far (p := ⟨gb1102, 4, none⟩) (Kd.R_far (p := ⟨gb1102, 3, none⟩) (Kd.R_far (p := ⟨gb1102, 2, none⟩) (Kd.R_far (p := ⟨gb1102, 1, none⟩) (Kd.R_far (p := ⟨gb1102, 0, none⟩) (Kd.R_types HO1064.out BK1102.out (by decide)) (fun _ hk => hk.2) (.int .i64 t1090)) (fun _ hk => hk.2) (.int .i64 t1091)) (fun _ hk => hk.2) (.string t1092)) (fun _ hk => hk.2) (.int .i64 t1093)) (fun _ hk => hk.2) (.bool t1094)) (fun _ hk => hk.2) (.slice Ao40 t1095.length co40)) (fun _ hk => hk.2) (.slice Ao41 t1098.length co41)) (fun _ h_ => h_.1))) hb); have n2_ := Aside0.mk (Kd.R_below (by (with_reducible repeat (first | apply Kd.R_alloc | apply Kd.R_drewN | apply Kd.R_drew)); exact (Kd.R_mono (Kd.R_far (p := ⟨gb1102, 6, none⟩) (Kd.R_far (p := ⟨gb1102, 5, none⟩) (Kd.R_far (p := ⟨gb1102, 4, none⟩) (Kd.R_far (p := ⟨gb1102, 3, none⟩) (Kd.R_far (p := ⟨gb1102, 2, none⟩) (Kd.R_far (p := ⟨gb1102, 1, none⟩) (Kd.R_far (p := ⟨gb1102, 0, none⟩) (Kd.R_types HO1072.out BK1102.out (by decide)) (fun _ hk => hk.2) (.int .i64 t1090)) (fun _ hk => hk.2) (.int .i64 t1091)) (fun _ hk => hk.2) (.string t1092)) (fun _ hk => hk.2) (.int .i64 t1093)) (fun _ hk => hk.2) (.bool t1094)) (fun _ hk => hk.2) (.slice Ao40 t1095.length co40)) (fun _ hk => hk.2) (.slice Ao41 t1098.length co41)) (fun _ h_ => h_.1))) hb); have n3_ := Aside0.mk (Kd.R_below (by (with_reducible repeat (first | apply Kd.R_alloc | apply Kd.R_drewN | apply Kd.R_drew)); exact (Kd.R_mono (Kd.R_far (p := ⟨gb1102, 6, none⟩) (Kd.R_far (p := ⟨gb1102, 5, none⟩) (Kd.R_far (p := ⟨gb1102, 4, none⟩) (Kd.R_far (p := ⟨gb1102, 3, none⟩) (Kd.R_far (p := ⟨gb1102, 2, none⟩) (Kd.R_far (p := ⟨gb1102, 1, none⟩) (Kd.R_far (p := ⟨gb1102, 0, none⟩) (Kd.R_types HO1075.out BK1102.out (by decide)) (fun _ hk => hk.2) (.int .i64 t1090)) (fun _ hk => hk.2) (.int .i64 t1091)) (fun _ hk => hk.2) (.string t1092)) (fun _ hk => hk.2) (.int .i64 t1093)) (fun _ hk => hk.2) (.bool t1094)) (fun _ hk => hk.2) (.slice Ao40 t1095.length co40)) (fun _ hk => hk.2) (.slice Ao41 t1098.length co41)) (fun _ h_ => h_.1))) hb); have n4_ := Aside0.mk (Kd.R_below (by (with_reducible repeat (first | apply Kd.R_alloc | apply Kd.R_drewN | apply Kd.R_drew)); exact (Kd.R_mono (Kd.R_far (p := ⟨gb1102, 6, none⟩) (Kd.R_far (p := ⟨gb1102, 5, none⟩) (Kd.R_far (p := ⟨gb1102, 4, none⟩) (Kd.R_far (p := ⟨gb1102, 3, none⟩) (Kd.R_far (p := ⟨gb1102, 2, none⟩) (Kd.R_far (p := ⟨gb1102, 1, none⟩) (Kd.R_far (p := ⟨gb1102, 0, none⟩) (Kd.R_types HO1085.out BK1102.out (by decide)) (fun _ hk => hk.2) (.int .i64 t1090)) (fun _ hk => hk.2) (.int .i64 t1091)) (fun _ hk => hk.2) (.string t1092)) (fun _ hk => hk.2) (.int .i64 t1093)) (fun _ hk => hk.2) (.bool t1094)) (fun _ hk => hk.2) (.slice Ao40 t1095.length co40)) (fun _ hk => hk.2) (.slice Ao41 t1098.length co41)) (fun _ h_ => h_.1))) hb); have n5_ := Aside0.mk (Kd.R_below (by (with_reducible repeat (first | apply Kd.R_alloc | apply Kd.R_drewN | apply Kd.R_drew)); exact (Kd.R_mono (Kd.R_far (p := ⟨gb1102, 6, none⟩) (Kd.R_far (p := ⟨gb1102, 5, none⟩) (Kd.R_far (p := ⟨gb1102, 4, none⟩) (Kd.R_far (p := ⟨gb1102, 3, none⟩) (Kd.R_far (p := ⟨gb1102, 2, none⟩) (Kd.R_far (p := ⟨gb1102, 1, none⟩) (Kd.R_far (p := ⟨gb1102, 0, none⟩) (Kd.R_types HO1088.out BK1102.out (by decide)) (fun _ hk => hk.2) (.int .i64 t1090)) (fun _ hk => hk.2) (.int .i64 t1091)) (fun _ hk => hk.2) (.string t1092)) (fun _ hk => hk.2) (.int .i64 t1093)) (fun _ hk => hk.2) (.bool t1094)) (fun _ hk => hk.2) (.slice Ao40 t1095.length co40)) (fun _ hk => hk.2) (.slice Ao41 t1098.length co41)) (fun _ h_ => h_.1))) hb); have n6_ := Aside0.mk (Kd.R_below (by (with_reducible repeat (first | apply Kd.R_alloc | apply Kd.R_drewN | apply Kd.R_drew)); exact (Kd.R_mono (Kd.R_far (p := ⟨gb1102, 6, none⟩) (Kd.R_far (p := ⟨gb1102, 5, none⟩) (Kd.R_far (p := ⟨gb1102, 4, none⟩) (Kd.R_far (p := ⟨gb1102, 3, none⟩) (Kd.R_far (p := ⟨gb1102, 2, none⟩) (Kd.R_far (p := ⟨gb1102, 1, none⟩) (Kd.R_far (p := ⟨gb1102, 0, none⟩) (Kd.R_types HO1097.out BK1102.out (by decide)) (fun _ hk => hk.2) (.int .i64 t1090)) (fun _ hk => hk.2) (.int .i64 t1091)) (fun _ hk => hk.2) (.string t1092)) (fun _ hk => hk.2) (.int .i64 t1093)) (fun _ hk => hk.2) (.bool t1094)) (fun _ hk => hk.2) (.slice Ao40 t1095.length co40)) (fun _ hk => hk.2) (.slice Ao41 t1098.length co41)) (fun _ h_ => h_.1))) hb); have n7_ := Aside0.mk (Kd.R_below (by (with_reducible repeat (first | apply Kd.R_alloc | apply Kd.R_drewN | apply Kd.R_drew)); exact (Kd.R_mono (Kd.R_far (p := ⟨gb1102, 6, none⟩) (Kd.R_far (p := ⟨gb1102, 5, none⟩) (Kd.R_far (p := ⟨gb1102, 4, none⟩) (Kd.R_far (p := ⟨gb1102, 3, none⟩) (Kd.R_far (p := ⟨gb1102, 2, none⟩) (Kd.R_far (p := ⟨gb1102, 1, none⟩) (Kd.R_far (p := ⟨gb1102, 0, none⟩) (Kd.R_types HO1100.out BK1102.out (by decide)) (fun _ hk => hk.2) (.int .i64 t1090)) (fun _ hk => hk.2) (.int .i64 t1091)) (fun _ hk => hk.2) (.string t1092)) (fun _ hk => hk.2) (.int .i64 t1093)) (fun _ hk => hk.2) (.bool t1094)) (fun _ hk => hk.2) (.slice Ao40 t1095.length co40)) (fun _ hk => hk.2) (.slice Ao41 t1098.length co41)) (fun _ h_ => h_.1))) hb); have n8_ := Aside0.mk (blk_below (g := gb1052) (o := .cells #[.int .i64 a0_0, .int .i64 a0_1, .string a0_2, .int .i64 a0_3, .bool a0_4, .slice A0_5 l0_5.length c0_5, .slice A0_6 l0_6.length c0_6] 56 (0, 0)) (by (with_reducible repeat (first | refine blk_drewN ?_ _ | refine blk_drew ?_ | refine blk_alloc ?_ _)); refine blk_far ?_ NB1052_1102.out _; (with_reducible repeat (first | refine blk_drewN ?_ _ | refine blk_drew ?_ | refine blk_alloc ?_ _)); refine blk_far ?_ NB1052_1102.out _; (with_reducible repeat (first | refine blk_drewN ?_ _ | refine blk_drew ?_ | refine blk_alloc ?_ _)); refine blk_far ?_ NB1052_1102.out _; (with_reducible repeat (first | refine blk_drewN ?_ _ | refine blk_drew ?_ | refine blk_alloc ?_ _)); refine blk_far ?_ NB1052_1102.out _; (with_reducible repeat (first | refine blk_drewN ?_ _ | refine blk_drew ?_ | refine blk_alloc ?_ _)); refine blk_far ?_ NB1052_1102.out _; (with_reducible repeat (first | refine blk_drewN ?_ _ | refine blk_drew ?_ | refine blk_alloc ?_ _)); refine blk_far ?_ NB1052_1102.out _; (with_reducible repeat (first | refine blk_drewN ?_ _ | refine blk_drew ?_ | refine blk_alloc ?_ _)); refine blk_far ?_ NB1052_1102.out _; (with_reducible repeat (first | refine blk_drewN ?_ _ | refine blk_drew ?_ | refine blk_alloc ?_ _)); exact BK1052.out) hb); have n9_ := Aside0.mk (blk_below (g := gb1077) (o := .cells #[.int .i64 t1065, .int .i64 t1066, .string t1067, .int .i64 t1068, .bool t1069, .slice Ao24 t1070.length co24, .slice Ao25 t1073.length co25] 29 (0, 0)) (by (with_reducible repeat (first | refine blk_drewN ?_ _ | refine blk_drew ?_ | refine blk_alloc ?_ _)); refine blk_far ?_ NB1077_1102.out _; (with_reducible repeat (first | refine blk_drewN ?_ _ | refine blk_drew ?_ | refine blk_alloc ?_ _)); refine blk_far ?_ NB1077_1102.out _; (with_reducible repeat (first | refine blk_drewN ?_ _ | refine blk_drew ?_ | refine blk_alloc ?_ _)); refine blk_far ?_ NB1077_1102.out _; (with_reducible repeat (first | refine blk_drewN ?_ _ | refine blk_drew ?_ | refine blk_alloc ?_ _)); refine blk_far ?_ NB1077_1102.out _; (with_reducible repeat (first | refine blk_drewN ?_ _ | refine blk_drew ?_ | refine blk_alloc ?_ _)); refine blk_far ?_ NB1077_1102.out _; (with_reducible repeat (first | refine blk_drewN ?_ _ | refine blk_drew ?_ | refine blk_alloc ?_ _)); refine blk_far ?_ NB1077_1102.out _; (with_reducible repeat (first | refine blk_drewN ?_ _ | refine blk_drew ?_ | refine blk_alloc ?_ _)); refine blk_far ?_ NB1077_1102.out _; (with_reducible repeat (first | refine blk_drewN ?_ _ | refine blk_drew ?_ | refine blk_alloc ?_ _)); exact BK1077.out) hb); have n10_ := Aside0.mk (blk_below (g := gb1089) (o := .cells #[.int .i64 t1078, .int .i64 t1079, .string t1080, .int .i64 t1081, .bool t1082, .slice Ao32 t1083.length co32, .slice Ao33 t1086.length co33] 29 (0, 0)) (by (with_reducible repeat (first | refine blk_drewN ?_ _ | refine blk_drew ?_ | refine blk_alloc ?_ _)); refine blk_far ?_ NB1089_1102.out _; (with_reducible repeat (first | refine blk_drewN ?_ _ | refine blk_drew ?_ | refine blk_alloc ?_ _)); refine blk_far ?_ NB1089_1102.out _; (with_reducible repeat (first | refine blk_drewN ?_ _ | refine blk_drew ?_ | refine blk_alloc ?_ _)); refine blk_far ?_ NB1089_1102.out _; (with_reducible repeat (first | refine blk_drewN ?_ _ | refine blk_drew ?_ | refine blk_alloc ?_ _)); refine blk_far ?_ NB1089_1102.out _; (with_reducible repeat (first | refine blk_drewN ?_ _ | refine blk_drew ?_ | refine blk_alloc ?_ _)); refine blk_far ?_ NB1089_1102.out _; (with_reducible repeat (first | refine blk_drewN ?_ _ | refine blk_drew ?_ | refine blk_alloc ?_ _)); refine blk_far ?_ NB1089_1102.out _; (with_reducible repeat (first | refine blk_drewN ?_ _ | refine blk_drew ?_ | refine blk_alloc ?_ _)); refine blk_far ?_ NB1089_1102.out _; (with_reducible repeat (first | refine blk_drewN ?_ _ | refine blk_drew ?_ | refine blk_alloc ?_ _)); exact BK1089.out) hb); have n11_ := Aside0.mk (blk_below (g := gb1102) (o := .cells #[.int .i64 t1090, .int .i64 t1091, .string t1092, .int .i64 t1093, .bool t1094, .slice Ao40 t1095.length co40, .slice Ao41 t1098.length co41] 29 (0, 0)) (by (with_reducible repeat (first | refine blk_drewN ?_ _ | refine blk_drew ?_ | refine blk_alloc ?_ _)); refine blk_put (cs := #[.int .i64 t1090, .int .i64 t1091, .string t1092, .int .i64 t1093, .bool t1094, .slice Ao40 t1095.length co40, .slice none 0 0]) ?_ 6 _ rfl; (with_reducible repeat (first | refine blk_drewN ?_ _ | refine blk_drew ?_ | refine blk_alloc ?_ _)); refine blk_put (cs := #[.int .i64 t1090, .int .i64 t1091, .string t1092, .int .i64 t1093, .bool t1094, .slice none 0 0, .slice none 0 0]) ?_ 5 _ rfl; (with_reducible repeat (first | refine blk_drewN ?_ _ | refine blk_drew ?_ | refine blk_alloc ?_ _)); refine blk_put (cs := #[.int .i64 t1090, .int .i64 t1091, .string t1092, .int .i64 t1093, .bool false, .slice none 0 0, .slice none 0 0]) ?_ 4 _ rfl; (with_reducible repeat (first | refine blk_drewN ?_ _ | refine blk_drew ?_ | refine blk_alloc ?_ _)); refine blk_put (cs := #[.int .i64 t1090, .int .i64 t1091, .string t1092, .int .i64 0, .bool false, .slice none 0 0, .slice none 0 0]) ?_ 3 _ rfl; (with_reducible repeat (first | refine blk_drewN ?_ _ | refine blk_drew ?_ | refine blk_alloc ?_ _)); refine blk_put (cs := #[.int .i64 t1090, .int .i64 t1091, .string (⟨#[]⟩ : ByteArray), .int .i64 0, .bool false, .slice none 0 0, .slice none 0 0]) ?_ 2 _ rfl; (with_reducible repeat (first | refine blk_drewN ?_ _ | refine blk_drew ?_ | refine blk_alloc ?_ _)); refine blk_put (cs := #[.int .i64 t1090, .int .i64 0, .string (⟨#[]⟩ : ByteArray), .int .i64 0, .bool false, .slice none 0 0, .slice none 0 0]) ?_ 1 _ rfl; (with_reducible repeat (first | refine blk_drewN ?_ _ | refine blk_drew ?_ | refine blk_alloc ?_ _)); refine blk_put (cs := #[.int .i64 0, .int .i64 0, .string (⟨#[]⟩ : ByteArray), .int .i64 0, .bool false, .slice none 0 0, .slice none 0 0]) ?_ 0 _ rfl; (with_reducible repeat (first | refine blk_drewN ?_ _ | refine blk_drew ?_ | refine blk_alloc ?_ _)); exact BK1102.out) hb); have n12_ := Aside0.mk (below_step (by repeat (first | (with_reducible first | exact HB.out | apply below_alloc | apply pw_below_drewN | apply below_drew1 | refine below_set ?_ GE1052.out | refine below_set ?_ GE1077.out | refine below_set ?_ GE1089.out | refine below_set ?_ GE1102.out) | exact HB.out)) hb); clear HO1061 HO1064 HO1072 HO1075 HO1085 HO1088 HO1097 HO1100 BK1052 BK1077 BK1089 BK1102 HB; have HO1061 := n0_; have HO1064 := n1_; have HO1072 := n2_; have HO1075 := n3_; have HO1085 := n4_; have HO1088 := n5_; have HO1097 := n6_; have HO1100 := n7_; have BK1052 := n8_; have BK1077 := n9_; have BK1089 := n10_; have BK1102 := n11_; have HB := n12_; clear n0_ n1_ n2_ n3_ n4_ n5_ n6_ n7_ n8_ n9_ n10_ n11_ n12_; (try clear hb); (try clear hb2); (try clear hk); (try clear hi)))
        go_meet
        case rel => exact ⟨_, ((t1101 != t1076)), (by first | rfl | (simp; done) | (simp [*]; done)), H', ⟨by first | omega | exact Nat.le_refl _⟩, ⟨by (with_reducible repeat (first | apply Kd.R_alloc | apply Kd.R_drewN | apply Kd.R_drew)); exact Kd.R_mono HO1072.out (fun _ hk => ⟨hk.1.1.1.1.1.1, ⟨hk.1.1.1.2, ⟨hk.1.1.2, ⟨hk.1.2, hk.2⟩⟩⟩⟩)⟩, ⟨by (with_reducible repeat (first | apply Kd.R_alloc | apply Kd.R_drewN | apply Kd.R_drew)); exact Kd.R_mono HO1075.out (fun _ hk => ⟨hk.1.1.1.1.1.1, ⟨hk.1.1.1.2, ⟨hk.1.1.2, ⟨hk.1.2, hk.2⟩⟩⟩⟩)⟩, ⟨by (with_reducible repeat (first | apply Kd.R_alloc | apply Kd.R_drewN | apply Kd.R_drew)); exact Kd.R_mono HO1085.out (fun _ hk => ⟨hk.1.1.1.2, ⟨hk.1.1.2, ⟨hk.1.1.1.1.1.1, ⟨hk.1.2, hk.2⟩⟩⟩⟩)⟩, ⟨by (with_reducible repeat (first | apply Kd.R_alloc | apply Kd.R_drewN | apply Kd.R_drew)); exact Kd.R_mono HO1088.out (fun _ hk => ⟨hk.1.1.1.2, ⟨hk.1.1.2, ⟨hk.1.1.1.1.1.1, ⟨hk.1.2, hk.2⟩⟩⟩⟩)⟩, ⟨by (with_reducible repeat (first | apply Kd.R_alloc | apply Kd.R_drewN | apply Kd.R_drew)); exact Kd.R_mono HO1097.out (fun _ hk => ⟨hk.1.1.1.2, ⟨hk.1.1.2, ⟨hk.1.2, ⟨hk.2, hk.1.1.1.1.1.1⟩⟩⟩⟩)⟩, ⟨by (with_reducible repeat (first | apply Kd.R_alloc | apply Kd.R_drewN | apply Kd.R_drew)); exact Kd.R_mono HO1100.out (fun _ hk => ⟨hk.1.1.1.2, ⟨hk.1.1.2, ⟨hk.1.2, ⟨hk.2, hk.1.1.1.1.1.1⟩⟩⟩⟩)⟩, ⟨pkK BK1052.out⟩, ⟨pkK BK1077.out⟩, ⟨pkK BK1089.out⟩, ⟨pkK BK1102.out⟩, ⟨by repeat (first | (with_reducible first | exact HB.out | apply below_alloc | apply pw_below_drewN | apply below_drew1 | refine below_set ?_ GE1052.out | refine below_set ?_ GE1077.out | refine below_set ?_ GE1089.out | refine below_set ?_ GE1102.out) | exact HB.out)⟩⟩
      · replace c43 := Bool.eq_false_iff.mpr c43
        subst c43
        have H1 : (laws_FnExactUnwatch.j0 k a1 t1076 t1101 true a0_0 a0_1 a0_2 a0_3 a0_4 l0_5 l0_6 t1065 t1066 t1067 t1068 t1069 t1070 t1073 t1078 t1079 t1080 t1081 t1082 t1083 t1086 t1090 t1091 t1092 t1093 t1094 t1095 t1098) = some r := by rw [if_neg (show ¬ (false = true) by decide)] at H; exact H
        clear H
        have H := H1
        clear H1
        cases k with
        | zero => exact absurd H (by simp [laws_FnExactUnwatch.j0])
        | succ k_ => (simp only [laws_FnExactUnwatch.j0, if_pos] at H; exact absurd (Option.some.inj H) (by rw [HQ_.out]; simp))
    case rest =>
      clear HC12
      try clear c1
      try clear c2
      try clear p2
      try clear c3
      try clear c4
      try clear c4b0
      try clear c5
      try clear c13
      try clear c22
      try clear c29
      try clear c30
      try clear c31
      try clear c32
      try clear c34
      try clear c36
      try clear c37
      try clear c38
      try clear c43
      try clear c44
      try clear c45
      try clear c46
      try clear c48
      try clear c49
      try clear c50
      try clear c51
      try clear hcz14_0
      try clear hcz14_1
      try clear hcz14_2
      try clear hcz14_3
      try clear hcz14_4
      try clear hcz14_5
      try clear hcz14_6
      try clear hcz16_0
      try clear hcz16_1
      try clear hcz16_2
      try clear hcz16_3
      try clear hcz16_4
      try clear hcz16_5
      try clear hcz16_6
      try clear hcz23_0
      try clear hcz23_1
      try clear hcz23_2
      try clear hcz23_3
      try clear hcz23_4
      try clear hcz23_5
      try clear hcz23_6
      try clear hcz26_0
      try clear hcz26_1
      try clear hcz26_2
      try clear hcz26_3
      try clear hcz26_4
      try clear hcz26_5
      try clear hcz26_6
      try clear hcz31_0
      try clear hcz31_1
      try clear hcz31_2
      try clear hcz31_3
      try clear hcz31_4
      try clear hcz31_5
      try clear hcz31_6
      try clear hcz39_0
      try clear hcz39_1
      try clear hcz39_2
      try clear hcz39_3
      try clear hcz39_4
      try clear hcz39_5
      try clear hcz39_6
      try clear hcz47_0
      try clear hcz47_1
      try clear hcz47_2
      try clear hcz47_3
      try clear hcz47_4
      try clear hcz47_5
      try clear hcz47_6
      try clear hcz50_0
      try clear hcz50_1
      try clear hcz50_2
      try clear hcz50_3
      try clear hcz50_4
      try clear hcz50_5
      try clear hcz50_6
      try clear hcz6_0
      try clear hcz6_1
      try clear hcz6_2
      try clear hcz6_3
      try clear hcz6_4
      try clear hcz6_5
      try clear hcz6_6
      try clear hfz14_0
      try clear hfz14_1
      try clear hfz14_2
      try clear hfz14_3
      try clear hfz14_4
      try clear hfz14_5
      try clear hfz14_6
      try clear hfz16_0
      try clear hfz16_1
      try clear hfz16_2
      try clear hfz16_3
      try clear hfz16_4
      try clear hfz16_5
      try clear hfz16_6
      try clear hfz23_0
      try clear hfz23_1
      try clear hfz23_2
      try clear hfz23_3
      try clear hfz23_4
      try clear hfz23_5
      try clear hfz23_6
      try clear hfz26_0
      try clear hfz26_1
      try clear hfz26_2
      try clear hfz26_3
      try clear hfz26_4
      try clear hfz26_5
      try clear hfz26_6
      try clear hfz31_0
      try clear hfz31_1
      try clear hfz31_2
      try clear hfz31_3
      try clear hfz31_4
      try clear hfz31_5
      try clear hfz31_6
      try clear hfz39_0
      try clear hfz39_1
      try clear hfz39_2
      try clear hfz39_3
      try clear hfz39_4
      try clear hfz39_5
      try clear hfz39_6
      try clear hfz47_0
      try clear hfz47_1
      try clear hfz47_2
      try clear hfz47_3
      try clear hfz47_4
      try clear hfz47_5
      try clear hfz47_6
      try clear hfz50_0
      try clear hfz50_1
      try clear hfz50_2
      try clear hfz50_3
      try clear hfz50_4
      try clear hfz50_5
      try clear hfz50_6
      try clear hfz6_0
      try clear hfz6_1
      try clear hfz6_2
      try clear hfz6_3
      try clear hfz6_4
      try clear hfz6_5
      try clear hfz6_6
      obtain ⟨kq, x44_11, rfl, HA, HJ11, HO_1078005, HO_1078006, HO_1090005, HO_1090006, HO_1103005, HO_1103006, BK1052, BK1077, BK1089, BK1102, HB⟩ := hcut
      cases kq with
      | zero => exact absurd HA.out (by simp [laws_FnExactUnwatch.j0])
      | succ kj11 =>
        have H := HA.out
        clear HA
        simp only [laws_FnExactUnwatch.j0] at H
        by_cases c52 : x44_11 = true
        · subst c52
          have H1 : (some false) = some r := by rw [if_pos rfl] at H; exact H
          clear H
          have H := H1
          clear H1
          exact absurd (Option.some.inj H) (by rw [HQ_.out]; simp)
        · replace c52 := Bool.eq_false_iff.mpr c52
          subst c52
          have H1 : ((laws_toCell.f kj11 a0_0 a0_1 a0_2 a0_3 a0_4 l0_5 l0_6).bind fun bt1104 => ((laws_eqCell.f kj11 t1078 t1079 t1080 t1081 t1082 t1083 t1086 bt1104.1 bt1104.2.1 bt1104.2.2.1 bt1104.2.2.2.1 bt1104.2.2.2.2.1 bt1104.2.2.2.2.2.1 bt1104.2.2.2.2.2.2).bind fun t1115 => (if t1115 = true then ((laws_markCell.f kj11 t1078 t1079 t1080 t1081 t1082 t1083 t1086 1).bind fun bt1116 => (if bt1116.1 < 0 then (laws_FnExactUnwatch.j1 kj11 a1 t1076 true a0_0 a0_1 a0_2 a0_3 a0_4 l0_5 l0_6 t1065 t1066 t1067 t1068 t1069 t1070 t1073 t1090 t1091 t1092 t1093 t1094 t1095 t1098) else ((laws_eqCell.f kj11 t1090 t1091 t1092 t1093 t1094 t1095 t1098 t1065 t1066 t1067 t1068 t1069 t1070 t1073).bind fun t1119 => (if t1119 = true then (laws_FnExactUnwatch.j1 kj11 a1 t1076 (t1101 != t1076) a0_0 a0_1 a0_2 a0_3 a0_4 l0_5 l0_6 t1065 t1066 t1067 t1068 t1069 t1070 t1073 t1090 t1091 t1092 t1093 t1094 t1095 t1098) else (laws_FnExactUnwatch.j1 kj11 a1 t1076 true a0_0 a0_1 a0_2 a0_3 a0_4 l0_5 l0_6 t1065 t1066 t1067 t1068 t1069 t1070 t1073 t1090 t1091 t1092 t1093 t1094 t1095 t1098))))) else (some false)))) = some r := by rw [if_neg (show ¬ (false = true) by decide)] at H; exact H
          clear H
          have H := H1
          clear H1
          replace H := Option.bind_eq_some_iff.mp H
          obtain ⟨⟨t1104, t1105, t1106, t1107, t1108, t1109, t1112⟩, A530, H⟩ := H
          replace H : ((laws_eqCell.f kj11 t1078 t1079 t1080 t1081 t1082 t1083 t1086 t1104 t1105 t1106 t1107 t1108 t1109 t1112).bind fun t1115 => (if t1115 = true then ((laws_markCell.f kj11 t1078 t1079 t1080 t1081 t1082 t1083 t1086 1).bind fun bt1116 => (if bt1116.1 < 0 then (laws_FnExactUnwatch.j1 kj11 a1 t1076 true a0_0 a0_1 a0_2 a0_3 a0_4 l0_5 l0_6 t1065 t1066 t1067 t1068 t1069 t1070 t1073 t1090 t1091 t1092 t1093 t1094 t1095 t1098) else ((laws_eqCell.f kj11 t1090 t1091 t1092 t1093 t1094 t1095 t1098 t1065 t1066 t1067 t1068 t1069 t1070 t1073).bind fun t1119 => (if t1119 = true then (laws_FnExactUnwatch.j1 kj11 a1 t1076 (t1101 != t1076) a0_0 a0_1 a0_2 a0_3 a0_4 l0_5 l0_6 t1065 t1066 t1067 t1068 t1069 t1070 t1073 t1090 t1091 t1092 t1093 t1094 t1095 t1098) else (laws_FnExactUnwatch.j1 kj11 a1 t1076 true a0_0 a0_1 a0_2 a0_3 a0_4 l0_5 l0_6 t1065 t1066 t1067 t1068 t1069 t1070 t1073 t1090 t1091 t1092 t1093 t1094 t1095 t1098))))) else (some false))) = some r := H
          have A53 := Aside0.mk A530
          clear A530
          replace H := Option.bind_eq_some_iff.mp H
          obtain ⟨t1115, A540, H⟩ := H
          replace H : (if t1115 = true then ((laws_markCell.f kj11 t1078 t1079 t1080 t1081 t1082 t1083 t1086 1).bind fun bt1116 => (if bt1116.1 < 0 then (laws_FnExactUnwatch.j1 kj11 a1 t1076 true a0_0 a0_1 a0_2 a0_3 a0_4 l0_5 l0_6 t1065 t1066 t1067 t1068 t1069 t1070 t1073 t1090 t1091 t1092 t1093 t1094 t1095 t1098) else ((laws_eqCell.f kj11 t1090 t1091 t1092 t1093 t1094 t1095 t1098 t1065 t1066 t1067 t1068 t1069 t1070 t1073).bind fun t1119 => (if t1119 = true then (laws_FnExactUnwatch.j1 kj11 a1 t1076 (t1101 != t1076) a0_0 a0_1 a0_2 a0_3 a0_4 l0_5 l0_6 t1065 t1066 t1067 t1068 t1069 t1070 t1073 t1090 t1091 t1092 t1093 t1094 t1095 t1098) else (laws_FnExactUnwatch.j1 kj11 a1 t1076 true a0_0 a0_1 a0_2 a0_3 a0_4 l0_5 l0_6 t1065 t1066 t1067 t1068 t1069 t1070 t1073 t1090 t1091 t1092 t1093 t1094 t1095 t1098))))) else (some false)) = some r := H
          have A54 := Aside0.mk A540
          clear A540
          by_cases c55 : t1115 = true
          · subst c55
            have H1 : ((laws_markCell.f kj11 t1078 t1079 t1080 t1081 t1082 t1083 t1086 1).bind fun bt1116 => (if bt1116.1 < 0 then (laws_FnExactUnwatch.j1 kj11 a1 t1076 true a0_0 a0_1 a0_2 a0_3 a0_4 l0_5 l0_6 t1065 t1066 t1067 t1068 t1069 t1070 t1073 t1090 t1091 t1092 t1093 t1094 t1095 t1098) else ((laws_eqCell.f kj11 t1090 t1091 t1092 t1093 t1094 t1095 t1098 t1065 t1066 t1067 t1068 t1069 t1070 t1073).bind fun t1119 => (if t1119 = true then (laws_FnExactUnwatch.j1 kj11 a1 t1076 (t1101 != t1076) a0_0 a0_1 a0_2 a0_3 a0_4 l0_5 l0_6 t1065 t1066 t1067 t1068 t1069 t1070 t1073 t1090 t1091 t1092 t1093 t1094 t1095 t1098) else (laws_FnExactUnwatch.j1 kj11 a1 t1076 true a0_0 a0_1 a0_2 a0_3 a0_4 l0_5 l0_6 t1065 t1066 t1067 t1068 t1069 t1070 t1073 t1090 t1091 t1092 t1093 t1094 t1095 t1098))))) = some r := by rw [if_pos rfl] at H; exact H
            clear H
            have H := H1
            clear H1
            replace H := Option.bind_eq_some_iff.mp H
            obtain ⟨⟨t1116, t1117, t1118⟩, A560, H⟩ := H
            replace H : (if t1116 < 0 then (laws_FnExactUnwatch.j1 kj11 a1 t1076 true a0_0 a0_1 a0_2 a0_3 a0_4 l0_5 l0_6 t1065 t1066 t1067 t1068 t1069 t1070 t1073 t1090 t1091 t1092 t1093 t1094 t1095 t1098) else ((laws_eqCell.f kj11 t1090 t1091 t1092 t1093 t1094 t1095 t1098 t1065 t1066 t1067 t1068 t1069 t1070 t1073).bind fun t1119 => (if t1119 = true then (laws_FnExactUnwatch.j1 kj11 a1 t1076 (t1101 != t1076) a0_0 a0_1 a0_2 a0_3 a0_4 l0_5 l0_6 t1065 t1066 t1067 t1068 t1069 t1070 t1073 t1090 t1091 t1092 t1093 t1094 t1095 t1098) else (laws_FnExactUnwatch.j1 kj11 a1 t1076 true a0_0 a0_1 a0_2 a0_3 a0_4 l0_5 l0_6 t1065 t1066 t1067 t1068 t1069 t1070 t1073 t1090 t1091 t1092 t1093 t1094 t1095 t1098)))) = some r := H
            have A56 := Aside0.mk A560
            clear A560
            have HC57 := Aside0.mk H
            clear H
            try go_wp2
            have n0_ := Aside0.mk (Kd.R_drew HO_1078005.out)
            have n1_ := Aside0.mk (Kd.R_drew HO_1078006.out)
            have n2_ := Aside0.mk (Kd.R_drew HO_1090005.out)
            have n3_ := Aside0.mk (Kd.R_drew HO_1090006.out)
            have n4_ := Aside0.mk (Kd.R_drew HO_1103005.out)
            have n5_ := Aside0.mk (Kd.R_drew HO_1103006.out)
            have n6_ := Aside0.mk (blk_drew BK1052.out)
            have n7_ := Aside0.mk (blk_drew BK1077.out)
            have n8_ := Aside0.mk (blk_drew BK1089.out)
            have n9_ := Aside0.mk (blk_drew BK1102.out)
            have n10_ := Aside0.mk (below_drew1 HB.out)
            clear HO_1078005 HO_1078006 HO_1090005 HO_1090006 HO_1103005 HO_1103006 BK1052 BK1077 BK1089 BK1102 HB
            have HO_1078005 := n0_; have HO_1078006 := n1_; have HO_1090005 := n2_; have HO_1090006 := n3_; have HO_1103005 := n4_; have HO_1103006 := n5_; have BK1052 := n6_; have BK1077 := n7_; have BK1089 := n8_; have BK1102 := n9_; have HB := n10_
            clear n0_ n1_ n2_ n3_ n4_ n5_ n6_ n7_ n8_ n9_ n10_
            refine start_ (n := 5) (S := fun w' => w'.cell? ⟨gb1089, 0, none⟩ = some (.int .i64 t1078) ∧ w'.cell? ⟨gb1089, 1, none⟩ = some (.int .i64 t1079) ∧ w'.cell? ⟨gb1089, 2, none⟩ = some (.string t1080) ∧ w'.cell? ⟨gb1089, 3, none⟩ = some (.int .i64 t1081) ∧ w'.cell? ⟨gb1089, 4, none⟩ = some (.bool t1082) ∧ w'.cell? ⟨gb1089, 5, none⟩ = some (.slice Ao32 t1083.length co32) ∧ w'.cell? ⟨gb1089, 6, none⟩ = some (.slice Ao33 t1086.length co33) ∧ w'.cell? ⟨gb1052, 0, none⟩ = some (.int .i64 a0_0) ∧ w'.cell? ⟨gb1052, 1, none⟩ = some (.int .i64 a0_1) ∧ w'.cell? ⟨gb1052, 2, none⟩ = some (.string a0_2) ∧ w'.cell? ⟨gb1052, 3, none⟩ = some (.int .i64 a0_3) ∧ w'.cell? ⟨gb1052, 4, none⟩ = some (.bool a0_4) ∧ w'.cell? ⟨gb1052, 5, none⟩ = some (.slice A0_5 l0_5.length c0_5) ∧ w'.cell? ⟨gb1052, 6, none⟩ = some (.slice A0_6 l0_6.length c0_6)) (ds := []) #[false, false, false, false, false] (by kernel_rfl) rfl rfl ⟨(blk_cell BK1089.out 0).trans rfl, (blk_cell BK1089.out 1).trans rfl, (blk_cell BK1089.out 2).trans rfl, (blk_cell BK1089.out 3).trans rfl, (blk_cell BK1089.out 4).trans rfl, (blk_cell BK1089.out 5).trans rfl, (blk_cell BK1089.out 6).trans rfl, (blk_cell BK1052.out 0).trans rfl, (blk_cell BK1052.out 1).trans rfl, (blk_cell BK1052.out 2).trans rfl, (blk_cell BK1052.out 3).trans rfl, (blk_cell BK1052.out 4).trans rfl, (blk_cell BK1052.out 5).trans rfl, (blk_cell BK1052.out 6).trans rfl⟩ (fun hHeld => ?_)
            generalize wc.drew = w58 at HO_1078005 HO_1078006 HO_1090005 HO_1090006 HO_1103005 HO_1103006 BK1052 BK1077 BK1089 BK1102 HB hHeld ⊢
            refine take_ (i := 0) (N := some 45) (v := ?_) (a' := ?_) #[true, false, false, false, false] rfl rfl (by kernel_rfl) (fun _ _ _ h => h) (Or.inl ⟨by rfl, ?_⟩) hHeld ?_ ?_
            rotate_left
            · rintro w' ⟨s0, s1, s2, s3, s4, s5, s6, s7, s8, s9, s10, s11, s12, s13⟩
              go_simp
              with_reducible rfl
            rotate_left
            · simp only [Act.put, List.setIfInBounds_toArray, List.set_cons_zero, List.set_cons_succ, i64_w, i32_w]
              rfl
            refine take_ (i := 1) (N := some 46) (v := ?_) (a' := ?_) #[true, true, false, false, false] rfl rfl (by kernel_rfl) (fun _ _ _ h => h) (Or.inl ⟨by rfl, ?_⟩) hHeld ?_ ?_
            rotate_left
            · rintro w' ⟨s0, s1, s2, s3, s4, s5, s6, s7, s8, s9, s10, s11, s12, s13⟩
              go_simp
              with_reducible rfl
            rotate_left
            · simp only [Act.put, List.setIfInBounds_toArray, List.set_cons_zero, List.set_cons_succ, i64_w, i32_w]
              rfl
            refine one_ (i := 2) (N := some 47) #[true, true, true, false, false] rfl rfl (by kernel_rfl) (by decide) (fun K hK => ?_)
            refine goes_ Try.func32 (by kernel_rfl) rfl #[.agg #[.int .i64 a0_0, .int .i64 a0_1, .string a0_2, .int .i64 a0_3, .bool a0_4, .slice A0_5 l0_5.length c0_5, .slice A0_6 l0_6.length c0_6]] (by rfl) rfl rfl (by (try simp only [List.map_toArray, List.map_cons, List.map_nil]); first | done | rfl | (simp only [List.length_drop, List.length_take]; rfl) | (go_simp; done) | (simp [*]; done)) ?_
            with_reducible refine (laws_toCell.calls kj11 a0_0 a0_1 a0_2 a0_3 a0_4 _ _ l0_5 _ _ l0_6 t1104 t1105 t1106 t1107 t1108 t1109 t1112 _ ?side1 ?side2 ?side3 ?side4 A53.out).mono ?_
            (case side1 => exact pkC (Kd.C_below HR0_5.out HB.out))
            (case side2 => exact HC0_5.out)
            (case side3 => exact pkC (Kd.C_below HR0_6.out HB.out))
            (case side4 => exact HC0_6.out)
            rintro e w59 ⟨v1110, v1113, rfl, ho0, ho1, hb⟩
            refine ⟨_, rfl, ?_⟩
            have n0_ := Aside0.mk (Kd.R_mono (Kd.R_told (Kd.R_told (Kd.R_old (pkR HO_1078005.out) hb) (Kd.R_base ho0)) (Kd.R_base ho1)) (fun _ h_ => h_.1))
            have n1_ := Aside0.mk (Kd.R_mono (Kd.R_told (Kd.R_told (Kd.R_old (pkR HO_1078006.out) hb) (Kd.R_base ho0)) (Kd.R_base ho1)) (fun _ h_ => h_.1))
            have n2_ := Aside0.mk (Kd.R_mono (Kd.R_told (Kd.R_told (Kd.R_old (pkR HO_1090005.out) hb) (Kd.R_base ho0)) (Kd.R_base ho1)) (fun _ h_ => h_.1))
            have n3_ := Aside0.mk (Kd.R_mono (Kd.R_told (Kd.R_told (Kd.R_old (pkR HO_1090006.out) hb) (Kd.R_base ho0)) (Kd.R_base ho1)) (fun _ h_ => h_.1))
            have n4_ := Aside0.mk (Kd.R_mono (Kd.R_told (Kd.R_told (Kd.R_old (pkR HO_1103005.out) hb) (Kd.R_base ho0)) (Kd.R_base ho1)) (fun _ h_ => h_.1))
            have n5_ := Aside0.mk (Kd.R_mono (Kd.R_told (Kd.R_told (Kd.R_old (pkR HO_1103006.out) hb) (Kd.R_base ho0)) (Kd.R_base ho1)) (fun _ h_ => h_.1))
            have n6_ := Aside0.mk (Kd.R_lower (Kd.R_new' (Kd.R_new' (Kd.R_new' (Kd.R_new' (Kd.R_new' (Kd.R_new' ho0 (Kd.R_lt (pkR HO_1078005.out))) (Kd.R_lt (pkR HO_1078006.out))) (Kd.R_lt (pkR HO_1090005.out))) (Kd.R_lt (pkR HO_1090006.out))) (Kd.R_lt (pkR HO_1103005.out))) (Kd.R_lt (pkR HO_1103006.out))) (below_size (by repeat (first | (with_reducible first | exact HB.out | apply below_alloc | apply pw_below_drewN | apply below_drew1 | refine below_set ?_ GE1052.out | refine below_set ?_ GE1077.out | refine below_set ?_ GE1089.out | refine below_set ?_ GE1102.out) | exact HB.out))))
            have n7_ := Aside0.mk (Kd.R_lower (Kd.R_new' (Kd.R_new' (Kd.R_new' (Kd.R_new' (Kd.R_new' (Kd.R_new' ho1 (Kd.R_lt (pkR HO_1078005.out))) (Kd.R_lt (pkR HO_1078006.out))) (Kd.R_lt (pkR HO_1090005.out))) (Kd.R_lt (pkR HO_1090006.out))) (Kd.R_lt (pkR HO_1103005.out))) (Kd.R_lt (pkR HO_1103006.out))) (below_size (by repeat (first | (with_reducible first | exact HB.out | apply below_alloc | apply pw_below_drewN | apply below_drew1 | refine below_set ?_ GE1052.out | refine below_set ?_ GE1077.out | refine below_set ?_ GE1089.out | refine below_set ?_ GE1102.out) | exact HB.out))))
            have n8_ := Aside0.mk (blk_below (g := gb1052) (o := .cells #[.int .i64 a0_0, .int .i64 a0_1, .string a0_2, .int .i64 a0_3, .bool a0_4, .slice A0_5 l0_5.length c0_5, .slice A0_6 l0_6.length c0_6] 56 (0, 0)) (pkK BK1052.out) hb)
            have n9_ := Aside0.mk (blk_below (g := gb1077) (o := .cells #[.int .i64 t1065, .int .i64 t1066, .string t1067, .int .i64 t1068, .bool t1069, .slice Ao24 t1070.length co24, .slice Ao25 t1073.length co25] 29 (0, 0)) (pkK BK1077.out) hb)
            have n10_ := Aside0.mk (blk_below (g := gb1089) (o := .cells #[.int .i64 t1078, .int .i64 t1079, .string t1080, .int .i64 t1081, .bool t1082, .slice Ao32 t1083.length co32, .slice Ao33 t1086.length co33] 29 (0, 0)) (pkK BK1089.out) hb)
            have n11_ := Aside0.mk (blk_below (g := gb1102) (o := .cells #[.int .i64 t1090, .int .i64 t1091, .string t1092, .int .i64 t1093, .bool t1094, .slice Ao40 t1095.length co40, .slice Ao41 t1098.length co41] 29 (0, 0)) (pkK BK1102.out) hb)
            have n12_ := Aside0.mk (below_step (by repeat (first | (with_reducible first | exact HB.out | apply below_alloc | apply pw_below_drewN | apply below_drew1 | refine below_set ?_ GE1052.out | refine below_set ?_ GE1077.out | refine below_set ?_ GE1089.out | refine below_set ?_ GE1102.out) | exact HB.out)) hb)
            clear HO_1078005 HO_1078006 HO_1090005 HO_1090006 HO_1103005 HO_1103006 BK1052 BK1077 BK1089 BK1102 HB
            have HO_1078005 := n0_; have HO_1078006 := n1_; have HO_1090005 := n2_; have HO_1090006 := n3_; have HO_1103005 := n4_; have HO_1103006 := n5_; have HO1111 := n6_; have HO1114 := n7_; have BK1052 := n8_; have BK1077 := n9_; have BK1089 := n10_; have BK1102 := n11_; have HB := n12_
            clear n0_ n1_ n2_ n3_ n4_ n5_ n6_ n7_ n8_ n9_ n10_ n11_ n12_
            (try clear hb); (try clear hb2); (try clear hk); (try clear hi); (try clear ho0); (try clear ho1)
            obtain ⟨Ao60, co60, eo60⟩ := Kd.R_slice HO1111.out
            (first | subst eo60 | (injection eo60 with f1_ f2_ f3_; have f4_ := f1_.symm; have f5_ := f3_.symm; clear f1_ f2_ f3_; subst f4_; subst f5_))
            obtain ⟨Ao61, co61, eo61⟩ := Kd.R_slice HO1114.out
            (first | subst eo61 | (injection eo61 with f1_ f2_ f3_; have f4_ := f1_.symm; have f5_ := f3_.symm; clear f1_ f2_ f3_; subst f4_; subst f5_))
            refine hK.out _ _ ⟨(blk_cell BK1089.out 0).trans rfl, (blk_cell BK1089.out 1).trans rfl, (blk_cell BK1089.out 2).trans rfl, (blk_cell BK1089.out 3).trans rfl, (blk_cell BK1089.out 4).trans rfl, (blk_cell BK1089.out 5).trans rfl, (blk_cell BK1089.out 6).trans rfl, (blk_cell BK1052.out 0).trans rfl, (blk_cell BK1052.out 1).trans rfl, (blk_cell BK1052.out 2).trans rfl, (blk_cell BK1052.out 3).trans rfl, (blk_cell BK1052.out 4).trans rfl, (blk_cell BK1052.out 5).trans rfl, (blk_cell BK1052.out 6).trans rfl⟩ (fun hHeld => ?_)
            clear hK K
            refine norm_ (a' := ?_) ?_ ?_
            rotate_left
            · show Act.put _ (some 47) _ = _
              simp only [Act.put, List.setIfInBounds_toArray, List.set_cons_zero, List.set_cons_succ, i64_w, i32_w]
              rfl
            refine one_ (i := 3) (N := some 48) #[true, true, true, true, false] rfl rfl (by kernel_rfl) (by decide) (fun K hK => ?_)
            refine goes_ Try.func34 (by kernel_rfl) rfl #[.agg #[.int .i64 t1078, .int .i64 t1079, .string t1080, .int .i64 t1081, .bool t1082, .slice Ao32 t1083.length co32, .slice Ao33 t1086.length co33], .agg #[.int .i64 t1104, .int .i64 t1105, .string t1106, .int .i64 t1107, .bool t1108, .slice Ao60 t1109.length co60, .slice Ao61 t1112.length co61]] (by rfl) rfl rfl (by (try simp only [List.map_toArray, List.map_cons, List.map_nil]); first | done | rfl | (simp only [List.length_drop, List.length_take]; rfl) | (go_simp; done) | (simp [*]; done)) ?_
            with_reducible refine (laws_eqCell.calls kj11 t1078 t1079 t1080 t1081 t1082 _ _ t1083 _ _ t1086 t1104 t1105 t1106 t1107 t1108 _ _ t1109 _ _ t1112 true _ ?side1 ?side2 ?side3 ?side4 ?side5 ?side6 ?side7 ?side8 A54.out).mono ?_
            (case side1 => exact pkC (Kd.R_reads' HO_1090005.out).2.2)
            (case side2 => exact (Kd.R_reads' HO_1090005.out).2.1)
            (case side3 => exact pkC (Kd.R_reads' HO_1090006.out).2.2)
            (case side4 => exact (Kd.R_reads' HO_1090006.out).2.1)
            (case side5 => exact pkC (Kd.R_reads' HO1111.out).2.2)
            (case side6 => exact (Kd.R_reads' HO1111.out).2.1)
            (case side7 => exact pkC (Kd.R_reads' HO1114.out).2.2)
            (case side8 => exact (Kd.R_reads' HO1114.out).2.1)
            rintro e w62 ⟨rfl, hb⟩
            refine ⟨_, rfl, ?_⟩
            have n0_ := Aside0.mk (Kd.R_below (pkR HO_1078005.out) hb)
            have n1_ := Aside0.mk (Kd.R_below (pkR HO_1078006.out) hb)
            have n2_ := Aside0.mk (Kd.R_below (pkR HO_1090005.out) hb)
            have n3_ := Aside0.mk (Kd.R_below (pkR HO_1090006.out) hb)
            have n4_ := Aside0.mk (Kd.R_below (pkR HO_1103005.out) hb)
            have n5_ := Aside0.mk (Kd.R_below (pkR HO_1103006.out) hb)
            have n6_ := Aside0.mk (Kd.R_below (pkR HO1111.out) hb)
            have n7_ := Aside0.mk (Kd.R_below (pkR HO1114.out) hb)
            have n8_ := Aside0.mk (blk_below (g := gb1052) (o := .cells #[.int .i64 a0_0, .int .i64 a0_1, .string a0_2, .int .i64 a0_3, .bool a0_4, .slice A0_5 l0_5.length c0_5, .slice A0_6 l0_6.length c0_6] 56 (0, 0)) (pkK BK1052.out) hb)
            have n9_ := Aside0.mk (blk_below (g := gb1077) (o := .cells #[.int .i64 t1065, .int .i64 t1066, .string t1067, .int .i64 t1068, .bool t1069, .slice Ao24 t1070.length co24, .slice Ao25 t1073.length co25] 29 (0, 0)) (pkK BK1077.out) hb)
            have n10_ := Aside0.mk (blk_below (g := gb1089) (o := .cells #[.int .i64 t1078, .int .i64 t1079, .string t1080, .int .i64 t1081, .bool t1082, .slice Ao32 t1083.length co32, .slice Ao33 t1086.length co33] 29 (0, 0)) (pkK BK1089.out) hb)
            have n11_ := Aside0.mk (blk_below (g := gb1102) (o := .cells #[.int .i64 t1090, .int .i64 t1091, .string t1092, .int .i64 t1093, .bool t1094, .slice Ao40 t1095.length co40, .slice Ao41 t1098.length co41] 29 (0, 0)) (pkK BK1102.out) hb)
            have n12_ := Aside0.mk (below_step (by repeat (first | (with_reducible first | exact HB.out | apply below_alloc | apply pw_below_drewN | apply below_drew1 | refine below_set ?_ GE1052.out | refine below_set ?_ GE1077.out | refine below_set ?_ GE1089.out | refine below_set ?_ GE1102.out) | exact HB.out)) hb)
            clear HO_1078005 HO_1078006 HO_1090005 HO_1090006 HO_1103005 HO_1103006 HO1111 HO1114 BK1052 BK1077 BK1089 BK1102 HB
            have HO_1078005 := n0_; have HO_1078006 := n1_; have HO_1090005 := n2_; have HO_1090006 := n3_; have HO_1103005 := n4_; have HO_1103006 := n5_; have HO1111 := n6_; have HO1114 := n7_; have BK1052 := n8_; have BK1077 := n9_; have BK1089 := n10_; have BK1102 := n11_; have HB := n12_
            clear n0_ n1_ n2_ n3_ n4_ n5_ n6_ n7_ n8_ n9_ n10_ n11_ n12_
            (try clear hb); (try clear hb2); (try clear hk); (try clear hi)
            refine hK.out _ _ ⟨(blk_cell BK1089.out 0).trans rfl, (blk_cell BK1089.out 1).trans rfl, (blk_cell BK1089.out 2).trans rfl, (blk_cell BK1089.out 3).trans rfl, (blk_cell BK1089.out 4).trans rfl, (blk_cell BK1089.out 5).trans rfl, (blk_cell BK1089.out 6).trans rfl, (blk_cell BK1052.out 0).trans rfl, (blk_cell BK1052.out 1).trans rfl, (blk_cell BK1052.out 2).trans rfl, (blk_cell BK1052.out 3).trans rfl, (blk_cell BK1052.out 4).trans rfl, (blk_cell BK1052.out 5).trans rfl, (blk_cell BK1052.out 6).trans rfl⟩ (fun hHeld => ?_)
            clear hK K
            refine norm_ (a' := ?_) ?_ ?_
            rotate_left
            · show Act.put _ (some 48) _ = _
              simp only [Act.put, List.setIfInBounds_toArray, List.set_cons_zero, List.set_cons_succ, i64_w, i32_w]
              rfl
            refine pure_ (i := 4) (N := some 49) (v := ?_) (a' := ?_) #[true, true, true, true, true] rfl rfl (by kernel_rfl) (fun _ _ _ h => h) (Or.inl ⟨by rfl, ?_⟩) ?_ ?_
            rotate_left
            · intro w'
              go_simp
              with_reducible rfl
            rotate_left
            · simp only [Act.put, List.setIfInBounds_toArray, List.set_cons_zero, List.set_cons_succ, i64_w, i32_w]
              rfl
            refine done_ (by kernel_rfl) ?_
            have hnb63 := NB1089_1052.out
            have hnc63 := NB1052_1089.out
            have hnb64 := NB1089_1077.out
            have hnc64 := NB1077_1089.out
            have hnb65 := NB1089_1102.out
            have hnc65 := NB1102_1089.out
            have hcz66_0 : w62.cell? ⟨gb1089, 0, none⟩ = some (.int .i64 t1078) := (blk_cell BK1089.out 0).trans rfl
            have hcz66_1 : w62.cell? ⟨gb1089, 1, none⟩ = some (.int .i64 t1079) := (blk_cell BK1089.out 1).trans rfl
            have hcz66_2 : w62.cell? ⟨gb1089, 2, none⟩ = some (.string t1080) := (blk_cell BK1089.out 2).trans rfl
            have hcz66_3 : w62.cell? ⟨gb1089, 3, none⟩ = some (.int .i64 t1081) := (blk_cell BK1089.out 3).trans rfl
            have hcz66_4 : w62.cell? ⟨gb1089, 4, none⟩ = some (.bool t1082) := (blk_cell BK1089.out 4).trans rfl
            have hcz66_5 : w62.cell? ⟨gb1089, 5, none⟩ = some (.slice Ao32 t1083.length co32) := (blk_cell BK1089.out 5).trans rfl
            have hcz66_6 : w62.cell? ⟨gb1089, 6, none⟩ = some (.slice Ao33 t1086.length co33) := (blk_cell BK1089.out 6).trans rfl
            have hfz66_0 := blk_frozen BK1089.out 0
            have hfz66_1 := blk_frozen BK1089.out 1
            have hfz66_2 := blk_frozen BK1089.out 2
            have hfz66_3 := blk_frozen BK1089.out 3
            have hfz66_4 := blk_frozen BK1089.out 4
            have hfz66_5 := blk_frozen BK1089.out 5
            have hfz66_6 := blk_frozen BK1089.out 6
            go_upto_region 14 with (first | ((with_reducible refine gate_callee (f := 48) rfl ?_); refine goesL_ (some 52) rfl rfl Try.func48 (by kernel_rfl) rfl #[.agg #[.int .i64 t1078, .int .i64 t1079, .string t1080, .int .i64 t1081, .bool t1082, .slice Ao32 t1083.length co32, .slice Ao33 t1086.length co33], .int .i64 1] rfl (by (try simp only [List.map_toArray, List.map_cons, List.map_nil]); first | done | rfl | (simp only [List.length_drop, List.length_take]; rfl) | (go_simp; done) | (simp [*]; done)) ?_; (with_reducible refine (laws_markCell.calls kj11 t1078 t1079 t1080 t1081 t1082 (fun k_ => some k_ = (.slice Ao32 t1083.length co32 : Value).ownBlock) (.slice Ao32 t1083.length co32) t1083 (fun k_ => some k_ = (.slice Ao33 t1086.length co33 : Value).ownBlock) (.slice Ao33 t1086.length co33) t1086 1 t1116 t1117 t1118 w _ ?side1 ?side2 ?side3 ?side4 ?side5 A56.out).mono ?_); (case side1 => repeat (first | (with_reducible first | exact HB.out | apply below_alloc | apply pw_below_drewN | apply below_drew1 | refine below_set ?_ GE1052.out | refine below_set ?_ GE1077.out | refine below_set ?_ GE1089.out | refine below_set ?_ GE1102.out) | exact HB.out)); (case side2 => exact Kd.R_tight rfl HO_1090005.out); (case side3 => exact fun k_ e_ => (HO_1090005.out.1 k_ e_.symm).1.1.2.2.1); (case side4 => exact Kd.R_tight rfl HO_1090006.out); (case side5 => exact fun k_ e_ => (HO_1090006.out.1 k_ e_.symm).1.1.2.2.1); rintro e w67 ⟨rfl, hy0, hy1, hb, hkp⟩; refine ⟨_, rfl, ?_⟩; have n0_ := Aside0.mk (Kd.R_mono (ok' := fun k_ => some k_ ≠ (.slice Ao25 t1073.length co25 : Value).ownBlock ∧ some k_ ≠ (.slice Ao32 t1083.length co32 : Value).ownBlock ∧ some k_ ≠ (.slice Ao33 t1086.length co33 : Value).ownBlock ∧ some k_ ≠ (.slice Ao40 t1095.length co40 : Value).ownBlock ∧ some k_ ≠ (.slice Ao41 t1098.length co41 : Value).ownBlock ∧ some k_ ≠ (.slice Ao60 t1109.length co60 : Value).ownBlock ∧ some k_ ≠ (.slice Ao61 t1112.length co61 : Value).ownBlock) (Kd.R_keptB (HO_1078005.out) hkp (fun k_ hk_ hs_ => Or.elim hs_ (fun e_ => (hk_.1.1.2.1) e_) (fun e_ => (hk_.1.1.2.2.1) e_))) (fun k_ hk_ => ⟨hk_.1.1.1.1, hk_.1.1.1.2.1, hk_.1.1.1.2.2.1, hk_.1.1.1.2.2.2.1, hk_.1.1.1.2.2.2.2, hk_.1.1.2, hk_.1.2⟩)); have n1_ := Aside0.mk (Kd.R_mono (ok' := fun k_ => some k_ ≠ (.slice Ao24 t1070.length co24 : Value).ownBlock ∧ some k_ ≠ (.slice Ao32 t1083.length co32 : Value).ownBlock ∧ some k_ ≠ (.slice Ao33 t1086.length co33 : Value).ownBlock ∧ some k_ ≠ (.slice Ao40 t1095.length co40 : Value).ownBlock ∧ some k_ ≠ (.slice Ao41 t1098.length co41 : Value).ownBlock ∧ some k_ ≠ (.slice Ao60 t1109.length co60 : Value).ownBlock ∧ some k_ ≠ (.slice Ao61 t1112.length co61 : Value).ownBlock) (Kd.R_keptB (HO_1078006.out) hkp (fun k_ hk_ hs_ => Or.elim hs_ (fun e_ => (hk_.1.1.2.1) e_) (fun e_ => (hk_.1.1.2.2.1) e_))) (fun k_ hk_ => ⟨hk_.1.1.1.1, hk_.1.1.1.2.1, hk_.1.1.1.2.2.1, hk_.1.1.1.2.2.2.1, hk_.1.1.1.2.2.2.2, hk_.1.1.2, hk_.1.2⟩)); have n2_ := Aside0.mk (Kd.R_reok rfl hy0 (fun k_ e_ => HO_1090005.out.1 k_ e_)); have n3_ := Aside0.mk (Kd.R_reok rfl hy1 (fun k_ e_ => HO_1090006.out.1 k_ e_)); have n4_ := Aside0.mk (Kd.R_mono (ok' := fun k_ => some k_ ≠ (.slice Ao24 t1070.length co24 : Value).ownBlock ∧ some k_ ≠ (.slice Ao25 t1073.length co25 : Value).ownBlock ∧ some k_ ≠ (.slice Ao32 t1083.length co32 : Value).ownBlock ∧ some k_ ≠ (.slice Ao33 t1086.length co33 : Value).ownBlock ∧ some k_ ≠ (.slice Ao41 t1098.length co41 : Value).ownBlock ∧ some k_ ≠ (.slice Ao60 t1109.length co60 : Value).ownBlock ∧ some k_ ≠ (.slice Ao61 t1112.length co61 : Value).ownBlock) (Kd.R_keptB (HO_1103005.out) hkp (fun k_ hk_ hs_ => Or.elim hs_ (fun e_ => (hk_.1.1.2.2.1) e_) (fun e_ => (hk_.1.1.2.2.2.1) e_))) (fun k_ hk_ => ⟨hk_.1.1.1.1, hk_.1.1.1.2.1, hk_.1.1.1.2.2.1, hk_.1.1.1.2.2.2.1, hk_.1.1.1.2.2.2.2, hk_.1.1.2, hk_.1.2⟩)); have n5_ := Aside0.mk (Kd.R_mono (ok' := fun k_ => some k_ ≠ (.slice Ao24 t1070.length co24 : Value).ownBlock ∧ some k_ ≠ (.slice Ao25 t1073.length co25 : Value).ownBlock ∧ some k_ ≠ (.slice Ao32 t1083.length co32 : Value).ownBlock ∧ some k_ ≠ (.slice Ao33 t1086.length co33 : Value).ownBlock ∧ some k_ ≠ (.slice Ao40 t1095.length co40 : Value).ownBlock ∧ some k_ ≠ (.slice Ao60 t1109.length co60 : Value).ownBlock ∧ some k_ ≠ (.slice Ao61 t1112.length co61 : Value).ownBlock) (Kd.R_keptB (HO_1103006.out) hkp (fun k_ hk_ hs_ => Or.elim hs_ (fun e_ => (hk_.1.1.2.2.1) e_) (fun e_ => (hk_.1.1.2.2.2.1) e_))) (fun k_ hk_ => ⟨hk_.1.1.1.1, hk_.1.1.1.2.1, hk_.1.1.1.2.2.1, hk_.1.1.1.2.2.2.1, hk_.1.1.1.2.2.2.2, hk_.1.1.2, hk_.1.2⟩)); have n6_ := Aside0.mk (blk_kept (pkK BK1052.out) hkp (fun hs_ => Or.elim hs_ (fun e_ => (fun e_ => (Kd.R_ne HO_1090005.out BK1052.out (by decide)) e_) e_) (fun e_ => (fun e_ => (Kd.R_ne HO_1090006.out BK1052.out (by decide)) e_) e_))); have n7_ := Aside0.mk (blk_kept (pkK BK1077.out) hkp (fun hs_ => Or.elim hs_ (fun e_ => (fun e_ => (Kd.R_ne HO_1090005.out BK1077.out (by decide)) e_) e_) (fun e_ => (fun e_ => (Kd.R_ne HO_1090006.out BK1077.out (by decide)) e_) e_))); have n8_ := Aside0.mk (blk_kept (pkK BK1089.out) hkp (fun hs_ => Or.elim hs_ (fun e_ => (fun e_ => (Kd.R_ne HO_1090005.out BK1089.out (by decide)) e_) e_) (fun e_ => (fun e_ => (Kd.R_ne HO_1090006.out BK1089.out (by decide)) e_) e_))); have n9_ := Aside0.mk (blk_kept (pkK BK1102.out) hkp (fun hs_ => Or.elim hs_ (fun e_ => (fun e_ => (Kd.R_ne HO_1090005.out BK1102.out (by decide)) e_) e_) (fun e_ => (fun e_ => (Kd.R_ne HO_1090006.out BK1102.out (by decide)) e_) e_))); have n10_ := Aside0.mk (Kd.R_mono (ok' := fun k_ => some k_ ≠ (.slice Ao24 t1070.length co24 : Value).ownBlock ∧ some k_ ≠ (.slice Ao25 t1073.length co25 : Value).ownBlock ∧ some k_ ≠ (.slice Ao32 t1083.length co32 : Value).ownBlock ∧ some k_ ≠ (.slice Ao33 t1086.length co33 : Value).ownBlock ∧ some k_ ≠ (.slice Ao40 t1095.length co40 : Value).ownBlock ∧ some k_ ≠ (.slice Ao41 t1098.length co41 : Value).ownBlock ∧ some k_ ≠ (.slice Ao61 t1112.length co61 : Value).ownBlock) (Kd.R_keptB (HO1111.out) hkp (fun k_ hk_ hs_ => Or.elim hs_ (fun e_ => (hk_.1.1.1.2) e_) (fun e_ => (hk_.1.1.2) e_))) (fun k_ hk_ => ⟨hk_.1.1.1.1.1.1.2, hk_.1.1.1.1.1.2, hk_.1.1.1.1.2, hk_.1.1.1.2, hk_.1.1.2, hk_.1.2, hk_.1.1.1.1.1.1.1⟩)); have n11_ := Aside0.mk (Kd.R_mono (ok' := fun k_ => some k_ ≠ (.slice Ao24 t1070.length co24 : Value).ownBlock ∧ some k_ ≠ (.slice Ao25 t1073.length co25 : Value).ownBlock ∧ some k_ ≠ (.slice Ao32 t1083.length co32 : Value).ownBlock ∧ some k_ ≠ (.slice Ao33 t1086.length co33 : Value).ownBlock ∧ some k_ ≠ (.slice Ao40 t1095.length co40 : Value).ownBlock ∧ some k_ ≠ (.slice Ao41 t1098.length co41 : Value).ownBlock ∧ some k_ ≠ (.slice Ao60 t1109.length co60 : Value).ownBlock) (Kd.R_keptB (HO1114.out) hkp (fun k_ hk_ hs_ => Or.elim hs_ (fun e_ => (hk_.1.1.1.2) e_) (fun e_ => (hk_.1.1.2) e_))) (fun k_ hk_ => ⟨hk_.1.1.1.1.1.1.2, hk_.1.1.1.1.1.2, hk_.1.1.1.1.2, hk_.1.1.1.2, hk_.1.1.2, hk_.1.2, hk_.1.1.1.1.1.1.1⟩)); have n12_ := Aside0.mk (hb); clear HO_1078005 HO_1078006 HO_1090005 HO_1090006 HO_1103005 HO_1103006 BK1052 BK1077 BK1089 BK1102 HO1111 HO1114 HB; have HO_1078005 := n0_; have HO_1078006 := n1_; have HO_1090005 := n2_; have HO_1090006 := n3_; have HO_1103005 := n4_; have HO_1103006 := n5_; have BK1052 := n6_; have BK1077 := n7_; have BK1089 := n8_; have BK1102 := n9_; have HO1111 := n10_; have HO1114 := n11_; have HB := n12_; clear n0_ n1_ n2_ n3_ n4_ n5_ n6_ n7_ n8_ n9_ n10_ n11_ n12_; (try clear hb); (try clear hkp); (try clear hy0); (try clear hy1)))
            (try simp only [Act.put, List.setIfInBounds_toArray, List.set_cons_zero, List.set_cons_succ])
            go_cut [65] (fun v65 wc => ∃ (kq : Nat) (x65_56 : Bool), v65 = .bool x65_56 ∧ Aside0 (laws_FnExactUnwatch.j1 kq a1 t1076 x65_56 a0_0 a0_1 a0_2 a0_3 a0_4 l0_5 l0_6 t1065 t1066 t1067 t1068 t1069 t1070 t1073 t1090 t1091 t1092 t1093 t1094 t1095 t1098 = some r) ∧ Aside0 (kq ≤ kj11) ∧ Aside0 (Kd.R (Kd.int .i64) 3 wc w.heap.size (fun k_ => some k_ ≠ ((.slice Ao25 t1073.length co25) : Value).ownBlock ∧ some k_ ≠ ((.slice Ao32 t1083.length co32) : Value).ownBlock ∧ some k_ ≠ ((.slice Ao33 t1086.length co33) : Value).ownBlock ∧ some k_ ≠ ((.slice Ao40 t1095.length co40) : Value).ownBlock ∧ some k_ ≠ ((.slice Ao41 t1098.length co41) : Value).ownBlock) (.slice Ao24 t1070.length co24) t1070) ∧ Aside0 (Kd.R (Kd.int .i64) 3 wc w.heap.size (fun k_ => some k_ ≠ ((.slice Ao24 t1070.length co24) : Value).ownBlock ∧ some k_ ≠ ((.slice Ao32 t1083.length co32) : Value).ownBlock ∧ some k_ ≠ ((.slice Ao33 t1086.length co33) : Value).ownBlock ∧ some k_ ≠ ((.slice Ao40 t1095.length co40) : Value).ownBlock ∧ some k_ ≠ ((.slice Ao41 t1098.length co41) : Value).ownBlock) (.slice Ao25 t1073.length co25) t1073) ∧ Aside0 (Kd.R (Kd.int .i64) 3 wc w.heap.size (fun k_ => some k_ ≠ ((.slice Ao24 t1070.length co24) : Value).ownBlock ∧ some k_ ≠ ((.slice Ao25 t1073.length co25) : Value).ownBlock ∧ some k_ ≠ ((.slice Ao33 t1086.length co33) : Value).ownBlock ∧ some k_ ≠ ((.slice Ao40 t1095.length co40) : Value).ownBlock ∧ some k_ ≠ ((.slice Ao41 t1098.length co41) : Value).ownBlock) (.slice Ao32 t1083.length co32) t1117) ∧ Aside0 (Kd.R (Kd.int .i64) 3 wc w.heap.size (fun k_ => some k_ ≠ ((.slice Ao24 t1070.length co24) : Value).ownBlock ∧ some k_ ≠ ((.slice Ao25 t1073.length co25) : Value).ownBlock ∧ some k_ ≠ ((.slice Ao32 t1083.length co32) : Value).ownBlock ∧ some k_ ≠ ((.slice Ao40 t1095.length co40) : Value).ownBlock ∧ some k_ ≠ ((.slice Ao41 t1098.length co41) : Value).ownBlock) (.slice Ao33 t1086.length co33) t1118) ∧ Aside0 (Kd.R (Kd.int .i64) 3 wc w.heap.size (fun k_ => some k_ ≠ ((.slice Ao24 t1070.length co24) : Value).ownBlock ∧ some k_ ≠ ((.slice Ao25 t1073.length co25) : Value).ownBlock ∧ some k_ ≠ ((.slice Ao32 t1083.length co32) : Value).ownBlock ∧ some k_ ≠ ((.slice Ao33 t1086.length co33) : Value).ownBlock ∧ some k_ ≠ ((.slice Ao41 t1098.length co41) : Value).ownBlock) (.slice Ao40 t1095.length co40) t1095) ∧ Aside0 (Kd.R (Kd.int .i64) 3 wc w.heap.size (fun k_ => some k_ ≠ ((.slice Ao24 t1070.length co24) : Value).ownBlock ∧ some k_ ≠ ((.slice Ao25 t1073.length co25) : Value).ownBlock ∧ some k_ ≠ ((.slice Ao32 t1083.length co32) : Value).ownBlock ∧ some k_ ≠ ((.slice Ao33 t1086.length co33) : Value).ownBlock ∧ some k_ ≠ ((.slice Ao40 t1095.length co40) : Value).ownBlock) (.slice Ao41 t1098.length co41) t1098) ∧ Aside0 (wc.heap[gb1052]? = some (.cells #[.int .i64 a0_0, .int .i64 a0_1, .string a0_2, .int .i64 a0_3, .bool a0_4, (.slice A0_5 l0_5.length c0_5), (.slice A0_6 l0_6.length c0_6)] 56 (0, 0))) ∧ Aside0 (wc.heap[gb1077]? = some (.cells #[.int .i64 t1065, .int .i64 t1066, .string t1067, .int .i64 t1068, .bool t1069, (.slice Ao24 t1070.length co24), (.slice Ao25 t1073.length co25)] 29 (0, 0))) ∧ Aside0 (wc.heap[gb1089]? = some (.cells #[.int .i64 t1078, .int .i64 t1079, .string t1080, .int .i64 t1081, .bool t1082, (.slice Ao32 t1083.length co32), (.slice Ao33 t1086.length co33)] 29 (0, 0))) ∧ Aside0 (wc.heap[gb1102]? = some (.cells #[.int .i64 t1090, .int .i64 t1091, .string t1092, .int .i64 t1093, .bool t1094, (.slice Ao40 t1095.length co40), (.slice Ao41 t1098.length co41)] 29 (0, 0))) ∧ Aside0 (Below w.heap.size w wc))
            case first =>
              have H := HC57.out
              clear HC57
              by_cases c68 : t1116 < 0
              · rw [if_pos c68] at H
                have c68b0 : decide (t1116 < 0) = true := decide_eq_true c68
                clear c68
                (first | rw [c68b0] | (simp only [i64_w, i32_w]; rw [c68b0]) | skip)
                cases kj11 with
                | zero => exact absurd H (by simp [laws_FnExactUnwatch.j1])
                | succ k_ => (simp only [laws_FnExactUnwatch.j1, if_pos] at H; exact absurd (Option.some.inj H) (by rw [HQ_.out]; simp))
              · rw [if_neg c68] at H
                have c68b0 : decide (t1116 < 0) = false := decide_eq_false c68
                clear c68
                (first | rw [c68b0] | (simp only [i64_w, i32_w]; rw [c68b0]) | skip)
                replace H := Option.bind_eq_some_iff.mp H
                obtain ⟨t1119, A690, H⟩ := H
                replace H : (if t1119 = true then (laws_FnExactUnwatch.j1 kj11 a1 t1076 (t1101 != t1076) a0_0 a0_1 a0_2 a0_3 a0_4 l0_5 l0_6 t1065 t1066 t1067 t1068 t1069 t1070 t1073 t1090 t1091 t1092 t1093 t1094 t1095 t1098) else (laws_FnExactUnwatch.j1 kj11 a1 t1076 true a0_0 a0_1 a0_2 a0_3 a0_4 l0_5 l0_6 t1065 t1066 t1067 t1068 t1069 t1070 t1073 t1090 t1091 t1092 t1093 t1094 t1095 t1098)) = some r := H
                have A69 := Aside0.mk A690
                clear A690
                by_cases c70 : t1119 = true
                · subst c70
                  have H1 : (laws_FnExactUnwatch.j1 kj11 a1 t1076 (t1101 != t1076) a0_0 a0_1 a0_2 a0_3 a0_4 l0_5 l0_6 t1065 t1066 t1067 t1068 t1069 t1070 t1073 t1090 t1091 t1092 t1093 t1094 t1095 t1098) = some r := by rw [if_pos rfl] at H; exact H
                  clear H
                  have H := H1
                  clear H1
                  have H' := Aside0.mk H
                  clear H
                  have hnb71 := NB1102_1052.out
                  have hnc71 := NB1052_1102.out
                  have hnb72 := NB1102_1077.out
                  have hnc72 := NB1077_1102.out
                  have hnb73 := NB1102_1089.out
                  have hnc73 := NB1089_1102.out
                  have hcz74_0 : w67.cell? ⟨gb1102, 0, none⟩ = some (.int .i64 t1090) := (blk_cell BK1102.out 0).trans rfl
                  have hcz74_1 : w67.cell? ⟨gb1102, 1, none⟩ = some (.int .i64 t1091) := (blk_cell BK1102.out 1).trans rfl
                  have hcz74_2 : w67.cell? ⟨gb1102, 2, none⟩ = some (.string t1092) := (blk_cell BK1102.out 2).trans rfl
                  have hcz74_3 : w67.cell? ⟨gb1102, 3, none⟩ = some (.int .i64 t1093) := (blk_cell BK1102.out 3).trans rfl
                  have hcz74_4 : w67.cell? ⟨gb1102, 4, none⟩ = some (.bool t1094) := (blk_cell BK1102.out 4).trans rfl
                  have hcz74_5 : w67.cell? ⟨gb1102, 5, none⟩ = some (.slice Ao40 t1095.length co40) := (blk_cell BK1102.out 5).trans rfl
                  have hcz74_6 : w67.cell? ⟨gb1102, 6, none⟩ = some (.slice Ao41 t1098.length co41) := (blk_cell BK1102.out 6).trans rfl
                  have hfz74_0 := blk_frozen BK1102.out 0
                  have hfz74_1 := blk_frozen BK1102.out 1
                  have hfz74_2 := blk_frozen BK1102.out 2
                  have hfz74_3 := blk_frozen BK1102.out 3
                  have hfz74_4 := blk_frozen BK1102.out 4
                  have hfz74_5 := blk_frozen BK1102.out 5
                  have hfz74_6 := blk_frozen BK1102.out 6
                  have hnb75 := NB1077_1052.out
                  have hnc75 := NB1052_1077.out
                  have hnb76 := NB1077_1089.out
                  have hnc76 := NB1089_1077.out
                  have hcz77_0 : w67.cell? ⟨gb1077, 0, none⟩ = some (.int .i64 t1065) := (blk_cell BK1077.out 0).trans rfl
                  have hcz77_1 : w67.cell? ⟨gb1077, 1, none⟩ = some (.int .i64 t1066) := (blk_cell BK1077.out 1).trans rfl
                  have hcz77_2 : w67.cell? ⟨gb1077, 2, none⟩ = some (.string t1067) := (blk_cell BK1077.out 2).trans rfl
                  have hcz77_3 : w67.cell? ⟨gb1077, 3, none⟩ = some (.int .i64 t1068) := (blk_cell BK1077.out 3).trans rfl
                  have hcz77_4 : w67.cell? ⟨gb1077, 4, none⟩ = some (.bool t1069) := (blk_cell BK1077.out 4).trans rfl
                  have hcz77_5 : w67.cell? ⟨gb1077, 5, none⟩ = some (.slice Ao24 t1070.length co24) := (blk_cell BK1077.out 5).trans rfl
                  have hcz77_6 : w67.cell? ⟨gb1077, 6, none⟩ = some (.slice Ao25 t1073.length co25) := (blk_cell BK1077.out 6).trans rfl
                  have hfz77_0 := blk_frozen BK1077.out 0
                  have hfz77_1 := blk_frozen BK1077.out 1
                  have hfz77_2 := blk_frozen BK1077.out 2
                  have hfz77_3 := blk_frozen BK1077.out 3
                  have hfz77_4 := blk_frozen BK1077.out 4
                  have hfz77_5 := blk_frozen BK1077.out 5
                  have hfz77_6 := blk_frozen BK1077.out 6
                  go_wp2_with (first | (go_at_call 34; (with_reducible refine (laws_eqCell.calls kj11 t1090 t1091 t1092 t1093 t1094 _ _ t1095 _ _ t1098 t1065 t1066 t1067 t1068 t1069 _ _ t1070 _ _ t1073 true _ ?side1 ?side2 ?side3 ?side4 ?side5 ?side6 ?side7 ?side8 A69.out).mono ?_); (case side1 => exact pkC (Kd.R_reads' HO_1103005.out).2.2); (case side2 => exact (Kd.R_reads' HO_1103005.out).2.1); (case side3 => exact pkC (Kd.R_reads' HO_1103006.out).2.2); (case side4 => exact (Kd.R_reads' HO_1103006.out).2.1); (case side5 => exact pkC (Kd.R_reads' HO_1078005.out).2.2); (case side6 => exact (Kd.R_reads' HO_1078005.out).2.1); (case side7 => exact pkC (Kd.R_reads' HO_1078006.out).2.2); (case side8 => exact (Kd.R_reads' HO_1078006.out).2.1); rintro e w78 ⟨rfl, hb⟩; have n0_ := Aside0.mk (Kd.R_below (pkR HO_1078005.out) hb); have n1_ := Aside0.mk (Kd.R_below (pkR HO_1078006.out) hb); have n2_ := Aside0.mk (Kd.R_below (pkR HO_1090005.out) hb); have n3_ := Aside0.mk (Kd.R_below (pkR HO_1090006.out) hb); have n4_ := Aside0.mk (Kd.R_below (pkR HO_1103005.out) hb); have n5_ := Aside0.mk (Kd.R_below (pkR HO_1103006.out) hb); have n6_ := Aside0.mk (Kd.R_below (pkR HO1111.out) hb); have n7_ := Aside0.mk (Kd.R_below (pkR HO1114.out) hb); have n8_ := Aside0.mk (blk_below (g := gb1052) (o := .cells #[.int .i64 a0_0, .int .i64 a0_1, .string a0_2, .int .i64 a0_3, .bool a0_4, .slice A0_5 l0_5.length c0_5, .slice A0_6 l0_6.length c0_6] 56 (0, 0)) (pkK BK1052.out) hb); have n9_ := Aside0.mk (blk_below (g := gb1077) (o := .cells #[.int .i64 t1065, .int .i64 t1066, .string t1067, .int .i64 t1068, .bool t1069, .slice Ao24 t1070.length co24, .slice Ao25 t1073.length co25] 29 (0, 0)) (pkK BK1077.out) hb); have n10_ := Aside0.mk (blk_below (g := gb1089) (o := .cells #[.int .i64 t1078, .int .i64 t1079, .string t1080, .int .i64 t1081, .bool t1082, .slice Ao32 t1083.length co32, .slice Ao33 t1086.length co33] 29 (0, 0)) (pkK BK1089.out) hb); have n11_ := Aside0.mk (blk_below (g := gb1102) (o := .cells #[.int .i64 t1090, .int .i64 t1091, .string t1092, .int .i64 t1093, .bool t1094, .slice Ao40 t1095.length co40, .slice Ao41 t1098.length co41] 29 (0, 0)) (pkK BK1102.out) hb); have n12_ := Aside0.mk (below_step (by repeat (first | (with_reducible first | exact HB.out | apply below_alloc | apply pw_below_drewN | apply below_drew1 | refine below_set ?_ GE1052.out | refine below_set ?_ GE1077.out | refine below_set ?_ GE1089.out | refine below_set ?_ GE1102.out) | exact HB.out)) hb); clear HO_1078005 HO_1078006 HO_1090005 HO_1090006 HO_1103005 HO_1103006 HO1111 HO1114 BK1052 BK1077 BK1089 BK1102 HB; have HO_1078005 := n0_; have HO_1078006 := n1_; have HO_1090005 := n2_; have HO_1090006 := n3_; have HO_1103005 := n4_; have HO_1103006 := n5_; have HO1111 := n6_; have HO1114 := n7_; have BK1052 := n8_; have BK1077 := n9_; have BK1089 := n10_; have BK1102 := n11_; have HB := n12_; clear n0_ n1_ n2_ n3_ n4_ n5_ n6_ n7_ n8_ n9_ n10_ n11_ n12_; (try clear hb); (try clear hb2); (try clear hk); (try clear hi)))
                  go_meet
                  case rel => exact ⟨_, ((t1101 != t1076)), (by first | rfl | (simp; done) | (simp [*]; done)), H', ⟨by have := HJ11.out; first | omega | exact Nat.le_refl _⟩, ⟨by (with_reducible repeat (first | apply Kd.R_alloc | apply Kd.R_drewN | apply Kd.R_drew)); exact Kd.R_mono HO_1078005.out (fun _ hk => ⟨hk.1, ⟨hk.2.1, ⟨hk.2.2.1, ⟨hk.2.2.2.1, hk.2.2.2.2.1⟩⟩⟩⟩)⟩, ⟨by (with_reducible repeat (first | apply Kd.R_alloc | apply Kd.R_drewN | apply Kd.R_drew)); exact Kd.R_mono HO_1078006.out (fun _ hk => ⟨hk.1, ⟨hk.2.1, ⟨hk.2.2.1, ⟨hk.2.2.2.1, hk.2.2.2.2.1⟩⟩⟩⟩)⟩, ⟨by (with_reducible repeat (first | apply Kd.R_alloc | apply Kd.R_drewN | apply Kd.R_drew)); exact Kd.R_mono HO_1090005.out (fun _ hk => ⟨hk.1.1.1, ⟨hk.1.1.2.1, ⟨hk.1.1.2.2.1, ⟨hk.1.1.2.2.2.1, hk.1.1.2.2.2.2⟩⟩⟩⟩)⟩, ⟨by (with_reducible repeat (first | apply Kd.R_alloc | apply Kd.R_drewN | apply Kd.R_drew)); exact Kd.R_mono HO_1090006.out (fun _ hk => ⟨hk.1.1.1, ⟨hk.1.1.2.1, ⟨hk.1.1.2.2.1, ⟨hk.1.1.2.2.2.1, hk.1.1.2.2.2.2⟩⟩⟩⟩)⟩, ⟨by (with_reducible repeat (first | apply Kd.R_alloc | apply Kd.R_drewN | apply Kd.R_drew)); exact Kd.R_mono HO_1103005.out (fun _ hk => ⟨hk.1, ⟨hk.2.1, ⟨hk.2.2.1, ⟨hk.2.2.2.1, hk.2.2.2.2.1⟩⟩⟩⟩)⟩, ⟨by (with_reducible repeat (first | apply Kd.R_alloc | apply Kd.R_drewN | apply Kd.R_drew)); exact Kd.R_mono HO_1103006.out (fun _ hk => ⟨hk.1, ⟨hk.2.1, ⟨hk.2.2.1, ⟨hk.2.2.2.1, hk.2.2.2.2.1⟩⟩⟩⟩)⟩, ⟨pkK BK1052.out⟩, ⟨pkK BK1077.out⟩, ⟨pkK BK1089.out⟩, ⟨pkK BK1102.out⟩, ⟨by repeat (first | (with_reducible first | exact HB.out | apply below_alloc | apply pw_below_drewN | apply below_drew1 | refine below_set ?_ GE1052.out | refine below_set ?_ GE1077.out | refine below_set ?_ GE1089.out | refine below_set ?_ GE1102.out) | exact HB.out)⟩⟩
                · replace c70 := Bool.eq_false_iff.mpr c70
                  subst c70
                  have H1 : (laws_FnExactUnwatch.j1 kj11 a1 t1076 true a0_0 a0_1 a0_2 a0_3 a0_4 l0_5 l0_6 t1065 t1066 t1067 t1068 t1069 t1070 t1073 t1090 t1091 t1092 t1093 t1094 t1095 t1098) = some r := by rw [if_neg (show ¬ (false = true) by decide)] at H; exact H
                  clear H
                  have H := H1
                  clear H1
                  cases kj11 with
                  | zero => exact absurd H (by simp [laws_FnExactUnwatch.j1])
                  | succ k_ => (simp only [laws_FnExactUnwatch.j1, if_pos] at H; exact absurd (Option.some.inj H) (by rw [HQ_.out]; simp))
            case rest =>
              clear HC57
              try clear c1
              try clear c2
              try clear p2
              try clear c3
              try clear c4
              try clear c4b0
              try clear c5
              try clear c6
              try clear c7
              try clear c13
              try clear c22
              try clear c29
              try clear c30
              try clear c31
              try clear c32
              try clear c34
              try clear c36
              try clear c37
              try clear c38
              try clear c43
              try clear c44
              try clear c45
              try clear c46
              try clear c48
              try clear c49
              try clear c50
              try clear c51
              try clear c52
              try clear c55
              try clear c63
              try clear c64
              try clear c65
              try clear c68
              try clear c68b0
              try clear c70
              try clear c71
              try clear c72
              try clear c73
              try clear c75
              try clear c76
              try clear hcz14_0
              try clear hcz14_1
              try clear hcz14_2
              try clear hcz14_3
              try clear hcz14_4
              try clear hcz14_5
              try clear hcz14_6
              try clear hcz16_0
              try clear hcz16_1
              try clear hcz16_2
              try clear hcz16_3
              try clear hcz16_4
              try clear hcz16_5
              try clear hcz16_6
              try clear hcz23_0
              try clear hcz23_1
              try clear hcz23_2
              try clear hcz23_3
              try clear hcz23_4
              try clear hcz23_5
              try clear hcz23_6
              try clear hcz26_0
              try clear hcz26_1
              try clear hcz26_2
              try clear hcz26_3
              try clear hcz26_4
              try clear hcz26_5
              try clear hcz26_6
              try clear hcz31_0
              try clear hcz31_1
              try clear hcz31_2
              try clear hcz31_3
              try clear hcz31_4
              try clear hcz31_5
              try clear hcz31_6
              try clear hcz39_0
              try clear hcz39_1
              try clear hcz39_2
              try clear hcz39_3
              try clear hcz39_4
              try clear hcz39_5
              try clear hcz39_6
              try clear hcz47_0
              try clear hcz47_1
              try clear hcz47_2
              try clear hcz47_3
              try clear hcz47_4
              try clear hcz47_5
              try clear hcz47_6
              try clear hcz50_0
              try clear hcz50_1
              try clear hcz50_2
              try clear hcz50_3
              try clear hcz50_4
              try clear hcz50_5
              try clear hcz50_6
              try clear hcz66_0
              try clear hcz66_1
              try clear hcz66_2
              try clear hcz66_3
              try clear hcz66_4
              try clear hcz66_5
              try clear hcz66_6
              try clear hcz6_0
              try clear hcz6_1
              try clear hcz6_2
              try clear hcz6_3
              try clear hcz6_4
              try clear hcz6_5
              try clear hcz6_6
              try clear hcz74_0
              try clear hcz74_1
              try clear hcz74_2
              try clear hcz74_3
              try clear hcz74_4
              try clear hcz74_5
              try clear hcz74_6
              try clear hcz77_0
              try clear hcz77_1
              try clear hcz77_2
              try clear hcz77_3
              try clear hcz77_4
              try clear hcz77_5
              try clear hcz77_6
              try clear hfz14_0
              try clear hfz14_1
              try clear hfz14_2
              try clear hfz14_3
              try clear hfz14_4
              try clear hfz14_5
              try clear hfz14_6
              try clear hfz16_0
              try clear hfz16_1
              try clear hfz16_2
              try clear hfz16_3
              try clear hfz16_4
              try clear hfz16_5
              try clear hfz16_6
              try clear hfz23_0
              try clear hfz23_1
              try clear hfz23_2
              try clear hfz23_3
              try clear hfz23_4
              try clear hfz23_5
              try clear hfz23_6
              try clear hfz26_0
              try clear hfz26_1
              try clear hfz26_2
              try clear hfz26_3
              try clear hfz26_4
              try clear hfz26_5
              try clear hfz26_6
              try clear hfz31_0
              try clear hfz31_1
              try clear hfz31_2
              try clear hfz31_3
              try clear hfz31_4
              try clear hfz31_5
              try clear hfz31_6
              try clear hfz39_0
              try clear hfz39_1
              try clear hfz39_2
              try clear hfz39_3
              try clear hfz39_4
              try clear hfz39_5
              try clear hfz39_6
              try clear hfz47_0
              try clear hfz47_1
              try clear hfz47_2
              try clear hfz47_3
              try clear hfz47_4
              try clear hfz47_5
              try clear hfz47_6
              try clear hfz50_0
              try clear hfz50_1
              try clear hfz50_2
              try clear hfz50_3
              try clear hfz50_4
              try clear hfz50_5
              try clear hfz50_6
              try clear hfz66_0
              try clear hfz66_1
              try clear hfz66_2
              try clear hfz66_3
              try clear hfz66_4
              try clear hfz66_5
              try clear hfz66_6
              try clear hfz6_0
              try clear hfz6_1
              try clear hfz6_2
              try clear hfz6_3
              try clear hfz6_4
              try clear hfz6_5
              try clear hfz6_6
              try clear hfz74_0
              try clear hfz74_1
              try clear hfz74_2
              try clear hfz74_3
              try clear hfz74_4
              try clear hfz74_5
              try clear hfz74_6
              try clear hfz77_0
              try clear hfz77_1
              try clear hfz77_2
              try clear hfz77_3
              try clear hfz77_4
              try clear hfz77_5
              try clear hfz77_6
              try clear p2
              obtain ⟨kq, x65_56, rfl, HA, HJ56, HO_1078005, HO_1078006, HO_1090005, HO_1090006, HO_1103005, HO_1103006, BK1052, BK1077, BK1089, BK1102, HB⟩ := hcut
              have hl1090005_56 := (Kd.R_reads' HO_1090005.out).1
              rw [hl1090005_56] at HO_1090005
              (try simp only [hl1090005_56])
              (try simp only [hl1090005_56] at BK1052)
              (try simp only [hl1090005_56] at BK1077)
              (try simp only [hl1090005_56] at BK1089)
              (try simp only [hl1090005_56] at BK1102)
              (try simp only [hl1090005_56] at HO_1078005)
              (try simp only [hl1090005_56] at HO_1078006)
              (try simp only [hl1090005_56] at HO_1090006)
              (try simp only [hl1090005_56] at HO_1103005)
              (try simp only [hl1090005_56] at HO_1103006)
              have hl1090006_56 := (Kd.R_reads' HO_1090006.out).1
              rw [hl1090006_56] at HO_1090006
              (try simp only [hl1090006_56])
              (try simp only [hl1090006_56] at BK1052)
              (try simp only [hl1090006_56] at BK1077)
              (try simp only [hl1090006_56] at BK1089)
              (try simp only [hl1090006_56] at BK1102)
              (try simp only [hl1090006_56] at HO_1078005)
              (try simp only [hl1090006_56] at HO_1078006)
              (try simp only [hl1090006_56] at HO_1090005)
              (try simp only [hl1090006_56] at HO_1103005)
              (try simp only [hl1090006_56] at HO_1103006)
              cases kq with
              | zero => exact absurd HA.out (by simp [laws_FnExactUnwatch.j1])
              | succ kj56 =>
                have H := HA.out
                clear HA
                simp only [laws_FnExactUnwatch.j1] at H
                by_cases c79 : x65_56 = true
                · subst c79
                  have H1 : (some false) = some r := by rw [if_pos rfl] at H; exact H
                  clear H
                  have H := H1
                  clear H1
                  exact absurd (Option.some.inj H) (by rw [HQ_.out]; simp)
                · replace c79 := Bool.eq_false_iff.mpr c79
                  subst c79
                  have H1 : ((laws_markCell.f kj56 t1090 t1091 t1092 t1093 t1094 t1095 t1098 1).bind fun bt1120 => ((laws_heldCell.f kj56 t1090 t1091 t1092 t1093 t1094 bt1120.2.1 bt1120.2.2 1).bind fun t1123 => (if t1123 < 0 then (some false) else (if t1123 = bt1120.1 then ((laws_toCell.f kj56 a0_0 a0_1 a0_2 a0_3 a0_4 l0_5 l0_6).bind fun bt1124 => ((impl_Unwatch.f kj56 bt1124.1 bt1124.2.1 bt1124.2.2.1 bt1124.2.2.2.1 bt1124.2.2.2.2.1 bt1124.2.2.2.2.2.1 bt1124.2.2.2.2.2.2 a1).bind fun bt1135 => ((laws_eqCell.f kj56 bt1135.1 bt1135.2.1 bt1135.2.2.1 bt1135.2.2.2.1 bt1135.2.2.2.2.1 bt1135.2.2.2.2.2.1 bt1135.2.2.2.2.2.2.1 t1065 t1066 t1067 t1068 t1069 t1070 t1073).bind fun t1148 => (if t1148 = true then (laws_FnExactUnwatch.j2 kj56 bt1120.1 (bt1135.2.2.2.2.2.2.2 != t1076) t1090 t1091 t1092 t1093 t1094 bt1120.2.1 bt1120.2.2) else (laws_FnExactUnwatch.j2 kj56 bt1120.1 true t1090 t1091 t1092 t1093 t1094 bt1120.2.1 bt1120.2.2))))) else (some false))))) = some r := by rw [if_neg (show ¬ (false = true) by decide)] at H; exact H
                  clear H
                  have H := H1
                  clear H1
                  replace H := Option.bind_eq_some_iff.mp H
                  obtain ⟨⟨t1120, t1121, t1122⟩, A800, H⟩ := H
                  replace H : ((laws_heldCell.f kj56 t1090 t1091 t1092 t1093 t1094 t1121 t1122 1).bind fun t1123 => (if t1123 < 0 then (some false) else (if t1123 = t1120 then ((laws_toCell.f kj56 a0_0 a0_1 a0_2 a0_3 a0_4 l0_5 l0_6).bind fun bt1124 => ((impl_Unwatch.f kj56 bt1124.1 bt1124.2.1 bt1124.2.2.1 bt1124.2.2.2.1 bt1124.2.2.2.2.1 bt1124.2.2.2.2.2.1 bt1124.2.2.2.2.2.2 a1).bind fun bt1135 => ((laws_eqCell.f kj56 bt1135.1 bt1135.2.1 bt1135.2.2.1 bt1135.2.2.2.1 bt1135.2.2.2.2.1 bt1135.2.2.2.2.2.1 bt1135.2.2.2.2.2.2.1 t1065 t1066 t1067 t1068 t1069 t1070 t1073).bind fun t1148 => (if t1148 = true then (laws_FnExactUnwatch.j2 kj56 t1120 (bt1135.2.2.2.2.2.2.2 != t1076) t1090 t1091 t1092 t1093 t1094 t1121 t1122) else (laws_FnExactUnwatch.j2 kj56 t1120 true t1090 t1091 t1092 t1093 t1094 t1121 t1122))))) else (some false)))) = some r := H
                  have A80 := Aside0.mk A800
                  clear A800
                  replace H := Option.bind_eq_some_iff.mp H
                  obtain ⟨t1123, A810, H⟩ := H
                  replace H : (if t1123 < 0 then (some false) else (if t1123 = t1120 then ((laws_toCell.f kj56 a0_0 a0_1 a0_2 a0_3 a0_4 l0_5 l0_6).bind fun bt1124 => ((impl_Unwatch.f kj56 bt1124.1 bt1124.2.1 bt1124.2.2.1 bt1124.2.2.2.1 bt1124.2.2.2.2.1 bt1124.2.2.2.2.2.1 bt1124.2.2.2.2.2.2 a1).bind fun bt1135 => ((laws_eqCell.f kj56 bt1135.1 bt1135.2.1 bt1135.2.2.1 bt1135.2.2.2.1 bt1135.2.2.2.2.1 bt1135.2.2.2.2.2.1 bt1135.2.2.2.2.2.2.1 t1065 t1066 t1067 t1068 t1069 t1070 t1073).bind fun t1148 => (if t1148 = true then (laws_FnExactUnwatch.j2 kj56 t1120 (bt1135.2.2.2.2.2.2.2 != t1076) t1090 t1091 t1092 t1093 t1094 t1121 t1122) else (laws_FnExactUnwatch.j2 kj56 t1120 true t1090 t1091 t1092 t1093 t1094 t1121 t1122))))) else (some false))) = some r := H
                  have A81 := Aside0.mk A810
                  clear A810
                  by_cases c82 : t1123 < 0
                  · rw [if_pos c82] at H
                    have c82b0 : decide (t1123 < 0) = true := decide_eq_true c82
                    clear c82
                    exact absurd (Option.some.inj H) (by rw [HQ_.out]; simp)
                  · rw [if_neg c82] at H
                    have c82b0 : decide (t1123 < 0) = false := decide_eq_false c82
                    clear c82
                    by_cases c83 : t1123 = t1120
                    · rw [if_pos c83] at H
                      have c83b0 : (t1123 == t1120) = true := beq_iff_eq.mpr c83
                      have c83b1 : (t1123 != t1120) = false := bne_eq_false_iff_eq.mpr c83
                      clear c83
                      replace H := Option.bind_eq_some_iff.mp H
                      obtain ⟨⟨t1124, t1125, t1126, t1127, t1128, t1129, t1132⟩, A840, H⟩ := H
                      replace H : ((impl_Unwatch.f kj56 t1124 t1125 t1126 t1127 t1128 t1129 t1132 a1).bind fun bt1135 => ((laws_eqCell.f kj56 bt1135.1 bt1135.2.1 bt1135.2.2.1 bt1135.2.2.2.1 bt1135.2.2.2.2.1 bt1135.2.2.2.2.2.1 bt1135.2.2.2.2.2.2.1 t1065 t1066 t1067 t1068 t1069 t1070 t1073).bind fun t1148 => (if t1148 = true then (laws_FnExactUnwatch.j2 kj56 t1120 (bt1135.2.2.2.2.2.2.2 != t1076) t1090 t1091 t1092 t1093 t1094 t1121 t1122) else (laws_FnExactUnwatch.j2 kj56 t1120 true t1090 t1091 t1092 t1093 t1094 t1121 t1122)))) = some r := H
                      have A84 := Aside0.mk A840
                      clear A840
                      replace H := Option.bind_eq_some_iff.mp H
                      obtain ⟨⟨t1135, t1136, t1137, t1138, t1139, t1140, t1143, t1146⟩, A850, H⟩ := H
                      replace H : ((laws_eqCell.f kj56 t1135 t1136 t1137 t1138 t1139 t1140 t1143 t1065 t1066 t1067 t1068 t1069 t1070 t1073).bind fun t1148 => (if t1148 = true then (laws_FnExactUnwatch.j2 kj56 t1120 (t1146 != t1076) t1090 t1091 t1092 t1093 t1094 t1121 t1122) else (laws_FnExactUnwatch.j2 kj56 t1120 true t1090 t1091 t1092 t1093 t1094 t1121 t1122))) = some r := H
                      have A85 := Aside0.mk A850
                      clear A850
                      have HC86 := Aside0.mk H
                      clear H
                      have hnb87 := NB1102_1052.out
                      have hnc87 := NB1052_1102.out
                      have hnb88 := NB1102_1077.out
                      have hnc88 := NB1077_1102.out
                      have hnb89 := NB1102_1089.out
                      have hnc89 := NB1089_1102.out
                      have hcz90_0 : wc.cell? ⟨gb1102, 0, none⟩ = some (.int .i64 t1090) := (blk_cell BK1102.out 0).trans rfl
                      have hcz90_1 : wc.cell? ⟨gb1102, 1, none⟩ = some (.int .i64 t1091) := (blk_cell BK1102.out 1).trans rfl
                      have hcz90_2 : wc.cell? ⟨gb1102, 2, none⟩ = some (.string t1092) := (blk_cell BK1102.out 2).trans rfl
                      have hcz90_3 : wc.cell? ⟨gb1102, 3, none⟩ = some (.int .i64 t1093) := (blk_cell BK1102.out 3).trans rfl
                      have hcz90_4 : wc.cell? ⟨gb1102, 4, none⟩ = some (.bool t1094) := (blk_cell BK1102.out 4).trans rfl
                      have hcz90_5 : wc.cell? ⟨gb1102, 5, none⟩ = some (.slice Ao40 t1095.length co40) := (blk_cell BK1102.out 5).trans rfl
                      have hcz90_6 : wc.cell? ⟨gb1102, 6, none⟩ = some (.slice Ao41 t1098.length co41) := (blk_cell BK1102.out 6).trans rfl
                      have hfz90_0 := blk_frozen BK1102.out 0
                      have hfz90_1 := blk_frozen BK1102.out 1
                      have hfz90_2 := blk_frozen BK1102.out 2
                      have hfz90_3 := blk_frozen BK1102.out 3
                      have hfz90_4 := blk_frozen BK1102.out 4
                      have hfz90_5 := blk_frozen BK1102.out 5
                      have hfz90_6 := blk_frozen BK1102.out 6
                      go_upto_region 25 with (first | ((with_reducible refine gate_callee (f := 48) rfl ?_); refine goesL_ (some 68) rfl rfl Try.func48 (by kernel_rfl) rfl #[.agg #[.int .i64 t1090, .int .i64 t1091, .string t1092, .int .i64 t1093, .bool t1094, .slice Ao40 t1095.length co40, .slice Ao41 t1098.length co41], .int .i64 1] rfl (by (try simp only [List.map_toArray, List.map_cons, List.map_nil]); first | done | rfl | (simp only [List.length_drop, List.length_take]; rfl) | (go_simp; done) | (simp [*]; done)) ?_; (with_reducible refine (laws_markCell.calls kj56 t1090 t1091 t1092 t1093 t1094 (fun k_ => some k_ = (.slice Ao40 t1095.length co40 : Value).ownBlock) (.slice Ao40 t1095.length co40) t1095 (fun k_ => some k_ = (.slice Ao41 t1098.length co41 : Value).ownBlock) (.slice Ao41 t1098.length co41) t1098 1 t1120 t1121 t1122 w _ ?side1 ?side2 ?side3 ?side4 ?side5 A80.out).mono ?_); (case side1 => repeat (first | (with_reducible first | exact HB.out | apply below_alloc | apply pw_below_drewN | apply below_drew1 | refine below_set ?_ GE1052.out | refine below_set ?_ GE1077.out | refine below_set ?_ GE1089.out | refine below_set ?_ GE1102.out) | exact HB.out)); (case side2 => exact Kd.R_tight rfl HO_1103005.out); (case side3 => exact fun k_ e_ => (HO_1103005.out.1 k_ e_.symm).2.2.2.2); (case side4 => exact Kd.R_tight rfl HO_1103006.out); (case side5 => exact fun k_ e_ => (HO_1103006.out.1 k_ e_.symm).2.2.2.2); rintro e w91 ⟨rfl, hy0, hy1, hb, hkp⟩; refine ⟨_, rfl, ?_⟩; have n0_ := Aside0.mk (Kd.R_mono (ok' := fun k_ => some k_ ≠ (.slice Ao25 t1073.length co25 : Value).ownBlock ∧ some k_ ≠ (.slice Ao32 t1117.length co32 : Value).ownBlock ∧ some k_ ≠ (.slice Ao33 t1118.length co33 : Value).ownBlock ∧ some k_ ≠ (.slice Ao40 t1095.length co40 : Value).ownBlock ∧ some k_ ≠ (.slice Ao41 t1098.length co41 : Value).ownBlock) (Kd.R_keptB (HO_1078005.out) hkp (fun k_ hk_ hs_ => Or.elim hs_ (fun e_ => (hk_.2.2.2.1) e_) (fun e_ => (hk_.2.2.2.2) e_))) (fun k_ hk_ => ⟨hk_.1.1, hk_.1.2.1, hk_.1.2.2.1, hk_.1.2.2.2.1, hk_.1.2.2.2.2⟩)); have n1_ := Aside0.mk (Kd.R_mono (ok' := fun k_ => some k_ ≠ (.slice Ao24 t1070.length co24 : Value).ownBlock ∧ some k_ ≠ (.slice Ao32 t1117.length co32 : Value).ownBlock ∧ some k_ ≠ (.slice Ao33 t1118.length co33 : Value).ownBlock ∧ some k_ ≠ (.slice Ao40 t1095.length co40 : Value).ownBlock ∧ some k_ ≠ (.slice Ao41 t1098.length co41 : Value).ownBlock) (Kd.R_keptB (HO_1078006.out) hkp (fun k_ hk_ hs_ => Or.elim hs_ (fun e_ => (hk_.2.2.2.1) e_) (fun e_ => (hk_.2.2.2.2) e_))) (fun k_ hk_ => ⟨hk_.1.1, hk_.1.2.1, hk_.1.2.2.1, hk_.1.2.2.2.1, hk_.1.2.2.2.2⟩)); have n2_ := Aside0.mk (Kd.R_mono (ok' := fun k_ => some k_ ≠ (.slice Ao24 t1070.length co24 : Value).ownBlock ∧ some k_ ≠ (.slice Ao25 t1073.length co25 : Value).ownBlock ∧ some k_ ≠ (.slice Ao33 t1118.length co33 : Value).ownBlock ∧ some k_ ≠ (.slice Ao40 t1095.length co40 : Value).ownBlock ∧ some k_ ≠ (.slice Ao41 t1098.length co41 : Value).ownBlock) (Kd.R_keptB (HO_1090005.out) hkp (fun k_ hk_ hs_ => Or.elim hs_ (fun e_ => (hk_.2.2.2.1) e_) (fun e_ => (hk_.2.2.2.2) e_))) (fun k_ hk_ => ⟨hk_.1.1, hk_.1.2.1, hk_.1.2.2.1, hk_.1.2.2.2.1, hk_.1.2.2.2.2⟩)); have n3_ := Aside0.mk (Kd.R_mono (ok' := fun k_ => some k_ ≠ (.slice Ao24 t1070.length co24 : Value).ownBlock ∧ some k_ ≠ (.slice Ao25 t1073.length co25 : Value).ownBlock ∧ some k_ ≠ (.slice Ao32 t1117.length co32 : Value).ownBlock ∧ some k_ ≠ (.slice Ao40 t1095.length co40 : Value).ownBlock ∧ some k_ ≠ (.slice Ao41 t1098.length co41 : Value).ownBlock) (Kd.R_keptB (HO_1090006.out) hkp (fun k_ hk_ hs_ => Or.elim hs_ (fun e_ => (hk_.2.2.2.1) e_) (fun e_ => (hk_.2.2.2.2) e_))) (fun k_ hk_ => ⟨hk_.1.1, hk_.1.2.1, hk_.1.2.2.1, hk_.1.2.2.2.1, hk_.1.2.2.2.2⟩)); have n4_ := Aside0.mk (Kd.R_reok rfl hy0 (fun k_ e_ => HO_1103005.out.1 k_ e_)); have n5_ := Aside0.mk (Kd.R_reok rfl hy1 (fun k_ e_ => HO_1103006.out.1 k_ e_)); have n6_ := Aside0.mk (blk_kept (pkK BK1052.out) hkp (fun hs_ => Or.elim hs_ (fun e_ => (fun e_ => (Kd.R_ne HO_1103005.out BK1052.out (by decide)) e_) e_) (fun e_ => (fun e_ => (Kd.R_ne HO_1103006.out BK1052.out (by decide)) e_) e_))); have n7_ := Aside0.mk (blk_kept (pkK BK1077.out) hkp (fun hs_ => Or.elim hs_ (fun e_ => (fun e_ => (Kd.R_ne HO_1103005.out BK1077.out (by decide)) e_) e_) (fun e_ => (fun e_ => (Kd.R_ne HO_1103006.out BK1077.out (by decide)) e_) e_))); have n8_ := Aside0.mk (blk_kept (pkK BK1089.out) hkp (fun hs_ => Or.elim hs_ (fun e_ => (fun e_ => (Kd.R_ne HO_1103005.out BK1089.out (by decide)) e_) e_) (fun e_ => (fun e_ => (Kd.R_ne HO_1103006.out BK1089.out (by decide)) e_) e_))); have n9_ := Aside0.mk (blk_kept (pkK BK1102.out) hkp (fun hs_ => Or.elim hs_ (fun e_ => (fun e_ => (Kd.R_ne HO_1103005.out BK1102.out (by decide)) e_) e_) (fun e_ => (fun e_ => (Kd.R_ne HO_1103006.out BK1102.out (by decide)) e_) e_))); have n10_ := Aside0.mk (hb); clear HO_1078005 HO_1078006 HO_1090005 HO_1090006 HO_1103005 HO_1103006 BK1052 BK1077 BK1089 BK1102 HB; have HO_1078005 := n0_; have HO_1078006 := n1_; have HO_1090005 := n2_; have HO_1090006 := n3_; have HO_1103005 := n4_; have HO_1103006 := n5_; have BK1052 := n6_; have BK1077 := n7_; have BK1089 := n8_; have BK1102 := n9_; have HB := n10_; clear n0_ n1_ n2_ n3_ n4_ n5_ n6_ n7_ n8_ n9_ n10_; (try clear hb); (try clear hkp); (try clear hy0); (try clear hy1); have hcz92_0 : w91.cell? ⟨gb1102, 0, none⟩ = some (.int .i64 t1090) := (blk_cell BK1102.out 0).trans rfl; have hcz92_1 : w91.cell? ⟨gb1102, 1, none⟩ = some (.int .i64 t1091) := (blk_cell BK1102.out 1).trans rfl; have hcz92_2 : w91.cell? ⟨gb1102, 2, none⟩ = some (.string t1092) := (blk_cell BK1102.out 2).trans rfl; have hcz92_3 : w91.cell? ⟨gb1102, 3, none⟩ = some (.int .i64 t1093) := (blk_cell BK1102.out 3).trans rfl; have hcz92_4 : w91.cell? ⟨gb1102, 4, none⟩ = some (.bool t1094) := (blk_cell BK1102.out 4).trans rfl; have hcz92_5 : w91.cell? ⟨gb1102, 5, none⟩ = some (.slice Ao40 t1095.length co40) := (blk_cell BK1102.out 5).trans rfl; have hcz92_6 : w91.cell? ⟨gb1102, 6, none⟩ = some (.slice Ao41 t1098.length co41) := (blk_cell BK1102.out 6).trans rfl; have hfz92_0 := blk_frozen BK1102.out 0; have hfz92_1 := blk_frozen BK1102.out 1; have hfz92_2 := blk_frozen BK1102.out 2; have hfz92_3 := blk_frozen BK1102.out 3; have hfz92_4 := blk_frozen BK1102.out 4; have hfz92_5 := blk_frozen BK1102.out 5; have hfz92_6 := blk_frozen BK1102.out 6) | ((with_reducible refine gate_callee (f := 49) rfl ?_); refine goesL_ (some 71) rfl rfl Try.func49 (by kernel_rfl) rfl #[.agg #[.int .i64 t1090, .int .i64 t1091, .string t1092, .int .i64 t1093, .bool t1094, .slice Ao40 t1121.length co40, .slice Ao41 t1122.length co41], .int .i64 1] rfl (by (try simp only [List.map_toArray, List.map_cons, List.map_nil]); first | done | (rw [show t1121.length = t1095.length from (Kd.R_reads' HO_1103005.out).1.symm, show t1122.length = t1098.length from (Kd.R_reads' HO_1103006.out).1.symm] <;> rfl) | rfl | (simp only [List.length_drop, List.length_take]; rfl) | (go_simp; done) | (simp [*]; done)) ?_; (with_reducible refine (laws_heldCell.calls kj56 t1090 t1091 t1092 t1093 t1094 _ _ t1121 _ _ t1122 1 t1123 _ ?side1 ?side2 ?side3 ?side4 A81.out).mono ?_); (case side1 => exact pkC (Kd.R_reads' HO_1103005.out).2.2); (case side2 => rw [show t1121.length = t1095.length from (Kd.R_reads' HO_1103005.out).1.symm]; exact (Kd.R_reads' HO_1103005.out).2.1); (case side3 => exact pkC (Kd.R_reads' HO_1103006.out).2.2); (case side4 => rw [show t1122.length = t1098.length from (Kd.R_reads' HO_1103006.out).1.symm]; exact (Kd.R_reads' HO_1103006.out).2.1); rintro e w93 ⟨rfl, hb⟩; refine ⟨_, rfl, ?_⟩; have n0_ := Aside0.mk (Kd.R_below (pkR HO_1078005.out) hb); have n1_ := Aside0.mk (Kd.R_below (pkR HO_1078006.out) hb); have n2_ := Aside0.mk (Kd.R_below (pkR HO_1090005.out) hb); have n3_ := Aside0.mk (Kd.R_below (pkR HO_1090006.out) hb); have n4_ := Aside0.mk (Kd.R_below (pkR HO_1103005.out) hb); have n5_ := Aside0.mk (Kd.R_below (pkR HO_1103006.out) hb); have n6_ := Aside0.mk (blk_below (g := gb1052) (o := .cells #[.int .i64 a0_0, .int .i64 a0_1, .string a0_2, .int .i64 a0_3, .bool a0_4, .slice A0_5 l0_5.length c0_5, .slice A0_6 l0_6.length c0_6] 56 (0, 0)) (pkK BK1052.out) hb); have n7_ := Aside0.mk (blk_below (g := gb1077) (o := .cells #[.int .i64 t1065, .int .i64 t1066, .string t1067, .int .i64 t1068, .bool t1069, .slice Ao24 t1070.length co24, .slice Ao25 t1073.length co25] 29 (0, 0)) (pkK BK1077.out) hb); have n8_ := Aside0.mk (blk_below (g := gb1089) (o := .cells #[.int .i64 t1078, .int .i64 t1079, .string t1080, .int .i64 t1081, .bool t1082, .slice Ao32 t1117.length co32, .slice Ao33 t1118.length co33] 29 (0, 0)) (pkK BK1089.out) hb); have n9_ := Aside0.mk (blk_below (g := gb1102) (o := .cells #[.int .i64 t1090, .int .i64 t1091, .string t1092, .int .i64 t1093, .bool t1094, .slice Ao40 t1095.length co40, .slice Ao41 t1098.length co41] 29 (0, 0)) (pkK BK1102.out) hb); have n10_ := Aside0.mk (below_step (by repeat (first | (with_reducible first | exact HB.out | apply below_alloc | apply pw_below_drewN | apply below_drew1 | refine below_set ?_ GE1052.out | refine below_set ?_ GE1077.out | refine below_set ?_ GE1089.out | refine below_set ?_ GE1102.out) | exact HB.out)) hb); clear HO_1078005 HO_1078006 HO_1090005 HO_1090006 HO_1103005 HO_1103006 BK1052 BK1077 BK1089 BK1102 HB; have HO_1078005 := n0_; have HO_1078006 := n1_; have HO_1090005 := n2_; have HO_1090006 := n3_; have HO_1103005 := n4_; have HO_1103006 := n5_; have BK1052 := n6_; have BK1077 := n7_; have BK1089 := n8_; have BK1102 := n9_; have HB := n10_; clear n0_ n1_ n2_ n3_ n4_ n5_ n6_ n7_ n8_ n9_ n10_; (try clear hb); (try clear hb2); (try clear hk); (try clear hi); have hnb94 := NB1052_1077.out; have hnc94 := NB1077_1052.out; have hnb95 := NB1052_1089.out; have hnc95 := NB1089_1052.out; have hcz96_0 : w93.cell? ⟨gb1052, 0, none⟩ = some (.int .i64 a0_0) := (blk_cell BK1052.out 0).trans rfl; have hcz96_1 : w93.cell? ⟨gb1052, 1, none⟩ = some (.int .i64 a0_1) := (blk_cell BK1052.out 1).trans rfl; have hcz96_2 : w93.cell? ⟨gb1052, 2, none⟩ = some (.string a0_2) := (blk_cell BK1052.out 2).trans rfl; have hcz96_3 : w93.cell? ⟨gb1052, 3, none⟩ = some (.int .i64 a0_3) := (blk_cell BK1052.out 3).trans rfl; have hcz96_4 : w93.cell? ⟨gb1052, 4, none⟩ = some (.bool a0_4) := (blk_cell BK1052.out 4).trans rfl; have hcz96_5 : w93.cell? ⟨gb1052, 5, none⟩ = some (.slice A0_5 l0_5.length c0_5) := (blk_cell BK1052.out 5).trans rfl; have hcz96_6 : w93.cell? ⟨gb1052, 6, none⟩ = some (.slice A0_6 l0_6.length c0_6) := (blk_cell BK1052.out 6).trans rfl; have hfz96_0 := blk_frozen BK1052.out 0; have hfz96_1 := blk_frozen BK1052.out 1; have hfz96_2 := blk_frozen BK1052.out 2; have hfz96_3 := blk_frozen BK1052.out 3; have hfz96_4 := blk_frozen BK1052.out 4; have hfz96_5 := blk_frozen BK1052.out 5; have hfz96_6 := blk_frozen BK1052.out 6) | ((with_reducible refine gate_callee (f := 32) rfl ?_); refine goesL_ (some 79) rfl rfl Try.func32 (by kernel_rfl) rfl #[.agg #[.int .i64 a0_0, .int .i64 a0_1, .string a0_2, .int .i64 a0_3, .bool a0_4, .slice A0_5 l0_5.length c0_5, .slice A0_6 l0_6.length c0_6]] rfl (by (try simp only [List.map_toArray, List.map_cons, List.map_nil]); first | done | rfl | (simp only [List.length_drop, List.length_take]; rfl) | (go_simp; done) | (simp [*]; done)) ?_; (with_reducible refine (laws_toCell.calls kj56 a0_0 a0_1 a0_2 a0_3 a0_4 _ _ l0_5 _ _ l0_6 t1124 t1125 t1126 t1127 t1128 t1129 t1132 _ ?side1 ?side2 ?side3 ?side4 A84.out).mono ?_); (case side1 => exact pkC (Kd.C_below HR0_5.out HB.out)); (case side2 => exact HC0_5.out); (case side3 => exact pkC (Kd.C_below HR0_6.out HB.out)); (case side4 => exact HC0_6.out); rintro e w97 ⟨v1130, v1133, rfl, ho0, ho1, hb⟩; refine ⟨_, rfl, ?_⟩; have n0_ := Aside0.mk (Kd.R_mono (Kd.R_told (Kd.R_told (Kd.R_old (pkR HO_1078005.out) hb) (Kd.R_base ho0)) (Kd.R_base ho1)) (fun _ h_ => h_.1)); have n1_ := Aside0.mk (Kd.R_mono (Kd.R_told (Kd.R_told (Kd.R_old (pkR HO_1078006.out) hb) (Kd.R_base ho0)) (Kd.R_base ho1)) (fun _ h_ => h_.1)); have n2_ := Aside0.mk (Kd.R_mono (Kd.R_told (Kd.R_told (Kd.R_old (pkR HO_1090005.out) hb) (Kd.R_base ho0)) (Kd.R_base ho1)) (fun _ h_ => h_.1)); have n3_ := Aside0.mk (Kd.R_mono (Kd.R_told (Kd.R_told (Kd.R_old (pkR HO_1090006.out) hb) (Kd.R_base ho0)) (Kd.R_base ho1)) (fun _ h_ => h_.1)); have n4_ := Aside0.mk (Kd.R_mono (Kd.R_told (Kd.R_told (Kd.R_old (pkR HO_1103005.out) hb) (Kd.R_base ho0)) (Kd.R_base ho1)) (fun _ h_ => h_.1)); have n5_ := Aside0.mk (Kd.R_mono (Kd.R_told (Kd.R_told (Kd.R_old (pkR HO_1103006.out) hb) (Kd.R_base ho0)) (Kd.R_base ho1)) (fun _ h_ => h_.1)); have n6_ := Aside0.mk (Kd.R_lower (Kd.R_new' (Kd.R_new' (Kd.R_new' (Kd.R_new' (Kd.R_new' (Kd.R_new' ho0 (Kd.R_lt (pkR HO_1078005.out))) (Kd.R_lt (pkR HO_1078006.out))) (Kd.R_lt (pkR HO_1090005.out))) (Kd.R_lt (pkR HO_1090006.out))) (Kd.R_lt (pkR HO_1103005.out))) (Kd.R_lt (pkR HO_1103006.out))) (below_size (by repeat (first | (with_reducible first | exact HB.out | apply below_alloc | apply pw_below_drewN | apply below_drew1 | refine below_set ?_ GE1052.out | refine below_set ?_ GE1077.out | refine below_set ?_ GE1089.out | refine below_set ?_ GE1102.out) | exact HB.out)))); have n7_ := Aside0.mk (Kd.R_lower (Kd.R_new' (Kd.R_new' (Kd.R_new' (Kd.R_new' (Kd.R_new' (Kd.R_new' ho1 (Kd.R_lt (pkR HO_1078005.out))) (Kd.R_lt (pkR HO_1078006.out))) (Kd.R_lt (pkR HO_1090005.out))) (Kd.R_lt (pkR HO_1090006.out))) (Kd.R_lt (pkR HO_1103005.out))) (Kd.R_lt (pkR HO_1103006.out))) (below_size (by repeat (first | (with_reducible first | exact HB.out | apply below_alloc | apply pw_below_drewN | apply below_drew1 | refine below_set ?_ GE1052.out | refine below_set ?_ GE1077.out | refine below_set ?_ GE1089.out | refine below_set ?_ GE1102.out) | exact HB.out)))); have n8_ := Aside0.mk (blk_below (g := gb1052) (o := .cells #[.int .i64 a0_0, .int .i64 a0_1, .string a0_2, .int .i64 a0_3, .bool a0_4, .slice A0_5 l0_5.length c0_5, .slice A0_6 l0_6.length c0_6] 56 (0, 0)) (pkK BK1052.out) hb); have n9_ := Aside0.mk (blk_below (g := gb1077) (o := .cells #[.int .i64 t1065, .int .i64 t1066, .string t1067, .int .i64 t1068, .bool t1069, .slice Ao24 t1070.length co24, .slice Ao25 t1073.length co25] 29 (0, 0)) (pkK BK1077.out) hb); have n10_ := Aside0.mk (blk_below (g := gb1089) (o := .cells #[.int .i64 t1078, .int .i64 t1079, .string t1080, .int .i64 t1081, .bool t1082, .slice Ao32 t1117.length co32, .slice Ao33 t1118.length co33] 29 (0, 0)) (pkK BK1089.out) hb); have n11_ := Aside0.mk (blk_below (g := gb1102) (o := .cells #[.int .i64 t1090, .int .i64 t1091, .string t1092, .int .i64 t1093, .bool t1094, .slice Ao40 t1095.length co40, .slice Ao41 t1098.length co41] 29 (0, 0)) (pkK BK1102.out) hb); have n12_ := Aside0.mk (below_step (by repeat (first | (with_reducible first | exact HB.out | apply below_alloc | apply pw_below_drewN | apply below_drew1 | refine below_set ?_ GE1052.out | refine below_set ?_ GE1077.out | refine below_set ?_ GE1089.out | refine below_set ?_ GE1102.out) | exact HB.out)) hb); clear HO_1078005 HO_1078006 HO_1090005 HO_1090006 HO_1103005 HO_1103006 BK1052 BK1077 BK1089 BK1102 HB; have HO_1078005 := n0_; have HO_1078006 := n1_; have HO_1090005 := n2_; have HO_1090006 := n3_; have HO_1103005 := n4_; have HO_1103006 := n5_; have HO1131 := n6_; have HO1134 := n7_; have BK1052 := n8_; have BK1077 := n9_; have BK1089 := n10_; have BK1102 := n11_; have HB := n12_; clear n0_ n1_ n2_ n3_ n4_ n5_ n6_ n7_ n8_ n9_ n10_ n11_ n12_; (try clear hb); (try clear hb2); (try clear hk); (try clear hi); (try clear ho0); (try clear ho1); obtain ⟨Ao98, co98, eo98⟩ := Kd.R_slice HO1131.out; subst eo98; obtain ⟨Ao99, co99, eo99⟩ := Kd.R_slice HO1134.out; subst eo99) | ((with_reducible refine gate_callee (f := 51) rfl ?_); refine goesL_ (some 81) rfl rfl Try.func51 (by kernel_rfl) rfl #[.agg #[.int .i64 t1124, .int .i64 t1125, .string t1126, .int .i64 t1127, .bool t1128, .slice Ao98 t1129.length co98, .slice Ao99 t1132.length co99], .int .i64 a1] rfl (by (try simp only [List.map_toArray, List.map_cons, List.map_nil]); first | done | rfl | (simp only [List.length_drop, List.length_take]; rfl) | (go_simp; done) | (simp [*]; done)) ?_; (with_reducible refine (impl_Unwatch.calls kj56 t1124 t1125 t1126 t1127 t1128 _ _ t1129 _ _ t1132 a1 t1135 t1136 t1137 t1138 t1139 t1140 t1143 t1146 _ ?side1 ?side2 ?side3 ?side4 A85.out).mono ?_); (case side1 => exact pkC (Kd.R_reads' HO1131.out).2.2); (case side2 => exact (Kd.R_reads' HO1131.out).2.1); (case side3 => exact pkC (Kd.R_reads' HO1134.out).2.2); (case side4 => exact (Kd.R_reads' HO1134.out).2.1); rintro e w100 ⟨v1141, v1144, rfl, ho0, ho1, hb⟩; refine ⟨_, rfl, ?_⟩; have n0_ := Aside0.mk (Kd.R_mono (Kd.R_told (Kd.R_told (Kd.R_old (pkR HO_1078005.out) hb) (Kd.R_base ho0)) (Kd.R_base ho1)) (fun _ h_ => h_.1)); have n1_ := Aside0.mk (Kd.R_mono (Kd.R_told (Kd.R_told (Kd.R_old (pkR HO_1078006.out) hb) (Kd.R_base ho0)) (Kd.R_base ho1)) (fun _ h_ => h_.1)); have n2_ := Aside0.mk (Kd.R_mono (Kd.R_told (Kd.R_told (Kd.R_old (pkR HO_1090005.out) hb) (Kd.R_base ho0)) (Kd.R_base ho1)) (fun _ h_ => h_.1)); have n3_ := Aside0.mk (Kd.R_mono (Kd.R_told (Kd.R_told (Kd.R_old (pkR HO_1090006.out) hb) (Kd.R_base ho0)) (Kd.R_base ho1)) (fun _ h_ => h_.1)); have n4_ := Aside0.mk (Kd.R_mono (Kd.R_told (Kd.R_told (Kd.R_old (pkR HO_1103005.out) hb) (Kd.R_base ho0)) (Kd.R_base ho1)) (fun _ h_ => h_.1)); have n5_ := Aside0.mk (Kd.R_mono (Kd.R_told (Kd.R_told (Kd.R_old (pkR HO_1103006.out) hb) (Kd.R_base ho0)) (Kd.R_base ho1)) (fun _ h_ => h_.1)); have n6_ := Aside0.mk (Kd.R_mono (Kd.R_told (Kd.R_told (Kd.R_old (pkR HO1131.out) hb) (Kd.R_base ho0)) (Kd.R_base ho1)) (fun _ h_ => h_.1)); have n7_ := Aside0.mk (Kd.R_mono (Kd.R_told (Kd.R_told (Kd.R_old (pkR HO1134.out) hb) (Kd.R_base ho0)) (Kd.R_base ho1)) (fun _ h_ => h_.1)); have n8_ := Aside0.mk (Kd.R_lower (Kd.R_new' (Kd.R_new' (Kd.R_new' (Kd.R_new' (Kd.R_new' (Kd.R_new' (Kd.R_new' (Kd.R_new' ho0 (Kd.R_lt (pkR HO_1078005.out))) (Kd.R_lt (pkR HO_1078006.out))) (Kd.R_lt (pkR HO_1090005.out))) (Kd.R_lt (pkR HO_1090006.out))) (Kd.R_lt (pkR HO_1103005.out))) (Kd.R_lt (pkR HO_1103006.out))) (Kd.R_lt (pkR HO1131.out))) (Kd.R_lt (pkR HO1134.out))) (below_size (by repeat (first | (with_reducible first | exact HB.out | apply below_alloc | apply pw_below_drewN | apply below_drew1 | refine below_set ?_ GE1052.out | refine below_set ?_ GE1077.out | refine below_set ?_ GE1089.out | refine below_set ?_ GE1102.out) | exact HB.out)))); have n9_ := Aside0.mk (Kd.R_lower (Kd.R_new' (Kd.R_new' (Kd.R_new' (Kd.R_new' (Kd.R_new' (Kd.R_new' (Kd.R_new' (Kd.R_new' ho1 (Kd.R_lt (pkR HO_1078005.out))) (Kd.R_lt (pkR HO_1078006.out))) (Kd.R_lt (pkR HO_1090005.out))) (Kd.R_lt (pkR HO_1090006.out))) (Kd.R_lt (pkR HO_1103005.out))) (Kd.R_lt (pkR HO_1103006.out))) (Kd.R_lt (pkR HO1131.out))) (Kd.R_lt (pkR HO1134.out))) (below_size (by repeat (first | (with_reducible first | exact HB.out | apply below_alloc | apply pw_below_drewN | apply below_drew1 | refine below_set ?_ GE1052.out | refine below_set ?_ GE1077.out | refine below_set ?_ GE1089.out | refine below_set ?_ GE1102.out) | exact HB.out)))); have n10_ := Aside0.mk (blk_below (g := gb1052) (o := .cells #[.int .i64 a0_0, .int .i64 a0_1, .string a0_2, .int .i64 a0_3, .bool a0_4, .slice A0_5 l0_5.length c0_5, .slice A0_6 l0_6.length c0_6] 56 (0, 0)) (pkK BK1052.out) hb); have n11_ := Aside0.mk (blk_below (g := gb1077) (o := .cells #[.int .i64 t1065, .int .i64 t1066, .string t1067, .int .i64 t1068, .bool t1069, .slice Ao24 t1070.length co24, .slice Ao25 t1073.length co25] 29 (0, 0)) (pkK BK1077.out) hb); have n12_ := Aside0.mk (blk_below (g := gb1089) (o := .cells #[.int .i64 t1078, .int .i64 t1079, .string t1080, .int .i64 t1081, .bool t1082, .slice Ao32 t1117.length co32, .slice Ao33 t1118.length co33] 29 (0, 0)) (pkK BK1089.out) hb); have n13_ := Aside0.mk (blk_below (g := gb1102) (o := .cells #[.int .i64 t1090, .int .i64 t1091, .string t1092, .int .i64 t1093, .bool t1094, .slice Ao40 t1095.length co40, .slice Ao41 t1098.length co41] 29 (0, 0)) (pkK BK1102.out) hb); have n14_ := Aside0.mk (below_step (by repeat (first | (with_reducible first | exact HB.out | apply below_alloc | apply pw_below_drewN | apply below_drew1 | refine below_set ?_ GE1052.out | refine below_set ?_ GE1077.out | refine below_set ?_ GE1089.out | refine below_set ?_ GE1102.out) | exact HB.out)) hb); clear HO_1078005 HO_1078006 HO_1090005 HO_1090006 HO_1103005 HO_1103006 HO1131 HO1134 BK1052 BK1077 BK1089 BK1102 HB; have HO_1078005 := n0_; have HO_1078006 := n1_; have HO_1090005 := n2_; have HO_1090006 := n3_; have HO_1103005 := n4_; have HO_1103006 := n5_; have HO1131 := n6_; have HO1134 := n7_; have HO1142 := n8_; have HO1145 := n9_; have BK1052 := n10_; have BK1077 := n11_; have BK1089 := n12_; have BK1102 := n13_; have HB := n14_; clear n0_ n1_ n2_ n3_ n4_ n5_ n6_ n7_ n8_ n9_ n10_ n11_ n12_ n13_ n14_; (try clear hb); (try clear hb2); (try clear hk); (try clear hi); (try clear ho0); (try clear ho1)) | ((with_reducible refine gate_dst (N := 14) rfl ?_); refine box_event ?hg (N := 14) ?hd (cs := #[.int .i64 0, .int .i64 0, .string (⟨#[]⟩ : ByteArray), .int .i64 0, .bool false, .slice none 0 0, .slice none 0 0]) (t := 29) ?hr ?_; (case hd => rfl); (case hg => rfl); (case hr => first | (go_simp; done) | (go_simp; rfl)); intro gb1147 hg w101 hbox hb; have n0_ := Aside0.mk (Kd.R_below (pkR HO_1078005.out) hb); have n1_ := Aside0.mk (Kd.R_below (pkR HO_1078006.out) hb); have n2_ := Aside0.mk (Kd.R_below (pkR HO_1090005.out) hb); have n3_ := Aside0.mk (Kd.R_below (pkR HO_1090006.out) hb); have n4_ := Aside0.mk (Kd.R_below (pkR HO_1103005.out) hb); have n5_ := Aside0.mk (Kd.R_below (pkR HO_1103006.out) hb); have n6_ := Aside0.mk (Kd.R_below (pkR HO1131.out) hb); have n7_ := Aside0.mk (Kd.R_below (pkR HO1134.out) hb); have n8_ := Aside0.mk (Kd.R_below (pkR HO1142.out) hb); have n9_ := Aside0.mk (Kd.R_below (pkR HO1145.out) hb); have n10_ := Aside0.mk (blk_below (g := gb1052) (o := .cells #[.int .i64 a0_0, .int .i64 a0_1, .string a0_2, .int .i64 a0_3, .bool a0_4, .slice A0_5 l0_5.length c0_5, .slice A0_6 l0_6.length c0_6] 56 (0, 0)) (pkK BK1052.out) hb); have n11_ := Aside0.mk (blk_below (g := gb1077) (o := .cells #[.int .i64 t1065, .int .i64 t1066, .string t1067, .int .i64 t1068, .bool t1069, .slice Ao24 t1070.length co24, .slice Ao25 t1073.length co25] 29 (0, 0)) (pkK BK1077.out) hb); have n12_ := Aside0.mk (blk_below (g := gb1089) (o := .cells #[.int .i64 t1078, .int .i64 t1079, .string t1080, .int .i64 t1081, .bool t1082, .slice Ao32 t1117.length co32, .slice Ao33 t1118.length co33] 29 (0, 0)) (pkK BK1089.out) hb); have n13_ := Aside0.mk (blk_below (g := gb1102) (o := .cells #[.int .i64 t1090, .int .i64 t1091, .string t1092, .int .i64 t1093, .bool t1094, .slice Ao40 t1095.length co40, .slice Ao41 t1098.length co41] 29 (0, 0)) (pkK BK1102.out) hb); have n14_ := Aside0.mk (below_step (by repeat (first | (with_reducible first | exact HB.out | apply below_alloc | apply pw_below_drewN | apply below_drew1 | refine below_set ?_ GE1052.out | refine below_set ?_ GE1077.out | refine below_set ?_ GE1089.out | refine below_set ?_ GE1102.out) | exact HB.out)) hb); have n15_ := Aside0.mk (hbox); have n16_ := Aside0.mk ((by rw [hg]; exact (below_size (by repeat (first | (with_reducible first | exact HB.out | apply below_alloc | apply pw_below_drewN | apply below_drew1 | refine below_set ?_ GE1052.out | refine below_set ?_ GE1077.out | refine below_set ?_ GE1089.out | refine below_set ?_ GE1102.out) | exact HB.out))) : w.heap.size ≤ gb1147)); have n17_ := Aside0.mk ((by rw [hg]; exact (below_size (by repeat (first | (with_reducible first | exact HB.out | apply below_alloc | apply pw_below_drewN | apply below_drew1 | refine below_set ?_ GE1052.out | refine below_set ?_ GE1077.out | refine below_set ?_ GE1089.out | refine below_set ?_ GE1102.out) | exact HB.out))) : w.heap.size ≤ gb1147)); have n18_ := Aside0.mk ((by rw [hg]; exact Nat.ne_of_lt (blk_lt (g := gb1052) (o := .cells #[.int .i64 a0_0, .int .i64 a0_1, .string a0_2, .int .i64 a0_3, .bool a0_4, .slice A0_5 l0_5.length c0_5, .slice A0_6 l0_6.length c0_6] 56 (0, 0)) (pkK BK1052.out)) : gb1052 ≠ gb1147)); have n19_ := Aside0.mk ((by rw [hg]; exact Nat.ne_of_gt (blk_lt (g := gb1052) (o := .cells #[.int .i64 a0_0, .int .i64 a0_1, .string a0_2, .int .i64 a0_3, .bool a0_4, .slice A0_5 l0_5.length c0_5, .slice A0_6 l0_6.length c0_6] 56 (0, 0)) (pkK BK1052.out)) : gb1147 ≠ gb1052)); have n20_ := Aside0.mk ((by rw [hg]; exact Nat.ne_of_lt (blk_lt (g := gb1077) (o := .cells #[.int .i64 t1065, .int .i64 t1066, .string t1067, .int .i64 t1068, .bool t1069, .slice Ao24 t1070.length co24, .slice Ao25 t1073.length co25] 29 (0, 0)) (pkK BK1077.out)) : gb1077 ≠ gb1147)); have n21_ := Aside0.mk ((by rw [hg]; exact Nat.ne_of_gt (blk_lt (g := gb1077) (o := .cells #[.int .i64 t1065, .int .i64 t1066, .string t1067, .int .i64 t1068, .bool t1069, .slice Ao24 t1070.length co24, .slice Ao25 t1073.length co25] 29 (0, 0)) (pkK BK1077.out)) : gb1147 ≠ gb1077)); have n22_ := Aside0.mk ((by rw [hg]; exact Nat.ne_of_lt (blk_lt (g := gb1089) (o := .cells #[.int .i64 t1078, .int .i64 t1079, .string t1080, .int .i64 t1081, .bool t1082, .slice Ao32 t1117.length co32, .slice Ao33 t1118.length co33] 29 (0, 0)) (pkK BK1089.out)) : gb1089 ≠ gb1147)); have n23_ := Aside0.mk ((by rw [hg]; exact Nat.ne_of_gt (blk_lt (g := gb1089) (o := .cells #[.int .i64 t1078, .int .i64 t1079, .string t1080, .int .i64 t1081, .bool t1082, .slice Ao32 t1117.length co32, .slice Ao33 t1118.length co33] 29 (0, 0)) (pkK BK1089.out)) : gb1147 ≠ gb1089)); have n24_ := Aside0.mk ((by rw [hg]; exact Nat.ne_of_lt (blk_lt (g := gb1102) (o := .cells #[.int .i64 t1090, .int .i64 t1091, .string t1092, .int .i64 t1093, .bool t1094, .slice Ao40 t1095.length co40, .slice Ao41 t1098.length co41] 29 (0, 0)) (pkK BK1102.out)) : gb1102 ≠ gb1147)); have n25_ := Aside0.mk ((by rw [hg]; exact Nat.ne_of_gt (blk_lt (g := gb1102) (o := .cells #[.int .i64 t1090, .int .i64 t1091, .string t1092, .int .i64 t1093, .bool t1094, .slice Ao40 t1095.length co40, .slice Ao41 t1098.length co41] 29 (0, 0)) (pkK BK1102.out)) : gb1147 ≠ gb1102)); clear HO_1078005 HO_1078006 HO_1090005 HO_1090006 HO_1103005 HO_1103006 HO1131 HO1134 HO1142 HO1145 BK1052 BK1077 BK1089 BK1102 HB; have HO_1078005 := n0_; have HO_1078006 := n1_; have HO_1090005 := n2_; have HO_1090006 := n3_; have HO_1103005 := n4_; have HO_1103006 := n5_; have HO1131 := n6_; have HO1134 := n7_; have HO1142 := n8_; have HO1145 := n9_; have BK1052 := n10_; have BK1077 := n11_; have BK1089 := n12_; have BK1102 := n13_; have HB := n14_; have BK1147 := n15_; have GW1147 := n16_; have GE1147 := n17_; have NB1052_1147 := n18_; have NB1147_1052 := n19_; have NB1077_1147 := n20_; have NB1147_1077 := n21_; have NB1089_1147 := n22_; have NB1147_1089 := n23_; have NB1102_1147 := n24_; have NB1147_1102 := n25_; clear n0_ n1_ n2_ n3_ n4_ n5_ n6_ n7_ n8_ n9_ n10_ n11_ n12_ n13_ n14_ n15_ n16_ n17_ n18_ n19_ n20_ n21_ n22_ n23_ n24_ n25_; clear hb hbox hg; have hnb102 := NB1147_1052.out; have hnc102 := NB1052_1147.out; have hnb103 := NB1147_1077.out; have hnc103 := NB1077_1147.out; have hnb104 := NB1147_1089.out; have hnc104 := NB1089_1147.out; have hnb105 := NB1147_1102.out; have hnc105 := NB1102_1147.out; have hcz106_0 : w101.cell? ⟨gb1147, 0, none⟩ = some (.int .i64 0) := (blk_cell BK1147.out 0).trans rfl; have hcz106_1 : w101.cell? ⟨gb1147, 1, none⟩ = some (.int .i64 0) := (blk_cell BK1147.out 1).trans rfl; have hcz106_2 : w101.cell? ⟨gb1147, 2, none⟩ = some (.string (⟨#[]⟩ : ByteArray)) := (blk_cell BK1147.out 2).trans rfl; have hcz106_3 : w101.cell? ⟨gb1147, 3, none⟩ = some (.int .i64 0) := (blk_cell BK1147.out 3).trans rfl; have hcz106_4 : w101.cell? ⟨gb1147, 4, none⟩ = some (.bool false) := (blk_cell BK1147.out 4).trans rfl; have hcz106_5 : w101.cell? ⟨gb1147, 5, none⟩ = some (.slice none 0 0) := (blk_cell BK1147.out 5).trans rfl; have hcz106_6 : w101.cell? ⟨gb1147, 6, none⟩ = some (.slice none 0 0) := (blk_cell BK1147.out 6).trans rfl; have hfz106_0 := blk_frozen BK1147.out 0; have hfz106_1 := blk_frozen BK1147.out 1; have hfz106_2 := blk_frozen BK1147.out 2; have hfz106_3 := blk_frozen BK1147.out 3; have hfz106_4 := blk_frozen BK1147.out 4; have hfz106_5 := blk_frozen BK1147.out 5; have hfz106_6 := blk_frozen BK1147.out 6; obtain ⟨Ao107, co107, eo107⟩ := Kd.R_slice HO1142.out; subst eo107; obtain ⟨Ao108, co108, eo108⟩ := Kd.R_slice HO1145.out; subst eo108))
                      (try simp only [Act.put, List.setIfInBounds_toArray, List.set_cons_zero, List.set_cons_succ])
                      go_cut [92] (fun v92 wc => ∃ (kq : Nat) (x92_85 : Bool), v92 = .bool x92_85 ∧ Aside0 (laws_FnExactUnwatch.j2 kq t1120 x92_85 t1090 t1091 t1092 t1093 t1094 t1121 t1122 = some r) ∧ Aside0 (kq ≤ kj56) ∧ Aside0 (Kd.R (Kd.int .i64) 3 wc w.heap.size (fun k_ => some k_ ≠ ((.slice Ao25 t1073.length co25) : Value).ownBlock ∧ some k_ ≠ ((.slice Ao32 t1117.length co32) : Value).ownBlock ∧ some k_ ≠ ((.slice Ao33 t1118.length co33) : Value).ownBlock ∧ some k_ ≠ ((.slice Ao40 t1095.length co40) : Value).ownBlock ∧ some k_ ≠ ((.slice Ao41 t1098.length co41) : Value).ownBlock ∧ some k_ ≠ ((.slice Ao107 t1140.length co107) : Value).ownBlock ∧ some k_ ≠ ((.slice Ao108 t1143.length co108) : Value).ownBlock) (.slice Ao24 t1070.length co24) t1070) ∧ Aside0 (Kd.R (Kd.int .i64) 3 wc w.heap.size (fun k_ => some k_ ≠ ((.slice Ao24 t1070.length co24) : Value).ownBlock ∧ some k_ ≠ ((.slice Ao32 t1117.length co32) : Value).ownBlock ∧ some k_ ≠ ((.slice Ao33 t1118.length co33) : Value).ownBlock ∧ some k_ ≠ ((.slice Ao40 t1095.length co40) : Value).ownBlock ∧ some k_ ≠ ((.slice Ao41 t1098.length co41) : Value).ownBlock ∧ some k_ ≠ ((.slice Ao107 t1140.length co107) : Value).ownBlock ∧ some k_ ≠ ((.slice Ao108 t1143.length co108) : Value).ownBlock) (.slice Ao25 t1073.length co25) t1073) ∧ Aside0 (Kd.R (Kd.int .i64) 3 wc w.heap.size (fun k_ => some k_ ≠ ((.slice Ao24 t1070.length co24) : Value).ownBlock ∧ some k_ ≠ ((.slice Ao25 t1073.length co25) : Value).ownBlock ∧ some k_ ≠ ((.slice Ao33 t1118.length co33) : Value).ownBlock ∧ some k_ ≠ ((.slice Ao40 t1095.length co40) : Value).ownBlock ∧ some k_ ≠ ((.slice Ao41 t1098.length co41) : Value).ownBlock ∧ some k_ ≠ ((.slice Ao107 t1140.length co107) : Value).ownBlock ∧ some k_ ≠ ((.slice Ao108 t1143.length co108) : Value).ownBlock) (.slice Ao32 t1117.length co32) t1117) ∧ Aside0 (Kd.R (Kd.int .i64) 3 wc w.heap.size (fun k_ => some k_ ≠ ((.slice Ao24 t1070.length co24) : Value).ownBlock ∧ some k_ ≠ ((.slice Ao25 t1073.length co25) : Value).ownBlock ∧ some k_ ≠ ((.slice Ao32 t1117.length co32) : Value).ownBlock ∧ some k_ ≠ ((.slice Ao40 t1095.length co40) : Value).ownBlock ∧ some k_ ≠ ((.slice Ao41 t1098.length co41) : Value).ownBlock ∧ some k_ ≠ ((.slice Ao107 t1140.length co107) : Value).ownBlock ∧ some k_ ≠ ((.slice Ao108 t1143.length co108) : Value).ownBlock) (.slice Ao33 t1118.length co33) t1118) ∧ Aside0 (Kd.R (Kd.int .i64) 3 wc w.heap.size (fun k_ => some k_ ≠ ((.slice Ao24 t1070.length co24) : Value).ownBlock ∧ some k_ ≠ ((.slice Ao25 t1073.length co25) : Value).ownBlock ∧ some k_ ≠ ((.slice Ao32 t1117.length co32) : Value).ownBlock ∧ some k_ ≠ ((.slice Ao33 t1118.length co33) : Value).ownBlock ∧ some k_ ≠ ((.slice Ao41 t1098.length co41) : Value).ownBlock ∧ some k_ ≠ ((.slice Ao107 t1140.length co107) : Value).ownBlock ∧ some k_ ≠ ((.slice Ao108 t1143.length co108) : Value).ownBlock) (.slice Ao40 t1095.length co40) t1121) ∧ Aside0 (Kd.R (Kd.int .i64) 3 wc w.heap.size (fun k_ => some k_ ≠ ((.slice Ao24 t1070.length co24) : Value).ownBlock ∧ some k_ ≠ ((.slice Ao25 t1073.length co25) : Value).ownBlock ∧ some k_ ≠ ((.slice Ao32 t1117.length co32) : Value).ownBlock ∧ some k_ ≠ ((.slice Ao33 t1118.length co33) : Value).ownBlock ∧ some k_ ≠ ((.slice Ao40 t1095.length co40) : Value).ownBlock ∧ some k_ ≠ ((.slice Ao107 t1140.length co107) : Value).ownBlock ∧ some k_ ≠ ((.slice Ao108 t1143.length co108) : Value).ownBlock) (.slice Ao41 t1098.length co41) t1122) ∧ Aside0 (Kd.R (Kd.int .i64) 3 wc w.heap.size (fun k_ => some k_ ≠ ((.slice Ao24 t1070.length co24) : Value).ownBlock ∧ some k_ ≠ ((.slice Ao25 t1073.length co25) : Value).ownBlock ∧ some k_ ≠ ((.slice Ao32 t1117.length co32) : Value).ownBlock ∧ some k_ ≠ ((.slice Ao33 t1118.length co33) : Value).ownBlock ∧ some k_ ≠ ((.slice Ao40 t1095.length co40) : Value).ownBlock ∧ some k_ ≠ ((.slice Ao41 t1098.length co41) : Value).ownBlock ∧ some k_ ≠ ((.slice Ao108 t1143.length co108) : Value).ownBlock) (.slice Ao107 t1140.length co107) t1140) ∧ Aside0 (Kd.R (Kd.int .i64) 3 wc w.heap.size (fun k_ => some k_ ≠ ((.slice Ao24 t1070.length co24) : Value).ownBlock ∧ some k_ ≠ ((.slice Ao25 t1073.length co25) : Value).ownBlock ∧ some k_ ≠ ((.slice Ao32 t1117.length co32) : Value).ownBlock ∧ some k_ ≠ ((.slice Ao33 t1118.length co33) : Value).ownBlock ∧ some k_ ≠ ((.slice Ao40 t1095.length co40) : Value).ownBlock ∧ some k_ ≠ ((.slice Ao41 t1098.length co41) : Value).ownBlock ∧ some k_ ≠ ((.slice Ao107 t1140.length co107) : Value).ownBlock) (.slice Ao108 t1143.length co108) t1143) ∧ Aside0 (wc.heap[gb1052]? = some (.cells #[.int .i64 a0_0, .int .i64 a0_1, .string a0_2, .int .i64 a0_3, .bool a0_4, (.slice A0_5 l0_5.length c0_5), (.slice A0_6 l0_6.length c0_6)] 56 (0, 0))) ∧ Aside0 (wc.heap[gb1077]? = some (.cells #[.int .i64 t1065, .int .i64 t1066, .string t1067, .int .i64 t1068, .bool t1069, (.slice Ao24 t1070.length co24), (.slice Ao25 t1073.length co25)] 29 (0, 0))) ∧ Aside0 (wc.heap[gb1089]? = some (.cells #[.int .i64 t1078, .int .i64 t1079, .string t1080, .int .i64 t1081, .bool t1082, (.slice Ao32 t1117.length co32), (.slice Ao33 t1118.length co33)] 29 (0, 0))) ∧ Aside0 (wc.heap[gb1102]? = some (.cells #[.int .i64 t1090, .int .i64 t1091, .string t1092, .int .i64 t1093, .bool t1094, (.slice Ao40 t1095.length co40), (.slice Ao41 t1098.length co41)] 29 (0, 0))) ∧ Aside0 (wc.heap[gb1147]? = some (.cells #[.int .i64 t1135, .int .i64 t1136, .string t1137, .int .i64 t1138, .bool t1139, (.slice Ao107 t1140.length co107), (.slice Ao108 t1143.length co108)] 29 (0, 0))) ∧ Aside0 (Below w.heap.size w wc))
                      case first =>
                        have H := HC86.out
                        clear HC86
                        replace H := Option.bind_eq_some_iff.mp H
                        obtain ⟨t1148, A1090, H⟩ := H
                        replace H : (if t1148 = true then (laws_FnExactUnwatch.j2 kj56 t1120 (t1146 != t1076) t1090 t1091 t1092 t1093 t1094 t1121 t1122) else (laws_FnExactUnwatch.j2 kj56 t1120 true t1090 t1091 t1092 t1093 t1094 t1121 t1122)) = some r := H
                        have A109 := Aside0.mk A1090
                        clear A1090
                        by_cases c110 : t1148 = true
                        · subst c110
                          have H1 : (laws_FnExactUnwatch.j2 kj56 t1120 (t1146 != t1076) t1090 t1091 t1092 t1093 t1094 t1121 t1122) = some r := by rw [if_pos rfl] at H; exact H
                          clear H
                          have H := H1
                          clear H1
                          have H' := Aside0.mk H
                          clear H
                          have hnb111 := NB1147_1052.out
                          have hnc111 := NB1052_1147.out
                          have hnb112 := NB1147_1077.out
                          have hnc112 := NB1077_1147.out
                          have hnb113 := NB1147_1089.out
                          have hnc113 := NB1089_1147.out
                          have hnb114 := NB1147_1102.out
                          have hnc114 := NB1102_1147.out
                          have hcz115_0 : w101.cell? ⟨gb1147, 0, none⟩ = some (.int .i64 0) := (blk_cell BK1147.out 0).trans rfl
                          have hcz115_1 : w101.cell? ⟨gb1147, 1, none⟩ = some (.int .i64 0) := (blk_cell BK1147.out 1).trans rfl
                          have hcz115_2 : w101.cell? ⟨gb1147, 2, none⟩ = some (.string (⟨#[]⟩ : ByteArray)) := (blk_cell BK1147.out 2).trans rfl
                          have hcz115_3 : w101.cell? ⟨gb1147, 3, none⟩ = some (.int .i64 0) := (blk_cell BK1147.out 3).trans rfl
                          have hcz115_4 : w101.cell? ⟨gb1147, 4, none⟩ = some (.bool false) := (blk_cell BK1147.out 4).trans rfl
                          have hcz115_5 : w101.cell? ⟨gb1147, 5, none⟩ = some (.slice none 0 0) := (blk_cell BK1147.out 5).trans rfl
                          have hcz115_6 : w101.cell? ⟨gb1147, 6, none⟩ = some (.slice none 0 0) := (blk_cell BK1147.out 6).trans rfl
                          have hfz115_0 := blk_frozen BK1147.out 0
                          have hfz115_1 := blk_frozen BK1147.out 1
                          have hfz115_2 := blk_frozen BK1147.out 2
                          have hfz115_3 := blk_frozen BK1147.out 3
                          have hfz115_4 := blk_frozen BK1147.out 4
                          have hfz115_5 := blk_frozen BK1147.out 5
                          have hfz115_6 := blk_frozen BK1147.out 6
                          have hnb116 := NB1077_1052.out
                          have hnc116 := NB1052_1077.out
                          have hnb117 := NB1077_1089.out
                          have hnc117 := NB1089_1077.out
                          have hnb118 := NB1077_1102.out
                          have hnc118 := NB1102_1077.out
                          have hcz119_0 : w101.cell? ⟨gb1077, 0, none⟩ = some (.int .i64 t1065) := (blk_cell BK1077.out 0).trans rfl
                          have hcz119_1 : w101.cell? ⟨gb1077, 1, none⟩ = some (.int .i64 t1066) := (blk_cell BK1077.out 1).trans rfl
                          have hcz119_2 : w101.cell? ⟨gb1077, 2, none⟩ = some (.string t1067) := (blk_cell BK1077.out 2).trans rfl
                          have hcz119_3 : w101.cell? ⟨gb1077, 3, none⟩ = some (.int .i64 t1068) := (blk_cell BK1077.out 3).trans rfl
                          have hcz119_4 : w101.cell? ⟨gb1077, 4, none⟩ = some (.bool t1069) := (blk_cell BK1077.out 4).trans rfl
                          have hcz119_5 : w101.cell? ⟨gb1077, 5, none⟩ = some (.slice Ao24 t1070.length co24) := (blk_cell BK1077.out 5).trans rfl
                          have hcz119_6 : w101.cell? ⟨gb1077, 6, none⟩ = some (.slice Ao25 t1073.length co25) := (blk_cell BK1077.out 6).trans rfl
                          have hfz119_0 := blk_frozen BK1077.out 0
                          have hfz119_1 := blk_frozen BK1077.out 1
                          have hfz119_2 := blk_frozen BK1077.out 2
                          have hfz119_3 := blk_frozen BK1077.out 3
                          have hfz119_4 := blk_frozen BK1077.out 4
                          have hfz119_5 := blk_frozen BK1077.out 5
                          have hfz119_6 := blk_frozen BK1077.out 6
                          go_wp2_with (first | ((with_reducible refine gate_callee (f := 34) rfl ?_); refine goesL_ (some 86) rfl rfl Try.func34 (by kernel_rfl) rfl #[.agg #[.int .i64 t1135, .int .i64 t1136, .string t1137, .int .i64 t1138, .bool t1139, .slice Ao107 t1140.length co107, .slice Ao108 t1143.length co108], .agg #[.int .i64 t1065, .int .i64 t1066, .string t1067, .int .i64 t1068, .bool t1069, .slice Ao24 t1070.length co24, .slice Ao25 t1073.length co25]] rfl (by (try simp only [List.map_toArray, List.map_cons, List.map_nil]); first | done | rfl | (simp only [List.length_drop, List.length_take]; rfl) | (go_simp; done) | (simp [*]; done)) ?_; (with_reducible refine (laws_eqCell.calls kj56 t1135 t1136 t1137 t1138 t1139 _ _ t1140 _ _ t1143 t1065 t1066 t1067 t1068 t1069 _ _ t1070 _ _ t1073 true _ ?side1 ?side2 ?side3 ?side4 ?side5 ?side6 ?side7 ?side8 A109.out).mono ?_); (case side1 => refine (Kd.R_reads' (e := 3) (base := w.heap.size) (ok := fun k_ => ((((((((some k_ ≠ (.slice Ao108 t1143.length co108 : Value).ownBlock ∧ some k_ ≠ (.slice Ao24 t1070.length co24 : Value).ownBlock) ∧ some k_ ≠ (.slice Ao25 t1073.length co25 : Value).ownBlock) ∧ some k_ ≠ (.slice Ao32 t1117.length co32 : Value).ownBlock) ∧ some k_ ≠ (.slice Ao33 t1118.length co33 : Value).ownBlock) ∧ some k_ ≠ (.slice Ao40 t1095.length co40 : Value).ownBlock) ∧ some k_ ≠ (.slice Ao41 t1098.length co41 : Value).ownBlock) ∧ some k_ ≠ (.slice Ao98 t1129.length co98 : Value).ownBlock) ∧ some k_ ≠ (.slice Ao99 t1132.length co99 : Value).ownBlock)) (n := t1140.length) (c := co107) ?_).2.2; exact (by (with_reducible repeat (first | apply Kd.R_alloc | apply Kd.R_drewN | apply Kd.R_drew)); exact (Kd.R_mono (Kd.R_far (p := ⟨gb1147, 6, none⟩) (Kd.R_far (p := ⟨gb1147, 5, none⟩) (Kd.R_far (p := ⟨gb1147, 4, none⟩) (Kd.R_far (p := ⟨gb1147, 3, none⟩) (Kd.R_far (p := ⟨gb1147, 2, none⟩) (Kd.R_far (p := ⟨gb1147, 1, none⟩) (Kd.R_far (p := ⟨gb1147, 0, none⟩) (Kd.R_types HO1142.out BK1147.out (by decide)) (fun _ hk => hk.2) (.int .i64 t1135)) (fun _ hk => hk.2) (.int .i64 t1136)) (fun _ hk => hk.2) (.string t1137)) (fun _ hk => hk.2) (.int .i64 t1138)) (fun _ hk => hk.2) (.bool t1139)) (fun _ hk => hk.2) (.slice Ao107 t1140.length co107)) (fun _ hk => hk.2) (.slice Ao108 t1143.length co108)) (fun _ h_ => h_.1)))); (case side2 => exact (Kd.R_reads' HO1142.out).2.1); (case side3 => refine (Kd.R_reads' (e := 3) (base := w.heap.size) (ok := fun k_ => ((((((((some k_ ≠ (.slice Ao107 t1140.length co107 : Value).ownBlock ∧ some k_ ≠ (.slice Ao24 t1070.length co24 : Value).ownBlock) ∧ some k_ ≠ (.slice Ao25 t1073.length co25 : Value).ownBlock) ∧ some k_ ≠ (.slice Ao32 t1117.length co32 : Value).ownBlock) ∧ some k_ ≠ (.slice Ao33 t1118.length co33 : Value).ownBlock) ∧ some k_ ≠ (.slice Ao40 t1095.length co40 : Value).ownBlock) ∧ some k_ ≠ (.slice Ao41 t1098.length co41 : Value).ownBlock) ∧ some k_ ≠ (.slice Ao98 t1129.length co98 : Value).ownBlock) ∧ some k_ ≠ (.slice Ao99 t1132.length co99 : Value).ownBlock)) (n := t1143.length) (c := co108) ?_).2.2; exact (by (with_reducible repeat (first | apply Kd.R_alloc | apply Kd.R_drewN | apply Kd.R_drew)); exact (Kd.R_mono (Kd.R_far (p := ⟨gb1147, 6, none⟩) (Kd.R_far (p := ⟨gb1147, 5, none⟩) (Kd.R_far (p := ⟨gb1147, 4, none⟩) (Kd.R_far (p := ⟨gb1147, 3, none⟩) (Kd.R_far (p := ⟨gb1147, 2, none⟩) (Kd.R_far (p := ⟨gb1147, 1, none⟩) (Kd.R_far (p := ⟨gb1147, 0, none⟩) (Kd.R_types HO1145.out BK1147.out (by decide)) (fun _ hk => hk.2) (.int .i64 t1135)) (fun _ hk => hk.2) (.int .i64 t1136)) (fun _ hk => hk.2) (.string t1137)) (fun _ hk => hk.2) (.int .i64 t1138)) (fun _ hk => hk.2) (.bool t1139)) (fun _ hk => hk.2) (.slice Ao107 t1140.length co107)) (fun _ hk => hk.2) (.slice Ao108 t1143.length co108)) (fun _ h_ => h_.1)))); (case side4 => exact (Kd.R_reads' HO1145.out).2.1); (case side5 => refine (Kd.R_reads' (e := 3) (base := w.heap.size) (ok := fun k_ => (((((some k_ ≠ (.slice Ao25 t1073.length co25 : Value).ownBlock ∧ (some k_ ≠ (.slice Ao32 t1117.length co32 : Value).ownBlock ∧ (some k_ ≠ (.slice Ao33 t1118.length co33 : Value).ownBlock ∧ (some k_ ≠ (.slice Ao40 t1095.length co40 : Value).ownBlock ∧ some k_ ≠ (.slice Ao41 t1098.length co41 : Value).ownBlock)))) ∧ some k_ ≠ (.slice Ao98 t1129.length co98 : Value).ownBlock) ∧ some k_ ≠ (.slice Ao99 t1132.length co99 : Value).ownBlock) ∧ some k_ ≠ (.slice Ao107 t1140.length co107 : Value).ownBlock) ∧ some k_ ≠ (.slice Ao108 t1143.length co108 : Value).ownBlock)) (n := t1070.length) (c := co24) ?_).2.2; exact (by (with_reducible repeat (first | apply Kd.R_alloc | apply Kd.R_drewN | apply Kd.R_drew)); exact (Kd.R_mono (Kd.R_far (p := ⟨gb1147, 6, none⟩) (Kd.R_far (p := ⟨gb1147, 5, none⟩) (Kd.R_far (p := ⟨gb1147, 4, none⟩) (Kd.R_far (p := ⟨gb1147, 3, none⟩) (Kd.R_far (p := ⟨gb1147, 2, none⟩) (Kd.R_far (p := ⟨gb1147, 1, none⟩) (Kd.R_far (p := ⟨gb1147, 0, none⟩) (Kd.R_types HO_1078005.out BK1147.out (by decide)) (fun _ hk => hk.2) (.int .i64 t1135)) (fun _ hk => hk.2) (.int .i64 t1136)) (fun _ hk => hk.2) (.string t1137)) (fun _ hk => hk.2) (.int .i64 t1138)) (fun _ hk => hk.2) (.bool t1139)) (fun _ hk => hk.2) (.slice Ao107 t1140.length co107)) (fun _ hk => hk.2) (.slice Ao108 t1143.length co108)) (fun _ h_ => h_.1)))); (case side6 => exact (Kd.R_reads' HO_1078005.out).2.1); (case side7 => refine (Kd.R_reads' (e := 3) (base := w.heap.size) (ok := fun k_ => (((((some k_ ≠ (.slice Ao24 t1070.length co24 : Value).ownBlock ∧ (some k_ ≠ (.slice Ao32 t1117.length co32 : Value).ownBlock ∧ (some k_ ≠ (.slice Ao33 t1118.length co33 : Value).ownBlock ∧ (some k_ ≠ (.slice Ao40 t1095.length co40 : Value).ownBlock ∧ some k_ ≠ (.slice Ao41 t1098.length co41 : Value).ownBlock)))) ∧ some k_ ≠ (.slice Ao98 t1129.length co98 : Value).ownBlock) ∧ some k_ ≠ (.slice Ao99 t1132.length co99 : Value).ownBlock) ∧ some k_ ≠ (.slice Ao107 t1140.length co107 : Value).ownBlock) ∧ some k_ ≠ (.slice Ao108 t1143.length co108 : Value).ownBlock)) (n := t1073.length) (c := co25) ?_).2.2; exact (by (with_reducible repeat (first | apply Kd.R_alloc | apply Kd.R_drewN | apply Kd.R_drew)); exact (Kd.R_mono (Kd.R_far (p := ⟨gb1147, 6, none⟩) (Kd.R_far (p := ⟨gb1147, 5, none⟩) (Kd.R_far (p := ⟨gb1147, 4, none⟩) (Kd.R_far (p := ⟨gb1147, 3, none⟩) (Kd.R_far (p := ⟨gb1147, 2, none⟩) (Kd.R_far (p := ⟨gb1147, 1, none⟩) (Kd.R_far (p := ⟨gb1147, 0, none⟩) (Kd.R_types HO_1078006.out BK1147.out (by decide)) (fun _ hk => hk.2) (.int .i64 t1135)) (fun _ hk => hk.2) (.int .i64 t1136)) (fun _ hk => hk.2) (.string t1137)) (fun _ hk => hk.2) (.int .i64 t1138)) (fun _ hk => hk.2) (.bool t1139)) (fun _ hk => hk.2) (.slice Ao107 t1140.length co107)) (fun _ hk => hk.2) (.slice Ao108 t1143.length co108)) (fun _ h_ => h_.1)))); (case side8 => exact (Kd.R_reads' HO_1078006.out).2.1); rintro e w120 ⟨rfl, hb⟩; refine ⟨_, rfl, ?_⟩; have n0_ := Aside0.mk (Kd.R_below (by (with_reducible repeat (first | apply Kd.R_alloc | apply Kd.R_drewN | apply Kd.R_drew)); exact (Kd.R_mono (Kd.R_far (p := ⟨gb1147, 6, none⟩) (Kd.R_far (p := ⟨gb1147, 5, none⟩) (Kd.R_far (p := ⟨gb1147, 4, none⟩) (Kd.R_far (p := ⟨gb1147, 3, none⟩) (Kd.R_far (p := ⟨gb1147, 2, none⟩) (Kd.R_far (p := ⟨gb1147, 1, none⟩) (Kd.R_far (p := ⟨gb1147, 0, none⟩) (Kd.R_types HO_1078005.out BK1147.out (by decide)) (fun _ hk => hk.2) (.int .i64 t1135)) (fun _ hk => hk.2) (.int .i64 t1136)) (fun _ hk => hk.2) (.string t1137)) (fun _ hk => hk.2) (.int .i64 t1138)) (fun _ hk => hk.2) (.bool t1139)) (fun _ hk => hk.2) (.slice Ao107 t1140.length co107)) (fun _ hk => hk.2) (.slice Ao108 t1143.length co108)) (fun _ h_ => h_.1))) hb); have n1_ := Aside0.mk (Kd.R_below (by (with_reducible repeat (first | apply Kd.R_alloc | apply Kd.R_drewN | apply Kd.R_drew)); exact (Kd.R_mono (Kd.R_far (p := ⟨gb1147, 6, none⟩) (Kd.R_far (p := ⟨gb1147, 5, none⟩) (Kd.R_far (p := ⟨gb1147, 4, none⟩) (Kd.R_far (p := ⟨gb1147, 3, none⟩) (Kd.R_far (p := ⟨gb1147, 2, none⟩) (Kd.R_far (p := ⟨gb1147, 1, none⟩) (Kd.R_far (p := ⟨gb1147, 0, none⟩) (Kd.R_types HO_1078006.out BK1147.out (by decide)) (fun _ hk => hk.2) (.int .i64 t1135)) (fun _ hk => hk.2) (.int .i64 t1136)) (fun _ hk => hk.2) (.string t1137)) (fun _ hk => hk.2) (.int .i64 t1138)) (fun _ hk => hk.2) (.bool t1139)) (fun _ hk => hk.2) (.slice Ao107 t1140.length co107)) (fun _ hk => hk.2) (.slice Ao108 t1143.length co108)) (fun _ h_ => h_.1))) hb); have n2_ := Aside0.mk (Kd.R_below (by (with_reducible repeat (first | apply Kd.R_alloc | apply Kd.R_drewN | apply Kd.R_drew)); exact (Kd.R_mono (Kd.R_far (p := ⟨gb1147, 6, none⟩) (Kd.R_far (p := ⟨gb1147, 5, none⟩) (Kd.R_far (p := ⟨gb1147, 4, none⟩) (Kd.R_far (p := ⟨gb1147, 3, none⟩) (Kd.R_far (p := ⟨gb1147, 2, none⟩) (Kd.R_far (p := ⟨gb1147, 1, none⟩) (Kd.R_far (p := ⟨gb1147, 0, none⟩) (Kd.R_types HO_1090005.out BK1147.out (by decide)) (fun _ hk => hk.2) (.int .i64 t1135)) (fun _ hk => hk.2) (.int .i64 t1136)) (fun _ hk => hk.2) (.string t1137)) (fun _ hk => hk.2) (.int .i64 t1138)) (fun _ hk => hk.2) (.bool t1139)) (fun _ hk => hk.2) (.slice Ao107 t1140.length co107)) (fun _ hk => hk.2) (.slice Ao108 t1143.length co108)) (fun _ h_ => h_.1))) hb); have n3_ := Aside0.mk (Kd.R_below (by (with_reducible repeat (first | apply Kd.R_alloc | apply Kd.R_drewN | apply Kd.R_drew)); exact (Kd.R_mono (Kd.R_far (p := ⟨gb1147, 6, none⟩) (Kd.R_far (p := ⟨gb1147, 5, none⟩) (Kd.R_far (p := ⟨gb1147, 4, none⟩) (Kd.R_far (p := ⟨gb1147, 3, none⟩) (Kd.R_far (p := ⟨gb1147, 2, none⟩) (Kd.R_far (p := ⟨gb1147, 1, none⟩) (Kd.R_far (p := ⟨gb1147, 0, none⟩) (Kd.R_types HO_1090006.out BK1147.out (by decide)) (fun _ hk => hk.2) (.int .i64 t1135)) (fun _ hk => hk.2) (.int .i64 t1136)) (fun _ hk => hk.2) (.string t1137)) (fun _ hk => hk.2) (.int .i64 t1138)) (fun _ hk => hk.2) (.bool t1139)) (fun _ hk => hk.2) (.slice Ao107 t1140.length co107)) (fun _ hk => hk.2) (.slice Ao108 t1143.length co108)) (fun _ h_ => h_.1))) hb); have n4_ := Aside0.mk (Kd.R_below (by (with_reducible repeat (first | apply Kd.R_alloc | apply Kd.R_drewN | apply Kd.R_drew)); exact (Kd.R_mono (Kd.R_far (p := ⟨gb1147, 6, none⟩) (Kd.R_far (p := ⟨gb1147, 5, none⟩) (Kd.R_far (p := ⟨gb1147, 4, none⟩) (Kd.R_far (p := ⟨gb1147, 3, none⟩) (Kd.R_far (p := ⟨gb1147, 2, none⟩) (Kd.R_far (p := ⟨gb1147, 1, none⟩) (Kd.R_far (p := ⟨gb1147, 0, none⟩) (Kd.R_types HO_1103005.out BK1147.out (by decide)) (fun _ hk => hk.2) (.int .i64 t1135)) (fun _ hk => hk.2) (.int .i64 t1136)) (fun _ hk => hk.2) (.string t1137)) (fun _ hk => hk.2) (.int .i64 t1138)) (fun _ hk => hk.2) (.bool t1139)) (fun _ hk => hk.2) (.slice Ao107 t1140.length co107)) (fun _ hk => hk.2) (.slice Ao108 t1143.length co108)) (fun _ h_ => h_.1))) hb); have n5_ := Aside0.mk (Kd.R_below (by (with_reducible repeat (first | apply Kd.R_alloc | apply Kd.R_drewN | apply Kd.R_drew)); exact (Kd.R_mono (Kd.R_far (p := ⟨gb1147, 6, none⟩) (Kd.R_far (p := ⟨gb1147, 5, none⟩) (Kd.R_far (p := ⟨gb1147, 4, none⟩) (Kd.R_far (p := ⟨gb1147, 3, none⟩) (Kd.R_far (p := ⟨gb1147, 2, none⟩) (Kd.R_far (p := ⟨gb1147, 1, none⟩) (Kd.R_far (p := ⟨gb1147, 0, none⟩) (Kd.R_types HO_1103006.out BK1147.out (by decide)) (fun _ hk => hk.2) (.int .i64 t1135)) (fun _ hk => hk.2) (.int .i64 t1136)) (fun _ hk => hk.2) (.string t1137)) (fun _ hk => hk.2) (.int .i64 t1138)) (fun _ hk => hk.2) (.bool t1139)) (fun _ hk => hk.2) (.slice Ao107 t1140.length co107)) (fun _ hk => hk.2) (.slice Ao108 t1143.length co108)) (fun _ h_ => h_.1))) hb); have n6_ := Aside0.mk (Kd.R_below (by (with_reducible repeat (first | apply Kd.R_alloc | apply Kd.R_drewN | apply Kd.R_drew)); exact (Kd.R_mono (Kd.R_far (p := ⟨gb1147, 6, none⟩) (Kd.R_far (p := ⟨gb1147, 5, none⟩) (Kd.R_far (p := ⟨gb1147, 4, none⟩) (Kd.R_far (p := ⟨gb1147, 3, none⟩) (Kd.R_far (p := ⟨gb1147, 2, none⟩) (Kd.R_far (p := ⟨gb1147, 1, none⟩) (Kd.R_far (p := ⟨gb1147, 0, none⟩) (Kd.R_types HO1131.out BK1147.out (by decide)) (fun _ hk => hk.2) (.int .i64 t1135)) (fun _ hk => hk.2) (.int .i64 t1136)) (fun _ hk => hk.2) (.string t1137)) (fun _ hk => hk.2) (.int .i64 t1138)) (fun _ hk => hk.2) (.bool t1139)) (fun _ hk => hk.2) (.slice Ao107 t1140.length co107)) (fun _ hk => hk.2) (.slice Ao108 t1143.length co108)) (fun _ h_ => h_.1))) hb); have n7_ := Aside0.mk (Kd.R_below (by (with_reducible repeat (first | apply Kd.R_alloc | apply Kd.R_drewN | apply Kd.R_drew)); exact (Kd.R_mono (Kd.R_far (p := ⟨gb1147, 6, none⟩) (Kd.R_far (p := ⟨gb1147, 5, none⟩) (Kd.R_far (p := ⟨gb1147, 4, none⟩) (Kd.R_far (p := ⟨gb1147, 3, none⟩) (Kd.R_far (p := ⟨gb1147, 2, none⟩) (Kd.R_far (p := ⟨gb1147, 1, none⟩) (Kd.R_far (p := ⟨gb1147, 0, none⟩) (Kd.R_types HO1134.out BK1147.out (by decide)) (fun _ hk => hk.2) (.int .i64 t1135)) (fun _ hk => hk.2) (.int .i64 t1136)) (fun _ hk => hk.2) (.string t1137)) (fun _ hk => hk.2) (.int .i64 t1138)) (fun _ hk => hk.2) (.bool t1139)) (fun _ hk => hk.2) (.slice Ao107 t1140.length co107)) (fun _ hk => hk.2) (.slice Ao108 t1143.length co108)) (fun _ h_ => h_.1))) hb); have n8_ := Aside0.mk (Kd.R_below (by (with_reducible repeat (first | apply Kd.R_alloc | apply Kd.R_drewN | apply Kd.R_drew)); exact (Kd.R_mono (Kd.R_far (p := ⟨gb1147, 6, none⟩) (Kd.R_far (p := ⟨gb1147, 5, none⟩) (Kd.R_far (p := ⟨gb1147, 4, none⟩) (Kd.R_far (p := ⟨gb1147, 3, none⟩) (Kd.R_far (p := ⟨gb1147, 2, none⟩) (Kd.R_far (p := ⟨gb1147, 1, none⟩) (Kd.R_far (p := ⟨gb1147, 0, none⟩) (Kd.R_types HO1142.out BK1147.out (by decide)) (fun _ hk => hk.2) (.int .i64 t1135)) (fun _ hk => hk.2) (.int .i64 t1136)) (fun _ hk => hk.2) (.string t1137)) (fun _ hk => hk.2) (.int .i64 t1138)) (fun _ hk => hk.2) (.bool t1139)) (fun _ hk => hk.2) (.slice Ao107 t1140.length co107)) (fun _ hk => hk.2) (.slice Ao108 t1143.length co108)) (fun _ h_ => h_.1))) hb); have n9_ := Aside0.mk (Kd.R_below (by (with_reducible repeat (first | apply Kd.R_alloc | apply Kd.R_drewN | apply Kd.R_drew)); exact (Kd.R_mono (Kd.R_far (p := ⟨gb1147, 6, none⟩) (Kd.R_far (p := ⟨gb1147, 5, none⟩) (Kd.R_far (p := ⟨gb1147, 4, none⟩) (Kd.R_far (p := ⟨gb1147, 3, none⟩) (Kd.R_far (p := ⟨gb1147, 2, none⟩) (Kd.R_far (p := ⟨gb1147, 1, none⟩) (Kd.R_far (p := ⟨gb1147, 0, none⟩) (Kd.R_types HO1145.out BK1147.out (by decide)) (fun _ hk => hk.2) (.int .i64 t1135)) (fun _ hk => hk.2) (.int .i64 t1136)) (fun _ hk => hk.2) (.string t1137)) (fun _ hk => hk.2) (.int .i64 t1138)) (fun _ hk => hk.2) (.bool t1139)) (fun _ hk => hk.2) (.slice Ao107 t1140.length co107)) (fun _ hk => hk.2) (.slice Ao108 t1143.length co108)) (fun _ h_ => h_.1))) hb); have n10_ := Aside0.mk (blk_below (g := gb1052) (o := .cells #[.int .i64 a0_0, .int .i64 a0_1, .string a0_2, .int .i64 a0_3, .bool a0_4, .slice A0_5 l0_5.length c0_5, .slice A0_6 l0_6.length c0_6] 56 (0, 0)) (by (with_reducible repeat (first | refine blk_drewN ?_ _ | refine blk_drew ?_ | refine blk_alloc ?_ _)); refine blk_far ?_ NB1052_1147.out _; (with_reducible repeat (first | refine blk_drewN ?_ _ | refine blk_drew ?_ | refine blk_alloc ?_ _)); refine blk_far ?_ NB1052_1147.out _; (with_reducible repeat (first | refine blk_drewN ?_ _ | refine blk_drew ?_ | refine blk_alloc ?_ _)); refine blk_far ?_ NB1052_1147.out _; (with_reducible repeat (first | refine blk_drewN ?_ _ | refine blk_drew ?_ | refine blk_alloc ?_ _)); refine blk_far ?_ NB1052_1147.out _; (with_reducible repeat (first | refine blk_drewN ?_ _ | refine blk_drew ?_ | refine blk_alloc ?_ _)); refine blk_far ?_ NB1052_1147.out _; (with_reducible repeat (first | refine blk_drewN ?_ _ | refine blk_drew ?_ | refine blk_alloc ?_ _)); refine blk_far ?_ NB1052_1147.out _; (with_reducible repeat (first | refine blk_drewN ?_ _ | refine blk_drew ?_ | refine blk_alloc ?_ _)); refine blk_far ?_ NB1052_1147.out _; (with_reducible repeat (first | refine blk_drewN ?_ _ | refine blk_drew ?_ | refine blk_alloc ?_ _)); exact BK1052.out) hb); have n11_ := Aside0.mk (blk_below (g := gb1077) (o := .cells #[.int .i64 t1065, .int .i64 t1066, .string t1067, .int .i64 t1068, .bool t1069, .slice Ao24 t1070.length co24, .slice Ao25 t1073.length co25] 29 (0, 0)) (by (with_reducible repeat (first | refine blk_drewN ?_ _ | refine blk_drew ?_ | refine blk_alloc ?_ _)); refine blk_far ?_ NB1077_1147.out _; (with_reducible repeat (first | refine blk_drewN ?_ _ | refine blk_drew ?_ | refine blk_alloc ?_ _)); refine blk_far ?_ NB1077_1147.out _; (with_reducible repeat (first | refine blk_drewN ?_ _ | refine blk_drew ?_ | refine blk_alloc ?_ _)); refine blk_far ?_ NB1077_1147.out _; (with_reducible repeat (first | refine blk_drewN ?_ _ | refine blk_drew ?_ | refine blk_alloc ?_ _)); refine blk_far ?_ NB1077_1147.out _; (with_reducible repeat (first | refine blk_drewN ?_ _ | refine blk_drew ?_ | refine blk_alloc ?_ _)); refine blk_far ?_ NB1077_1147.out _; (with_reducible repeat (first | refine blk_drewN ?_ _ | refine blk_drew ?_ | refine blk_alloc ?_ _)); refine blk_far ?_ NB1077_1147.out _; (with_reducible repeat (first | refine blk_drewN ?_ _ | refine blk_drew ?_ | refine blk_alloc ?_ _)); refine blk_far ?_ NB1077_1147.out _; (with_reducible repeat (first | refine blk_drewN ?_ _ | refine blk_drew ?_ | refine blk_alloc ?_ _)); exact BK1077.out) hb); have n12_ := Aside0.mk (blk_below (g := gb1089) (o := .cells #[.int .i64 t1078, .int .i64 t1079, .string t1080, .int .i64 t1081, .bool t1082, .slice Ao32 t1117.length co32, .slice Ao33 t1118.length co33] 29 (0, 0)) (by (with_reducible repeat (first | refine blk_drewN ?_ _ | refine blk_drew ?_ | refine blk_alloc ?_ _)); refine blk_far ?_ NB1089_1147.out _; (with_reducible repeat (first | refine blk_drewN ?_ _ | refine blk_drew ?_ | refine blk_alloc ?_ _)); refine blk_far ?_ NB1089_1147.out _; (with_reducible repeat (first | refine blk_drewN ?_ _ | refine blk_drew ?_ | refine blk_alloc ?_ _)); refine blk_far ?_ NB1089_1147.out _; (with_reducible repeat (first | refine blk_drewN ?_ _ | refine blk_drew ?_ | refine blk_alloc ?_ _)); refine blk_far ?_ NB1089_1147.out _; (with_reducible repeat (first | refine blk_drewN ?_ _ | refine blk_drew ?_ | refine blk_alloc ?_ _)); refine blk_far ?_ NB1089_1147.out _; (with_reducible repeat (first | refine blk_drewN ?_ _ | refine blk_drew ?_ | refine blk_alloc ?_ _)); refine blk_far ?_ NB1089_1147.out _; (with_reducible repeat (first | refine blk_drewN ?_ _ | refine blk_drew ?_ | refine blk_alloc ?_ _)); refine blk_far ?_ NB1089_1147.out _; (with_reducible repeat (first | refine blk_drewN ?_ _ | refine blk_drew ?_ | refine blk_alloc ?_ _)); exact BK1089.out) hb); have n13_ := Aside0.mk (blk_below (g := gb1102) (o := .cells #[.int .i64 t1090, .int .i64 t1091, .string t1092, .int .i64 t1093, .bool t1094, .slice Ao40 t1095.length co40, .slice Ao41 t1098.length co41] 29 (0, 0)) (by (with_reducible repeat (first | refine blk_drewN ?_ _ | refine blk_drew ?_ | refine blk_alloc ?_ _)); refine blk_far ?_ NB1102_1147.out _; (with_reducible repeat (first | refine blk_drewN ?_ _ | refine blk_drew ?_ | refine blk_alloc ?_ _)); refine blk_far ?_ NB1102_1147.out _; (with_reducible repeat (first | refine blk_drewN ?_ _ | refine blk_drew ?_ | refine blk_alloc ?_ _)); refine blk_far ?_ NB1102_1147.out _; (with_reducible repeat (first | refine blk_drewN ?_ _ | refine blk_drew ?_ | refine blk_alloc ?_ _)); refine blk_far ?_ NB1102_1147.out _; (with_reducible repeat (first | refine blk_drewN ?_ _ | refine blk_drew ?_ | refine blk_alloc ?_ _)); refine blk_far ?_ NB1102_1147.out _; (with_reducible repeat (first | refine blk_drewN ?_ _ | refine blk_drew ?_ | refine blk_alloc ?_ _)); refine blk_far ?_ NB1102_1147.out _; (with_reducible repeat (first | refine blk_drewN ?_ _ | refine blk_drew ?_ | refine blk_alloc ?_ _)); refine blk_far ?_ NB1102_1147.out _; (with_reducible repeat (first | refine blk_drewN ?_ _ | refine blk_drew ?_ | refine blk_alloc ?_ _)); exact BK1102.out) hb); have n14_ := Aside0.mk (blk_below (g := gb1147) (o := .cells #[.int .i64 t1135, .int .i64 t1136, .string t1137, .int .i64 t1138, .bool t1139, .slice Ao107 t1140.length co107, .slice Ao108 t1143.length co108] 29 (0, 0)) (by (with_reducible repeat (first | refine blk_drewN ?_ _ | refine blk_drew ?_ | refine blk_alloc ?_ _)); refine blk_put (cs := #[.int .i64 t1135, .int .i64 t1136, .string t1137, .int .i64 t1138, .bool t1139, .slice Ao107 t1140.length co107, .slice none 0 0]) ?_ 6 _ rfl; (with_reducible repeat (first | refine blk_drewN ?_ _ | refine blk_drew ?_ | refine blk_alloc ?_ _)); refine blk_put (cs := #[.int .i64 t1135, .int .i64 t1136, .string t1137, .int .i64 t1138, .bool t1139, .slice none 0 0, .slice none 0 0]) ?_ 5 _ rfl; (with_reducible repeat (first | refine blk_drewN ?_ _ | refine blk_drew ?_ | refine blk_alloc ?_ _)); refine blk_put (cs := #[.int .i64 t1135, .int .i64 t1136, .string t1137, .int .i64 t1138, .bool false, .slice none 0 0, .slice none 0 0]) ?_ 4 _ rfl; (with_reducible repeat (first | refine blk_drewN ?_ _ | refine blk_drew ?_ | refine blk_alloc ?_ _)); refine blk_put (cs := #[.int .i64 t1135, .int .i64 t1136, .string t1137, .int .i64 0, .bool false, .slice none 0 0, .slice none 0 0]) ?_ 3 _ rfl; (with_reducible repeat (first | refine blk_drewN ?_ _ | refine blk_drew ?_ | refine blk_alloc ?_ _)); refine blk_put (cs := #[.int .i64 t1135, .int .i64 t1136, .string (⟨#[]⟩ : ByteArray), .int .i64 0, .bool false, .slice none 0 0, .slice none 0 0]) ?_ 2 _ rfl; (with_reducible repeat (first | refine blk_drewN ?_ _ | refine blk_drew ?_ | refine blk_alloc ?_ _)); refine blk_put (cs := #[.int .i64 t1135, .int .i64 0, .string (⟨#[]⟩ : ByteArray), .int .i64 0, .bool false, .slice none 0 0, .slice none 0 0]) ?_ 1 _ rfl; (with_reducible repeat (first | refine blk_drewN ?_ _ | refine blk_drew ?_ | refine blk_alloc ?_ _)); refine blk_put (cs := #[.int .i64 0, .int .i64 0, .string (⟨#[]⟩ : ByteArray), .int .i64 0, .bool false, .slice none 0 0, .slice none 0 0]) ?_ 0 _ rfl; (with_reducible repeat (first | refine blk_drewN ?_ _ | refine blk_drew ?_ | refine blk_alloc ?_ _)); exact BK1147.out) hb); have n15_ := Aside0.mk (below_step (by repeat (first | (with_reducible first | exact HB.out | apply below_alloc | apply pw_below_drewN | apply below_drew1 | refine below_set ?_ GE1052.out | refine below_set ?_ GE1077.out | refine below_set ?_ GE1089.out | refine below_set ?_ GE1102.out | refine below_set ?_ GE1147.out) | exact HB.out)) hb); clear HO_1078005 HO_1078006 HO_1090005 HO_1090006 HO_1103005 HO_1103006 HO1131 HO1134 HO1142 HO1145 BK1052 BK1077 BK1089 BK1102 BK1147 HB; have HO_1078005 := n0_; have HO_1078006 := n1_; have HO_1090005 := n2_; have HO_1090006 := n3_; have HO_1103005 := n4_; have HO_1103006 := n5_; have HO1131 := n6_; have HO1134 := n7_; have HO1142 := n8_; have HO1145 := n9_; have BK1052 := n10_; have BK1077 := n11_; have BK1089 := n12_; have BK1102 := n13_; have BK1147 := n14_; have HB := n15_; clear n0_ n1_ n2_ n3_ n4_ n5_ n6_ n7_ n8_ n9_ n10_ n11_ n12_ n13_ n14_ n15_; (try clear hb); (try clear hb2); (try clear hk); (try clear hi)))
                          go_meet
                          case rel => exact ⟨_, ((t1146 != t1076)), (by first | rfl | (simp; done) | (simp [*]; done)), H', ⟨by have := HJ11.out; have := HJ56.out; first | omega | exact Nat.le_refl _⟩, ⟨by (try simp only [hl1090005_56]); (try simp only [hl1090006_56]); (with_reducible repeat (first | apply Kd.R_alloc | apply Kd.R_drewN | apply Kd.R_drew)); exact Kd.R_mono HO_1078005.out (fun _ hk => ⟨hk.1.1.1.1.1, ⟨hk.1.1.1.1.2.1, ⟨hk.1.1.1.1.2.2.1, ⟨hk.1.1.1.1.2.2.2.1, ⟨hk.1.1.1.1.2.2.2.2, ⟨hk.1.2, hk.2⟩⟩⟩⟩⟩⟩)⟩, ⟨by (try simp only [hl1090005_56]); (try simp only [hl1090006_56]); (with_reducible repeat (first | apply Kd.R_alloc | apply Kd.R_drewN | apply Kd.R_drew)); exact Kd.R_mono HO_1078006.out (fun _ hk => ⟨hk.1.1.1.1.1, ⟨hk.1.1.1.1.2.1, ⟨hk.1.1.1.1.2.2.1, ⟨hk.1.1.1.1.2.2.2.1, ⟨hk.1.1.1.1.2.2.2.2, ⟨hk.1.2, hk.2⟩⟩⟩⟩⟩⟩)⟩, ⟨by (try simp only [hl1090005_56]); (try simp only [hl1090006_56]); (with_reducible repeat (first | apply Kd.R_alloc | apply Kd.R_drewN | apply Kd.R_drew)); exact Kd.R_mono HO_1090005.out (fun _ hk => ⟨hk.1.1.1.1.1, ⟨hk.1.1.1.1.2.1, ⟨hk.1.1.1.1.2.2.1, ⟨hk.1.1.1.1.2.2.2.1, ⟨hk.1.1.1.1.2.2.2.2, ⟨hk.1.2, hk.2⟩⟩⟩⟩⟩⟩)⟩, ⟨by (try simp only [hl1090005_56]); (try simp only [hl1090006_56]); (with_reducible repeat (first | apply Kd.R_alloc | apply Kd.R_drewN | apply Kd.R_drew)); exact Kd.R_mono HO_1090006.out (fun _ hk => ⟨hk.1.1.1.1.1, ⟨hk.1.1.1.1.2.1, ⟨hk.1.1.1.1.2.2.1, ⟨hk.1.1.1.1.2.2.2.1, ⟨hk.1.1.1.1.2.2.2.2, ⟨hk.1.2, hk.2⟩⟩⟩⟩⟩⟩)⟩, ⟨by (try simp only [hl1090005_56]); (try simp only [hl1090006_56]); (with_reducible repeat (first | apply Kd.R_alloc | apply Kd.R_drewN | apply Kd.R_drew)); exact Kd.R_mono HO_1103005.out (fun _ hk => ⟨hk.1.1.1.1.1, ⟨hk.1.1.1.1.2.1, ⟨hk.1.1.1.1.2.2.1, ⟨hk.1.1.1.1.2.2.2.1, ⟨hk.1.1.1.1.2.2.2.2, ⟨hk.1.2, hk.2⟩⟩⟩⟩⟩⟩)⟩, ⟨by (try simp only [hl1090005_56]); (try simp only [hl1090006_56]); (with_reducible repeat (first | apply Kd.R_alloc | apply Kd.R_drewN | apply Kd.R_drew)); exact Kd.R_mono HO_1103006.out (fun _ hk => ⟨hk.1.1.1.1.1, ⟨hk.1.1.1.1.2.1, ⟨hk.1.1.1.1.2.2.1, ⟨hk.1.1.1.1.2.2.2.1, ⟨hk.1.1.1.1.2.2.2.2, ⟨hk.1.2, hk.2⟩⟩⟩⟩⟩⟩)⟩, ⟨by (try simp only [hl1090005_56]); (try simp only [hl1090006_56]); (with_reducible repeat (first | apply Kd.R_alloc | apply Kd.R_drewN | apply Kd.R_drew)); exact Kd.R_mono HO1142.out (fun _ hk => ⟨hk.1.1.1.1.1.1.1.2, ⟨hk.1.1.1.1.1.1.2, ⟨hk.1.1.1.1.1.2, ⟨hk.1.1.1.1.2, ⟨hk.1.1.1.2, ⟨hk.1.1.2, hk.1.1.1.1.1.1.1.1⟩⟩⟩⟩⟩⟩)⟩, ⟨by (try simp only [hl1090005_56]); (try simp only [hl1090006_56]); (with_reducible repeat (first | apply Kd.R_alloc | apply Kd.R_drewN | apply Kd.R_drew)); exact Kd.R_mono HO1145.out (fun _ hk => ⟨hk.1.1.1.1.1.1.1.2, ⟨hk.1.1.1.1.1.1.2, ⟨hk.1.1.1.1.1.2, ⟨hk.1.1.1.1.2, ⟨hk.1.1.1.2, ⟨hk.1.1.2, hk.1.1.1.1.1.1.1.1⟩⟩⟩⟩⟩⟩)⟩, ⟨by (try simp only [hl1090005_56]); (try simp only [hl1090006_56]); (with_reducible repeat (first | refine blk_drewN ?_ _ | refine blk_drew ?_ | refine blk_alloc ?_ _)); exact BK1052.out⟩, ⟨by (try simp only [hl1090005_56]); (try simp only [hl1090006_56]); (with_reducible repeat (first | refine blk_drewN ?_ _ | refine blk_drew ?_ | refine blk_alloc ?_ _)); exact BK1077.out⟩, ⟨by (try simp only [hl1090005_56]); (try simp only [hl1090006_56]); (with_reducible repeat (first | refine blk_drewN ?_ _ | refine blk_drew ?_ | refine blk_alloc ?_ _)); exact BK1089.out⟩, ⟨by (try simp only [hl1090005_56]); (try simp only [hl1090006_56]); (with_reducible repeat (first | refine blk_drewN ?_ _ | refine blk_drew ?_ | refine blk_alloc ?_ _)); exact BK1102.out⟩, ⟨by (try simp only [hl1090005_56]); (try simp only [hl1090006_56]); (with_reducible repeat (first | refine blk_drewN ?_ _ | refine blk_drew ?_ | refine blk_alloc ?_ _)); exact BK1147.out⟩, ⟨by repeat (first | (with_reducible first | exact HB.out | apply below_alloc | apply pw_below_drewN | apply below_drew1 | refine below_set ?_ GE1052.out | refine below_set ?_ GE1077.out | refine below_set ?_ GE1089.out | refine below_set ?_ GE1102.out | refine below_set ?_ GE1147.out) | exact HB.out)⟩⟩
                        · replace c110 := Bool.eq_false_iff.mpr c110
                          subst c110
                          have H1 : (laws_FnExactUnwatch.j2 kj56 t1120 true t1090 t1091 t1092 t1093 t1094 t1121 t1122) = some r := by rw [if_neg (show ¬ (false = true) by decide)] at H; exact H
                          clear H
                          have H := H1
                          clear H1
                          cases kj56 with
                          | zero => exact absurd H (by simp [laws_FnExactUnwatch.j2])
                          | succ k_ => (simp only [laws_FnExactUnwatch.j2, if_pos] at H; exact absurd (Option.some.inj H) (by rw [HQ_.out]; simp))
                      case rest =>
                        clear HC86
                        try clear c1
                        try clear c2
                        try clear p2
                        try clear c3
                        try clear c4
                        try clear c4b0
                        try clear c5
                        try clear c6
                        try clear c7
                        try clear c8
                        try clear c9
                        try clear c10
                        try clear c11
                        try clear c13
                        try clear c22
                        try clear c29
                        try clear c30
                        try clear c31
                        try clear c32
                        try clear c34
                        try clear c36
                        try clear c37
                        try clear c38
                        try clear c43
                        try clear c44
                        try clear c45
                        try clear c46
                        try clear c48
                        try clear c49
                        try clear c50
                        try clear c51
                        try clear c52
                        try clear c55
                        try clear c63
                        try clear c64
                        try clear c65
                        try clear c68
                        try clear c68b0
                        try clear c70
                        try clear c71
                        try clear c72
                        try clear c73
                        try clear c75
                        try clear c76
                        try clear c79
                        try clear c82
                        try clear c82b0
                        try clear c83
                        try clear c83b0
                        try clear c83b1
                        try clear c87
                        try clear c88
                        try clear c89
                        try clear c94
                        try clear c95
                        try clear c102
                        try clear c103
                        try clear c104
                        try clear c105
                        try clear c110
                        try clear c111
                        try clear c112
                        try clear c113
                        try clear c114
                        try clear c116
                        try clear c117
                        try clear c118
                        try clear hcz106_0
                        try clear hcz106_1
                        try clear hcz106_2
                        try clear hcz106_3
                        try clear hcz106_4
                        try clear hcz106_5
                        try clear hcz106_6
                        try clear hcz115_0
                        try clear hcz115_1
                        try clear hcz115_2
                        try clear hcz115_3
                        try clear hcz115_4
                        try clear hcz115_5
                        try clear hcz115_6
                        try clear hcz119_0
                        try clear hcz119_1
                        try clear hcz119_2
                        try clear hcz119_3
                        try clear hcz119_4
                        try clear hcz119_5
                        try clear hcz119_6
                        try clear hcz14_0
                        try clear hcz14_1
                        try clear hcz14_2
                        try clear hcz14_3
                        try clear hcz14_4
                        try clear hcz14_5
                        try clear hcz14_6
                        try clear hcz16_0
                        try clear hcz16_1
                        try clear hcz16_2
                        try clear hcz16_3
                        try clear hcz16_4
                        try clear hcz16_5
                        try clear hcz16_6
                        try clear hcz23_0
                        try clear hcz23_1
                        try clear hcz23_2
                        try clear hcz23_3
                        try clear hcz23_4
                        try clear hcz23_5
                        try clear hcz23_6
                        try clear hcz26_0
                        try clear hcz26_1
                        try clear hcz26_2
                        try clear hcz26_3
                        try clear hcz26_4
                        try clear hcz26_5
                        try clear hcz26_6
                        try clear hcz31_0
                        try clear hcz31_1
                        try clear hcz31_2
                        try clear hcz31_3
                        try clear hcz31_4
                        try clear hcz31_5
                        try clear hcz31_6
                        try clear hcz39_0
                        try clear hcz39_1
                        try clear hcz39_2
                        try clear hcz39_3
                        try clear hcz39_4
                        try clear hcz39_5
                        try clear hcz39_6
                        try clear hcz47_0
                        try clear hcz47_1
                        try clear hcz47_2
                        try clear hcz47_3
                        try clear hcz47_4
                        try clear hcz47_5
                        try clear hcz47_6
                        try clear hcz50_0
                        try clear hcz50_1
                        try clear hcz50_2
                        try clear hcz50_3
                        try clear hcz50_4
                        try clear hcz50_5
                        try clear hcz50_6
                        try clear hcz66_0
                        try clear hcz66_1
                        try clear hcz66_2
                        try clear hcz66_3
                        try clear hcz66_4
                        try clear hcz66_5
                        try clear hcz66_6
                        try clear hcz6_0
                        try clear hcz6_1
                        try clear hcz6_2
                        try clear hcz6_3
                        try clear hcz6_4
                        try clear hcz6_5
                        try clear hcz6_6
                        try clear hcz74_0
                        try clear hcz74_1
                        try clear hcz74_2
                        try clear hcz74_3
                        try clear hcz74_4
                        try clear hcz74_5
                        try clear hcz74_6
                        try clear hcz77_0
                        try clear hcz77_1
                        try clear hcz77_2
                        try clear hcz77_3
                        try clear hcz77_4
                        try clear hcz77_5
                        try clear hcz77_6
                        try clear hcz90_0
                        try clear hcz90_1
                        try clear hcz90_2
                        try clear hcz90_3
                        try clear hcz90_4
                        try clear hcz90_5
                        try clear hcz90_6
                        try clear hcz92_0
                        try clear hcz92_1
                        try clear hcz92_2
                        try clear hcz92_3
                        try clear hcz92_4
                        try clear hcz92_5
                        try clear hcz92_6
                        try clear hcz96_0
                        try clear hcz96_1
                        try clear hcz96_2
                        try clear hcz96_3
                        try clear hcz96_4
                        try clear hcz96_5
                        try clear hcz96_6
                        try clear hfz106_0
                        try clear hfz106_1
                        try clear hfz106_2
                        try clear hfz106_3
                        try clear hfz106_4
                        try clear hfz106_5
                        try clear hfz106_6
                        try clear hfz115_0
                        try clear hfz115_1
                        try clear hfz115_2
                        try clear hfz115_3
                        try clear hfz115_4
                        try clear hfz115_5
                        try clear hfz115_6
                        try clear hfz119_0
                        try clear hfz119_1
                        try clear hfz119_2
                        try clear hfz119_3
                        try clear hfz119_4
                        try clear hfz119_5
                        try clear hfz119_6
                        try clear hfz14_0
                        try clear hfz14_1
                        try clear hfz14_2
                        try clear hfz14_3
                        try clear hfz14_4
                        try clear hfz14_5
                        try clear hfz14_6
                        try clear hfz16_0
                        try clear hfz16_1
                        try clear hfz16_2
                        try clear hfz16_3
                        try clear hfz16_4
                        try clear hfz16_5
                        try clear hfz16_6
                        try clear hfz23_0
                        try clear hfz23_1
                        try clear hfz23_2
                        try clear hfz23_3
                        try clear hfz23_4
                        try clear hfz23_5
                        try clear hfz23_6
                        try clear hfz26_0
                        try clear hfz26_1
                        try clear hfz26_2
                        try clear hfz26_3
                        try clear hfz26_4
                        try clear hfz26_5
                        try clear hfz26_6
                        try clear hfz31_0
                        try clear hfz31_1
                        try clear hfz31_2
                        try clear hfz31_3
                        try clear hfz31_4
                        try clear hfz31_5
                        try clear hfz31_6
                        try clear hfz39_0
                        try clear hfz39_1
                        try clear hfz39_2
                        try clear hfz39_3
                        try clear hfz39_4
                        try clear hfz39_5
                        try clear hfz39_6
                        try clear hfz47_0
                        try clear hfz47_1
                        try clear hfz47_2
                        try clear hfz47_3
                        try clear hfz47_4
                        try clear hfz47_5
                        try clear hfz47_6
                        try clear hfz50_0
                        try clear hfz50_1
                        try clear hfz50_2
                        try clear hfz50_3
                        try clear hfz50_4
                        try clear hfz50_5
                        try clear hfz50_6
                        try clear hfz66_0
                        try clear hfz66_1
                        try clear hfz66_2
                        try clear hfz66_3
                        try clear hfz66_4
                        try clear hfz66_5
                        try clear hfz66_6
                        try clear hfz6_0
                        try clear hfz6_1
                        try clear hfz6_2
                        try clear hfz6_3
                        try clear hfz6_4
                        try clear hfz6_5
                        try clear hfz6_6
                        try clear hfz74_0
                        try clear hfz74_1
                        try clear hfz74_2
                        try clear hfz74_3
                        try clear hfz74_4
                        try clear hfz74_5
                        try clear hfz74_6
                        try clear hfz77_0
                        try clear hfz77_1
                        try clear hfz77_2
                        try clear hfz77_3
                        try clear hfz77_4
                        try clear hfz77_5
                        try clear hfz77_6
                        try clear hfz90_0
                        try clear hfz90_1
                        try clear hfz90_2
                        try clear hfz90_3
                        try clear hfz90_4
                        try clear hfz90_5
                        try clear hfz90_6
                        try clear hfz92_0
                        try clear hfz92_1
                        try clear hfz92_2
                        try clear hfz92_3
                        try clear hfz92_4
                        try clear hfz92_5
                        try clear hfz92_6
                        try clear hfz96_0
                        try clear hfz96_1
                        try clear hfz96_2
                        try clear hfz96_3
                        try clear hfz96_4
                        try clear hfz96_5
                        try clear hfz96_6
                        try clear p2
                        obtain ⟨kq, x92_85, rfl, HA, HJ85, HO_1078005, HO_1078006, HO_1090005, HO_1090006, HO_1103005, HO_1103006, HO_1148005, HO_1148006, BK1052, BK1077, BK1089, BK1102, BK1147, HB⟩ := hcut
                        have hl1103005_85 := (Kd.R_reads' HO_1103005.out).1
                        rw [hl1103005_85] at HO_1103005
                        (try simp only [hl1103005_85])
                        (try simp only [hl1103005_85] at BK1052)
                        (try simp only [hl1103005_85] at BK1077)
                        (try simp only [hl1103005_85] at BK1089)
                        (try simp only [hl1103005_85] at BK1102)
                        (try simp only [hl1103005_85] at BK1147)
                        (try simp only [hl1103005_85] at HO_1078005)
                        (try simp only [hl1103005_85] at HO_1078006)
                        (try simp only [hl1103005_85] at HO_1090005)
                        (try simp only [hl1103005_85] at HO_1090006)
                        (try simp only [hl1103005_85] at HO_1103006)
                        (try simp only [hl1103005_85] at HO_1148005)
                        (try simp only [hl1103005_85] at HO_1148006)
                        have hl1103006_85 := (Kd.R_reads' HO_1103006.out).1
                        rw [hl1103006_85] at HO_1103006
                        (try simp only [hl1103006_85])
                        (try simp only [hl1103006_85] at BK1052)
                        (try simp only [hl1103006_85] at BK1077)
                        (try simp only [hl1103006_85] at BK1089)
                        (try simp only [hl1103006_85] at BK1102)
                        (try simp only [hl1103006_85] at BK1147)
                        (try simp only [hl1103006_85] at HO_1078005)
                        (try simp only [hl1103006_85] at HO_1078006)
                        (try simp only [hl1103006_85] at HO_1090005)
                        (try simp only [hl1103006_85] at HO_1090006)
                        (try simp only [hl1103006_85] at HO_1103005)
                        (try simp only [hl1103006_85] at HO_1148005)
                        (try simp only [hl1103006_85] at HO_1148006)
                        cases kq with
                        | zero => exact absurd HA.out (by simp [laws_FnExactUnwatch.j2])
                        | succ kj85 =>
                          have H := HA.out
                          clear HA
                          simp only [laws_FnExactUnwatch.j2] at H
                          by_cases c121 : x92_85 = true
                          · subst c121
                            have H1 : (some false) = some r := by rw [if_pos rfl] at H; exact H
                            clear H
                            have H := H1
                            clear H1
                            exact absurd (Option.some.inj H) (by rw [HQ_.out]; simp)
                          · replace c121 := Bool.eq_false_iff.mpr c121
                            subst c121
                            have H1 : ((laws_heldCell.f kj85 t1090 t1091 t1092 t1093 t1094 t1121 t1122 1).bind fun t1149 => (if t1149 < 0 then (some false) else (if t1149 = t1120 then (some true) else (some false)))) = some r := by rw [if_neg (show ¬ (false = true) by decide)] at H; exact H
                            clear H
                            have H := H1
                            clear H1
                            replace H := Option.bind_eq_some_iff.mp H
                            obtain ⟨t1149, A1220, H⟩ := H
                            replace H : (if t1149 < 0 then (some false) else (if t1149 = t1120 then (some true) else (some false))) = some r := H
                            have A122 := Aside0.mk A1220
                            clear A1220
                            by_cases c123 : t1149 < 0
                            · rw [if_pos c123] at H
                              have c123b0 : decide (t1149 < 0) = true := decide_eq_true c123
                              clear c123
                              exact absurd (Option.some.inj H) (by rw [HQ_.out]; simp)
                            · rw [if_neg c123] at H
                              have c123b0 : decide (t1149 < 0) = false := decide_eq_false c123
                              clear c123
                              by_cases c124 : t1149 = t1120
                              · rw [if_pos c124] at H
                                have c124b0 : (t1149 == t1120) = true := beq_iff_eq.mpr c124
                                have c124b1 : (t1149 != t1120) = false := bne_eq_false_iff_eq.mpr c124
                                clear c124
                                obtain rfl := Option.some.inj H
                                have hnb125 := NB1102_1052.out
                                have hnc125 := NB1052_1102.out
                                have hnb126 := NB1102_1077.out
                                have hnc126 := NB1077_1102.out
                                have hnb127 := NB1102_1089.out
                                have hnc127 := NB1089_1102.out
                                have hnb128 := NB1102_1147.out
                                have hnc128 := NB1147_1102.out
                                have hcz129_0 : wc.cell? ⟨gb1102, 0, none⟩ = some (.int .i64 t1090) := (blk_cell BK1102.out 0).trans rfl
                                have hcz129_1 : wc.cell? ⟨gb1102, 1, none⟩ = some (.int .i64 t1091) := (blk_cell BK1102.out 1).trans rfl
                                have hcz129_2 : wc.cell? ⟨gb1102, 2, none⟩ = some (.string t1092) := (blk_cell BK1102.out 2).trans rfl
                                have hcz129_3 : wc.cell? ⟨gb1102, 3, none⟩ = some (.int .i64 t1093) := (blk_cell BK1102.out 3).trans rfl
                                have hcz129_4 : wc.cell? ⟨gb1102, 4, none⟩ = some (.bool t1094) := (blk_cell BK1102.out 4).trans rfl
                                have hcz129_5 : wc.cell? ⟨gb1102, 5, none⟩ = some (.slice Ao40 t1121.length co40) := (blk_cell BK1102.out 5).trans rfl
                                have hcz129_6 : wc.cell? ⟨gb1102, 6, none⟩ = some (.slice Ao41 t1122.length co41) := (blk_cell BK1102.out 6).trans rfl
                                have hfz129_0 := blk_frozen BK1102.out 0
                                have hfz129_1 := blk_frozen BK1102.out 1
                                have hfz129_2 := blk_frozen BK1102.out 2
                                have hfz129_3 := blk_frozen BK1102.out 3
                                have hfz129_4 := blk_frozen BK1102.out 4
                                have hfz129_5 := blk_frozen BK1102.out 5
                                have hfz129_6 := blk_frozen BK1102.out 6
                                go_wp2_with (first | ((with_reducible refine gate_callee (f := 49) rfl ?_); refine goesL_ (some 95) rfl rfl Try.func49 (by kernel_rfl) rfl #[.agg #[.int .i64 t1090, .int .i64 t1091, .string t1092, .int .i64 t1093, .bool t1094, .slice Ao40 t1121.length co40, .slice Ao41 t1122.length co41], .int .i64 1] rfl (by (try simp only [List.map_toArray, List.map_cons, List.map_nil]); first | done | rfl | (simp only [List.length_drop, List.length_take]; rfl) | (go_simp; done) | (simp [*]; done)) ?_; (with_reducible refine (laws_heldCell.calls kj85 t1090 t1091 t1092 t1093 t1094 _ _ t1121 _ _ t1122 1 t1149 _ ?side1 ?side2 ?side3 ?side4 A122.out).mono ?_); (case side1 => exact pkC (Kd.R_reads' HO_1103005.out).2.2); (case side2 => exact (Kd.R_reads' HO_1103005.out).2.1); (case side3 => exact pkC (Kd.R_reads' HO_1103006.out).2.2); (case side4 => exact (Kd.R_reads' HO_1103006.out).2.1); rintro e w130 ⟨rfl, hb⟩; refine ⟨_, rfl, ?_⟩; have n0_ := Aside0.mk (Kd.R_below (pkR HO_1078005.out) hb); have n1_ := Aside0.mk (Kd.R_below (pkR HO_1078006.out) hb); have n2_ := Aside0.mk (Kd.R_below (pkR HO_1090005.out) hb); have n3_ := Aside0.mk (Kd.R_below (pkR HO_1090006.out) hb); have n4_ := Aside0.mk (Kd.R_below (pkR HO_1103005.out) hb); have n5_ := Aside0.mk (Kd.R_below (pkR HO_1103006.out) hb); have n6_ := Aside0.mk (Kd.R_below (pkR HO_1148005.out) hb); have n7_ := Aside0.mk (Kd.R_below (pkR HO_1148006.out) hb); have n8_ := Aside0.mk (blk_below (g := gb1052) (o := .cells #[.int .i64 a0_0, .int .i64 a0_1, .string a0_2, .int .i64 a0_3, .bool a0_4, .slice A0_5 l0_5.length c0_5, .slice A0_6 l0_6.length c0_6] 56 (0, 0)) (pkK BK1052.out) hb); have n9_ := Aside0.mk (blk_below (g := gb1077) (o := .cells #[.int .i64 t1065, .int .i64 t1066, .string t1067, .int .i64 t1068, .bool t1069, .slice Ao24 t1070.length co24, .slice Ao25 t1073.length co25] 29 (0, 0)) (pkK BK1077.out) hb); have n10_ := Aside0.mk (blk_below (g := gb1089) (o := .cells #[.int .i64 t1078, .int .i64 t1079, .string t1080, .int .i64 t1081, .bool t1082, .slice Ao32 t1117.length co32, .slice Ao33 t1118.length co33] 29 (0, 0)) (pkK BK1089.out) hb); have n11_ := Aside0.mk (blk_below (g := gb1102) (o := .cells #[.int .i64 t1090, .int .i64 t1091, .string t1092, .int .i64 t1093, .bool t1094, .slice Ao40 t1121.length co40, .slice Ao41 t1122.length co41] 29 (0, 0)) (pkK BK1102.out) hb); have n12_ := Aside0.mk (blk_below (g := gb1147) (o := .cells #[.int .i64 t1135, .int .i64 t1136, .string t1137, .int .i64 t1138, .bool t1139, .slice Ao107 t1140.length co107, .slice Ao108 t1143.length co108] 29 (0, 0)) (pkK BK1147.out) hb); have n13_ := Aside0.mk (below_step (by repeat (first | (with_reducible first | exact HB.out | apply below_alloc | apply pw_below_drewN | apply below_drew1 | refine below_set ?_ GE1052.out | refine below_set ?_ GE1077.out | refine below_set ?_ GE1089.out | refine below_set ?_ GE1102.out | refine below_set ?_ GE1147.out) | exact HB.out)) hb); clear HO_1078005 HO_1078006 HO_1090005 HO_1090006 HO_1103005 HO_1103006 HO_1148005 HO_1148006 BK1052 BK1077 BK1089 BK1102 BK1147 HB; have HO_1078005 := n0_; have HO_1078006 := n1_; have HO_1090005 := n2_; have HO_1090006 := n3_; have HO_1103005 := n4_; have HO_1103006 := n5_; have HO_1148005 := n6_; have HO_1148006 := n7_; have BK1052 := n8_; have BK1077 := n9_; have BK1089 := n10_; have BK1102 := n11_; have BK1147 := n12_; have HB := n13_; clear n0_ n1_ n2_ n3_ n4_ n5_ n6_ n7_ n8_ n9_ n10_ n11_ n12_ n13_; (try clear hb); (try clear hb2); (try clear hk); (try clear hi)))
                                go_ret
                                exact ⟨by first | rfl | (simp [errW_none, errW_some] <;> rfl) | (simp [*, errW_none, errW_some] <;> rfl), by repeat (first | (with_reducible first | exact HB.out | apply below_alloc | apply pw_below_drewN | apply below_drew1 | refine below_set ?_ GE1052.out | refine below_set ?_ GE1077.out | refine below_set ?_ GE1089.out | refine below_set ?_ GE1102.out | refine below_set ?_ GE1147.out) | exact HB.out)⟩
                              · rw [if_neg c124] at H
                                have c124b0 : (t1149 == t1120) = false := beq_eq_false_iff_ne.mpr c124
                                have c124b1 : (t1149 != t1120) = true := bne_iff_ne.mpr c124
                                exact absurd (Option.some.inj H) (by rw [HQ_.out]; simp)
                    · rw [if_neg c83] at H
                      have c83b0 : (t1123 == t1120) = false := beq_eq_false_iff_ne.mpr c83
                      have c83b1 : (t1123 != t1120) = true := bne_iff_ne.mpr c83
                      exact absurd (Option.some.inj H) (by rw [HQ_.out]; simp)
          · replace c55 := Bool.eq_false_iff.mpr c55
            subst c55
            have H1 : (some false) = some r := by rw [if_neg (show ¬ (false = true) by decide)] at H; exact H
            clear H
            have H := H1
            clear H1
            exact absurd (Option.some.inj H) (by rw [HQ_.out]; simp)
end Go.Proofs.Ytffcphplnilokaa.Z
